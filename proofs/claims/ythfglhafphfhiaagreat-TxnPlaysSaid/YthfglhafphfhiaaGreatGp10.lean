/- The walks over the statements of transactions: a fresh store, a deed, whether deeds are few. -/
import Derived.Test.YthfglhafphfhiaaGreatGp09
import Derived.Test.YthfglhafphfhiaaGreatGp03
namespace Go.Proofs.YthfglhafphfhiaaGreat
open Go.RowKit
/-- What fresh answers. -/
def FreshOut (s : Tx.St) (w : World) (e : Ending) (w' : World) : Prop :=
  ∃ p : SP, e = .returned (storeV s p) ∧ StoreR w' s p ∧ (p.F = none ∧ p.fn = 0 ∧ p.fc = 0) ∧ Below w.heap.size w w'
set_option maxRecDepth 100000 in
set_option maxHeartbeats 8000000 in
theorem tfresh_any (n : Nat) (hn : n ≤ 60) (w : World) :
    Calls Tryz.prog 7 #[.int .i64 (n : Int)] w (FreshOut (Tx.fresh n) w) := by
  have HN := Lib.hid (fun W => show Calls Tryz.prog 25 #[.int .i64 ((n : Int) + 1)] W (CNewOut (Lg.newD (n + 1)) W) from by
    have h := cnew_any (n + 1) (by omega) (by omega) W
    rw [Int.natCast_add] at h
    exact h)
  have HL := Lib.hid (fun W => lnew_any 1 (n : Int) W)
  have HF := Lib.hid (fun (A : Option Addr) (c : Nat) w' (hd : DiskR w' (Lg.newD (n + 1)) A c) (ht : NewT 0 w' 9 A) (hb : Below w.heap.size w w') => show FreshOut (Tx.fresh n) w (.returned (storeV (Tx.fresh n) ⟨A, c, none, 0, 0, none, 0⟩)) w' from ⟨_, rfl, ⟨hd, ht, Reads.none_ _ _ _ _, NewT.none_ _ _ _⟩, ⟨rfl, rfl, rfl⟩, hb⟩)
  generalize FreshOut (Tx.fresh n) w = Q at HF ⊢
  dsimp only [storeV, Tx.fresh, List.length_nil] at HF
  generalize Lg.newD (n + 1) = d0 at HN HF
  have hwn : IntKind.i64.wrap ((n : Int) + 1) = (n : Int) + 1 := IntWalk.i64_in _ (by omega)
  go_enter Tryz.func7, Tryz.ntmps7
  go_upto_region 1 with fail
  have H0 := Lib.hid (show BxL w.heap.size w [(#[.int .i64 0, .int .i64 0, .int .i64 0, .slice none 0 0, .int .i64 0, .bool false, .int .i64 0, .int .i64 0, .int .i64 0, .int .i64 0, .string ⟨#[]⟩, .slice none 0 0, .int .i64 0, .slice none 0 0, .int .i64 0], 37)] (w.alloc (.cells #[.int .i64 0, .int .i64 0, .int .i64 0, .slice none 0 0, .int .i64 0, .bool false, .int .i64 0, .int .i64 0, .int .i64 0, .int .i64 0, .string ⟨#[]⟩, .slice none 0 0, .int .i64 0, .slice none 0 0, .int .i64 0] 37)) from ((BxL.nil (Below.refl w.heap.size w)).new (by simp) #[.int .i64 0, .int .i64 0, .int .i64 0, .slice none 0 0, .int .i64 0, .bool false, .int .i64 0, .int .i64 0, .int .i64 0, .int .i64 0, .string ⟨#[]⟩, .slice none 0 0, .int .i64 0, .slice none 0 0, .int .i64 0] 37))
  obtain ⟨W0, hW0⟩ : ∃ W, W = (w.alloc (.cells #[.int .i64 0, .int .i64 0, .int .i64 0, .slice none 0 0, .int .i64 0, .bool false, .int .i64 0, .int .i64 0, .int .i64 0, .int .i64 0, .string ⟨#[]⟩, .slice none 0 0, .int .i64 0, .slice none 0 0, .int .i64 0] 37)) := ⟨_, rfl⟩
  rw [← hW0] at H0 ⊢
  clear hW0
  go_upto_region 2 with (first
    | (go_at_call 25; (with_reducible refine (HN.out _).mono ?_); rintro e w1 ⟨A1, c1, rfl, hd1, ht1, hb1⟩; dsimp only [diskV])
    | (with_reducible refine wpList_store_new rfl 29 (.tmp 3) (.tmp 9) rfl #[.slice A1 d0.sectors.length c1, .int .i64 d0.left, .bool d0.down] _ _ rfl (by kernel_rfl) (by kernel_rfl) (by kernel_rfl) (by kernel_rfl) ?_))
  have H1 := Lib.hid (H0.out.step (pastAlloc (o := .cells #[.slice A1 d0.sectors.length c1, .int .i64 d0.left, .bool d0.down] 29) hb1))
  have HG := Lib.hid (heap_alloc_new w1 (.cells #[.slice A1 d0.sectors.length c1, .int .i64 d0.left, .bool d0.down] 29))
  have HD := Lib.hid (hd1.below (allocB w1 (.cells #[.slice A1 d0.sectors.length c1, .int .i64 d0.left, .bool d0.down] 29)))
  have HT := Lib.hid ((ht1.mono (Nat.zero_le _)).below (allocB w1 (.cells #[.slice A1 d0.sectors.length c1, .int .i64 d0.left, .bool d0.down] 29)))
  obtain ⟨gd, hge⟩ : ∃ gd, gd = w1.heap.size := ⟨_, rfl⟩
  obtain ⟨W1, hW1⟩ : ∃ W, W = w1.alloc (.cells #[.slice A1 d0.sectors.length c1, .int .i64 d0.left, .bool d0.down] 29) := ⟨_, rfl⟩
  rw [← hge] at HG
  rw [← hW1] at H1 HG HD HT
  rw [← hW1, ← hge]
  clear hge hW1 hb1 hd1 ht1 H0 HN
  go_upto_region 2 with fail
  have X0 := blkOld HG.out (Below.refl _ W1).drew
  have K0 := H1.out.drew
  have E0 := HD.out.below (Below.refl _ W1).drew
  have F0 := HT.out.below (Below.refl _ W1).drew
  refine wp_region_held_drew (S := (fun u => u.heap[gd]? = some (.cells #[.slice A1 d0.sectors.length c1, .int .i64 d0.left, .bool d0.down] 29 (0, 0)))) (by kernel_rfl) ?_ (fun hHeld => ?_)
  · first | exact hSn | exact X0
  refine tkW 0 (some 11) (v := ?_) rfl ?_ ?_
  rotate_left
  · intro u hSu; clear hSu; go_simp; (try with_reducible rfl)
  try simp only [Act.put, List.setIfInBounds_toArray, List.set_cons_zero, List.set_cons_succ]
  refine tkW 1 (some 12) (v := ?_) rfl ?_ ?_
  rotate_left
  · intro u hSu; clear hSu; go_simp; (try with_reducible rfl)
  try simp only [Act.put, List.setIfInBounds_toArray, List.set_cons_zero, List.set_cons_succ]
  refine tkV 2 (some 13) (v := .agg #[.slice A1 d0.sectors.length c1, .int .i64 d0.left, .bool d0.down]) rfl (yieldsIf_load_mid (by rfl) 29 (.tmp 3) rfl gd 0 (by rfl) #[.slice A1 d0.sectors.length c1, .int .i64 d0.left, .bool d0.down].toList _ (fun u hu => (by intro j v hj; rw [Nat.zero_add, blkCell hu]; simpa using hj)) Tryz.underlying29 (by kernel_rfl) (by kernel_rfl)) ?_
  try simp only [Act.put, List.setIfInBounds_toArray, List.set_cons_zero, List.set_cons_succ]
  refine tkW 3 (some 14) (v := ?_) rfl ?_ ?_
  rotate_left
  · intro u hSu; clear hSu; go_simp; (try with_reducible rfl)
  try simp only [Act.put, List.setIfInBounds_toArray, List.set_cons_zero, List.set_cons_succ]
  refine rdH 4 (some 15) rfl (fun K hK => ?_)
  go_simp
  refine (HL.out _).mono ?_; rintro e w5 ⟨rfl, hb5⟩; (try dsimp only [logV]); have X1 := blkOld X0 hb5; have K1 := K0.step hb5; have E1 := E0.below hb5; have F1 := F0.below hb5; have hSn := X1
  refine hK.out _ _ ?_ (fun hHeld => ?_)
  · first | exact hSn | exact X0
  clear hK K
  try simp only [Act.put, List.setIfInBounds_toArray, List.set_cons_zero, List.set_cons_succ]
  refine tkW 5 (some 16) (v := ?_) rfl ?_ ?_
  rotate_left
  · intro u hSu; clear hSu; go_simp; (try with_reducible rfl)
  try simp only [Act.put, List.setIfInBounds_toArray, List.set_cons_zero, List.set_cons_succ]
  refine rdH 6 none rfl (fun K hK => ?_)
  refine wantedIf (by rfl) ?_
  refine wp_store_whole 37 (.tmp 2) (.tmp 16) rfl w.heap.size #[.int .i64 (n : Int), .int .i64 0, .int .i64 0, .slice A1 d0.sectors.length c1, .int .i64 d0.left, .bool d0.down, .int .i64 1, .int .i64 (n : Int), .int .i64 0, .int .i64 0, .string ⟨#[]⟩, .slice none 0 0, .int .i64 0, .slice none 0 0, .int .i64 1] _ _ rfl rfl K1.get0 (by kernel_rfl) (by kernel_rfl) (by kernel_rfl) ?_
  have K2 := K1.row 0 #[.int .i64 (n : Int), .int .i64 0, .int .i64 0, .slice A1 d0.sectors.length c1, .int .i64 d0.left, .bool d0.down, .int .i64 1, .int .i64 (n : Int), .int .i64 0, .int .i64 0, .string ⟨#[]⟩, .slice none 0 0, .int .i64 0, .slice none 0 0, .int .i64 1] _ rfl
  simp only [Nat.add_zero] at K2
  have X2 := F1.readsRow E1.secs K1.get0 (by decide) #[.int .i64 (n : Int), .int .i64 0, .int .i64 0, .slice A1 d0.sectors.length c1, .int .i64 d0.left, .bool d0.down, .int .i64 1, .int .i64 (n : Int), .int .i64 0, .int .i64 0, .string ⟨#[]⟩, .slice none 0 0, .int .i64 0, .slice none 0 0, .int .i64 1]
  have F2 := F1.row w.heap.size #[.int .i64 (n : Int), .int .i64 0, .int .i64 0, .slice A1 d0.sectors.length c1, .int .i64 d0.left, .bool d0.down, .int .i64 1, .int .i64 (n : Int), .int .i64 0, .int .i64 0, .string ⟨#[]⟩, .slice none 0 0, .int .i64 0, .slice none 0 0, .int .i64 1]
  have X3 : (w5.setRow w.heap.size #[.int .i64 (n : Int), .int .i64 0, .int .i64 0, .slice A1 d0.sectors.length c1, .int .i64 d0.left, .bool d0.down, .int .i64 1, .int .i64 (n : Int), .int .i64 0, .int .i64 0, .string ⟨#[]⟩, .slice none 0 0, .int .i64 0, .slice none 0 0, .int .i64 1]).heap[gd]? = some (.cells #[.slice A1 d0.sectors.length c1, .int .i64 d0.left, .bool d0.down] 29 (0, 0)) := (heap_setRow_other _ _ _ _ (by intro e; rw [e, K1.get0] at X1; injection X1 with X1; injection X1 with _ X1; exact absurd X1 (by decide))).trans X1
  try clear hSn
  have hSn := X3
  refine hK.out _ _ ?_ (fun hHeld => ?_)
  · first | exact hSn | exact X0
  clear hK K
  try simp only [Act.put]
  refine wpAnyH_done (by kernel_rfl) ?_ _
  clear hHeld hSn
  go_wp2_with fail
  refine bodyPost_ret (v := .agg #[.int .i64 (n : Int), .int .i64 0, .int .i64 0, .slice A1 d0.sectors.length c1, .int .i64 d0.left, .bool d0.down, .int .i64 1, .int .i64 (n : Int), .int .i64 0, .int .i64 0, .string ⟨#[]⟩, .slice none 0 0, .int .i64 0, .slice none 0 0, .int .i64 1]) (results_cell rfl _ _ rfl (load_whole (setRow_heap _ _ _ _ _ _ K1.get0) Tryz.underlying37 (by kernel_rfl) (by kernel_rfl))) rfl ?_
  exact HF.out A1 c1 _ ⟨X2, E1.small⟩ F2 K2.below
/-- Are deeds few? -/
theorem tfew_any (n : Int) (A : Option Addr) (len c : Nat) (w : World) :
    Calls Tryz.prog 5 #[.int .i64 n, .slice A len c] w fun e w' => e = .returned (.bool (decide (0 ≤ n ∧ n ≤ 60 ∧ len ≤ 40))) ∧ w = w' := by
  by_cases h1 : 0 ≤ n
  · by_cases h2 : n ≤ 60
    · by_cases h3 : (len : Int) ≤ 40
      · rw [decide_eq_true (by omega)]
        go_enter Tryz.func5, Tryz.ntmps5
        go_wp2_with fail
        go_ret
        exact ⟨by simp [*], rfl⟩
      · rw [decide_eq_false (by omega)]
        go_enter Tryz.func5, Tryz.ntmps5
        go_wp2_with fail
        go_ret
        exact ⟨by simp [*], rfl⟩
    · rw [decide_eq_false (by omega)]
      go_enter Tryz.func5, Tryz.ntmps5
      go_wp2_with fail
      go_ret
      exact ⟨by simp [*], rfl⟩
  · rw [decide_eq_false (by omega)]
    go_enter Tryz.func5, Tryz.ntmps5
    go_wp2_with fail
    go_ret
    exact ⟨by simp [*], rfl⟩
/-- A deed as a value. -/
abbrev deedV (d : Tx.Deed) : Value := .agg #[.int .i64 d.kind, .int .i64 d.txn, .int .i64 d.n]
set_option maxRecDepth 100000 in
set_option maxHeartbeats 8000000 in
theorem tdo_any (s : Tx.St) (p : SP) (hb : Tx.LogB s) (hts : s.txns.length ≤ 700000) (hnx0 : 0 ≤ s.next) (hnx1 : s.next ≤ 1000000000) (hlf : -9223372036854775808 ≤ s.disk.left ∧ s.disk.left ≤ 9223372036854775807) (d : Tx.Deed) (w : World) (h : StoreR w s p) :
    Calls Tryz.prog 8 #[storeV s p, deedV d] w (BegOut (Tx.doS s d) p w) := by
  have HM := Lib.hid (fun y (p' : SP) w' (hx : Tx.doS s d = y) (hs : StoreR w' y.1 p') (hf : p'.F = p.F ∧ p'.fn = p.fn ∧ p'.fc = p.fc) (hb : Below w.heap.size w w') => show BegOut (Tx.doS s d) p w (.returned (.tuple #[storeV y.1 p', .int .i64 y.2.1, .int .i64 y.2.2])) w' from by rw [hx]; exact ⟨_, rfl, hs, hf, hb⟩)
  obtain ⟨dk, dt, dn_⟩ := d
  dsimp only [deedV] at HM ⊢
  generalize BegOut (Tx.doS s ⟨dk, dt, dn_⟩) p w = Q at HM ⊢
  have HS := Lib.hid h
  by_cases hk0 : dk = 0
  · subst hk0
    have HC := Lib.hid (fun W (hw : Below w.heap.size w W) => tbegin_any s p hb (by omega) hnx0 hnx1 W (h.below hw))
    have hx : Tx.doS s ⟨0, dt, dn_⟩ = Tx.beginS s := rfl
    generalize Tx.beginS s = y at HC hx
    have HMF := Lib.hid (fun (p' : SP) w' hs hf hb => HM.out _ p' w' hx hs hf hb)
    clear h hb hts hnx0 hnx1 hlf HM hx HS
    obtain ⟨⟨zl2, zp2, zf2, ⟨L2, lf2, dn2⟩, ⟨fr2, ln2, en2, sf2, tl2⟩, hd2, ts2, nx2⟩, m2, e2⟩ := y
    obtain ⟨zl, zp, zf, ⟨L, lf, dn⟩, ⟨fr, ln, en, sf, tl⟩, hd, ts, nx⟩ := s
    obtain ⟨A, c, FA, fn, fc, TA, tc⟩ := p
    dsimp only [storeV] at HC HMF ⊢
    go_enter Tryz.func8, Tryz.ntmps8
    go_upto_region 1 with fail
    have H0 := Lib.hid (show BxL w.heap.size w [(#[.int .i64 zl, .int .i64 zp, .int .i64 zf, .slice A L.length c, .int .i64 lf, .bool dn, .int .i64 fr, .int .i64 ln, .int .i64 en, .int .i64 sf, .string tl, .slice FA fn fc, .int .i64 hd, .slice TA ts.length tc, .int .i64 nx], 37), (#[.int .i64 0, .int .i64 dt, .int .i64 dn_], 43), (#[.int .i64 0, .int .i64 0, .int .i64 0, .slice none 0 0, .int .i64 0, .bool false, .int .i64 0, .int .i64 0, .int .i64 0, .int .i64 0, .string ⟨#[]⟩, .slice none 0 0, .int .i64 0, .slice none 0 0, .int .i64 0], 37)] (((w.alloc (.cells #[.int .i64 zl, .int .i64 zp, .int .i64 zf, .slice A L.length c, .int .i64 lf, .bool dn, .int .i64 fr, .int .i64 ln, .int .i64 en, .int .i64 sf, .string tl, .slice FA fn fc, .int .i64 hd, .slice TA ts.length tc, .int .i64 nx] 37)).alloc (.cells #[.int .i64 0, .int .i64 dt, .int .i64 dn_] 43)).alloc (.cells #[.int .i64 0, .int .i64 0, .int .i64 0, .slice none 0 0, .int .i64 0, .bool false, .int .i64 0, .int .i64 0, .int .i64 0, .int .i64 0, .string ⟨#[]⟩, .slice none 0 0, .int .i64 0, .slice none 0 0, .int .i64 0] 37)) from ((((BxL.nil (Below.refl w.heap.size w)).new (by simp) #[.int .i64 zl, .int .i64 zp, .int .i64 zf, .slice A L.length c, .int .i64 lf, .bool dn, .int .i64 fr, .int .i64 ln, .int .i64 en, .int .i64 sf, .string tl, .slice FA fn fc, .int .i64 hd, .slice TA ts.length tc, .int .i64 nx] 37).new (by simp) #[.int .i64 0, .int .i64 dt, .int .i64 dn_] 43).new (by simp) #[.int .i64 0, .int .i64 0, .int .i64 0, .slice none 0 0, .int .i64 0, .bool false, .int .i64 0, .int .i64 0, .int .i64 0, .int .i64 0, .string ⟨#[]⟩, .slice none 0 0, .int .i64 0, .slice none 0 0, .int .i64 0] 37))
    obtain ⟨W0, hW0⟩ : ∃ W, W = (((w.alloc (.cells #[.int .i64 zl, .int .i64 zp, .int .i64 zf, .slice A L.length c, .int .i64 lf, .bool dn, .int .i64 fr, .int .i64 ln, .int .i64 en, .int .i64 sf, .string tl, .slice FA fn fc, .int .i64 hd, .slice TA ts.length tc, .int .i64 nx] 37)).alloc (.cells #[.int .i64 0, .int .i64 dt, .int .i64 dn_] 43)).alloc (.cells #[.int .i64 0, .int .i64 0, .int .i64 0, .slice none 0 0, .int .i64 0, .bool false, .int .i64 0, .int .i64 0, .int .i64 0, .int .i64 0, .string ⟨#[]⟩, .slice none 0 0, .int .i64 0, .slice none 0 0, .int .i64 0] 37)) := ⟨_, rfl⟩
    rw [← hW0] at H0 ⊢
    clear hW0
    have hc0 := blkCell H0.out.get1
    go_wp2_with (first
      | (with_reducible refine listLoad (by kernel_rfl) 37 (.tmp 2) rfl w.heap.size rfl #[.int .i64 zl, .int .i64 zp, .int .i64 zf, .slice A L.length c, .int .i64 lf, .bool dn, .int .i64 fr, .int .i64 ln, .int .i64 en, .int .i64 sf, .string tl, .slice FA fn fc, .int .i64 hd, .slice TA ts.length tc, .int .i64 nx] _ H0.out.get0 _ Tryz.underlying37 (by kernel_rfl) (by kernel_rfl) ?_)
      | (go_at_call 21; (with_reducible refine (HC.out _ H0.out.below).mono ?_); rintro e w5 ⟨p', he, hs5, hf5, hb5⟩; have HF5 := Lib.hid hf5; clear hf5; obtain ⟨A2, c2, FA2, fn2, fc2, TA2, tc2⟩ := p'; (try dsimp only [storeV] at he); subst he; have H5 := Lib.hid (H0.out.step hb5))
      | (with_reducible refine listStore (by kernel_rfl) 37 (.tmp 4) (.tmp 21) rfl (w.heap.size + 2) #[.int .i64 zl2, .int .i64 zp2, .int .i64 zf2, .slice A2 L2.length c2, .int .i64 lf2, .bool dn2, .int .i64 fr2, .int .i64 ln2, .int .i64 en2, .int .i64 sf2, .string tl2, .slice FA2 fn2 fc2, .int .i64 hd2, .slice TA2 ts2.length tc2, .int .i64 nx2] _ _ rfl rfl H5.out.get2 (by kernel_rfl) (by kernel_rfl) (by kernel_rfl) ?_))
    refine bodyPost_ret (v := .tuple #[.agg #[.int .i64 zl2, .int .i64 zp2, .int .i64 zf2, .slice A2 L2.length c2, .int .i64 lf2, .bool dn2, .int .i64 fr2, .int .i64 ln2, .int .i64 en2, .int .i64 sf2, .string tl2, .slice FA2 fn2 fc2, .int .i64 hd2, .slice TA2 ts2.length tc2, .int .i64 nx2], .int .i64 m2, .int .i64 e2]) (results_cell3 rfl _ _ rfl (load_whole (setRow_heap _ _ _ _ _ _ H5.out.get2) Tryz.underlying37 (by kernel_rfl) (by kernel_rfl)) rfl rfl) rfl ?_
    exact HMF.out ⟨A2, c2, FA2, fn2, fc2, TA2, tc2⟩ _ (hs5.other H5.out.get2 (by decide) (by decide) _) HF5.out ((H5.out.row 2 _ _ rfl).below)
  by_cases hk1 : dk = 1
  · subst hk1
    have HC := Lib.hid (fun W (hw : Below w.heap.size w W) => tnest_any s p hb (by omega) dt dn_ W (h.below hw))
    have hx : Tx.doS s ⟨1, dt, dn_⟩ = ((Tx.nestS s dt dn_).1, 0, (Tx.nestS s dt dn_).2) := rfl
    generalize Tx.nestS s dt dn_ = y at HC hx
    have HMF := Lib.hid (fun (p' : SP) w' hs hf hb => HM.out _ p' w' hx hs hf hb)
    clear h hb hts hnx0 hnx1 hlf HM hx HS
    obtain ⟨⟨zl2, zp2, zf2, ⟨L2, lf2, dn2⟩, ⟨fr2, ln2, en2, sf2, tl2⟩, hd2, ts2, nx2⟩, e2⟩ := y
    obtain ⟨zl, zp, zf, ⟨L, lf, dn⟩, ⟨fr, ln, en, sf, tl⟩, hd, ts, nx⟩ := s
    obtain ⟨A, c, FA, fn, fc, TA, tc⟩ := p
    dsimp only [storeV] at HC HMF ⊢
    go_enter Tryz.func8, Tryz.ntmps8
    go_upto_region 1 with fail
    have H0 := Lib.hid (show BxL w.heap.size w [(#[.int .i64 zl, .int .i64 zp, .int .i64 zf, .slice A L.length c, .int .i64 lf, .bool dn, .int .i64 fr, .int .i64 ln, .int .i64 en, .int .i64 sf, .string tl, .slice FA fn fc, .int .i64 hd, .slice TA ts.length tc, .int .i64 nx], 37), (#[.int .i64 1, .int .i64 dt, .int .i64 dn_], 43), (#[.int .i64 0, .int .i64 0, .int .i64 0, .slice none 0 0, .int .i64 0, .bool false, .int .i64 0, .int .i64 0, .int .i64 0, .int .i64 0, .string ⟨#[]⟩, .slice none 0 0, .int .i64 0, .slice none 0 0, .int .i64 0], 37)] (((w.alloc (.cells #[.int .i64 zl, .int .i64 zp, .int .i64 zf, .slice A L.length c, .int .i64 lf, .bool dn, .int .i64 fr, .int .i64 ln, .int .i64 en, .int .i64 sf, .string tl, .slice FA fn fc, .int .i64 hd, .slice TA ts.length tc, .int .i64 nx] 37)).alloc (.cells #[.int .i64 1, .int .i64 dt, .int .i64 dn_] 43)).alloc (.cells #[.int .i64 0, .int .i64 0, .int .i64 0, .slice none 0 0, .int .i64 0, .bool false, .int .i64 0, .int .i64 0, .int .i64 0, .int .i64 0, .string ⟨#[]⟩, .slice none 0 0, .int .i64 0, .slice none 0 0, .int .i64 0] 37)) from ((((BxL.nil (Below.refl w.heap.size w)).new (by simp) #[.int .i64 zl, .int .i64 zp, .int .i64 zf, .slice A L.length c, .int .i64 lf, .bool dn, .int .i64 fr, .int .i64 ln, .int .i64 en, .int .i64 sf, .string tl, .slice FA fn fc, .int .i64 hd, .slice TA ts.length tc, .int .i64 nx] 37).new (by simp) #[.int .i64 1, .int .i64 dt, .int .i64 dn_] 43).new (by simp) #[.int .i64 0, .int .i64 0, .int .i64 0, .slice none 0 0, .int .i64 0, .bool false, .int .i64 0, .int .i64 0, .int .i64 0, .int .i64 0, .string ⟨#[]⟩, .slice none 0 0, .int .i64 0, .slice none 0 0, .int .i64 0] 37))
    obtain ⟨W0, hW0⟩ : ∃ W, W = (((w.alloc (.cells #[.int .i64 zl, .int .i64 zp, .int .i64 zf, .slice A L.length c, .int .i64 lf, .bool dn, .int .i64 fr, .int .i64 ln, .int .i64 en, .int .i64 sf, .string tl, .slice FA fn fc, .int .i64 hd, .slice TA ts.length tc, .int .i64 nx] 37)).alloc (.cells #[.int .i64 1, .int .i64 dt, .int .i64 dn_] 43)).alloc (.cells #[.int .i64 0, .int .i64 0, .int .i64 0, .slice none 0 0, .int .i64 0, .bool false, .int .i64 0, .int .i64 0, .int .i64 0, .int .i64 0, .string ⟨#[]⟩, .slice none 0 0, .int .i64 0, .slice none 0 0, .int .i64 0] 37)) := ⟨_, rfl⟩
    rw [← hW0] at H0 ⊢
    clear hW0
    have hc0 := blkCell H0.out.get1
    go_upto_region 6 with (first
      | (with_reducible refine listLoad (by kernel_rfl) 37 (.tmp 2) rfl w.heap.size rfl #[.int .i64 zl, .int .i64 zp, .int .i64 zf, .slice A L.length c, .int .i64 lf, .bool dn, .int .i64 fr, .int .i64 ln, .int .i64 en, .int .i64 sf, .string tl, .slice FA fn fc, .int .i64 hd, .slice TA ts.length tc, .int .i64 nx] _ H0.out.get0 _ Tryz.underlying37 (by kernel_rfl) (by kernel_rfl) ?_)
      | (go_at_call 22; (with_reducible refine (HC.out _ H0.out.below).mono ?_); rintro e w5 ⟨p', he, hs5, hf5, hb5⟩; have HF5 := Lib.hid hf5; clear hf5; obtain ⟨A2, c2, FA2, fn2, fc2, TA2, tc2⟩ := p'; (try dsimp only [storeV] at he); subst he)
      | (with_reducible refine wpList_store_new rfl 37 (.tmp 7) (.tmp 33) rfl #[.int .i64 zl2, .int .i64 zp2, .int .i64 zf2, .slice A2 L2.length c2, .int .i64 lf2, .bool dn2, .int .i64 fr2, .int .i64 ln2, .int .i64 en2, .int .i64 sf2, .string tl2, .slice FA2 fn2 fc2, .int .i64 hd2, .slice TA2 ts2.length tc2, .int .i64 nx2] _ _ rfl (by kernel_rfl) (by kernel_rfl) (by kernel_rfl) (by kernel_rfl) ?_))
    have H5 := Lib.hid (H0.out.step (pastAlloc (o := .cells #[.int .i64 zl2, .int .i64 zp2, .int .i64 zf2, .slice A2 L2.length c2, .int .i64 lf2, .bool dn2, .int .i64 fr2, .int .i64 ln2, .int .i64 en2, .int .i64 sf2, .string tl2, .slice FA2 fn2 fc2, .int .i64 hd2, .slice TA2 ts2.length tc2, .int .i64 nx2] 37) hb5))
    have HG := Lib.hid (heap_alloc_new w5 (.cells #[.int .i64 zl2, .int .i64 zp2, .int .i64 zf2, .slice A2 L2.length c2, .int .i64 lf2, .bool dn2, .int .i64 fr2, .int .i64 ln2, .int .i64 en2, .int .i64 sf2, .string tl2, .slice FA2 fn2 fc2, .int .i64 hd2, .slice TA2 ts2.length tc2, .int .i64 nx2] 37))
    have HS5 := Lib.hid (hs5.below (allocB w5 (.cells #[.int .i64 zl2, .int .i64 zp2, .int .i64 zf2, .slice A2 L2.length c2, .int .i64 lf2, .bool dn2, .int .i64 fr2, .int .i64 ln2, .int .i64 en2, .int .i64 sf2, .string tl2, .slice FA2 fn2 fc2, .int .i64 hd2, .slice TA2 ts2.length tc2, .int .i64 nx2] 37)))
    obtain ⟨gb, hge⟩ : ∃ gb, gb = w5.heap.size := ⟨_, rfl⟩
    obtain ⟨W5, hW5⟩ : ∃ W, W = w5.alloc (.cells #[.int .i64 zl2, .int .i64 zp2, .int .i64 zf2, .slice A2 L2.length c2, .int .i64 lf2, .bool dn2, .int .i64 fr2, .int .i64 ln2, .int .i64 en2, .int .i64 sf2, .string tl2, .slice FA2 fn2 fc2, .int .i64 hd2, .slice TA2 ts2.length tc2, .int .i64 nx2] 37) := ⟨_, rfl⟩
    rw [← hge] at HG
    rw [← hW5] at H5 HG HS5
    rw [← hW5, ← hge]
    clear hge hW5 hb5 hs5 H0 hc0 HC
    go_wp2_with (first
      | (with_reducible refine listLoad (by kernel_rfl) 37 (.tmp 7) rfl gb rfl #[.int .i64 zl2, .int .i64 zp2, .int .i64 zf2, .slice A2 L2.length c2, .int .i64 lf2, .bool dn2, .int .i64 fr2, .int .i64 ln2, .int .i64 en2, .int .i64 sf2, .string tl2, .slice FA2 fn2 fc2, .int .i64 hd2, .slice TA2 ts2.length tc2, .int .i64 nx2] _ HG.out _ Tryz.underlying37 (by kernel_rfl) (by kernel_rfl) ?_)
      | (with_reducible refine listStore (by kernel_rfl) 37 (.tmp 4) (.tmp 35) rfl (w.heap.size + 2) #[.int .i64 zl2, .int .i64 zp2, .int .i64 zf2, .slice A2 L2.length c2, .int .i64 lf2, .bool dn2, .int .i64 fr2, .int .i64 ln2, .int .i64 en2, .int .i64 sf2, .string tl2, .slice FA2 fn2 fc2, .int .i64 hd2, .slice TA2 ts2.length tc2, .int .i64 nx2] _ _ rfl rfl H5.out.get2 (by kernel_rfl) (by kernel_rfl) (by kernel_rfl) ?_))
    refine bodyPost_ret (v := .tuple #[.agg #[.int .i64 zl2, .int .i64 zp2, .int .i64 zf2, .slice A2 L2.length c2, .int .i64 lf2, .bool dn2, .int .i64 fr2, .int .i64 ln2, .int .i64 en2, .int .i64 sf2, .string tl2, .slice FA2 fn2 fc2, .int .i64 hd2, .slice TA2 ts2.length tc2, .int .i64 nx2], .int .i64 0, .int .i64 e2]) (results_cell3 rfl _ _ rfl (load_whole (setRow_heap _ _ _ _ _ _ H5.out.get2) Tryz.underlying37 (by kernel_rfl) (by kernel_rfl)) rfl rfl) rfl ?_
    exact HMF.out ⟨A2, c2, FA2, fn2, fc2, TA2, tc2⟩ _ (HS5.out.other H5.out.get2 (by decide) (by decide) _) HF5.out ((H5.out.row 2 _ _ rfl).below)
  by_cases hk2 : dk = 2
  · subst hk2
    have HC := Lib.hid (fun W (hw : Below w.heap.size w W) => tcommit_any s p hb hts hlf dt W (h.below hw))
    have hx : Tx.doS s ⟨2, dt, dn_⟩ = ((Tx.commitS s dt).1, 0, (Tx.commitS s dt).2) := rfl
    generalize Tx.commitS s dt = y at HC hx
    have HMF := Lib.hid (fun (p' : SP) w' hs hf hb => HM.out _ p' w' hx hs hf hb)
    clear h hb hts hnx0 hnx1 hlf HM hx HS
    obtain ⟨⟨zl2, zp2, zf2, ⟨L2, lf2, dn2⟩, ⟨fr2, ln2, en2, sf2, tl2⟩, hd2, ts2, nx2⟩, e2⟩ := y
    obtain ⟨zl, zp, zf, ⟨L, lf, dn⟩, ⟨fr, ln, en, sf, tl⟩, hd, ts, nx⟩ := s
    obtain ⟨A, c, FA, fn, fc, TA, tc⟩ := p
    dsimp only [storeV] at HC HMF ⊢
    go_enter Tryz.func8, Tryz.ntmps8
    go_upto_region 1 with fail
    have H0 := Lib.hid (show BxL w.heap.size w [(#[.int .i64 zl, .int .i64 zp, .int .i64 zf, .slice A L.length c, .int .i64 lf, .bool dn, .int .i64 fr, .int .i64 ln, .int .i64 en, .int .i64 sf, .string tl, .slice FA fn fc, .int .i64 hd, .slice TA ts.length tc, .int .i64 nx], 37), (#[.int .i64 2, .int .i64 dt, .int .i64 dn_], 43), (#[.int .i64 0, .int .i64 0, .int .i64 0, .slice none 0 0, .int .i64 0, .bool false, .int .i64 0, .int .i64 0, .int .i64 0, .int .i64 0, .string ⟨#[]⟩, .slice none 0 0, .int .i64 0, .slice none 0 0, .int .i64 0], 37)] (((w.alloc (.cells #[.int .i64 zl, .int .i64 zp, .int .i64 zf, .slice A L.length c, .int .i64 lf, .bool dn, .int .i64 fr, .int .i64 ln, .int .i64 en, .int .i64 sf, .string tl, .slice FA fn fc, .int .i64 hd, .slice TA ts.length tc, .int .i64 nx] 37)).alloc (.cells #[.int .i64 2, .int .i64 dt, .int .i64 dn_] 43)).alloc (.cells #[.int .i64 0, .int .i64 0, .int .i64 0, .slice none 0 0, .int .i64 0, .bool false, .int .i64 0, .int .i64 0, .int .i64 0, .int .i64 0, .string ⟨#[]⟩, .slice none 0 0, .int .i64 0, .slice none 0 0, .int .i64 0] 37)) from ((((BxL.nil (Below.refl w.heap.size w)).new (by simp) #[.int .i64 zl, .int .i64 zp, .int .i64 zf, .slice A L.length c, .int .i64 lf, .bool dn, .int .i64 fr, .int .i64 ln, .int .i64 en, .int .i64 sf, .string tl, .slice FA fn fc, .int .i64 hd, .slice TA ts.length tc, .int .i64 nx] 37).new (by simp) #[.int .i64 2, .int .i64 dt, .int .i64 dn_] 43).new (by simp) #[.int .i64 0, .int .i64 0, .int .i64 0, .slice none 0 0, .int .i64 0, .bool false, .int .i64 0, .int .i64 0, .int .i64 0, .int .i64 0, .string ⟨#[]⟩, .slice none 0 0, .int .i64 0, .slice none 0 0, .int .i64 0] 37))
    obtain ⟨W0, hW0⟩ : ∃ W, W = (((w.alloc (.cells #[.int .i64 zl, .int .i64 zp, .int .i64 zf, .slice A L.length c, .int .i64 lf, .bool dn, .int .i64 fr, .int .i64 ln, .int .i64 en, .int .i64 sf, .string tl, .slice FA fn fc, .int .i64 hd, .slice TA ts.length tc, .int .i64 nx] 37)).alloc (.cells #[.int .i64 2, .int .i64 dt, .int .i64 dn_] 43)).alloc (.cells #[.int .i64 0, .int .i64 0, .int .i64 0, .slice none 0 0, .int .i64 0, .bool false, .int .i64 0, .int .i64 0, .int .i64 0, .int .i64 0, .string ⟨#[]⟩, .slice none 0 0, .int .i64 0, .slice none 0 0, .int .i64 0] 37)) := ⟨_, rfl⟩
    rw [← hW0] at H0 ⊢
    clear hW0
    have hc0 := blkCell H0.out.get1
    go_upto_region 9 with (first
      | (with_reducible refine listLoad (by kernel_rfl) 37 (.tmp 2) rfl w.heap.size rfl #[.int .i64 zl, .int .i64 zp, .int .i64 zf, .slice A L.length c, .int .i64 lf, .bool dn, .int .i64 fr, .int .i64 ln, .int .i64 en, .int .i64 sf, .string tl, .slice FA fn fc, .int .i64 hd, .slice TA ts.length tc, .int .i64 nx] _ H0.out.get0 _ Tryz.underlying37 (by kernel_rfl) (by kernel_rfl) ?_)
      | (go_at_call 23; (with_reducible refine (HC.out _ H0.out.below).mono ?_); rintro e w5 ⟨p', he, hs5, hf5, hb5⟩; have HF5 := Lib.hid hf5; clear hf5; obtain ⟨A2, c2, FA2, fn2, fc2, TA2, tc2⟩ := p'; (try dsimp only [storeV] at he); subst he)
      | (with_reducible refine wpList_store_new rfl 37 (.tmp 9) (.tmp 44) rfl #[.int .i64 zl2, .int .i64 zp2, .int .i64 zf2, .slice A2 L2.length c2, .int .i64 lf2, .bool dn2, .int .i64 fr2, .int .i64 ln2, .int .i64 en2, .int .i64 sf2, .string tl2, .slice FA2 fn2 fc2, .int .i64 hd2, .slice TA2 ts2.length tc2, .int .i64 nx2] _ _ rfl (by kernel_rfl) (by kernel_rfl) (by kernel_rfl) (by kernel_rfl) ?_))
    have H5 := Lib.hid (H0.out.step (pastAlloc (o := .cells #[.int .i64 zl2, .int .i64 zp2, .int .i64 zf2, .slice A2 L2.length c2, .int .i64 lf2, .bool dn2, .int .i64 fr2, .int .i64 ln2, .int .i64 en2, .int .i64 sf2, .string tl2, .slice FA2 fn2 fc2, .int .i64 hd2, .slice TA2 ts2.length tc2, .int .i64 nx2] 37) hb5))
    have HG := Lib.hid (heap_alloc_new w5 (.cells #[.int .i64 zl2, .int .i64 zp2, .int .i64 zf2, .slice A2 L2.length c2, .int .i64 lf2, .bool dn2, .int .i64 fr2, .int .i64 ln2, .int .i64 en2, .int .i64 sf2, .string tl2, .slice FA2 fn2 fc2, .int .i64 hd2, .slice TA2 ts2.length tc2, .int .i64 nx2] 37))
    have HS5 := Lib.hid (hs5.below (allocB w5 (.cells #[.int .i64 zl2, .int .i64 zp2, .int .i64 zf2, .slice A2 L2.length c2, .int .i64 lf2, .bool dn2, .int .i64 fr2, .int .i64 ln2, .int .i64 en2, .int .i64 sf2, .string tl2, .slice FA2 fn2 fc2, .int .i64 hd2, .slice TA2 ts2.length tc2, .int .i64 nx2] 37)))
    obtain ⟨gb, hge⟩ : ∃ gb, gb = w5.heap.size := ⟨_, rfl⟩
    obtain ⟨W5, hW5⟩ : ∃ W, W = w5.alloc (.cells #[.int .i64 zl2, .int .i64 zp2, .int .i64 zf2, .slice A2 L2.length c2, .int .i64 lf2, .bool dn2, .int .i64 fr2, .int .i64 ln2, .int .i64 en2, .int .i64 sf2, .string tl2, .slice FA2 fn2 fc2, .int .i64 hd2, .slice TA2 ts2.length tc2, .int .i64 nx2] 37) := ⟨_, rfl⟩
    rw [← hge] at HG
    rw [← hW5] at H5 HG HS5
    rw [← hW5, ← hge]
    clear hge hW5 hb5 hs5 H0 hc0 HC
    go_wp2_with (first
      | (with_reducible refine listLoad (by kernel_rfl) 37 (.tmp 9) rfl gb rfl #[.int .i64 zl2, .int .i64 zp2, .int .i64 zf2, .slice A2 L2.length c2, .int .i64 lf2, .bool dn2, .int .i64 fr2, .int .i64 ln2, .int .i64 en2, .int .i64 sf2, .string tl2, .slice FA2 fn2 fc2, .int .i64 hd2, .slice TA2 ts2.length tc2, .int .i64 nx2] _ HG.out _ Tryz.underlying37 (by kernel_rfl) (by kernel_rfl) ?_)
      | (with_reducible refine listStore (by kernel_rfl) 37 (.tmp 4) (.tmp 46) rfl (w.heap.size + 2) #[.int .i64 zl2, .int .i64 zp2, .int .i64 zf2, .slice A2 L2.length c2, .int .i64 lf2, .bool dn2, .int .i64 fr2, .int .i64 ln2, .int .i64 en2, .int .i64 sf2, .string tl2, .slice FA2 fn2 fc2, .int .i64 hd2, .slice TA2 ts2.length tc2, .int .i64 nx2] _ _ rfl rfl H5.out.get2 (by kernel_rfl) (by kernel_rfl) (by kernel_rfl) ?_))
    refine bodyPost_ret (v := .tuple #[.agg #[.int .i64 zl2, .int .i64 zp2, .int .i64 zf2, .slice A2 L2.length c2, .int .i64 lf2, .bool dn2, .int .i64 fr2, .int .i64 ln2, .int .i64 en2, .int .i64 sf2, .string tl2, .slice FA2 fn2 fc2, .int .i64 hd2, .slice TA2 ts2.length tc2, .int .i64 nx2], .int .i64 0, .int .i64 e2]) (results_cell3 rfl _ _ rfl (load_whole (setRow_heap _ _ _ _ _ _ H5.out.get2) Tryz.underlying37 (by kernel_rfl) (by kernel_rfl)) rfl rfl) rfl ?_
    exact HMF.out ⟨A2, c2, FA2, fn2, fc2, TA2, tc2⟩ _ (HS5.out.other H5.out.get2 (by decide) (by decide) _) HF5.out ((H5.out.row 2 _ _ rfl).below)
  by_cases hk3 : dk = 3
  · subst hk3
    have HC := Lib.hid (fun W (hw : Below w.heap.size w W) => tabort_any s p hb (by omega) dt W (h.below hw))
    have hx : Tx.doS s ⟨3, dt, dn_⟩ = ((Tx.abortS s dt).1, 0, (Tx.abortS s dt).2) := rfl
    generalize Tx.abortS s dt = y at HC hx
    have HMF := Lib.hid (fun (p' : SP) w' hs hf hb => HM.out _ p' w' hx hs hf hb)
    clear h hb hts hnx0 hnx1 hlf HM hx HS
    obtain ⟨⟨zl2, zp2, zf2, ⟨L2, lf2, dn2⟩, ⟨fr2, ln2, en2, sf2, tl2⟩, hd2, ts2, nx2⟩, e2⟩ := y
    obtain ⟨zl, zp, zf, ⟨L, lf, dn⟩, ⟨fr, ln, en, sf, tl⟩, hd, ts, nx⟩ := s
    obtain ⟨A, c, FA, fn, fc, TA, tc⟩ := p
    dsimp only [storeV] at HC HMF ⊢
    go_enter Tryz.func8, Tryz.ntmps8
    go_upto_region 1 with fail
    have H0 := Lib.hid (show BxL w.heap.size w [(#[.int .i64 zl, .int .i64 zp, .int .i64 zf, .slice A L.length c, .int .i64 lf, .bool dn, .int .i64 fr, .int .i64 ln, .int .i64 en, .int .i64 sf, .string tl, .slice FA fn fc, .int .i64 hd, .slice TA ts.length tc, .int .i64 nx], 37), (#[.int .i64 3, .int .i64 dt, .int .i64 dn_], 43), (#[.int .i64 0, .int .i64 0, .int .i64 0, .slice none 0 0, .int .i64 0, .bool false, .int .i64 0, .int .i64 0, .int .i64 0, .int .i64 0, .string ⟨#[]⟩, .slice none 0 0, .int .i64 0, .slice none 0 0, .int .i64 0], 37)] (((w.alloc (.cells #[.int .i64 zl, .int .i64 zp, .int .i64 zf, .slice A L.length c, .int .i64 lf, .bool dn, .int .i64 fr, .int .i64 ln, .int .i64 en, .int .i64 sf, .string tl, .slice FA fn fc, .int .i64 hd, .slice TA ts.length tc, .int .i64 nx] 37)).alloc (.cells #[.int .i64 3, .int .i64 dt, .int .i64 dn_] 43)).alloc (.cells #[.int .i64 0, .int .i64 0, .int .i64 0, .slice none 0 0, .int .i64 0, .bool false, .int .i64 0, .int .i64 0, .int .i64 0, .int .i64 0, .string ⟨#[]⟩, .slice none 0 0, .int .i64 0, .slice none 0 0, .int .i64 0] 37)) from ((((BxL.nil (Below.refl w.heap.size w)).new (by simp) #[.int .i64 zl, .int .i64 zp, .int .i64 zf, .slice A L.length c, .int .i64 lf, .bool dn, .int .i64 fr, .int .i64 ln, .int .i64 en, .int .i64 sf, .string tl, .slice FA fn fc, .int .i64 hd, .slice TA ts.length tc, .int .i64 nx] 37).new (by simp) #[.int .i64 3, .int .i64 dt, .int .i64 dn_] 43).new (by simp) #[.int .i64 0, .int .i64 0, .int .i64 0, .slice none 0 0, .int .i64 0, .bool false, .int .i64 0, .int .i64 0, .int .i64 0, .int .i64 0, .string ⟨#[]⟩, .slice none 0 0, .int .i64 0, .slice none 0 0, .int .i64 0] 37))
    obtain ⟨W0, hW0⟩ : ∃ W, W = (((w.alloc (.cells #[.int .i64 zl, .int .i64 zp, .int .i64 zf, .slice A L.length c, .int .i64 lf, .bool dn, .int .i64 fr, .int .i64 ln, .int .i64 en, .int .i64 sf, .string tl, .slice FA fn fc, .int .i64 hd, .slice TA ts.length tc, .int .i64 nx] 37)).alloc (.cells #[.int .i64 3, .int .i64 dt, .int .i64 dn_] 43)).alloc (.cells #[.int .i64 0, .int .i64 0, .int .i64 0, .slice none 0 0, .int .i64 0, .bool false, .int .i64 0, .int .i64 0, .int .i64 0, .int .i64 0, .string ⟨#[]⟩, .slice none 0 0, .int .i64 0, .slice none 0 0, .int .i64 0] 37)) := ⟨_, rfl⟩
    rw [← hW0] at H0 ⊢
    clear hW0
    have hc0 := blkCell H0.out.get1
    go_upto_region 12 with (first
      | (with_reducible refine listLoad (by kernel_rfl) 37 (.tmp 2) rfl w.heap.size rfl #[.int .i64 zl, .int .i64 zp, .int .i64 zf, .slice A L.length c, .int .i64 lf, .bool dn, .int .i64 fr, .int .i64 ln, .int .i64 en, .int .i64 sf, .string tl, .slice FA fn fc, .int .i64 hd, .slice TA ts.length tc, .int .i64 nx] _ H0.out.get0 _ Tryz.underlying37 (by kernel_rfl) (by kernel_rfl) ?_)
      | (go_at_call 24; (with_reducible refine (HC.out _ H0.out.below).mono ?_); rintro e w5 ⟨p', he, hs5, hf5, hb5⟩; have HF5 := Lib.hid hf5; clear hf5; obtain ⟨A2, c2, FA2, fn2, fc2, TA2, tc2⟩ := p'; (try dsimp only [storeV] at he); subst he)
      | (with_reducible refine wpList_store_new rfl 37 (.tmp 11) (.tmp 55) rfl #[.int .i64 zl2, .int .i64 zp2, .int .i64 zf2, .slice A2 L2.length c2, .int .i64 lf2, .bool dn2, .int .i64 fr2, .int .i64 ln2, .int .i64 en2, .int .i64 sf2, .string tl2, .slice FA2 fn2 fc2, .int .i64 hd2, .slice TA2 ts2.length tc2, .int .i64 nx2] _ _ rfl (by kernel_rfl) (by kernel_rfl) (by kernel_rfl) (by kernel_rfl) ?_))
    have H5 := Lib.hid (H0.out.step (pastAlloc (o := .cells #[.int .i64 zl2, .int .i64 zp2, .int .i64 zf2, .slice A2 L2.length c2, .int .i64 lf2, .bool dn2, .int .i64 fr2, .int .i64 ln2, .int .i64 en2, .int .i64 sf2, .string tl2, .slice FA2 fn2 fc2, .int .i64 hd2, .slice TA2 ts2.length tc2, .int .i64 nx2] 37) hb5))
    have HG := Lib.hid (heap_alloc_new w5 (.cells #[.int .i64 zl2, .int .i64 zp2, .int .i64 zf2, .slice A2 L2.length c2, .int .i64 lf2, .bool dn2, .int .i64 fr2, .int .i64 ln2, .int .i64 en2, .int .i64 sf2, .string tl2, .slice FA2 fn2 fc2, .int .i64 hd2, .slice TA2 ts2.length tc2, .int .i64 nx2] 37))
    have HS5 := Lib.hid (hs5.below (allocB w5 (.cells #[.int .i64 zl2, .int .i64 zp2, .int .i64 zf2, .slice A2 L2.length c2, .int .i64 lf2, .bool dn2, .int .i64 fr2, .int .i64 ln2, .int .i64 en2, .int .i64 sf2, .string tl2, .slice FA2 fn2 fc2, .int .i64 hd2, .slice TA2 ts2.length tc2, .int .i64 nx2] 37)))
    obtain ⟨gb, hge⟩ : ∃ gb, gb = w5.heap.size := ⟨_, rfl⟩
    obtain ⟨W5, hW5⟩ : ∃ W, W = w5.alloc (.cells #[.int .i64 zl2, .int .i64 zp2, .int .i64 zf2, .slice A2 L2.length c2, .int .i64 lf2, .bool dn2, .int .i64 fr2, .int .i64 ln2, .int .i64 en2, .int .i64 sf2, .string tl2, .slice FA2 fn2 fc2, .int .i64 hd2, .slice TA2 ts2.length tc2, .int .i64 nx2] 37) := ⟨_, rfl⟩
    rw [← hge] at HG
    rw [← hW5] at H5 HG HS5
    rw [← hW5, ← hge]
    clear hge hW5 hb5 hs5 H0 hc0 HC
    go_wp2_with (first
      | (with_reducible refine listLoad (by kernel_rfl) 37 (.tmp 11) rfl gb rfl #[.int .i64 zl2, .int .i64 zp2, .int .i64 zf2, .slice A2 L2.length c2, .int .i64 lf2, .bool dn2, .int .i64 fr2, .int .i64 ln2, .int .i64 en2, .int .i64 sf2, .string tl2, .slice FA2 fn2 fc2, .int .i64 hd2, .slice TA2 ts2.length tc2, .int .i64 nx2] _ HG.out _ Tryz.underlying37 (by kernel_rfl) (by kernel_rfl) ?_)
      | (with_reducible refine listStore (by kernel_rfl) 37 (.tmp 4) (.tmp 57) rfl (w.heap.size + 2) #[.int .i64 zl2, .int .i64 zp2, .int .i64 zf2, .slice A2 L2.length c2, .int .i64 lf2, .bool dn2, .int .i64 fr2, .int .i64 ln2, .int .i64 en2, .int .i64 sf2, .string tl2, .slice FA2 fn2 fc2, .int .i64 hd2, .slice TA2 ts2.length tc2, .int .i64 nx2] _ _ rfl rfl H5.out.get2 (by kernel_rfl) (by kernel_rfl) (by kernel_rfl) ?_))
    refine bodyPost_ret (v := .tuple #[.agg #[.int .i64 zl2, .int .i64 zp2, .int .i64 zf2, .slice A2 L2.length c2, .int .i64 lf2, .bool dn2, .int .i64 fr2, .int .i64 ln2, .int .i64 en2, .int .i64 sf2, .string tl2, .slice FA2 fn2 fc2, .int .i64 hd2, .slice TA2 ts2.length tc2, .int .i64 nx2], .int .i64 0, .int .i64 e2]) (results_cell3 rfl _ _ rfl (load_whole (setRow_heap _ _ _ _ _ _ H5.out.get2) Tryz.underlying37 (by kernel_rfl) (by kernel_rfl)) rfl rfl) rfl ?_
    exact HMF.out ⟨A2, c2, FA2, fn2, fc2, TA2, tc2⟩ _ (HS5.out.other H5.out.get2 (by decide) (by decide) _) HF5.out ((H5.out.row 2 _ _ rfl).below)
  by_cases hk4 : dk = 4
  · subst hk4
    have HC := Lib.hid (fun W (hw : Below w.heap.size w W) => tend_any s p hb (by omega) dt W (h.below hw))
    have hx : Tx.doS s ⟨4, dt, dn_⟩ = ((Tx.endS s dt).1, 0, (Tx.endS s dt).2) := rfl
    generalize Tx.endS s dt = y at HC hx
    have HMF := Lib.hid (fun (p' : SP) w' hs hf hb => HM.out _ p' w' hx hs hf hb)
    clear h hb hts hnx0 hnx1 hlf HM hx HS
    obtain ⟨⟨zl2, zp2, zf2, ⟨L2, lf2, dn2⟩, ⟨fr2, ln2, en2, sf2, tl2⟩, hd2, ts2, nx2⟩, e2⟩ := y
    obtain ⟨zl, zp, zf, ⟨L, lf, dn⟩, ⟨fr, ln, en, sf, tl⟩, hd, ts, nx⟩ := s
    obtain ⟨A, c, FA, fn, fc, TA, tc⟩ := p
    dsimp only [storeV] at HC HMF ⊢
    go_enter Tryz.func8, Tryz.ntmps8
    go_upto_region 1 with fail
    have H0 := Lib.hid (show BxL w.heap.size w [(#[.int .i64 zl, .int .i64 zp, .int .i64 zf, .slice A L.length c, .int .i64 lf, .bool dn, .int .i64 fr, .int .i64 ln, .int .i64 en, .int .i64 sf, .string tl, .slice FA fn fc, .int .i64 hd, .slice TA ts.length tc, .int .i64 nx], 37), (#[.int .i64 4, .int .i64 dt, .int .i64 dn_], 43), (#[.int .i64 0, .int .i64 0, .int .i64 0, .slice none 0 0, .int .i64 0, .bool false, .int .i64 0, .int .i64 0, .int .i64 0, .int .i64 0, .string ⟨#[]⟩, .slice none 0 0, .int .i64 0, .slice none 0 0, .int .i64 0], 37)] (((w.alloc (.cells #[.int .i64 zl, .int .i64 zp, .int .i64 zf, .slice A L.length c, .int .i64 lf, .bool dn, .int .i64 fr, .int .i64 ln, .int .i64 en, .int .i64 sf, .string tl, .slice FA fn fc, .int .i64 hd, .slice TA ts.length tc, .int .i64 nx] 37)).alloc (.cells #[.int .i64 4, .int .i64 dt, .int .i64 dn_] 43)).alloc (.cells #[.int .i64 0, .int .i64 0, .int .i64 0, .slice none 0 0, .int .i64 0, .bool false, .int .i64 0, .int .i64 0, .int .i64 0, .int .i64 0, .string ⟨#[]⟩, .slice none 0 0, .int .i64 0, .slice none 0 0, .int .i64 0] 37)) from ((((BxL.nil (Below.refl w.heap.size w)).new (by simp) #[.int .i64 zl, .int .i64 zp, .int .i64 zf, .slice A L.length c, .int .i64 lf, .bool dn, .int .i64 fr, .int .i64 ln, .int .i64 en, .int .i64 sf, .string tl, .slice FA fn fc, .int .i64 hd, .slice TA ts.length tc, .int .i64 nx] 37).new (by simp) #[.int .i64 4, .int .i64 dt, .int .i64 dn_] 43).new (by simp) #[.int .i64 0, .int .i64 0, .int .i64 0, .slice none 0 0, .int .i64 0, .bool false, .int .i64 0, .int .i64 0, .int .i64 0, .int .i64 0, .string ⟨#[]⟩, .slice none 0 0, .int .i64 0, .slice none 0 0, .int .i64 0] 37))
    obtain ⟨W0, hW0⟩ : ∃ W, W = (((w.alloc (.cells #[.int .i64 zl, .int .i64 zp, .int .i64 zf, .slice A L.length c, .int .i64 lf, .bool dn, .int .i64 fr, .int .i64 ln, .int .i64 en, .int .i64 sf, .string tl, .slice FA fn fc, .int .i64 hd, .slice TA ts.length tc, .int .i64 nx] 37)).alloc (.cells #[.int .i64 4, .int .i64 dt, .int .i64 dn_] 43)).alloc (.cells #[.int .i64 0, .int .i64 0, .int .i64 0, .slice none 0 0, .int .i64 0, .bool false, .int .i64 0, .int .i64 0, .int .i64 0, .int .i64 0, .string ⟨#[]⟩, .slice none 0 0, .int .i64 0, .slice none 0 0, .int .i64 0] 37)) := ⟨_, rfl⟩
    rw [← hW0] at H0 ⊢
    clear hW0
    have hc0 := blkCell H0.out.get1
    go_upto_region 15 with (first
      | (with_reducible refine listLoad (by kernel_rfl) 37 (.tmp 2) rfl w.heap.size rfl #[.int .i64 zl, .int .i64 zp, .int .i64 zf, .slice A L.length c, .int .i64 lf, .bool dn, .int .i64 fr, .int .i64 ln, .int .i64 en, .int .i64 sf, .string tl, .slice FA fn fc, .int .i64 hd, .slice TA ts.length tc, .int .i64 nx] _ H0.out.get0 _ Tryz.underlying37 (by kernel_rfl) (by kernel_rfl) ?_)
      | (go_at_call 27; (with_reducible refine (HC.out _ H0.out.below).mono ?_); rintro e w5 ⟨p', he, hs5, hf5, hb5⟩; have HF5 := Lib.hid hf5; clear hf5; obtain ⟨A2, c2, FA2, fn2, fc2, TA2, tc2⟩ := p'; (try dsimp only [storeV] at he); subst he)
      | (with_reducible refine wpList_store_new rfl 37 (.tmp 13) (.tmp 66) rfl #[.int .i64 zl2, .int .i64 zp2, .int .i64 zf2, .slice A2 L2.length c2, .int .i64 lf2, .bool dn2, .int .i64 fr2, .int .i64 ln2, .int .i64 en2, .int .i64 sf2, .string tl2, .slice FA2 fn2 fc2, .int .i64 hd2, .slice TA2 ts2.length tc2, .int .i64 nx2] _ _ rfl (by kernel_rfl) (by kernel_rfl) (by kernel_rfl) (by kernel_rfl) ?_))
    have H5 := Lib.hid (H0.out.step (pastAlloc (o := .cells #[.int .i64 zl2, .int .i64 zp2, .int .i64 zf2, .slice A2 L2.length c2, .int .i64 lf2, .bool dn2, .int .i64 fr2, .int .i64 ln2, .int .i64 en2, .int .i64 sf2, .string tl2, .slice FA2 fn2 fc2, .int .i64 hd2, .slice TA2 ts2.length tc2, .int .i64 nx2] 37) hb5))
    have HG := Lib.hid (heap_alloc_new w5 (.cells #[.int .i64 zl2, .int .i64 zp2, .int .i64 zf2, .slice A2 L2.length c2, .int .i64 lf2, .bool dn2, .int .i64 fr2, .int .i64 ln2, .int .i64 en2, .int .i64 sf2, .string tl2, .slice FA2 fn2 fc2, .int .i64 hd2, .slice TA2 ts2.length tc2, .int .i64 nx2] 37))
    have HS5 := Lib.hid (hs5.below (allocB w5 (.cells #[.int .i64 zl2, .int .i64 zp2, .int .i64 zf2, .slice A2 L2.length c2, .int .i64 lf2, .bool dn2, .int .i64 fr2, .int .i64 ln2, .int .i64 en2, .int .i64 sf2, .string tl2, .slice FA2 fn2 fc2, .int .i64 hd2, .slice TA2 ts2.length tc2, .int .i64 nx2] 37)))
    obtain ⟨gb, hge⟩ : ∃ gb, gb = w5.heap.size := ⟨_, rfl⟩
    obtain ⟨W5, hW5⟩ : ∃ W, W = w5.alloc (.cells #[.int .i64 zl2, .int .i64 zp2, .int .i64 zf2, .slice A2 L2.length c2, .int .i64 lf2, .bool dn2, .int .i64 fr2, .int .i64 ln2, .int .i64 en2, .int .i64 sf2, .string tl2, .slice FA2 fn2 fc2, .int .i64 hd2, .slice TA2 ts2.length tc2, .int .i64 nx2] 37) := ⟨_, rfl⟩
    rw [← hge] at HG
    rw [← hW5] at H5 HG HS5
    rw [← hW5, ← hge]
    clear hge hW5 hb5 hs5 H0 hc0 HC
    go_wp2_with (first
      | (with_reducible refine listLoad (by kernel_rfl) 37 (.tmp 13) rfl gb rfl #[.int .i64 zl2, .int .i64 zp2, .int .i64 zf2, .slice A2 L2.length c2, .int .i64 lf2, .bool dn2, .int .i64 fr2, .int .i64 ln2, .int .i64 en2, .int .i64 sf2, .string tl2, .slice FA2 fn2 fc2, .int .i64 hd2, .slice TA2 ts2.length tc2, .int .i64 nx2] _ HG.out _ Tryz.underlying37 (by kernel_rfl) (by kernel_rfl) ?_)
      | (with_reducible refine listStore (by kernel_rfl) 37 (.tmp 4) (.tmp 68) rfl (w.heap.size + 2) #[.int .i64 zl2, .int .i64 zp2, .int .i64 zf2, .slice A2 L2.length c2, .int .i64 lf2, .bool dn2, .int .i64 fr2, .int .i64 ln2, .int .i64 en2, .int .i64 sf2, .string tl2, .slice FA2 fn2 fc2, .int .i64 hd2, .slice TA2 ts2.length tc2, .int .i64 nx2] _ _ rfl rfl H5.out.get2 (by kernel_rfl) (by kernel_rfl) (by kernel_rfl) ?_))
    refine bodyPost_ret (v := .tuple #[.agg #[.int .i64 zl2, .int .i64 zp2, .int .i64 zf2, .slice A2 L2.length c2, .int .i64 lf2, .bool dn2, .int .i64 fr2, .int .i64 ln2, .int .i64 en2, .int .i64 sf2, .string tl2, .slice FA2 fn2 fc2, .int .i64 hd2, .slice TA2 ts2.length tc2, .int .i64 nx2], .int .i64 0, .int .i64 e2]) (results_cell3 rfl _ _ rfl (load_whole (setRow_heap _ _ _ _ _ _ H5.out.get2) Tryz.underlying37 (by kernel_rfl) (by kernel_rfl)) rfl rfl) rfl ?_
    exact HMF.out ⟨A2, c2, FA2, fn2, fc2, TA2, tc2⟩ _ (HS5.out.other H5.out.get2 (by decide) (by decide) _) HF5.out ((H5.out.row 2 _ _ rfl).below)
  by_cases hk5 : dk = 5
  · subst hk5
    have HC := Lib.hid (fun W => carm_any s.disk p.A p.c dn_ W)
    have hx : Tx.doS s ⟨5, dt, dn_⟩ = ({ s with disk := Lg.armD s.disk dn_ }, 0, 0) := rfl
    have ha : (Lg.armD s.disk dn_).sectors = s.disk.sectors ∧ (Lg.armD s.disk dn_).down = s.disk.down := ⟨rfl, rfl⟩
    have HMF := Lib.hid (fun (p' : SP) w' hs hf hb => HM.out _ p' w' hx hs hf hb)
    clear hb hts hnx0 hnx1 hlf HM hx h
    obtain ⟨zl, zp, zf, ⟨L, lf, dn⟩, ⟨fr, ln, en, sf, tl⟩, hd, ts, nx⟩ := s
    obtain ⟨A, c, FA, fn, fc, TA, tc⟩ := p
    generalize hda : Lg.armD ⟨L, lf, dn⟩ dn_ = da at HC HMF ha
    obtain ⟨L2, lf2, dn2⟩ := da
    simp only at ha
    obtain ⟨rfl, rfl⟩ := ha
    clear hda
    dsimp only [storeV, diskV] at HC HMF ⊢
    go_enter Tryz.func8, Tryz.ntmps8
    go_upto_region 1 with fail
    have H0 := Lib.hid (show BxL w.heap.size w [(#[.int .i64 zl, .int .i64 zp, .int .i64 zf, .slice A L2.length c, .int .i64 lf, .bool dn2, .int .i64 fr, .int .i64 ln, .int .i64 en, .int .i64 sf, .string tl, .slice FA fn fc, .int .i64 hd, .slice TA ts.length tc, .int .i64 nx], 37), (#[.int .i64 5, .int .i64 dt, .int .i64 dn_], 43), (#[.int .i64 0, .int .i64 0, .int .i64 0, .slice none 0 0, .int .i64 0, .bool false, .int .i64 0, .int .i64 0, .int .i64 0, .int .i64 0, .string ⟨#[]⟩, .slice none 0 0, .int .i64 0, .slice none 0 0, .int .i64 0], 37)] (((w.alloc (.cells #[.int .i64 zl, .int .i64 zp, .int .i64 zf, .slice A L2.length c, .int .i64 lf, .bool dn2, .int .i64 fr, .int .i64 ln, .int .i64 en, .int .i64 sf, .string tl, .slice FA fn fc, .int .i64 hd, .slice TA ts.length tc, .int .i64 nx] 37)).alloc (.cells #[.int .i64 5, .int .i64 dt, .int .i64 dn_] 43)).alloc (.cells #[.int .i64 0, .int .i64 0, .int .i64 0, .slice none 0 0, .int .i64 0, .bool false, .int .i64 0, .int .i64 0, .int .i64 0, .int .i64 0, .string ⟨#[]⟩, .slice none 0 0, .int .i64 0, .slice none 0 0, .int .i64 0] 37)) from ((((BxL.nil (Below.refl w.heap.size w)).new (by simp) #[.int .i64 zl, .int .i64 zp, .int .i64 zf, .slice A L2.length c, .int .i64 lf, .bool dn2, .int .i64 fr, .int .i64 ln, .int .i64 en, .int .i64 sf, .string tl, .slice FA fn fc, .int .i64 hd, .slice TA ts.length tc, .int .i64 nx] 37).new (by simp) #[.int .i64 5, .int .i64 dt, .int .i64 dn_] 43).new (by simp) #[.int .i64 0, .int .i64 0, .int .i64 0, .slice none 0 0, .int .i64 0, .bool false, .int .i64 0, .int .i64 0, .int .i64 0, .int .i64 0, .string ⟨#[]⟩, .slice none 0 0, .int .i64 0, .slice none 0 0, .int .i64 0] 37))
    obtain ⟨W0, hW0⟩ : ∃ W, W = (((w.alloc (.cells #[.int .i64 zl, .int .i64 zp, .int .i64 zf, .slice A L2.length c, .int .i64 lf, .bool dn2, .int .i64 fr, .int .i64 ln, .int .i64 en, .int .i64 sf, .string tl, .slice FA fn fc, .int .i64 hd, .slice TA ts.length tc, .int .i64 nx] 37)).alloc (.cells #[.int .i64 5, .int .i64 dt, .int .i64 dn_] 43)).alloc (.cells #[.int .i64 0, .int .i64 0, .int .i64 0, .slice none 0 0, .int .i64 0, .bool false, .int .i64 0, .int .i64 0, .int .i64 0, .int .i64 0, .string ⟨#[]⟩, .slice none 0 0, .int .i64 0, .slice none 0 0, .int .i64 0] 37)) := ⟨_, rfl⟩
    rw [← hW0] at H0 ⊢
    clear hW0
    have hc0 := blkCell H0.out.get1
    go_upto_region 18 with (first
      | (with_reducible refine listPart (by kernel_rfl) 29 (.tmp 72) rfl w.heap.size 3 rfl #[.slice A L2.length c, .int .i64 lf, .bool dn2] #[.int .i64 zl, .int .i64 zp, .int .i64 zf, .slice A L2.length c, .int .i64 lf, .bool dn2, .int .i64 fr, .int .i64 ln, .int .i64 en, .int .i64 sf, .string tl, .slice FA fn fc, .int .i64 hd, .slice TA ts.length tc, .int .i64 nx] _ H0.out.get0 (by kernel_rfl) _ Tryz.underlying29 (by kernel_rfl) (by kernel_rfl) ?_)
      | (go_at_call 28; (with_reducible refine (HC.out _).mono ?_); rintro e w5 ⟨rfl, hb5⟩; have H5 := Lib.hid (H0.out.step hb5))
      | (with_reducible refine listPut (by kernel_rfl) 29 (.tmp 77) (.tmp 76) rfl w.heap.size 3 #[.slice A L2.length c, .int .i64 lf2, .bool dn2] #[.int .i64 zl, .int .i64 zp, .int .i64 zf, .slice A L2.length c, .int .i64 lf, .bool dn2, .int .i64 fr, .int .i64 ln, .int .i64 en, .int .i64 sf, .string tl, .slice FA fn fc, .int .i64 hd, .slice TA ts.length tc, .int .i64 nx] #[.int .i64 zl, .int .i64 zp, .int .i64 zf, .slice A L2.length c, .int .i64 lf2, .bool dn2, .int .i64 fr, .int .i64 ln, .int .i64 en, .int .i64 sf, .string tl, .slice FA fn fc, .int .i64 hd, .slice TA ts.length tc, .int .i64 nx] _ rfl rfl H5.out.get0 (by kernel_rfl) (by kernel_rfl) (by kernel_rfl) (by kernel_rfl) ?_))
    have H6 := Lib.hid (H5.out.row 0 #[.int .i64 zl, .int .i64 zp, .int .i64 zf, .slice A L2.length c, .int .i64 lf2, .bool dn2, .int .i64 fr, .int .i64 ln, .int .i64 en, .int .i64 sf, .string tl, .slice FA fn fc, .int .i64 hd, .slice TA ts.length tc, .int .i64 nx] _ rfl)
    simp only [Nat.add_zero] at H6
    obtain ⟨W6, hW6⟩ : ∃ W, W = w5.setRow w.heap.size #[.int .i64 zl, .int .i64 zp, .int .i64 zf, .slice A L2.length c, .int .i64 lf2, .bool dn2, .int .i64 fr, .int .i64 ln, .int .i64 en, .int .i64 sf, .string tl, .slice FA fn fc, .int .i64 hd, .slice TA ts.length tc, .int .i64 nx] := ⟨_, rfl⟩
    rw [← hW6] at H6
    rw [← hW6]
    clear hW6 hb5 H5 H0 hc0 HC
    go_wp2_with (first
      | (with_reducible refine listLoad (by kernel_rfl) 37 (.tmp 2) rfl w.heap.size rfl #[.int .i64 zl, .int .i64 zp, .int .i64 zf, .slice A L2.length c, .int .i64 lf2, .bool dn2, .int .i64 fr, .int .i64 ln, .int .i64 en, .int .i64 sf, .string tl, .slice FA fn fc, .int .i64 hd, .slice TA ts.length tc, .int .i64 nx] _ H6.out.get0 _ Tryz.underlying37 (by kernel_rfl) (by kernel_rfl) ?_)
      | (with_reducible refine listStore (by kernel_rfl) 37 (.tmp 4) (.tmp 78) rfl (w.heap.size + 2) #[.int .i64 zl, .int .i64 zp, .int .i64 zf, .slice A L2.length c, .int .i64 lf2, .bool dn2, .int .i64 fr, .int .i64 ln, .int .i64 en, .int .i64 sf, .string tl, .slice FA fn fc, .int .i64 hd, .slice TA ts.length tc, .int .i64 nx] _ _ rfl rfl H6.out.get2 (by kernel_rfl) (by kernel_rfl) (by kernel_rfl) ?_))
    refine bodyPost_ret (v := .tuple #[.agg #[.int .i64 zl, .int .i64 zp, .int .i64 zf, .slice A L2.length c, .int .i64 lf2, .bool dn2, .int .i64 fr, .int .i64 ln, .int .i64 en, .int .i64 sf, .string tl, .slice FA fn fc, .int .i64 hd, .slice TA ts.length tc, .int .i64 nx], .int .i64 0, .int .i64 0]) (results_cell3 rfl _ _ rfl (load_whole (setRow_heap _ _ _ _ _ _ H6.out.get2) Tryz.underlying37 (by kernel_rfl) (by kernel_rfl)) rfl rfl) rfl ?_
    have hbl := (H6.out.row 2 #[.int .i64 zl, .int .i64 zp, .int .i64 zf, .slice A L2.length c, .int .i64 lf2, .bool dn2, .int .i64 fr, .int .i64 ln, .int .i64 en, .int .i64 sf, .string tl, .slice FA fn fc, .int .i64 hd, .slice TA ts.length tc, .int .i64 nx] _ rfl).below
    have hs9 := HS.out.below hbl
    exact HMF.out ⟨A, c, FA, fn, fc, TA, tc⟩ _ ⟨⟨hs9.dk.secs, hs9.dk.small⟩, hs9.dt, hs9.tx, hs9.tt⟩ ⟨rfl, rfl, rfl⟩ hbl
  have hx : Tx.doS s ⟨dk, dt, dn_⟩ = (s, 0, 0) := by unfold Tx.doS; simp only; rw [if_neg hk0, if_neg hk1, if_neg hk2, if_neg hk3, if_neg hk4, if_neg hk5]
  have HMF := Lib.hid (fun (p' : SP) w' hs hf hb => HM.out _ p' w' hx hs hf hb)
  have hj0 : (dk == 0) = false := by simpa using hk0
  have hj1 : (dk == 1) = false := by simpa using hk1
  have hj2 : (dk == 2) = false := by simpa using hk2
  have hj3 : (dk == 3) = false := by simpa using hk3
  have hj4 : (dk == 4) = false := by simpa using hk4
  have hj5 : (dk == 5) = false := by simpa using hk5
  clear hk0 hk1 hk2 hk3 hk4 hk5 hb hts hnx0 hnx1 hlf HM hx h
  obtain ⟨zl, zp, zf, ⟨L, lf, dn⟩, ⟨fr, ln, en, sf, tl⟩, hd, ts, nx⟩ := s
  obtain ⟨A, c, FA, fn, fc, TA, tc⟩ := p
  dsimp only [storeV] at HMF ⊢
  go_enter Tryz.func8, Tryz.ntmps8
  go_upto_region 1 with fail
  have H0 := Lib.hid (show BxL w.heap.size w [(#[.int .i64 zl, .int .i64 zp, .int .i64 zf, .slice A L.length c, .int .i64 lf, .bool dn, .int .i64 fr, .int .i64 ln, .int .i64 en, .int .i64 sf, .string tl, .slice FA fn fc, .int .i64 hd, .slice TA ts.length tc, .int .i64 nx], 37), (#[.int .i64 dk, .int .i64 dt, .int .i64 dn_], 43), (#[.int .i64 0, .int .i64 0, .int .i64 0, .slice none 0 0, .int .i64 0, .bool false, .int .i64 0, .int .i64 0, .int .i64 0, .int .i64 0, .string ⟨#[]⟩, .slice none 0 0, .int .i64 0, .slice none 0 0, .int .i64 0], 37)] (((w.alloc (.cells #[.int .i64 zl, .int .i64 zp, .int .i64 zf, .slice A L.length c, .int .i64 lf, .bool dn, .int .i64 fr, .int .i64 ln, .int .i64 en, .int .i64 sf, .string tl, .slice FA fn fc, .int .i64 hd, .slice TA ts.length tc, .int .i64 nx] 37)).alloc (.cells #[.int .i64 dk, .int .i64 dt, .int .i64 dn_] 43)).alloc (.cells #[.int .i64 0, .int .i64 0, .int .i64 0, .slice none 0 0, .int .i64 0, .bool false, .int .i64 0, .int .i64 0, .int .i64 0, .int .i64 0, .string ⟨#[]⟩, .slice none 0 0, .int .i64 0, .slice none 0 0, .int .i64 0] 37)) from ((((BxL.nil (Below.refl w.heap.size w)).new (by simp) #[.int .i64 zl, .int .i64 zp, .int .i64 zf, .slice A L.length c, .int .i64 lf, .bool dn, .int .i64 fr, .int .i64 ln, .int .i64 en, .int .i64 sf, .string tl, .slice FA fn fc, .int .i64 hd, .slice TA ts.length tc, .int .i64 nx] 37).new (by simp) #[.int .i64 dk, .int .i64 dt, .int .i64 dn_] 43).new (by simp) #[.int .i64 0, .int .i64 0, .int .i64 0, .slice none 0 0, .int .i64 0, .bool false, .int .i64 0, .int .i64 0, .int .i64 0, .int .i64 0, .string ⟨#[]⟩, .slice none 0 0, .int .i64 0, .slice none 0 0, .int .i64 0] 37))
  obtain ⟨W0, hW0⟩ : ∃ W, W = (((w.alloc (.cells #[.int .i64 zl, .int .i64 zp, .int .i64 zf, .slice A L.length c, .int .i64 lf, .bool dn, .int .i64 fr, .int .i64 ln, .int .i64 en, .int .i64 sf, .string tl, .slice FA fn fc, .int .i64 hd, .slice TA ts.length tc, .int .i64 nx] 37)).alloc (.cells #[.int .i64 dk, .int .i64 dt, .int .i64 dn_] 43)).alloc (.cells #[.int .i64 0, .int .i64 0, .int .i64 0, .slice none 0 0, .int .i64 0, .bool false, .int .i64 0, .int .i64 0, .int .i64 0, .int .i64 0, .string ⟨#[]⟩, .slice none 0 0, .int .i64 0, .slice none 0 0, .int .i64 0] 37)) := ⟨_, rfl⟩
  rw [← hW0] at H0 ⊢
  clear hW0
  have hc0 := blkCell H0.out.get1
  go_wp2_with (first
    | (with_reducible refine listLoad (by kernel_rfl) 37 (.tmp 2) rfl w.heap.size rfl #[.int .i64 zl, .int .i64 zp, .int .i64 zf, .slice A L.length c, .int .i64 lf, .bool dn, .int .i64 fr, .int .i64 ln, .int .i64 en, .int .i64 sf, .string tl, .slice FA fn fc, .int .i64 hd, .slice TA ts.length tc, .int .i64 nx] _ H0.out.get0 _ Tryz.underlying37 (by kernel_rfl) (by kernel_rfl) ?_)
    | (with_reducible refine listStore (by kernel_rfl) 37 (.tmp 4) (.tmp 78) rfl (w.heap.size + 2) #[.int .i64 zl, .int .i64 zp, .int .i64 zf, .slice A L.length c, .int .i64 lf, .bool dn, .int .i64 fr, .int .i64 ln, .int .i64 en, .int .i64 sf, .string tl, .slice FA fn fc, .int .i64 hd, .slice TA ts.length tc, .int .i64 nx] _ _ rfl rfl H0.out.get2 (by kernel_rfl) (by kernel_rfl) (by kernel_rfl) ?_))
  refine bodyPost_ret (v := .tuple #[.agg #[.int .i64 zl, .int .i64 zp, .int .i64 zf, .slice A L.length c, .int .i64 lf, .bool dn, .int .i64 fr, .int .i64 ln, .int .i64 en, .int .i64 sf, .string tl, .slice FA fn fc, .int .i64 hd, .slice TA ts.length tc, .int .i64 nx], .int .i64 0, .int .i64 0]) (results_cell3 rfl _ _ rfl (load_whole (setRow_heap _ _ _ _ _ _ H0.out.get2) Tryz.underlying37 (by kernel_rfl) (by kernel_rfl)) rfl rfl) rfl ?_
  have hbl := (H0.out.row 2 #[.int .i64 zl, .int .i64 zp, .int .i64 zf, .slice A L.length c, .int .i64 lf, .bool dn, .int .i64 fr, .int .i64 ln, .int .i64 en, .int .i64 sf, .string tl, .slice FA fn fc, .int .i64 hd, .slice TA ts.length tc, .int .i64 nx] _ rfl).below
  exact HMF.out ⟨A, c, FA, fn, fc, TA, tc⟩ _ (HS.out.below hbl) ⟨rfl, rfl, rfl⟩ hbl
end Go.Proofs.YthfglhafphfhiaaGreat
