/- The walk over the statement TxnLists. -/
import Derived.Test.YthfglhafphfhiaaHs15
import Derived.BigRegion
namespace Go.Proofs.Ythfglhafphfhiaa
open Go.RowKit
set_option maxRecDepth 100000 in
set_option maxHeartbeats 8000000 in
theorem txnlists_any (n : Int) (l : List Tx.Deed) (A0 : Option Addr) (c0 : Nat) (w : World) (hr : Reads w A0 c0 l.length (l.flatMap deC)) :
    Calls Try.prog 4 #[.int .i64 n, .slice A0 l.length c0] w fun e w' => e = .returned (.bool true) ∧ Below w.heap.size w w' := by
  have HAW := Lib.hid (fun W => tawake_any W)
  have HFE := Lib.hid (fun W => tfew_any n A0 l.length c0 W)
  have HR := Lib.hid hr
  clear hr
  cases hf : decide (0 ≤ n ∧ n ≤ 60 ∧ l.length ≤ 40) with
  | false =>
    rw [hf] at HFE
    clear hf HR
    go_enter Try.func4, Try.ntmps4
    go_wp2_with (first
      | (go_at_call 10; (with_reducible refine (HFE.out _).mono ?_); rintro e w1 ⟨rfl, hw1⟩; subst hw1)
      | (go_at_call 6; (with_reducible refine (HAW.out _).mono ?_); rintro e w2 ⟨rfl, hb2⟩))
    go_ret
    exact ⟨rfl, hb2⟩
  | true =>
    rw [hf] at HFE
    obtain ⟨hn0, hn1, hl40⟩ := of_decide_eq_true hf
    clear hf
    obtain ⟨N, rfl⟩ := Int.eq_ofNat_of_zero_le hn0
    have hN : N ≤ 60 := by omega
    have HFR := Lib.hid (fun W => tfresh_any N hN W)
    have HG0 := Lib.hid (Tx.good_new N)
    have hnx : (Tx.fresh N).next = 1 := rfl
    have htx : (Tx.fresh N).txns.length = 0 := rfl
    have HNX0 := Lib.hid hnx
    have HTX0 := Lib.hid htx
    obtain ⟨s0, hs0⟩ : ∃ s, s = Tx.fresh N := ⟨_, rfl⟩
    rw [← hs0] at HFR HG0 HNX0 HTX0
    clear hs0 hnx htx hn0 hn1
    go_enter Try.func4, Try.ntmps4
    go_upto_region 4 with (first
      | (go_at_call 10; (with_reducible refine (HFE.out _).mono ?_); rintro e w1 ⟨rfl, hw1⟩; subst hw1)
      | (go_at_call 11; (with_reducible refine (HFR.out _).mono ?_); rintro e w2 ⟨p0, rfl, hs2, -, hb2⟩; (try dsimp only [storeV]))
      | (with_reducible refine wpList_store_new rfl 49 (.tmp 5) (.tmp 25) rfl #[.int .i64 s0.zlog, .int .i64 s0.zpages, .int .i64 s0.zframes, .slice p0.A s0.disk.sectors.length p0.c, .int .i64 s0.disk.left, .bool s0.disk.down, .int .i64 s0.log.from_, .int .i64 s0.log.n, .int .i64 s0.log.end_, .int .i64 s0.log.safe, .string s0.log.tail, .slice p0.F p0.fn p0.fc, .int .i64 s0.hand, .slice p0.T s0.txns.length p0.tc, .int .i64 s0.next] _ _ rfl (by kernel_rfl) (by kernel_rfl) (by kernel_rfl) (by kernel_rfl) ?_))
    have X0 := Lib.hid (heap_alloc_new w2 (.cells #[.int .i64 s0.zlog, .int .i64 s0.zpages, .int .i64 s0.zframes, .slice p0.A s0.disk.sectors.length p0.c, .int .i64 s0.disk.left, .bool s0.disk.down, .int .i64 s0.log.from_, .int .i64 s0.log.n, .int .i64 s0.log.end_, .int .i64 s0.log.safe, .string s0.log.tail, .slice p0.F p0.fn p0.fc, .int .i64 s0.hand, .slice p0.T s0.txns.length p0.tc, .int .i64 s0.next] 49))
    have S0 := Lib.hid (hs2.below (allocB w2 (.cells #[.int .i64 s0.zlog, .int .i64 s0.zpages, .int .i64 s0.zframes, .slice p0.A s0.disk.sectors.length p0.c, .int .i64 s0.disk.left, .bool s0.disk.down, .int .i64 s0.log.from_, .int .i64 s0.log.n, .int .i64 s0.log.end_, .int .i64 s0.log.safe, .string s0.log.tail, .slice p0.F p0.fn p0.fc, .int .i64 s0.hand, .slice p0.T s0.txns.length p0.tc, .int .i64 s0.next] 49)))
    have B0 := Lib.hid (pastAlloc (o := .cells #[.int .i64 s0.zlog, .int .i64 s0.zpages, .int .i64 s0.zframes, .slice p0.A s0.disk.sectors.length p0.c, .int .i64 s0.disk.left, .bool s0.disk.down, .int .i64 s0.log.from_, .int .i64 s0.log.n, .int .i64 s0.log.end_, .int .i64 s0.log.safe, .string s0.log.tail, .slice p0.F p0.fn p0.fc, .int .i64 s0.hand, .slice p0.T s0.txns.length p0.tc, .int .i64 s0.next] 49) hb2)
    have hgs0 := hb2.size
    obtain ⟨gs, hgs⟩ : ∃ g, g = w2.heap.size := ⟨_, rfl⟩
    obtain ⟨W0, hW0⟩ : ∃ W, W = w2.alloc (.cells #[.int .i64 s0.zlog, .int .i64 s0.zpages, .int .i64 s0.zframes, .slice p0.A s0.disk.sectors.length p0.c, .int .i64 s0.disk.left, .bool s0.disk.down, .int .i64 s0.log.from_, .int .i64 s0.log.n, .int .i64 s0.log.end_, .int .i64 s0.log.safe, .string s0.log.tail, .slice p0.F p0.fn p0.fc, .int .i64 s0.hand, .slice p0.T s0.txns.length p0.tc, .int .i64 s0.next] 49) := ⟨_, rfl⟩
    rw [← hgs] at X0 hgs0
    rw [← hW0] at X0 S0 B0
    rw [← hW0, ← hgs]
    clear hgs hW0 hs2 hb2 HFR HFE
    go_wp2_with fail
    go_loopw [6] (fun i wr => ∃ (k : Nat) (s : Tx.St) (p : SP), i = .int .i64 (k : Int) ∧ k ≤ l.length ∧ Tx.Good N s ∧ s.txns.length ≤ 2 * k ∧ 1 ≤ s.next ∧ s.next ≤ (k : Int) + 1 ∧ StoreR wr s p ∧ wr.heap[gs]? = some (.cells #[.int .i64 s.zlog, .int .i64 s.zpages, .int .i64 s.zframes, .slice p.A s.disk.sectors.length p.c, .int .i64 s.disk.left, .bool s.disk.down, .int .i64 s.log.from_, .int .i64 s.log.n, .int .i64 s.log.end_, .int .i64 s.log.safe, .string s.log.tail, .slice p.F p.fn p.fc, .int .i64 s.hand, .slice p.T s.txns.length p.tc, .int .i64 s.next] 49 (0, 0)) ∧ Below w.heap.size w wr) (fun i _ => l.length - (intOf i).toNat)
    case atStart => exact ⟨0, s0, p0, rfl, Nat.zero_le _, HG0.out, by rw [HTX0.out]; exact Nat.zero_le _, by rw [HNX0.out]; exact Int.le_refl _, by rw [HNX0.out]; decide, S0.out, X0.out, B0.out⟩
    case round =>
      obtain ⟨k, s, p, rfl, hk, hgd, htl, hx1, hx2, hst, hbx, hbw⟩ := hrel
      have HGD := Lib.hid hgd
      have HST := Lib.hid hst
      have HBX := Lib.hid hbx
      have HBW := Lib.hid hbw
      clear hgd hst hbx hbw X0 S0 B0 HG0 HNX0 HTX0
      by_cases hlt : k < l.length
      · have hki : (k : Int) < (l.length : Int) := by omega
        have hk0 : (0 : Int) ≤ (k : Int) := by omega
        have hwk : IntKind.i64.wrap ((k : Int) + 1) = (k : Int) + 1 := IntWalk.i64_in _ (by omega)
        obtain ⟨b, off, rfl, hc, hbl, hcell⟩ := read_at deC_len (HR.out.below HBW.out) hlt
        have hq0 := hcell 0 _ rfl
        simp only [Nat.add_zero] at hq0
        by_cases h5 : (l[k]).kind = 5
        · rw [h5] at hq0
          clear hcell h5
          go_wp2_with fail
          go_roundw
          case rel => exact ⟨k + 1, s, p, (by go_num), by omega, HGD.out, by omega, hx1, by omega, HST.out, HBX.out, HBW.out⟩
          case measure => simp [intOf]; omega
        · have h5' : ((l[k]).kind == 5) = false := by simpa using h5
          have HLB := Lib.hid (Tx.good_logB HGD.out (by omega))
          have HDOC := Lib.hid (fun W (hw : Below wr.heap.size wr W) => tdo_any s p HLB.out (by omega) (by omega) (by omega) (by rw [Tx.good_left HGD.out]; omega) l[k] W (HST.out.below hw))
          have HGO := Lib.hid (Tx.good_do HGD.out l[k] h5)
          have HLD := Lib.hid (Tx.logB_do HLB.out l[k])
          have HDL := Lib.hid (Tx.do_len s l[k])
          have HDN := Lib.hid (Tx.do_next s l[k])
          have HCELL := Lib.hid hcell
          obtain ⟨d, hd⟩ : ∃ d, d = l[k] := ⟨_, rfl⟩
          rw [← hd] at h5' HDOC HGO HLD HDL HDN HCELL hq0
          clear hd hcell h5 HLB
          generalize Tx.doS s d = y at HDOC HGO HLD HDL HDN
          obtain ⟨s9, m9, e9⟩ := y
          obtain ⟨dk, dt, dm⟩ := d
          dsimp only [storeV, deedV] at HDOC h5' hq0
          have HRG := Lib.hid (show ∀ u, Below wr.heap.size wr u → u.rangeAt b (off + k * 3) [.int .i64 dk, .int .i64 dt, .int .i64 dm] from fun u hu j v hj => by rw [hu.cell (p := ⟨b, off + k * 3 + j, none⟩) hbl]; exact HCELL.out j v hj)
          go_upto_region 8 with fail
          go_cut [7, 8, 9] (fun x y z wc => ∃ (gt : Nat) (p9 : SP), x = .pointer (some ⟨gt, 0, none⟩) ∧ y = .int .i64 m9 ∧ z = .int .i64 e9 ∧ wc.heap[gt]? = some (.cells #[.int .i64 s9.zlog, .int .i64 s9.zpages, .int .i64 s9.zframes, .slice p9.A s9.disk.sectors.length p9.c, .int .i64 s9.disk.left, .bool s9.disk.down, .int .i64 s9.log.from_, .int .i64 s9.log.n, .int .i64 s9.log.end_, .int .i64 s9.log.safe, .string s9.log.tail, .slice p9.F p9.fn p9.fc, .int .i64 s9.hand, .slice p9.T s9.txns.length p9.tc, .int .i64 s9.next] 49 (0, 0)) ∧ StoreR wc s9 p9 ∧ Below wr.heap.size wr wc)
          case first =>
            have Z0 : Below wr.heap.size wr wr.drew := (Below.refl _ wr).drew
            refine wp_region_held_drew (S := (fun u => Below wr.heap.size wr u)) (by kernel_rfl) ?_ (fun hHeld => ?_)
            · exact Z0
            refine tkV 0 (some 39) (v := .agg #[.int .i64 s.zlog, .int .i64 s.zpages, .int .i64 s.zframes, .slice p.A s.disk.sectors.length p.c, .int .i64 s.disk.left, .bool s.disk.down, .int .i64 s.log.from_, .int .i64 s.log.n, .int .i64 s.log.end_, .int .i64 s.log.safe, .string s.log.tail, .slice p.F p.fn p.fc, .int .i64 s.hand, .slice p.T s.txns.length p.tc, .int .i64 s.next]) rfl (yieldsIf_load_mid (by rfl) 49 (.tmp 5) rfl gs 0 (by rfl) #[.int .i64 s.zlog, .int .i64 s.zpages, .int .i64 s.zframes, .slice p.A s.disk.sectors.length p.c, .int .i64 s.disk.left, .bool s.disk.down, .int .i64 s.log.from_, .int .i64 s.log.n, .int .i64 s.log.end_, .int .i64 s.log.safe, .string s.log.tail, .slice p.F p.fn p.fc, .int .i64 s.hand, .slice p.T s.txns.length p.tc, .int .i64 s.next].toList _ (fun u hu => (by intro j v hj; rw [Nat.zero_add, blkCell (blkOld HBX.out hu)]; simpa using hj)) Try.underlying49 (by kernel_rfl) (by kernel_rfl)) ?_
            try simp only [Act.put, List.setIfInBounds_toArray, List.set_cons_zero, List.set_cons_succ]
            refine tkW 1 (some 40) (v := ?_) rfl ?_ ?_
            rotate_left
            · intro u hSu; clear hSu; go_simp; (try with_reducible rfl)
            try simp only [Act.put, List.setIfInBounds_toArray, List.set_cons_zero, List.set_cons_succ]
            refine tkW 2 (some 41) (v := ?_) rfl ?_ ?_
            rotate_left
            · intro u hSu; clear hSu; go_simp; (try with_reducible rfl)
            try simp only [Act.put, List.setIfInBounds_toArray, List.set_cons_zero, List.set_cons_succ]
            refine tkW 3 (some 42) (v := ?_) rfl ?_ ?_
            rotate_left
            · intro u hSu; clear hSu; go_simp; (try with_reducible rfl)
            try simp only [Act.put, List.setIfInBounds_toArray, List.set_cons_zero, List.set_cons_succ]
            refine tkV 4 (some 43) (v := .agg #[.int .i64 dk, .int .i64 dt, .int .i64 dm]) rfl (yieldsIf_load_mid (by rfl) 52 (.tmp 42) rfl b (off + k * 3) (by rfl) [.int .i64 dk, .int .i64 dt, .int .i64 dm] _ HRG.out Try.underlying52 (by kernel_rfl) (by kernel_rfl)) ?_
            try simp only [Act.put, List.setIfInBounds_toArray, List.set_cons_zero, List.set_cons_succ]
            refine wpAnyH_ready (rs := [5, 10]) (by kernel_rfl) (by simp) ?_
            refine (AllReadyH.cons (o := { dst := some 44, op := _, type := _, pos := _, after := _, guard := _ }) rfl (fun K hK => ?_) (AllReadyH.cons (o := { dst := some 7, op := _, type := _, pos := _, after := _, guard := _ }) rfl (fun K hK => ?_) AllReadyH.nil))
            ·
              go_simp
              refine (HDOC.out _ Z0).mono ?_; rintro e w5 ⟨p9, rfl, hs5, -, hb5⟩; (try dsimp only [storeV]); have Z2 := joinB Z0 hb5; try clear hSn
              have hSn := Z2
              refine hK.out _ _ ?_ (fun hHeld => ?_)
              · exact hSn
              clear hK K
              try simp only [Act.put, List.setIfInBounds_toArray, List.set_cons_zero, List.set_cons_succ]
              refine tkW 6 (some 38) (v := ?_) rfl ?_ ?_
              rotate_left
              · intro u hSu; clear hSu; go_simp; (try with_reducible rfl)
              try simp only [Act.put, List.setIfInBounds_toArray, List.set_cons_zero, List.set_cons_succ]
              refine tkW 7 (some 45) (v := ?_) rfl ?_ ?_
              rotate_left
              · intro u hSu; clear hSu; go_simp; (try with_reducible rfl)
              try simp only [Act.put, List.setIfInBounds_toArray, List.set_cons_zero, List.set_cons_succ]
              refine tkW 8 (some 46) (v := ?_) rfl ?_ ?_
              rotate_left
              · intro u hSu; clear hSu; go_simp; (try with_reducible rfl)
              try simp only [Act.put, List.setIfInBounds_toArray, List.set_cons_zero, List.set_cons_succ]
              refine tkW 9 (some 47) (v := ?_) rfl ?_ ?_
              rotate_left
              · intro u hSu; clear hSu; go_simp; (try with_reducible rfl)
              try simp only [Act.put, List.setIfInBounds_toArray, List.set_cons_zero, List.set_cons_succ]
              refine rdH 10 (some 7) rfl (fun K hK => ?_)
              go_simp
              have HG := heap_alloc_new w5 (.cells #[.int .i64 0, .int .i64 0, .int .i64 0, .slice none 0 0, .int .i64 0, .bool false, .int .i64 0, .int .i64 0, .int .i64 0, .int .i64 0, .string ⟨#[]⟩, .slice none 0 0, .int .i64 0, .slice none 0 0, .int .i64 0] 49); have Z3 := joinB Z2 (allocB w5 (.cells #[.int .i64 0, .int .i64 0, .int .i64 0, .slice none 0 0, .int .i64 0, .bool false, .int .i64 0, .int .i64 0, .int .i64 0, .int .i64 0, .string ⟨#[]⟩, .slice none 0 0, .int .i64 0, .slice none 0 0, .int .i64 0] 49)); have hs6 := hs5.below (allocB w5 (.cells #[.int .i64 0, .int .i64 0, .int .i64 0, .slice none 0 0, .int .i64 0, .bool false, .int .i64 0, .int .i64 0, .int .i64 0, .int .i64 0, .string ⟨#[]⟩, .slice none 0 0, .int .i64 0, .slice none 0 0, .int .i64 0] 49)); clear hSn; have hSn := Z3
              refine hK.out _ _ ?_ (fun hHeld => ?_)
              · exact hSn
              clear hK K
              try simp only [Act.put, List.setIfInBounds_toArray, List.set_cons_zero, List.set_cons_succ]
              refine rdH 11 none rfl (fun K hK => ?_)
              refine wantedIf (by rfl) ?_
              refine wp_store_whole 49 (.tmp 7) (.tmp 45) rfl w5.heap.size #[.int .i64 s9.zlog, .int .i64 s9.zpages, .int .i64 s9.zframes, .slice p9.A s9.disk.sectors.length p9.c, .int .i64 s9.disk.left, .bool s9.disk.down, .int .i64 s9.log.from_, .int .i64 s9.log.n, .int .i64 s9.log.end_, .int .i64 s9.log.safe, .string s9.log.tail, .slice p9.F p9.fn p9.fc, .int .i64 s9.hand, .slice p9.T s9.txns.length p9.tc, .int .i64 s9.next] _ _ rfl rfl HG (by kernel_rfl) (by kernel_rfl) (by kernel_rfl) ?_
              have Z4 := below_setRow Z3 (g := w5.heap.size) (by have := Z2.size; omega) #[.int .i64 s9.zlog, .int .i64 s9.zpages, .int .i64 s9.zframes, .slice p9.A s9.disk.sectors.length p9.c, .int .i64 s9.disk.left, .bool s9.disk.down, .int .i64 s9.log.from_, .int .i64 s9.log.n, .int .i64 s9.log.end_, .int .i64 s9.log.safe, .string s9.log.tail, .slice p9.F p9.fn p9.fc, .int .i64 s9.hand, .slice p9.T s9.txns.length p9.tc, .int .i64 s9.next]
              have HG4 := setRow_heap _ _ _ #[.int .i64 s9.zlog, .int .i64 s9.zpages, .int .i64 s9.zframes, .slice p9.A s9.disk.sectors.length p9.c, .int .i64 s9.disk.left, .bool s9.disk.down, .int .i64 s9.log.from_, .int .i64 s9.log.n, .int .i64 s9.log.end_, .int .i64 s9.log.safe, .string s9.log.tail, .slice p9.F p9.fn p9.fc, .int .i64 s9.hand, .slice p9.T s9.txns.length p9.tc, .int .i64 s9.next] _ _ HG
              have hs7 := hs6.other HG (by decide) (by decide) #[.int .i64 s9.zlog, .int .i64 s9.zpages, .int .i64 s9.zframes, .slice p9.A s9.disk.sectors.length p9.c, .int .i64 s9.disk.left, .bool s9.disk.down, .int .i64 s9.log.from_, .int .i64 s9.log.n, .int .i64 s9.log.end_, .int .i64 s9.log.safe, .string s9.log.tail, .slice p9.F p9.fn p9.fc, .int .i64 s9.hand, .slice p9.T s9.txns.length p9.tc, .int .i64 s9.next]
              clear hSn
              have hSn := Z4
              refine hK.out _ _ ?_ (fun hHeld => ?_)
              · exact hSn
              clear hK K
              try simp only [Act.put]
              refine tkW 12 (some 8) (v := ?_) rfl ?_ ?_
              rotate_left
              · intro u hSu; clear hSu; go_simp; (try with_reducible rfl)
              try simp only [Act.put, List.setIfInBounds_toArray, List.set_cons_zero, List.set_cons_succ]
              refine tkW 13 (some 9) (v := ?_) rfl ?_ ?_
              rotate_left
              · intro u hSu; clear hSu; go_simp; (try with_reducible rfl)
              try simp only [Act.put, List.setIfInBounds_toArray, List.set_cons_zero, List.set_cons_succ]
              refine wpAnyH_done (by kernel_rfl) ?_ _
              clear hHeld hSn
              go_wp2_with fail
              go_meet
              case rel => exact ⟨_, p9, rfl, rfl, rfl, HG4, hs7, Z4⟩
            ·
              go_simp
              have Z1 := joinB Z0 (allocB wr.drew (.cells #[.int .i64 0, .int .i64 0, .int .i64 0, .slice none 0 0, .int .i64 0, .bool false, .int .i64 0, .int .i64 0, .int .i64 0, .int .i64 0, .string ⟨#[]⟩, .slice none 0 0, .int .i64 0, .slice none 0 0, .int .i64 0] 49)); have hSn := Z1
              refine hK.out _ _ ?_ (fun hHeld => ?_)
              · exact hSn
              clear hK K
              try simp only [Act.put, List.setIfInBounds_toArray, List.set_cons_zero, List.set_cons_succ]
              refine rdH 5 (some 44) rfl (fun K hK => ?_)
              go_simp
              refine (HDOC.out _ Z1).mono ?_; rintro e w5 ⟨p9, rfl, hs5, -, hb5⟩; (try dsimp only [storeV]); have Z2 := joinB Z1 hb5; try clear hSn
              have hSn := Z2
              have HG := blkNew hb5
              refine hK.out _ _ ?_ (fun hHeld => ?_)
              · exact hSn
              clear hK K
              try simp only [Act.put, List.setIfInBounds_toArray, List.set_cons_zero, List.set_cons_succ]
              refine tkW 6 (some 38) (v := ?_) rfl ?_ ?_
              rotate_left
              · intro u hSu; clear hSu; go_simp; (try with_reducible rfl)
              try simp only [Act.put, List.setIfInBounds_toArray, List.set_cons_zero, List.set_cons_succ]
              refine tkW 7 (some 45) (v := ?_) rfl ?_ ?_
              rotate_left
              · intro u hSu; clear hSu; go_simp; (try with_reducible rfl)
              try simp only [Act.put, List.setIfInBounds_toArray, List.set_cons_zero, List.set_cons_succ]
              refine tkW 8 (some 46) (v := ?_) rfl ?_ ?_
              rotate_left
              · intro u hSu; clear hSu; go_simp; (try with_reducible rfl)
              try simp only [Act.put, List.setIfInBounds_toArray, List.set_cons_zero, List.set_cons_succ]
              refine tkW 9 (some 47) (v := ?_) rfl ?_ ?_
              rotate_left
              · intro u hSu; clear hSu; go_simp; (try with_reducible rfl)
              try simp only [Act.put, List.setIfInBounds_toArray, List.set_cons_zero, List.set_cons_succ]
              refine rdH 11 none rfl (fun K hK => ?_)
              refine wantedIf (by rfl) ?_
              refine wp_store_whole 49 (.tmp 7) (.tmp 45) rfl wr.drew.heap.size #[.int .i64 s9.zlog, .int .i64 s9.zpages, .int .i64 s9.zframes, .slice p9.A s9.disk.sectors.length p9.c, .int .i64 s9.disk.left, .bool s9.disk.down, .int .i64 s9.log.from_, .int .i64 s9.log.n, .int .i64 s9.log.end_, .int .i64 s9.log.safe, .string s9.log.tail, .slice p9.F p9.fn p9.fc, .int .i64 s9.hand, .slice p9.T s9.txns.length p9.tc, .int .i64 s9.next] _ _ rfl rfl HG (by kernel_rfl) (by kernel_rfl) (by kernel_rfl) ?_
              have Z4 := below_setRow Z2 (g := wr.drew.heap.size) (by show wr.heap.size ≤ wr.heap.size; omega) #[.int .i64 s9.zlog, .int .i64 s9.zpages, .int .i64 s9.zframes, .slice p9.A s9.disk.sectors.length p9.c, .int .i64 s9.disk.left, .bool s9.disk.down, .int .i64 s9.log.from_, .int .i64 s9.log.n, .int .i64 s9.log.end_, .int .i64 s9.log.safe, .string s9.log.tail, .slice p9.F p9.fn p9.fc, .int .i64 s9.hand, .slice p9.T s9.txns.length p9.tc, .int .i64 s9.next]
              have HG4 := setRow_heap _ _ _ #[.int .i64 s9.zlog, .int .i64 s9.zpages, .int .i64 s9.zframes, .slice p9.A s9.disk.sectors.length p9.c, .int .i64 s9.disk.left, .bool s9.disk.down, .int .i64 s9.log.from_, .int .i64 s9.log.n, .int .i64 s9.log.end_, .int .i64 s9.log.safe, .string s9.log.tail, .slice p9.F p9.fn p9.fc, .int .i64 s9.hand, .slice p9.T s9.txns.length p9.tc, .int .i64 s9.next] _ _ HG
              have hs7 := hs5.other HG (by decide) (by decide) #[.int .i64 s9.zlog, .int .i64 s9.zpages, .int .i64 s9.zframes, .slice p9.A s9.disk.sectors.length p9.c, .int .i64 s9.disk.left, .bool s9.disk.down, .int .i64 s9.log.from_, .int .i64 s9.log.n, .int .i64 s9.log.end_, .int .i64 s9.log.safe, .string s9.log.tail, .slice p9.F p9.fn p9.fc, .int .i64 s9.hand, .slice p9.T s9.txns.length p9.tc, .int .i64 s9.next]
              clear hSn
              have hSn := Z4
              refine hK.out _ _ ?_ (fun hHeld => ?_)
              · exact hSn
              clear hK K
              try simp only [Act.put]
              refine tkW 12 (some 8) (v := ?_) rfl ?_ ?_
              rotate_left
              · intro u hSu; clear hSu; go_simp; (try with_reducible rfl)
              try simp only [Act.put, List.setIfInBounds_toArray, List.set_cons_zero, List.set_cons_succ]
              refine tkW 13 (some 9) (v := ?_) rfl ?_ ?_
              rotate_left
              · intro u hSu; clear hSu; go_simp; (try with_reducible rfl)
              try simp only [Act.put, List.setIfInBounds_toArray, List.set_cons_zero, List.set_cons_succ]
              refine wpAnyH_done (by kernel_rfl) ?_ _
              clear hHeld hSn
              go_wp2_with fail
              go_meet
              case rel => exact ⟨_, p9, rfl, rfl, rfl, HG4, hs7, Z4⟩
          case rest =>
            obtain ⟨gt, p9, rfl, rfl, rfl, hgt, hs9, hb9⟩ := hcut
            obtain ⟨wb, rfl⟩ : ∃ wm : World, wm = wc := ⟨_, rfl⟩
            have HGT := Lib.hid hgt
            have HS9 := Lib.hid hs9
            have HBX9 := Lib.hid (blkOld HBX.out hb9)
            have HB9 := Lib.hid (joinB HBW.out hb9)
            have hq9 := (hb9.cell (p := ⟨b, off + k * 3, none⟩) hbl).trans hq0
            clear hgt hs9 hb9 hq0 HDOC HRG HCELL HBX HBW HST
            simp only at HGO HLD HDL HDN
            obtain ⟨a1, a2⟩ := HDN.out
            have a3 := HDL.out
            have c1 := HLD.out.e0
            have c2 := HLD.out.e1
            have c3 := HLD.out.s0
            have c4 := HLD.out.s1
            have hws : IntKind.i64.wrap (s9.log.end_ - s9.log.safe) = s9.log.end_ - s9.log.safe := IntWalk.i64_in _ (by omega)
            have hct := blkCell HGT.out
            by_cases hfull : e9 = 0 ∧ dk = 2 ∧ s9.log.end_ - s9.log.safe = 0
            · obtain ⟨rfl, rfl, hz⟩ := hfull
              have hz1 : (s9.log.end_ - s9.log.safe == 0) = true := by simpa using hz
              clear hz HGO HLD HDL HDN c1 c2 c3 c4 a1 a2 a3
              go_wp2_with (go_at_call 6; (with_reducible refine (HAW.out _).mono ?_); rintro e w6 ⟨rfl, hb6⟩)
              go_ret
              exact ⟨rfl, joinB HB9.out hb6⟩
            · have hgd9 : Tx.Good N s9 := by
                rcases HGO.out with h | ⟨h1, h2, h3⟩
                · exact h
                · exact absurd ⟨h1, h2, h3⟩ hfull
              have HGD9 := Lib.hid hgd9
              have HS10 := Lib.hid (HS9.out.other HBX9.out (by decide) (by decide) #[.int .i64 s9.zlog, .int .i64 s9.zpages, .int .i64 s9.zframes, .slice p9.A s9.disk.sectors.length p9.c, .int .i64 s9.disk.left, .bool s9.disk.down, .int .i64 s9.log.from_, .int .i64 s9.log.n, .int .i64 s9.log.end_, .int .i64 s9.log.safe, .string s9.log.tail, .slice p9.F p9.fn p9.fc, .int .i64 s9.hand, .slice p9.T s9.txns.length p9.tc, .int .i64 s9.next])
              have HX10 := Lib.hid (setRow_heap wb gs _ #[.int .i64 s9.zlog, .int .i64 s9.zpages, .int .i64 s9.zframes, .slice p9.A s9.disk.sectors.length p9.c, .int .i64 s9.disk.left, .bool s9.disk.down, .int .i64 s9.log.from_, .int .i64 s9.log.n, .int .i64 s9.log.end_, .int .i64 s9.log.safe, .string s9.log.tail, .slice p9.F p9.fn p9.fc, .int .i64 s9.hand, .slice p9.T s9.txns.length p9.tc, .int .i64 s9.next] _ _ HBX9.out)
              have HB10 := Lib.hid (below_setRow HB9.out (g := gs) (by omega) #[.int .i64 s9.zlog, .int .i64 s9.zpages, .int .i64 s9.zframes, .slice p9.A s9.disk.sectors.length p9.c, .int .i64 s9.disk.left, .bool s9.disk.down, .int .i64 s9.log.from_, .int .i64 s9.log.n, .int .i64 s9.log.end_, .int .i64 s9.log.safe, .string s9.log.tail, .slice p9.F p9.fn p9.fc, .int .i64 s9.hand, .slice p9.T s9.txns.length p9.tc, .int .i64 s9.next])
              clear hgd9 HGO HLD HDL HDN c1 c2 c3 c4 HGD
              by_cases he : e9 = 0
              · subst he
                by_cases hk2 : dk = 2
                · subst hk2
                  have hz1 : (s9.log.end_ - s9.log.safe == 0) = false := by
                    have : ¬ s9.log.end_ - s9.log.safe = 0 := fun h => hfull ⟨rfl, rfl, h⟩
                    simpa using this
                  clear hfull
                  go_wp2_with (first | (with_reducible refine listLoad (by kernel_rfl) 49 (.tmp 7) rfl gt rfl #[.int .i64 s9.zlog, .int .i64 s9.zpages, .int .i64 s9.zframes, .slice p9.A s9.disk.sectors.length p9.c, .int .i64 s9.disk.left, .bool s9.disk.down, .int .i64 s9.log.from_, .int .i64 s9.log.n, .int .i64 s9.log.end_, .int .i64 s9.log.safe, .string s9.log.tail, .slice p9.F p9.fn p9.fc, .int .i64 s9.hand, .slice p9.T s9.txns.length p9.tc, .int .i64 s9.next] _ HGT.out _ Try.underlying49 (by kernel_rfl) (by kernel_rfl) ?_) | (with_reducible refine listStore (by kernel_rfl) 49 (.tmp 5) (.tmp 70) rfl gs #[.int .i64 s9.zlog, .int .i64 s9.zpages, .int .i64 s9.zframes, .slice p9.A s9.disk.sectors.length p9.c, .int .i64 s9.disk.left, .bool s9.disk.down, .int .i64 s9.log.from_, .int .i64 s9.log.n, .int .i64 s9.log.end_, .int .i64 s9.log.safe, .string s9.log.tail, .slice p9.F p9.fn p9.fc, .int .i64 s9.hand, .slice p9.T s9.txns.length p9.tc, .int .i64 s9.next] _ _ rfl rfl HBX9.out (by kernel_rfl) (by kernel_rfl) (by kernel_rfl) ?_))
                  go_roundw
                  case rel => exact ⟨k + 1, s9, p9, (by go_num), by omega, HGD9.out, by omega, by omega, by omega, HS10.out, HX10.out, HB10.out⟩
                  case measure => simp [intOf]; omega
                · have hk3 : (dk == 2) = false := by simpa using hk2
                  clear hfull hk2
                  go_wp2_with (first | (with_reducible refine listLoad (by kernel_rfl) 49 (.tmp 7) rfl gt rfl #[.int .i64 s9.zlog, .int .i64 s9.zpages, .int .i64 s9.zframes, .slice p9.A s9.disk.sectors.length p9.c, .int .i64 s9.disk.left, .bool s9.disk.down, .int .i64 s9.log.from_, .int .i64 s9.log.n, .int .i64 s9.log.end_, .int .i64 s9.log.safe, .string s9.log.tail, .slice p9.F p9.fn p9.fc, .int .i64 s9.hand, .slice p9.T s9.txns.length p9.tc, .int .i64 s9.next] _ HGT.out _ Try.underlying49 (by kernel_rfl) (by kernel_rfl) ?_) | (with_reducible refine listStore (by kernel_rfl) 49 (.tmp 5) (.tmp 70) rfl gs #[.int .i64 s9.zlog, .int .i64 s9.zpages, .int .i64 s9.zframes, .slice p9.A s9.disk.sectors.length p9.c, .int .i64 s9.disk.left, .bool s9.disk.down, .int .i64 s9.log.from_, .int .i64 s9.log.n, .int .i64 s9.log.end_, .int .i64 s9.log.safe, .string s9.log.tail, .slice p9.F p9.fn p9.fc, .int .i64 s9.hand, .slice p9.T s9.txns.length p9.tc, .int .i64 s9.next] _ _ rfl rfl HBX9.out (by kernel_rfl) (by kernel_rfl) (by kernel_rfl) ?_))
                  go_roundw
                  case rel => exact ⟨k + 1, s9, p9, (by go_num), by omega, HGD9.out, by omega, by omega, by omega, HS10.out, HX10.out, HB10.out⟩
                  case measure => simp [intOf]; omega
              · have he1 : (e9 == 0) = false := by simpa using he
                clear hfull he
                go_wp2_with (first | (with_reducible refine listLoad (by kernel_rfl) 49 (.tmp 7) rfl gt rfl #[.int .i64 s9.zlog, .int .i64 s9.zpages, .int .i64 s9.zframes, .slice p9.A s9.disk.sectors.length p9.c, .int .i64 s9.disk.left, .bool s9.disk.down, .int .i64 s9.log.from_, .int .i64 s9.log.n, .int .i64 s9.log.end_, .int .i64 s9.log.safe, .string s9.log.tail, .slice p9.F p9.fn p9.fc, .int .i64 s9.hand, .slice p9.T s9.txns.length p9.tc, .int .i64 s9.next] _ HGT.out _ Try.underlying49 (by kernel_rfl) (by kernel_rfl) ?_) | (with_reducible refine listStore (by kernel_rfl) 49 (.tmp 5) (.tmp 70) rfl gs #[.int .i64 s9.zlog, .int .i64 s9.zpages, .int .i64 s9.zframes, .slice p9.A s9.disk.sectors.length p9.c, .int .i64 s9.disk.left, .bool s9.disk.down, .int .i64 s9.log.from_, .int .i64 s9.log.n, .int .i64 s9.log.end_, .int .i64 s9.log.safe, .string s9.log.tail, .slice p9.F p9.fn p9.fc, .int .i64 s9.hand, .slice p9.T s9.txns.length p9.tc, .int .i64 s9.next] _ _ rfl rfl HBX9.out (by kernel_rfl) (by kernel_rfl) (by kernel_rfl) ?_))
                go_roundw
                case rel => exact ⟨k + 1, s9, p9, (by go_num), by omega, HGD9.out, by omega, by omega, by omega, HS10.out, HX10.out, HB10.out⟩
                case measure => simp [intOf]; omega
      · have hki : ¬ (k : Int) < (l.length : Int) := by omega
        have HLB := Lib.hid (Tx.good_logB HGD.out (by omega))
        obtain ⟨d2, g2, o, rs, e1, e2, e3, hwh, hdl, hrl⟩ := Tx.good_full HGD.out
        have hlf : s.disk.left = -1 := Tx.good_left HGD.out
        have HFO := Lib.hid (fun W (hd : DiskR W s.disk p.A p.c) => show Calls Try.prog 13 #[diskV s.disk p.A p.c, logV s.log] W (ForceOut (d2, g2, 0) p.A W) from by
          have h9 := force_any s.disk (by rw [hlf]; omega) p.A p.c s.log HLB.out.e0 (by have := HLB.out.e1; omega) (by have := HLB.out.n0; omega) (by have := HLB.out.n1; omega) (by have := HLB.out.f; omega) (by have := HLB.out.f; omega) (by have := HLB.out.t0; have := HLB.out.e1; omega) HLB.out.t0 HLB.out.t1 W hd
          rw [e1] at h9
          exact h9)
        have HOP := Lib.hid (fun A c W (hd : DiskR W d2 A c) => show Calls Try.prog 14 #[diskV d2 A c, .int .i64 1, .int .i64 (N : Int)] W (OpenOut (o, rs, 0) W) from by
          have h9 := open_any d2 (fun x hx => Nat.le_of_eq (hwh x hx)) (by omega) A c 1 (N : Int) (by omega) (by omega) (by omega) W hd
          rw [e2] at h9
          exact h9)
        have HFOLD := Lib.hid e3
        have HRL := Lib.hid hrl
        clear HGD HLB e1 e2 e3 hwh hdl hlf hrl hx1 hx2 HR
        dsimp only [diskV, logV] at HFO HOP
        have HFO1 := Lib.hid (HFO.out wr HST.out.dk)
        clear HFO
        go_upto_region 14 with (first
          | (with_reducible refine listPart (by kernel_rfl) 42 (.tmp 72) rfl gs 3 rfl #[.slice p.A s.disk.sectors.length p.c, .int .i64 s.disk.left, .bool s.disk.down] #[.int .i64 s.zlog, .int .i64 s.zpages, .int .i64 s.zframes, .slice p.A s.disk.sectors.length p.c, .int .i64 s.disk.left, .bool s.disk.down, .int .i64 s.log.from_, .int .i64 s.log.n, .int .i64 s.log.end_, .int .i64 s.log.safe, .string s.log.tail, .slice p.F p.fn p.fc, .int .i64 s.hand, .slice p.T s.txns.length p.tc, .int .i64 s.next] _ HBX.out (by kernel_rfl) _ Try.underlying42 (by kernel_rfl) (by kernel_rfl) ?_)
          | (with_reducible refine listPart (by kernel_rfl) 44 (.tmp 74) rfl gs 6 rfl #[.int .i64 s.log.from_, .int .i64 s.log.n, .int .i64 s.log.end_, .int .i64 s.log.safe, .string s.log.tail] #[.int .i64 s.zlog, .int .i64 s.zpages, .int .i64 s.zframes, .slice p.A s.disk.sectors.length p.c, .int .i64 s.disk.left, .bool s.disk.down, .int .i64 s.log.from_, .int .i64 s.log.n, .int .i64 s.log.end_, .int .i64 s.log.safe, .string s.log.tail, .slice p.F p.fn p.fc, .int .i64 s.hand, .slice p.T s.txns.length p.tc, .int .i64 s.next] _ HBX.out (by kernel_rfl) _ Try.underlying44 (by kernel_rfl) (by kernel_rfl) ?_)
          | (go_at_call 13; (with_reducible refine HFO1.out.mono ?_); rintro e w7 ⟨A3, c3, he, hd7, -, hb7⟩; dsimp only [diskV, logV] at he; subst he; have HD0 := Lib.hid (blkOld (heap_alloc_new w7 (.cells #[.slice none 0 0, .int .i64 0, .bool false] 42)) (allocB (w7.alloc (.cells #[.slice none 0 0, .int .i64 0, .bool false] 42)) (.cells #[.int .i64 0, .int .i64 0, .int .i64 0, .int .i64 0, .string ⟨#[]⟩] 44))); have HL0 := Lib.hid (show (((w7.alloc (.cells #[.slice none 0 0, .int .i64 0, .bool false] 42)).alloc (.cells #[.int .i64 0, .int .i64 0, .int .i64 0, .int .i64 0, .string ⟨#[]⟩] 44)).setRow w7.heap.size #[.slice A3 d2.sectors.length c3, .int .i64 d2.left, .bool d2.down]).heap[w7.heap.size + 1]? = some (.cells #[.int .i64 0, .int .i64 0, .int .i64 0, .int .i64 0, .string ⟨#[]⟩] 44 (0, 0)) from (heap_setRow_other _ _ _ _ (by omega)).trans (by have h := heap_alloc_new (w7.alloc (.cells #[.slice none 0 0, .int .i64 0, .bool false] 42)) (.cells #[.int .i64 0, .int .i64 0, .int .i64 0, .int .i64 0, .string ⟨#[]⟩] 44); simpa using h)))
          | (with_reducible refine listStore (by kernel_rfl) 42 (.tmp 11) (.tmp 77) rfl w7.heap.size #[.slice A3 d2.sectors.length c3, .int .i64 d2.left, .bool d2.down] _ _ rfl rfl HD0.out (by kernel_rfl) (by kernel_rfl) (by kernel_rfl) ?_)
          | (with_reducible refine listStore (by kernel_rfl) 44 (.tmp 12) (.tmp 78) rfl (w7.heap.size + 1) #[.int .i64 g2.from_, .int .i64 g2.n, .int .i64 g2.end_, .int .i64 g2.safe, .string g2.tail] _ _ rfl rfl HL0.out (by kernel_rfl) (by kernel_rfl) (by kernel_rfl) ?_))
        obtain ⟨bd, hbd⟩ : ∃ bd, bd = w7.heap.size := ⟨_, rfl⟩
        have hC : Below w7.heap.size w7 ((((w7.alloc (.cells #[.slice none 0 0, .int .i64 0, .bool false] 42)).alloc (.cells #[.int .i64 0, .int .i64 0, .int .i64 0, .int .i64 0, .string ⟨#[]⟩] 44)).setRow w7.heap.size #[.slice A3 d2.sectors.length c3, .int .i64 d2.left, .bool d2.down]).setRow (w7.heap.size + 1) #[.int .i64 g2.from_, .int .i64 g2.n, .int .i64 g2.end_, .int .i64 g2.safe, .string g2.tail]) := below_setRow (below_setRow (pastAlloc (allocB w7 _)) (Nat.le_refl _) _) (Nat.le_succ _) _
        have HD8 := Lib.hid (show ((((w7.alloc (.cells #[.slice none 0 0, .int .i64 0, .bool false] 42)).alloc (.cells #[.int .i64 0, .int .i64 0, .int .i64 0, .int .i64 0, .string ⟨#[]⟩] 44)).setRow w7.heap.size #[.slice A3 d2.sectors.length c3, .int .i64 d2.left, .bool d2.down]).setRow (w7.heap.size + 1) #[.int .i64 g2.from_, .int .i64 g2.n, .int .i64 g2.end_, .int .i64 g2.safe, .string g2.tail]).heap[bd]? = some (.cells #[.slice A3 d2.sectors.length c3, .int .i64 d2.left, .bool d2.down] 42 (0, 0)) from (heap_setRow_other _ _ _ _ (by omega)).trans (by rw [hbd]; exact setRow_heap _ _ _ _ _ _ HD0.out))
        have HX8 := Lib.hid (blkOld (blkOld HBX.out hb7) hC)
        have HS8 := Lib.hid ((HST.out.below hb7).below hC)
        have HK8 := Lib.hid (hd7.below hC)
        have HB8 := Lib.hid (joinB (joinB HBW.out hb7) hC)
        obtain ⟨W8, hW8⟩ : ∃ W, W = (((w7.alloc (.cells #[.slice none 0 0, .int .i64 0, .bool false] 42)).alloc (.cells #[.int .i64 0, .int .i64 0, .int .i64 0, .int .i64 0, .string ⟨#[]⟩] 44)).setRow w7.heap.size #[.slice A3 d2.sectors.length c3, .int .i64 d2.left, .bool d2.down]).setRow (w7.heap.size + 1) #[.int .i64 g2.from_, .int .i64 g2.n, .int .i64 g2.end_, .int .i64 g2.safe, .string g2.tail] := ⟨_, rfl⟩
        rw [← hW8] at HD8 HX8 HS8 HK8 HB8
        rw [← hW8, ← hbd]
        clear hW8 hbd hC HD0 HL0 hd7 hb7 HFO1 HST HBX HBW
        have HOP1 := Lib.hid (HOP.out A3 c3 W8 HK8.out)
        clear HOP HK8
        go_upto_region 15 with (first
          | (with_reducible refine listLoad (by kernel_rfl) 42 (.tmp 11) rfl bd rfl #[.slice A3 d2.sectors.length c3, .int .i64 d2.left, .bool d2.down] _ HD8.out _ Try.underlying42 (by kernel_rfl) (by kernel_rfl) ?_)
          | (go_at_call 14; (with_reducible refine HOP1.out.mono ?_); rintro e w9 ⟨ps, v, h1, rfl, h2, h3, hb9⟩; (try dsimp only [logV]))
          | (with_reducible refine wpList_store_new rfl 44 (.tmp 14) (.tmp 84) rfl #[.int .i64 o.from_, .int .i64 o.n, .int .i64 o.end_, .int .i64 o.safe, .string o.tail] _ _ rfl (by kernel_rfl) (by kernel_rfl) (by kernel_rfl) (by kernel_rfl) ?_))
        obtain ⟨A9, c9, rfl⟩ := ownLen h2
        have hbn := pastAlloc (o := .cells #[.int .i64 o.from_, .int .i64 o.n, .int .i64 o.end_, .int .i64 o.safe, .string o.tail] 44) hb9
        have HX9 := Lib.hid (blkOld HX8.out hbn)
        have HS9 := Lib.hid (HS8.out.below hbn)
        have HB9 := Lib.hid (joinB HB8.out hbn)
        have HP9 := Lib.hid (own_reads (ownBelow h2 (allocB w9 (.cells #[.int .i64 o.from_, .int .i64 o.n, .int .i64 o.end_, .int .i64 o.safe, .string o.tail] 44))))
        have HQ9 := Lib.hid (recsN_recsT (h3.below (allocB w9 (.cells #[.int .i64 o.from_, .int .i64 o.n, .int .i64 o.end_, .int .i64 o.safe, .string o.tail] 44))))
        have HPS := Lib.hid h1
        obtain ⟨W9, hW9⟩ : ∃ W, W = w9.alloc (.cells #[.int .i64 o.from_, .int .i64 o.n, .int .i64 o.end_, .int .i64 o.safe, .string o.tail] 44) := ⟨_, rfl⟩
        rw [← hW9] at HX9 HS9 HB9 HP9 HQ9
        rw [← hW9]
        clear hW9 h1 h2 h3 hb9 hbn HX8 HS8 HB8 HD8 HOP1
        have hpl : ps.length = rs.length := by have := congrArg List.length HPS.out; rwa [List.length_map] at this
        have hpl2 : ps.length ≤ 7680 := by have := HRL.out; omega
        have HPL := Lib.hid hpl
        clear hpl
        go_wp2_with fail
        go_loopw [17, 18] (fun v i wr => ∃ (j : Nat) (TO : Option Addr) (tco : Nat), i = .int .i64 (j : Int) ∧ j ≤ ps.length ∧ v = .slice TO ((rs.take j).foldl Tx.noteT []).length tco ∧ TxR wr TO tco ((rs.take j).foldl Tx.noteT []) ∧ Below W9.heap.size W9 wr) (fun _ i _ => ps.length - (intOf i).toNat)
        case atStart => exact ⟨0, none, 0, rfl, Nat.zero_le _, rfl, Reads.none_ _ _ _ _, Below.refl _ _⟩
        case round =>
          obtain ⟨j, TO, tco, rfl, hj, rfl, htr, hbj⟩ := hrel
          have HTR := Lib.hid htr
          have HBJ := Lib.hid hbj
          clear htr hbj
          by_cases hjl : j < ps.length
          · have hj1 : (0 : Int) ≤ (j : Int) := by omega
            have hj2 : (j : Int) < (ps.length : Int) := by omega
            have hwj : IntKind.i64.wrap ((j : Int) + 1) = (j : Int) + 1 := IntWalk.i64_in _ (by omega)
            obtain ⟨b, off, rfl, hc, hbl, hcell⟩ := read_at recC_len (HP9.out.below HBJ.out) hjl
            have hjr : j < rs.length := by have := HPL.out; omega
            have hpj : (ps[j]).r = rs[j] := by
              have h9 := HPS.out
              (try simp only at h9)
              subst h9
              simp
            have HNT := Lib.hid (Tx.note_take hjr)
            have hfl := Tx.fold_len (rs.take j) []
            rw [List.length_nil, List.length_take] at hfl
            rw [← hpj] at HNT
            have HTN := Lib.hid (tnote_any ((rs.take j).foldl Tx.noteT []) (by omega) TO tco (ps[j]).r (ps[j]).A (ps[j]).B (ps[j]).r.txns.length (ps[j]).c (ps[j]).r.dirty.length (ps[j]).d wr HTR.out)
            rw [HNT.out] at HTN
            have HCELL := Lib.hid (show wr.rangeAt b (off + j * 18) (recC ps[j]) from hcell)
            generalize ps[j] = q at HTN HCELL
            generalize (rs.take j).foldl Tx.noteT [] = t0 at HTN HTR
            clear hcell hjr hpj HNT hfl
            obtain ⟨⟨lsn, prev, txn, kind, page, next, nu, ⟨ok, os, oo, on⟩, how, root, ⟨ek, ep, es⟩, ts, ds⟩, A5, c5, B5, d5⟩ := q
            dsimp only [recV, recA, recC] at HTN HCELL
            go_wp2_with (first
              | (with_reducible refine wpList_load_mid rfl 31 (.tmp 96) rfl b (off + j * 18) rfl [.int .i64 lsn, .int .i64 prev, .int .i64 txn, .int .i64 kind, .int .i64 page, .int .i64 next, .int .i64 nu, .int .i64 ok, .int .i64 os, .string oo, .string on, .int .i64 how, .int .i64 root, .string ek, .int .i64 ep, .int .i64 es, .slice A5 ts.length c5, .slice B5 ds.length d5] _ HCELL.out Try.underlying31 (by kernel_rfl) (by kernel_rfl) ?_)
              | (go_at_call 8; (with_reducible refine HTN.out.mono ?_); rintro e w10 ⟨A', c', rfl, hr10, -, hb10⟩))
            go_roundw
            case rel => exact ⟨j + 1, A', c', (by go_num), by omega, rfl, hr10, joinB HBJ.out hb10⟩
            case measure => simp [intOf]; omega
          · have hj2 : ¬ (j : Int) < (ps.length : Int) := by omega
            have hall : (rs.take j).foldl Tx.noteT [] = s.txns := by
              rw [List.take_of_length_le (by have := HPL.out; omega)]
              exact HFOLD.out
            have HTR2 := HTR.out
            have hlen : ((rs.take j).foldl Tx.noteT []).length = s.txns.length := by rw [hall]
            rw [hall] at HTR2
            have HTR3 := Lib.hid HTR2
            rw [hlen]
            have HTS := Lib.hid (fun W (hw : Below wr.heap.size wr W) => show Calls Try.prog 7 #[.slice TO s.txns.length tco, .slice p.T s.txns.length p.tc] W fun e w' => e = .returned (.bool true) ∧ Below W.heap.size W w' from by
              have h9 := rsame_txn s.txns s.txns (by omega) (by omega) TO p.T tco p.tc W (HTR3.out.below hw) ((HS9.out.tx.below HBJ.out).below hw)
              rw [decide_eq_true rfl] at h9
              exact h9)
            have HXR := Lib.hid (blkOld HX9.out HBJ.out)
            have HBR := Lib.hid (joinB HB9.out HBJ.out)
            clear HTR HTR2 hall hlen HFOLD HPS HP9 HQ9 HS9 HX9 HB9 HBJ HTR3
            go_wp2_with (first
              | (go_at_call 6; (with_reducible refine (HAW.out _).mono ?_); rintro e w11 ⟨rfl, hb11⟩; have hcs := blkCell (blkOld HXR.out hb11))
              | (go_at_call 7; (with_reducible refine (HTS.out _ hb11).mono ?_); rintro e w12 ⟨rfl, hb12⟩))
            go_ret
            exact ⟨by simp, joinB (joinB HBR.out hb11) hb12⟩
end Go.Proofs.Ythfglhafphfhiaa
