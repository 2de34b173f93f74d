/- The walk over the statement TxnPlays. -/
import Derived.Test.YthfglhafphfhiaaGreatGp11
import Derived.Test.YthfglhafphfhiaaGreatGp19
import Derived.BigRegion
namespace Tx
theorem safe_logB2 {N : Nat} {s : St} {l1 l2 : List Int} (h : Safe N s l1 l2) (hN : N ≤ 1000) : LogB s := by
  obtain ⟨_, _, _, d0, r1, r2, h4, _⟩ := h
  exact logB_of h4 hN
theorem safe_al {N : Nat} {s : St} {l1 l2 : List Int} (h : Safe N s l1 l2) : Lg.Al s.log := by
  obtain ⟨_, _, _, d0, r1, r2, h4, _⟩ := h
  exact h4.al
end Tx
namespace Go.Proofs.YthfglhafphfhiaaGreat
open Go.RowKit
set_option maxRecDepth 100000 in
set_option maxHeartbeats 8000000 in
theorem txnplays_any (n : Int) (l : List Tx.Deed) (A0 : Option Addr) (c0 : Nat) (hp : ∀ d ∈ l, d.n ≤ 9223372036854775807) (w : World) (hr : Reads w A0 c0 l.length (l.flatMap deC)) :
    Calls Tryz.prog 3 #[.int .i64 n, .slice A0 l.length c0] w fun e w' => e = .returned (.bool true) ∧ Below w.heap.size w w' := by
  have HAW := Lib.hid (fun W => tawake_any W)
  have HFE := Lib.hid (fun W => tfew_any n A0 l.length c0 W)
  have HR := Lib.hid hr
  have HP := Lib.hid hp
  clear hr hp
  cases hf : decide (0 ≤ n ∧ n ≤ 60 ∧ l.length ≤ 40) with
  | false =>
    rw [hf] at HFE
    clear hf HR
    go_enter Tryz.func3, Tryz.ntmps3
    go_wp2_with (first
      | (go_at_call 5; (with_reducible refine (HFE.out _).mono ?_); rintro e w1 ⟨rfl, hw1⟩; subst hw1)
      | (go_at_call 6; (with_reducible refine (HAW.out _).mono ?_); rintro e w2 ⟨rfl, hb2⟩))
    go_ret
    exact ⟨rfl, hb2⟩
  | true =>
    rw [hf] at HFE
    obtain ⟨hn0, hn1, hl40⟩ := of_decide_eq_true hf
    clear hf
    obtain ⟨N, rfl⟩ := Int.eq_ofNat_of_zero_le hn0
    have hN : N ≤ 60 := by omega
    have HFR := Lib.hid (fun W => tfresh_any N hN W)
    have HG0 := Lib.hid (Tx.safe_new N)
    have hnx : (Tx.fresh N).next = 1 := rfl
    have htx : (Tx.fresh N).txns.length = 0 := rfl
    have HNX0 := Lib.hid hnx
    have HTX0 := Lib.hid htx
    obtain ⟨s0, hs0⟩ : ∃ s, s = Tx.fresh N := ⟨_, rfl⟩
    rw [← hs0] at HFR HG0 HNX0 HTX0
    clear hs0 hnx htx hn0 hn1
    go_enter Tryz.func3, Tryz.ntmps3
    go_upto_region 4 with (first
      | (go_at_call 5; (with_reducible refine (HFE.out _).mono ?_); rintro e w1 ⟨rfl, hw1⟩; subst hw1)
      | (go_at_call 7; (with_reducible refine (HFR.out _).mono ?_); rintro e w2 ⟨p0, rfl, hs2, hp0, hb2⟩; (try dsimp only [storeV]))
      | (with_reducible refine wpList_store_new rfl 37 (.tmp 5) (.tmp 23) rfl #[.int .i64 s0.zlog, .int .i64 s0.zpages, .int .i64 s0.zframes, .slice p0.A s0.disk.sectors.length p0.c, .int .i64 s0.disk.left, .bool s0.disk.down, .int .i64 s0.log.from_, .int .i64 s0.log.n, .int .i64 s0.log.end_, .int .i64 s0.log.safe, .string s0.log.tail, .slice p0.F p0.fn p0.fc, .int .i64 s0.hand, .slice p0.T s0.txns.length p0.tc, .int .i64 s0.next] _ _ rfl (by kernel_rfl) (by kernel_rfl) (by kernel_rfl) (by kernel_rfl) ?_))
    have X0 := Lib.hid (heap_alloc_new w2 (.cells #[.int .i64 s0.zlog, .int .i64 s0.zpages, .int .i64 s0.zframes, .slice p0.A s0.disk.sectors.length p0.c, .int .i64 s0.disk.left, .bool s0.disk.down, .int .i64 s0.log.from_, .int .i64 s0.log.n, .int .i64 s0.log.end_, .int .i64 s0.log.safe, .string s0.log.tail, .slice p0.F p0.fn p0.fc, .int .i64 s0.hand, .slice p0.T s0.txns.length p0.tc, .int .i64 s0.next] 37))
    have S0 := Lib.hid (hs2.below (allocB w2 (.cells #[.int .i64 s0.zlog, .int .i64 s0.zpages, .int .i64 s0.zframes, .slice p0.A s0.disk.sectors.length p0.c, .int .i64 s0.disk.left, .bool s0.disk.down, .int .i64 s0.log.from_, .int .i64 s0.log.n, .int .i64 s0.log.end_, .int .i64 s0.log.safe, .string s0.log.tail, .slice p0.F p0.fn p0.fc, .int .i64 s0.hand, .slice p0.T s0.txns.length p0.tc, .int .i64 s0.next] 37)))
    have B0 := Lib.hid (pastAlloc (o := .cells #[.int .i64 s0.zlog, .int .i64 s0.zpages, .int .i64 s0.zframes, .slice p0.A s0.disk.sectors.length p0.c, .int .i64 s0.disk.left, .bool s0.disk.down, .int .i64 s0.log.from_, .int .i64 s0.log.n, .int .i64 s0.log.end_, .int .i64 s0.log.safe, .string s0.log.tail, .slice p0.F p0.fn p0.fc, .int .i64 s0.hand, .slice p0.T s0.txns.length p0.tc, .int .i64 s0.next] 37) hb2)
    have P0 := Lib.hid hp0.2.1
    have hgs0 := hb2.size
    obtain ⟨gs, hgs⟩ : ∃ g, g = w2.heap.size := ⟨_, rfl⟩
    obtain ⟨W0, hW0⟩ : ∃ W, W = w2.alloc (.cells #[.int .i64 s0.zlog, .int .i64 s0.zpages, .int .i64 s0.zframes, .slice p0.A s0.disk.sectors.length p0.c, .int .i64 s0.disk.left, .bool s0.disk.down, .int .i64 s0.log.from_, .int .i64 s0.log.n, .int .i64 s0.log.end_, .int .i64 s0.log.safe, .string s0.log.tail, .slice p0.F p0.fn p0.fc, .int .i64 s0.hand, .slice p0.T s0.txns.length p0.tc, .int .i64 s0.next] 37) := ⟨_, rfl⟩
    rw [← hgs] at X0 hgs0
    rw [← hW0] at X0 S0 B0
    rw [← hW0, ← hgs]
    clear hgs hW0 hs2 hb2 hp0 HFR HFE
    go_wp2_with fail
    go_loopw [6] (fun i wr => ∃ (k : Nat) (s : Tx.St) (p : SP) (la lt : List Int), i = .int .i64 (k : Int) ∧ k ≤ l.length ∧ Tx.Safe N s la lt ∧ s.txns.length ≤ 2 * k ∧ 1 ≤ s.next ∧ s.next ≤ (k : Int) + 1 ∧ p.fn = 0 ∧ StoreR wr s p ∧ wr.heap[gs]? = some (.cells #[.int .i64 s.zlog, .int .i64 s.zpages, .int .i64 s.zframes, .slice p.A s.disk.sectors.length p.c, .int .i64 s.disk.left, .bool s.disk.down, .int .i64 s.log.from_, .int .i64 s.log.n, .int .i64 s.log.end_, .int .i64 s.log.safe, .string s.log.tail, .slice p.F p.fn p.fc, .int .i64 s.hand, .slice p.T s.txns.length p.tc, .int .i64 s.next] 37 (0, 0)) ∧ Below w.heap.size w wr) (fun i _ => l.length - (intOf i).toNat)
    case atStart => exact ⟨0, s0, p0, [], [], rfl, Nat.zero_le _, HG0.out, by rw [HTX0.out]; exact Nat.zero_le _, by rw [HNX0.out]; exact Int.le_refl _, by rw [HNX0.out]; decide, P0.out, S0.out, X0.out, B0.out⟩
    case round =>
      obtain ⟨k, s, p, la, lt, rfl, hk, hgd, htl, hx1, hx2, hpf, hst, hbx, hbw⟩ := hrel
      have HGD := Lib.hid hgd
      have HST := Lib.hid hst
      have HBX := Lib.hid hbx
      have HBW := Lib.hid hbw
      have HPF := Lib.hid hpf
      clear hgd hst hbx hbw hpf X0 S0 B0 P0 HG0 HNX0 HTX0
      by_cases hlt : k < l.length
      · have hki : (k : Int) < (l.length : Int) := by omega
        have hk0 : (0 : Int) ≤ (k : Int) := by omega
        have hwk : IntKind.i64.wrap ((k : Int) + 1) = (k : Int) + 1 := IntWalk.i64_in _ (by omega)
        obtain ⟨b, off, rfl, hc, hbl, hcell⟩ := read_at deC_len HR.out hlt
        have HCW := Lib.hid (show ∀ u, Below w.heap.size w u → u.rangeAt b (off + k * 3) (deC l[k]) from fun u hu j v hj => by rw [hu.cell (p := ⟨b, off + k * 3 + j, none⟩) hbl]; exact hcell j v hj)
        have HLB := Lib.hid (Tx.safe_logB2 HGD.out (by omega))
        have HLF := Lib.hid HGD.out.left
        have HDOC := Lib.hid (fun W (hw : Below wr.heap.size wr W) => tdo_any s p HLB.out (by omega) (by omega) (by omega) (by have := HLF.out; omega) l[k] W (HST.out.below hw))
        have HWAN := Lib.hid (fun W (hw : Below wr.heap.size wr W) => rwant_any s p HLB.out (Tx.safe_al HGD.out) (by omega) (by omega) (by omega) (by have := HLF.out; omega) l[k] W (HST.out.below hw))
        have HGO := Lib.hid (Tx.safe_do HGD.out l[k] (HP.out _ (List.getElem_mem hlt)))
        have HDL := Lib.hid (Tx.do_len s l[k])
        have HDN := Lib.hid (Tx.do_next s l[k])
        obtain ⟨d, hd⟩ : ∃ d, d = l[k] := ⟨_, rfl⟩
        rw [← hd] at HDOC HWAN HGO HDL HDN HCW
        clear hd hcell HLB HLF
        generalize Tx.doS s d = y at HDOC HWAN HGO HDL HDN
        obtain ⟨s9, m9, e9⟩ := y
        obtain ⟨dk, dt, dm⟩ := d
        dsimp only [storeV, deedV, deC] at HDOC HWAN HCW
        simp only at HGO HDL HDN
        obtain ⟨a1, a2⟩ := HDN.out
        have a3 := HDL.out
        have HGD9 := Lib.hid (show ∃ la lt, Tx.Safe N s9 la lt from ⟨_, _, HGO.out⟩)
        clear HGO HDL HDN
        have HRG := Lib.hid (fun u (hu : Below wr.heap.size wr u) => HCW.out u (joinB HBW.out hu))
        have hn9 : s9.txns.length ≤ 800000 := by omega
        have HLN := Lib.hid (show s9.disk.sectors.length ≤ 1000000 from by obtain ⟨_, _, h⟩ := HGD9.out; rw [h.len]; omega)
        have HFD := Lib.hid (fun q W (hs : StoreR W s9 q) => tfind_any s9 q dt hn9 W hs)
        have HRF := Lib.hid (fun q W (hs : StoreR W s9 q) => rfind_any s9 q dt hn9 W hs)
        have HMK := Lib.hid (fun q W (hs : StoreR W s9 q) => tmark_any s9 q dt hn9 W hs)
        have HRM := Lib.hid (fun q W (hs : StoreR W s9 q) => rmark_any s9 q dt hn9 W hs)
        have HSAME := Lib.hid (fun p' q (h1 : p'.fn = 0) (h2 : q.fn = 0) W (hs : StoreR W s9 p') (ht : StoreR W s9 q) => rsamest_any s9 p' q h1 h2 hn9 HLN.out W hs ht)
        generalize Tx.findS s9 dt = fx at HFD HRF
        generalize Tx.markS s9 dt = mk at HMK HRM
        obtain ⟨⟨xt, xl, xn, xd⟩, ok⟩ := fx
        dsimp only [storeV, txV] at HFD HRF HMK HRM HSAME
        have HTE := Lib.hid (show ∀ W, (Op.equalIn 10000 45 (.agg #[.int .i64 xt, .int .i64 xl, .int .i64 xn, .bool xd]) (.agg #[.int .i64 xt, .int .i64 xl, .int .i64 xn, .bool xd])).run Tryz.prog W = .ok true W from fun W => by
          have h9 := txn_equal ⟨xt, xl, xn, xd⟩ ⟨xt, xl, xn, xd⟩ W
          rw [decide_eq_true rfl] at h9
          exact h9)
        go_upto_region 7 with fail
        go_cut [7, 8, 9] (fun x y z wc => ∃ (gt : Nat) (p9 : SP), x = .pointer (some ⟨gt, 0, none⟩) ∧ y = .int .i64 m9 ∧ z = .int .i64 e9 ∧ wc.heap[gt]? = some (.cells #[.int .i64 s9.zlog, .int .i64 s9.zpages, .int .i64 s9.zframes, .slice p9.A s9.disk.sectors.length p9.c, .int .i64 s9.disk.left, .bool s9.disk.down, .int .i64 s9.log.from_, .int .i64 s9.log.n, .int .i64 s9.log.end_, .int .i64 s9.log.safe, .string s9.log.tail, .slice p9.F p9.fn p9.fc, .int .i64 s9.hand, .slice p9.T s9.txns.length p9.tc, .int .i64 s9.next] 37 (0, 0)) ∧ StoreR wc s9 p9 ∧ p9.fn = 0 ∧ Below wr.heap.size wr wc)
        case first =>
          clear HWAN HFD HRF HMK HRM HSAME HTE HGD9 HLN
          have Z0 : Below wr.heap.size wr wr.drew := (Below.refl _ wr).drew
          refine wp_region_held_drew (S := (fun u => Below wr.heap.size wr u)) (by kernel_rfl) ?_ (fun hHeld => ?_)
          · exact Z0
          refine tkV 0 (some 31) (v := .agg #[.int .i64 s.zlog, .int .i64 s.zpages, .int .i64 s.zframes, .slice p.A s.disk.sectors.length p.c, .int .i64 s.disk.left, .bool s.disk.down, .int .i64 s.log.from_, .int .i64 s.log.n, .int .i64 s.log.end_, .int .i64 s.log.safe, .string s.log.tail, .slice p.F p.fn p.fc, .int .i64 s.hand, .slice p.T s.txns.length p.tc, .int .i64 s.next]) rfl (yieldsIf_load_mid (by rfl) 37 (.tmp 5) rfl gs 0 (by rfl) #[.int .i64 s.zlog, .int .i64 s.zpages, .int .i64 s.zframes, .slice p.A s.disk.sectors.length p.c, .int .i64 s.disk.left, .bool s.disk.down, .int .i64 s.log.from_, .int .i64 s.log.n, .int .i64 s.log.end_, .int .i64 s.log.safe, .string s.log.tail, .slice p.F p.fn p.fc, .int .i64 s.hand, .slice p.T s.txns.length p.tc, .int .i64 s.next].toList _ (fun u hu => (by intro j v hj; rw [Nat.zero_add, blkCell (blkOld HBX.out hu)]; simpa using hj)) Tryz.underlying37 (by kernel_rfl) (by kernel_rfl)) ?_
          try simp only [Act.put, List.setIfInBounds_toArray, List.set_cons_zero, List.set_cons_succ]
          refine tkW 1 (some 32) (v := ?_) rfl ?_ ?_
          rotate_left
          · intro u hSu; clear hSu; go_simp; (try with_reducible rfl)
          try simp only [Act.put, List.setIfInBounds_toArray, List.set_cons_zero, List.set_cons_succ]
          refine tkW 2 (some 33) (v := ?_) rfl ?_ ?_
          rotate_left
          · intro u hSu; clear hSu; go_simp; (try with_reducible rfl)
          try simp only [Act.put, List.setIfInBounds_toArray, List.set_cons_zero, List.set_cons_succ]
          refine tkW 3 (some 34) (v := ?_) rfl ?_ ?_
          rotate_left
          · intro u hSu; clear hSu; go_simp; (try with_reducible rfl)
          try simp only [Act.put, List.setIfInBounds_toArray, List.set_cons_zero, List.set_cons_succ]
          refine tkV 4 (some 35) (v := .agg #[.int .i64 dk, .int .i64 dt, .int .i64 dm]) rfl (yieldsIf_load_mid (by rfl) 43 (.tmp 34) rfl b (off + k * 3) (by rfl) [.int .i64 dk, .int .i64 dt, .int .i64 dm] _ (fun u hu => HRG.out u hu) Tryz.underlying43 (by kernel_rfl) (by kernel_rfl)) ?_
          try simp only [Act.put, List.setIfInBounds_toArray, List.set_cons_zero, List.set_cons_succ]
          refine wpAnyH_ready (rs := [5, 10]) (by kernel_rfl) (by simp) ?_
          refine (AllReadyH.cons (o := { dst := some 36, op := _, type := _, pos := _, after := _, guard := _ }) rfl (fun K hK => ?_) (AllReadyH.cons (o := { dst := some 7, op := _, type := _, pos := _, after := _, guard := _ }) rfl (fun K hK => ?_) AllReadyH.nil))
          ·
            go_simp
            refine (HDOC.out _ Z0).mono ?_; rintro e w5 ⟨p9, rfl, hs5, hf5, hb5⟩; have HF5 := Lib.hid hf5; clear hf5; (try dsimp only [storeV]); have Z2 := joinB Z0 hb5; try clear hSn
            have hSn := Z2
            refine hK.out _ _ ?_ (fun hHeld => ?_)
            · exact hSn
            clear hK K
            try simp only [Act.put, List.setIfInBounds_toArray, List.set_cons_zero, List.set_cons_succ]
            refine tkW 6 (some 30) (v := ?_) rfl ?_ ?_
            rotate_left
            · intro u hSu; clear hSu; go_simp; (try with_reducible rfl)
            try simp only [Act.put, List.setIfInBounds_toArray, List.set_cons_zero, List.set_cons_succ]
            refine tkW 7 (some 37) (v := ?_) rfl ?_ ?_
            rotate_left
            · intro u hSu; clear hSu; go_simp; (try with_reducible rfl)
            try simp only [Act.put, List.setIfInBounds_toArray, List.set_cons_zero, List.set_cons_succ]
            refine tkW 8 (some 38) (v := ?_) rfl ?_ ?_
            rotate_left
            · intro u hSu; clear hSu; go_simp; (try with_reducible rfl)
            try simp only [Act.put, List.setIfInBounds_toArray, List.set_cons_zero, List.set_cons_succ]
            refine tkW 9 (some 39) (v := ?_) rfl ?_ ?_
            rotate_left
            · intro u hSu; clear hSu; go_simp; (try with_reducible rfl)
            try simp only [Act.put, List.setIfInBounds_toArray, List.set_cons_zero, List.set_cons_succ]
            refine rdH 10 (some 7) rfl (fun K hK => ?_)
            go_simp
            have HG := heap_alloc_new w5 (.cells #[.int .i64 0, .int .i64 0, .int .i64 0, .slice none 0 0, .int .i64 0, .bool false, .int .i64 0, .int .i64 0, .int .i64 0, .int .i64 0, .string ⟨#[]⟩, .slice none 0 0, .int .i64 0, .slice none 0 0, .int .i64 0] 37); have Z3 := joinB Z2 (allocB w5 (.cells #[.int .i64 0, .int .i64 0, .int .i64 0, .slice none 0 0, .int .i64 0, .bool false, .int .i64 0, .int .i64 0, .int .i64 0, .int .i64 0, .string ⟨#[]⟩, .slice none 0 0, .int .i64 0, .slice none 0 0, .int .i64 0] 37)); have hs6 := hs5.below (allocB w5 (.cells #[.int .i64 0, .int .i64 0, .int .i64 0, .slice none 0 0, .int .i64 0, .bool false, .int .i64 0, .int .i64 0, .int .i64 0, .int .i64 0, .string ⟨#[]⟩, .slice none 0 0, .int .i64 0, .slice none 0 0, .int .i64 0] 37)); clear hSn; have hSn := Z3
            refine hK.out _ _ ?_ (fun hHeld => ?_)
            · exact hSn
            clear hK K
            try simp only [Act.put, List.setIfInBounds_toArray, List.set_cons_zero, List.set_cons_succ]
            refine rdH 11 none rfl (fun K hK => ?_)
            refine wantedIf (by rfl) ?_
            refine wp_store_whole 37 (.tmp 7) (.tmp 37) rfl w5.heap.size #[.int .i64 s9.zlog, .int .i64 s9.zpages, .int .i64 s9.zframes, .slice p9.A s9.disk.sectors.length p9.c, .int .i64 s9.disk.left, .bool s9.disk.down, .int .i64 s9.log.from_, .int .i64 s9.log.n, .int .i64 s9.log.end_, .int .i64 s9.log.safe, .string s9.log.tail, .slice p9.F p9.fn p9.fc, .int .i64 s9.hand, .slice p9.T s9.txns.length p9.tc, .int .i64 s9.next] _ _ rfl rfl HG (by kernel_rfl) (by kernel_rfl) (by kernel_rfl) ?_
            have Z4 := below_setRow Z3 (g := w5.heap.size) (by have := Z2.size; omega) #[.int .i64 s9.zlog, .int .i64 s9.zpages, .int .i64 s9.zframes, .slice p9.A s9.disk.sectors.length p9.c, .int .i64 s9.disk.left, .bool s9.disk.down, .int .i64 s9.log.from_, .int .i64 s9.log.n, .int .i64 s9.log.end_, .int .i64 s9.log.safe, .string s9.log.tail, .slice p9.F p9.fn p9.fc, .int .i64 s9.hand, .slice p9.T s9.txns.length p9.tc, .int .i64 s9.next]
            have HG4 := setRow_heap _ _ _ #[.int .i64 s9.zlog, .int .i64 s9.zpages, .int .i64 s9.zframes, .slice p9.A s9.disk.sectors.length p9.c, .int .i64 s9.disk.left, .bool s9.disk.down, .int .i64 s9.log.from_, .int .i64 s9.log.n, .int .i64 s9.log.end_, .int .i64 s9.log.safe, .string s9.log.tail, .slice p9.F p9.fn p9.fc, .int .i64 s9.hand, .slice p9.T s9.txns.length p9.tc, .int .i64 s9.next] _ _ HG
            have hs7 := hs6.other HG (by decide) (by decide) #[.int .i64 s9.zlog, .int .i64 s9.zpages, .int .i64 s9.zframes, .slice p9.A s9.disk.sectors.length p9.c, .int .i64 s9.disk.left, .bool s9.disk.down, .int .i64 s9.log.from_, .int .i64 s9.log.n, .int .i64 s9.log.end_, .int .i64 s9.log.safe, .string s9.log.tail, .slice p9.F p9.fn p9.fc, .int .i64 s9.hand, .slice p9.T s9.txns.length p9.tc, .int .i64 s9.next]
            clear hSn
            have hSn := Z4
            refine hK.out _ _ ?_ (fun hHeld => ?_)
            · exact hSn
            clear hK K
            try simp only [Act.put]
            refine tkW 12 (some 8) (v := ?_) rfl ?_ ?_
            rotate_left
            · intro u hSu; clear hSu; go_simp; (try with_reducible rfl)
            try simp only [Act.put, List.setIfInBounds_toArray, List.set_cons_zero, List.set_cons_succ]
            refine tkW 13 (some 9) (v := ?_) rfl ?_ ?_
            rotate_left
            · intro u hSu; clear hSu; go_simp; (try with_reducible rfl)
            try simp only [Act.put, List.setIfInBounds_toArray, List.set_cons_zero, List.set_cons_succ]
            refine wpAnyH_done (by kernel_rfl) ?_ _
            clear hHeld hSn
            go_wp2_with fail
            go_meet
            case rel => exact ⟨_, p9, rfl, rfl, rfl, HG4, hs7, HF5.out.2.1.trans HPF.out, Z4⟩
          ·
            go_simp
            have Z1 := joinB Z0 (allocB wr.drew (.cells #[.int .i64 0, .int .i64 0, .int .i64 0, .slice none 0 0, .int .i64 0, .bool false, .int .i64 0, .int .i64 0, .int .i64 0, .int .i64 0, .string ⟨#[]⟩, .slice none 0 0, .int .i64 0, .slice none 0 0, .int .i64 0] 37)); have hSn := Z1
            refine hK.out _ _ ?_ (fun hHeld => ?_)
            · exact hSn
            clear hK K
            try simp only [Act.put, List.setIfInBounds_toArray, List.set_cons_zero, List.set_cons_succ]
            refine rdH 5 (some 36) rfl (fun K hK => ?_)
            go_simp
            refine (HDOC.out _ Z1).mono ?_; rintro e w5 ⟨p9, rfl, hs5, hf5, hb5⟩; have HF5 := Lib.hid hf5; clear hf5; (try dsimp only [storeV]); have Z2 := joinB Z1 hb5; try clear hSn
            have hSn := Z2
            have HG := blkNew hb5
            refine hK.out _ _ ?_ (fun hHeld => ?_)
            · exact hSn
            clear hK K
            try simp only [Act.put, List.setIfInBounds_toArray, List.set_cons_zero, List.set_cons_succ]
            refine tkW 6 (some 30) (v := ?_) rfl ?_ ?_
            rotate_left
            · intro u hSu; clear hSu; go_simp; (try with_reducible rfl)
            try simp only [Act.put, List.setIfInBounds_toArray, List.set_cons_zero, List.set_cons_succ]
            refine tkW 7 (some 37) (v := ?_) rfl ?_ ?_
            rotate_left
            · intro u hSu; clear hSu; go_simp; (try with_reducible rfl)
            try simp only [Act.put, List.setIfInBounds_toArray, List.set_cons_zero, List.set_cons_succ]
            refine tkW 8 (some 38) (v := ?_) rfl ?_ ?_
            rotate_left
            · intro u hSu; clear hSu; go_simp; (try with_reducible rfl)
            try simp only [Act.put, List.setIfInBounds_toArray, List.set_cons_zero, List.set_cons_succ]
            refine tkW 9 (some 39) (v := ?_) rfl ?_ ?_
            rotate_left
            · intro u hSu; clear hSu; go_simp; (try with_reducible rfl)
            try simp only [Act.put, List.setIfInBounds_toArray, List.set_cons_zero, List.set_cons_succ]
            refine rdH 11 none rfl (fun K hK => ?_)
            refine wantedIf (by rfl) ?_
            refine wp_store_whole 37 (.tmp 7) (.tmp 37) rfl wr.drew.heap.size #[.int .i64 s9.zlog, .int .i64 s9.zpages, .int .i64 s9.zframes, .slice p9.A s9.disk.sectors.length p9.c, .int .i64 s9.disk.left, .bool s9.disk.down, .int .i64 s9.log.from_, .int .i64 s9.log.n, .int .i64 s9.log.end_, .int .i64 s9.log.safe, .string s9.log.tail, .slice p9.F p9.fn p9.fc, .int .i64 s9.hand, .slice p9.T s9.txns.length p9.tc, .int .i64 s9.next] _ _ rfl rfl HG (by kernel_rfl) (by kernel_rfl) (by kernel_rfl) ?_
            have Z4 := below_setRow Z2 (g := wr.drew.heap.size) (by show wr.heap.size ≤ wr.heap.size; omega) #[.int .i64 s9.zlog, .int .i64 s9.zpages, .int .i64 s9.zframes, .slice p9.A s9.disk.sectors.length p9.c, .int .i64 s9.disk.left, .bool s9.disk.down, .int .i64 s9.log.from_, .int .i64 s9.log.n, .int .i64 s9.log.end_, .int .i64 s9.log.safe, .string s9.log.tail, .slice p9.F p9.fn p9.fc, .int .i64 s9.hand, .slice p9.T s9.txns.length p9.tc, .int .i64 s9.next]
            have HG4 := setRow_heap _ _ _ #[.int .i64 s9.zlog, .int .i64 s9.zpages, .int .i64 s9.zframes, .slice p9.A s9.disk.sectors.length p9.c, .int .i64 s9.disk.left, .bool s9.disk.down, .int .i64 s9.log.from_, .int .i64 s9.log.n, .int .i64 s9.log.end_, .int .i64 s9.log.safe, .string s9.log.tail, .slice p9.F p9.fn p9.fc, .int .i64 s9.hand, .slice p9.T s9.txns.length p9.tc, .int .i64 s9.next] _ _ HG
            have hs7 := hs5.other HG (by decide) (by decide) #[.int .i64 s9.zlog, .int .i64 s9.zpages, .int .i64 s9.zframes, .slice p9.A s9.disk.sectors.length p9.c, .int .i64 s9.disk.left, .bool s9.disk.down, .int .i64 s9.log.from_, .int .i64 s9.log.n, .int .i64 s9.log.end_, .int .i64 s9.log.safe, .string s9.log.tail, .slice p9.F p9.fn p9.fc, .int .i64 s9.hand, .slice p9.T s9.txns.length p9.tc, .int .i64 s9.next]
            clear hSn
            have hSn := Z4
            refine hK.out _ _ ?_ (fun hHeld => ?_)
            · exact hSn
            clear hK K
            try simp only [Act.put]
            refine tkW 12 (some 8) (v := ?_) rfl ?_ ?_
            rotate_left
            · intro u hSu; clear hSu; go_simp; (try with_reducible rfl)
            try simp only [Act.put, List.setIfInBounds_toArray, List.set_cons_zero, List.set_cons_succ]
            refine tkW 13 (some 9) (v := ?_) rfl ?_ ?_
            rotate_left
            · intro u hSu; clear hSu; go_simp; (try with_reducible rfl)
            try simp only [Act.put, List.setIfInBounds_toArray, List.set_cons_zero, List.set_cons_succ]
            refine wpAnyH_done (by kernel_rfl) ?_ _
            clear hHeld hSn
            go_wp2_with fail
            go_meet
            case rel => exact ⟨_, p9, rfl, rfl, rfl, HG4, hs7, HF5.out.2.1.trans HPF.out, Z4⟩
        case rest =>
          obtain ⟨ga, pa, rfl, rfl, rfl, hga, hsa, hpa, hba⟩ := hcut
          obtain ⟨w1, rfl⟩ : ∃ wm : World, wm = wc := ⟨_, rfl⟩
          have HA1 := Lib.hid hga
          have HSA1 := Lib.hid hsa
          have HPA := Lib.hid hpa
          have HB1 := Lib.hid hba
          have HBX1 := Lib.hid (blkOld HBX.out hba)
          clear hga hsa hpa hba HDOC
          go_upto_region 8 with fail
          go_cut [10, 11, 12] (fun x y z wc => ∃ (gt : Nat) (p9 : SP), x = .pointer (some ⟨gt, 0, none⟩) ∧ y = .int .i64 m9 ∧ z = .int .i64 e9 ∧ wc.heap[gt]? = some (.cells #[.int .i64 s9.zlog, .int .i64 s9.zpages, .int .i64 s9.zframes, .slice p9.A s9.disk.sectors.length p9.c, .int .i64 s9.disk.left, .bool s9.disk.down, .int .i64 s9.log.from_, .int .i64 s9.log.n, .int .i64 s9.log.end_, .int .i64 s9.log.safe, .string s9.log.tail, .slice p9.F p9.fn p9.fc, .int .i64 s9.hand, .slice p9.T s9.txns.length p9.tc, .int .i64 s9.next] 37 (0, 0)) ∧ StoreR wc s9 p9 ∧ p9.fn = 0 ∧ Below w1.heap.size w1 wc)
          case first =>
            clear HFD HRF HMK HRM HSAME HTE HGD9 HLN
            have Z0 : Below w1.heap.size w1 w1.drew := (Below.refl _ w1).drew
            refine wp_region_held_drew (S := (fun u => Below w1.heap.size w1 u)) (by kernel_rfl) ?_ (fun hHeld => ?_)
            · exact Z0
            refine tkV 0 (some 41) (v := .agg #[.int .i64 s.zlog, .int .i64 s.zpages, .int .i64 s.zframes, .slice p.A s.disk.sectors.length p.c, .int .i64 s.disk.left, .bool s.disk.down, .int .i64 s.log.from_, .int .i64 s.log.n, .int .i64 s.log.end_, .int .i64 s.log.safe, .string s.log.tail, .slice p.F p.fn p.fc, .int .i64 s.hand, .slice p.T s.txns.length p.tc, .int .i64 s.next]) rfl (yieldsIf_load_mid (by rfl) 37 (.tmp 5) rfl gs 0 (by rfl) #[.int .i64 s.zlog, .int .i64 s.zpages, .int .i64 s.zframes, .slice p.A s.disk.sectors.length p.c, .int .i64 s.disk.left, .bool s.disk.down, .int .i64 s.log.from_, .int .i64 s.log.n, .int .i64 s.log.end_, .int .i64 s.log.safe, .string s.log.tail, .slice p.F p.fn p.fc, .int .i64 s.hand, .slice p.T s.txns.length p.tc, .int .i64 s.next].toList _ (fun u hu => (by intro j v hj; rw [Nat.zero_add, blkCell (blkOld HBX1.out hu)]; simpa using hj)) Tryz.underlying37 (by kernel_rfl) (by kernel_rfl)) ?_
            try simp only [Act.put, List.setIfInBounds_toArray, List.set_cons_zero, List.set_cons_succ]
            refine tkW 1 (some 42) (v := ?_) rfl ?_ ?_
            rotate_left
            · intro u hSu; clear hSu; go_simp; (try with_reducible rfl)
            try simp only [Act.put, List.setIfInBounds_toArray, List.set_cons_zero, List.set_cons_succ]
            refine tkW 2 (some 43) (v := ?_) rfl ?_ ?_
            rotate_left
            · intro u hSu; clear hSu; go_simp; (try with_reducible rfl)
            try simp only [Act.put, List.setIfInBounds_toArray, List.set_cons_zero, List.set_cons_succ]
            refine tkW 3 (some 44) (v := ?_) rfl ?_ ?_
            rotate_left
            · intro u hSu; clear hSu; go_simp; (try with_reducible rfl)
            try simp only [Act.put, List.setIfInBounds_toArray, List.set_cons_zero, List.set_cons_succ]
            refine tkV 4 (some 45) (v := .agg #[.int .i64 dk, .int .i64 dt, .int .i64 dm]) rfl (yieldsIf_load_mid (by rfl) 43 (.tmp 44) rfl b (off + k * 3) (by rfl) [.int .i64 dk, .int .i64 dt, .int .i64 dm] _ (fun u hu => HRG.out u (joinB HB1.out hu)) Tryz.underlying43 (by kernel_rfl) (by kernel_rfl)) ?_
            try simp only [Act.put, List.setIfInBounds_toArray, List.set_cons_zero, List.set_cons_succ]
            refine wpAnyH_ready (rs := [5, 10]) (by kernel_rfl) (by simp) ?_
            refine (AllReadyH.cons (o := { dst := some 46, op := _, type := _, pos := _, after := _, guard := _ }) rfl (fun K hK => ?_) (AllReadyH.cons (o := { dst := some 10, op := _, type := _, pos := _, after := _, guard := _ }) rfl (fun K hK => ?_) AllReadyH.nil))
            ·
              go_simp
              refine (HWAN.out _ (joinB HB1.out Z0)).mono ?_; rintro e w5 ⟨p9, rfl, hs5, hf5, hb5⟩; have HF5 := Lib.hid hf5; clear hf5; (try dsimp only [storeV]); have Z2 := joinB Z0 hb5; try clear hSn
              have hSn := Z2
              refine hK.out _ _ ?_ (fun hHeld => ?_)
              · exact hSn
              clear hK K
              try simp only [Act.put, List.setIfInBounds_toArray, List.set_cons_zero, List.set_cons_succ]
              refine tkW 6 (some 40) (v := ?_) rfl ?_ ?_
              rotate_left
              · intro u hSu; clear hSu; go_simp; (try with_reducible rfl)
              try simp only [Act.put, List.setIfInBounds_toArray, List.set_cons_zero, List.set_cons_succ]
              refine tkW 7 (some 47) (v := ?_) rfl ?_ ?_
              rotate_left
              · intro u hSu; clear hSu; go_simp; (try with_reducible rfl)
              try simp only [Act.put, List.setIfInBounds_toArray, List.set_cons_zero, List.set_cons_succ]
              refine tkW 8 (some 48) (v := ?_) rfl ?_ ?_
              rotate_left
              · intro u hSu; clear hSu; go_simp; (try with_reducible rfl)
              try simp only [Act.put, List.setIfInBounds_toArray, List.set_cons_zero, List.set_cons_succ]
              refine tkW 9 (some 49) (v := ?_) rfl ?_ ?_
              rotate_left
              · intro u hSu; clear hSu; go_simp; (try with_reducible rfl)
              try simp only [Act.put, List.setIfInBounds_toArray, List.set_cons_zero, List.set_cons_succ]
              refine rdH 10 (some 10) rfl (fun K hK => ?_)
              go_simp
              have HG := heap_alloc_new w5 (.cells #[.int .i64 0, .int .i64 0, .int .i64 0, .slice none 0 0, .int .i64 0, .bool false, .int .i64 0, .int .i64 0, .int .i64 0, .int .i64 0, .string ⟨#[]⟩, .slice none 0 0, .int .i64 0, .slice none 0 0, .int .i64 0] 37); have Z3 := joinB Z2 (allocB w5 (.cells #[.int .i64 0, .int .i64 0, .int .i64 0, .slice none 0 0, .int .i64 0, .bool false, .int .i64 0, .int .i64 0, .int .i64 0, .int .i64 0, .string ⟨#[]⟩, .slice none 0 0, .int .i64 0, .slice none 0 0, .int .i64 0] 37)); have hs6 := hs5.below (allocB w5 (.cells #[.int .i64 0, .int .i64 0, .int .i64 0, .slice none 0 0, .int .i64 0, .bool false, .int .i64 0, .int .i64 0, .int .i64 0, .int .i64 0, .string ⟨#[]⟩, .slice none 0 0, .int .i64 0, .slice none 0 0, .int .i64 0] 37)); clear hSn; have hSn := Z3
              refine hK.out _ _ ?_ (fun hHeld => ?_)
              · exact hSn
              clear hK K
              try simp only [Act.put, List.setIfInBounds_toArray, List.set_cons_zero, List.set_cons_succ]
              refine rdH 11 none rfl (fun K hK => ?_)
              refine wantedIf (by rfl) ?_
              refine wp_store_whole 37 (.tmp 10) (.tmp 47) rfl w5.heap.size #[.int .i64 s9.zlog, .int .i64 s9.zpages, .int .i64 s9.zframes, .slice p9.A s9.disk.sectors.length p9.c, .int .i64 s9.disk.left, .bool s9.disk.down, .int .i64 s9.log.from_, .int .i64 s9.log.n, .int .i64 s9.log.end_, .int .i64 s9.log.safe, .string s9.log.tail, .slice p9.F p9.fn p9.fc, .int .i64 s9.hand, .slice p9.T s9.txns.length p9.tc, .int .i64 s9.next] _ _ rfl rfl HG (by kernel_rfl) (by kernel_rfl) (by kernel_rfl) ?_
              have Z4 := below_setRow Z3 (g := w5.heap.size) (by have := Z2.size; omega) #[.int .i64 s9.zlog, .int .i64 s9.zpages, .int .i64 s9.zframes, .slice p9.A s9.disk.sectors.length p9.c, .int .i64 s9.disk.left, .bool s9.disk.down, .int .i64 s9.log.from_, .int .i64 s9.log.n, .int .i64 s9.log.end_, .int .i64 s9.log.safe, .string s9.log.tail, .slice p9.F p9.fn p9.fc, .int .i64 s9.hand, .slice p9.T s9.txns.length p9.tc, .int .i64 s9.next]
              have HG4 := setRow_heap _ _ _ #[.int .i64 s9.zlog, .int .i64 s9.zpages, .int .i64 s9.zframes, .slice p9.A s9.disk.sectors.length p9.c, .int .i64 s9.disk.left, .bool s9.disk.down, .int .i64 s9.log.from_, .int .i64 s9.log.n, .int .i64 s9.log.end_, .int .i64 s9.log.safe, .string s9.log.tail, .slice p9.F p9.fn p9.fc, .int .i64 s9.hand, .slice p9.T s9.txns.length p9.tc, .int .i64 s9.next] _ _ HG
              have hs7 := hs6.other HG (by decide) (by decide) #[.int .i64 s9.zlog, .int .i64 s9.zpages, .int .i64 s9.zframes, .slice p9.A s9.disk.sectors.length p9.c, .int .i64 s9.disk.left, .bool s9.disk.down, .int .i64 s9.log.from_, .int .i64 s9.log.n, .int .i64 s9.log.end_, .int .i64 s9.log.safe, .string s9.log.tail, .slice p9.F p9.fn p9.fc, .int .i64 s9.hand, .slice p9.T s9.txns.length p9.tc, .int .i64 s9.next]
              clear hSn
              have hSn := Z4
              refine hK.out _ _ ?_ (fun hHeld => ?_)
              · exact hSn
              clear hK K
              try simp only [Act.put]
              refine tkW 12 (some 11) (v := ?_) rfl ?_ ?_
              rotate_left
              · intro u hSu; clear hSu; go_simp; (try with_reducible rfl)
              try simp only [Act.put, List.setIfInBounds_toArray, List.set_cons_zero, List.set_cons_succ]
              refine tkW 13 (some 12) (v := ?_) rfl ?_ ?_
              rotate_left
              · intro u hSu; clear hSu; go_simp; (try with_reducible rfl)
              try simp only [Act.put, List.setIfInBounds_toArray, List.set_cons_zero, List.set_cons_succ]
              refine wpAnyH_done (by kernel_rfl) ?_ _
              clear hHeld hSn
              go_wp2_with fail
              go_meet
              case rel => exact ⟨_, p9, rfl, rfl, rfl, HG4, hs7, HF5.out.2.1.trans HPF.out, Z4⟩
            ·
              go_simp
              have Z1 := joinB Z0 (allocB w1.drew (.cells #[.int .i64 0, .int .i64 0, .int .i64 0, .slice none 0 0, .int .i64 0, .bool false, .int .i64 0, .int .i64 0, .int .i64 0, .int .i64 0, .string ⟨#[]⟩, .slice none 0 0, .int .i64 0, .slice none 0 0, .int .i64 0] 37)); have hSn := Z1
              refine hK.out _ _ ?_ (fun hHeld => ?_)
              · exact hSn
              clear hK K
              try simp only [Act.put, List.setIfInBounds_toArray, List.set_cons_zero, List.set_cons_succ]
              refine rdH 5 (some 46) rfl (fun K hK => ?_)
              go_simp
              refine (HWAN.out _ (joinB HB1.out Z1)).mono ?_; rintro e w5 ⟨p9, rfl, hs5, hf5, hb5⟩; have HF5 := Lib.hid hf5; clear hf5; (try dsimp only [storeV]); have Z2 := joinB Z1 hb5; try clear hSn
              have hSn := Z2
              have HG := blkNew hb5
              refine hK.out _ _ ?_ (fun hHeld => ?_)
              · exact hSn
              clear hK K
              try simp only [Act.put, List.setIfInBounds_toArray, List.set_cons_zero, List.set_cons_succ]
              refine tkW 6 (some 40) (v := ?_) rfl ?_ ?_
              rotate_left
              · intro u hSu; clear hSu; go_simp; (try with_reducible rfl)
              try simp only [Act.put, List.setIfInBounds_toArray, List.set_cons_zero, List.set_cons_succ]
              refine tkW 7 (some 47) (v := ?_) rfl ?_ ?_
              rotate_left
              · intro u hSu; clear hSu; go_simp; (try with_reducible rfl)
              try simp only [Act.put, List.setIfInBounds_toArray, List.set_cons_zero, List.set_cons_succ]
              refine tkW 8 (some 48) (v := ?_) rfl ?_ ?_
              rotate_left
              · intro u hSu; clear hSu; go_simp; (try with_reducible rfl)
              try simp only [Act.put, List.setIfInBounds_toArray, List.set_cons_zero, List.set_cons_succ]
              refine tkW 9 (some 49) (v := ?_) rfl ?_ ?_
              rotate_left
              · intro u hSu; clear hSu; go_simp; (try with_reducible rfl)
              try simp only [Act.put, List.setIfInBounds_toArray, List.set_cons_zero, List.set_cons_succ]
              refine rdH 11 none rfl (fun K hK => ?_)
              refine wantedIf (by rfl) ?_
              refine wp_store_whole 37 (.tmp 10) (.tmp 47) rfl w1.drew.heap.size #[.int .i64 s9.zlog, .int .i64 s9.zpages, .int .i64 s9.zframes, .slice p9.A s9.disk.sectors.length p9.c, .int .i64 s9.disk.left, .bool s9.disk.down, .int .i64 s9.log.from_, .int .i64 s9.log.n, .int .i64 s9.log.end_, .int .i64 s9.log.safe, .string s9.log.tail, .slice p9.F p9.fn p9.fc, .int .i64 s9.hand, .slice p9.T s9.txns.length p9.tc, .int .i64 s9.next] _ _ rfl rfl HG (by kernel_rfl) (by kernel_rfl) (by kernel_rfl) ?_
              have Z4 := below_setRow Z2 (g := w1.drew.heap.size) (by show w1.heap.size ≤ w1.heap.size; omega) #[.int .i64 s9.zlog, .int .i64 s9.zpages, .int .i64 s9.zframes, .slice p9.A s9.disk.sectors.length p9.c, .int .i64 s9.disk.left, .bool s9.disk.down, .int .i64 s9.log.from_, .int .i64 s9.log.n, .int .i64 s9.log.end_, .int .i64 s9.log.safe, .string s9.log.tail, .slice p9.F p9.fn p9.fc, .int .i64 s9.hand, .slice p9.T s9.txns.length p9.tc, .int .i64 s9.next]
              have HG4 := setRow_heap _ _ _ #[.int .i64 s9.zlog, .int .i64 s9.zpages, .int .i64 s9.zframes, .slice p9.A s9.disk.sectors.length p9.c, .int .i64 s9.disk.left, .bool s9.disk.down, .int .i64 s9.log.from_, .int .i64 s9.log.n, .int .i64 s9.log.end_, .int .i64 s9.log.safe, .string s9.log.tail, .slice p9.F p9.fn p9.fc, .int .i64 s9.hand, .slice p9.T s9.txns.length p9.tc, .int .i64 s9.next] _ _ HG
              have hs7 := hs5.other HG (by decide) (by decide) #[.int .i64 s9.zlog, .int .i64 s9.zpages, .int .i64 s9.zframes, .slice p9.A s9.disk.sectors.length p9.c, .int .i64 s9.disk.left, .bool s9.disk.down, .int .i64 s9.log.from_, .int .i64 s9.log.n, .int .i64 s9.log.end_, .int .i64 s9.log.safe, .string s9.log.tail, .slice p9.F p9.fn p9.fc, .int .i64 s9.hand, .slice p9.T s9.txns.length p9.tc, .int .i64 s9.next]
              clear hSn
              have hSn := Z4
              refine hK.out _ _ ?_ (fun hHeld => ?_)
              · exact hSn
              clear hK K
              try simp only [Act.put]
              refine tkW 12 (some 11) (v := ?_) rfl ?_ ?_
              rotate_left
              · intro u hSu; clear hSu; go_simp; (try with_reducible rfl)
              try simp only [Act.put, List.setIfInBounds_toArray, List.set_cons_zero, List.set_cons_succ]
              refine tkW 13 (some 12) (v := ?_) rfl ?_ ?_
              rotate_left
              · intro u hSu; clear hSu; go_simp; (try with_reducible rfl)
              try simp only [Act.put, List.setIfInBounds_toArray, List.set_cons_zero, List.set_cons_succ]
              refine wpAnyH_done (by kernel_rfl) ?_ _
              clear hHeld hSn
              go_wp2_with fail
              go_meet
              case rel => exact ⟨_, p9, rfl, rfl, rfl, HG4, hs7, HF5.out.2.1.trans HPF.out, Z4⟩
          case rest =>
            obtain ⟨gb, pb, rfl, rfl, rfl, hgb, hsb, hpb, hbb⟩ := hcut
            obtain ⟨w2, rfl⟩ : ∃ wm : World, wm = wc := ⟨_, rfl⟩
            have HA2 := Lib.hid (blkOld HA1.out hbb)
            have HSA2 := Lib.hid (HSA1.out.below hbb)
            have HB2 := Lib.hid (joinB HB1.out hbb)
            have HBX2 := Lib.hid (blkOld HBX1.out hbb)
            have HT2 := Lib.hid hgb
            have HSB2 := Lib.hid hsb
            have HPB := Lib.hid hpb
            clear hgb hsb hpb hbb HWAN HA1 HSA1 HB1 HBX1
            go_upto_region 9 with fail
            go_cut [13, 14] (fun x y wc => ∃ gt : Nat, x = .pointer (some ⟨gt, 0, none⟩) ∧ y = .bool ok ∧ wc.heap[gt]? = some (.cells #[.int .i64 xt, .int .i64 xl, .int .i64 xn, .bool xd] 45 (0, 0)) ∧ Below w2.heap.size w2 wc)
            case first =>
              clear HSAME HTE HMK HRM HRF HGD9 HLN
              have Z0 : Below w2.heap.size w2 w2.drew := (Below.refl _ w2).drew
              refine wp_region_held_drew (S := (fun u => Below w2.heap.size w2 u)) (by kernel_rfl) ?_ (fun hHeld => ?_)
              · exact Z0
              refine tkV 0 (some 51) (v := .agg #[.int .i64 s9.zlog, .int .i64 s9.zpages, .int .i64 s9.zframes, .slice pb.A s9.disk.sectors.length pb.c, .int .i64 s9.disk.left, .bool s9.disk.down, .int .i64 s9.log.from_, .int .i64 s9.log.n, .int .i64 s9.log.end_, .int .i64 s9.log.safe, .string s9.log.tail, .slice pb.F pb.fn pb.fc, .int .i64 s9.hand, .slice pb.T s9.txns.length pb.tc, .int .i64 s9.next]) rfl (yieldsIf_load_mid (by rfl) 37 (.tmp 10) rfl gb 0 (by rfl) #[.int .i64 s9.zlog, .int .i64 s9.zpages, .int .i64 s9.zframes, .slice pb.A s9.disk.sectors.length pb.c, .int .i64 s9.disk.left, .bool s9.disk.down, .int .i64 s9.log.from_, .int .i64 s9.log.n, .int .i64 s9.log.end_, .int .i64 s9.log.safe, .string s9.log.tail, .slice pb.F pb.fn pb.fc, .int .i64 s9.hand, .slice pb.T s9.txns.length pb.tc, .int .i64 s9.next].toList _ (fun u hu => (by intro j v hj; rw [Nat.zero_add, blkCell (blkOld HT2.out hu)]; simpa using hj)) Tryz.underlying37 (by kernel_rfl) (by kernel_rfl)) ?_
              try simp only [Act.put, List.setIfInBounds_toArray, List.set_cons_zero, List.set_cons_succ]
              refine tkW 1 (some 52) (v := ?_) rfl ?_ ?_
              rotate_left
              · intro u hSu; have hqd := HRG.out u (joinB HB2.out hSu) 1 _ rfl; clear hSu; go_simp; (try with_reducible rfl)
              try simp only [Act.put, List.setIfInBounds_toArray, List.set_cons_zero, List.set_cons_succ]
              refine tkW 2 (some 53) (v := ?_) rfl ?_ ?_
              rotate_left
              · intro u hSu; have hqd := HRG.out u (joinB HB2.out hSu) 1 _ rfl; clear hSu; go_simp; (try with_reducible rfl)
              try simp only [Act.put, List.setIfInBounds_toArray, List.set_cons_zero, List.set_cons_succ]
              refine tkW 3 (some 54) (v := ?_) rfl ?_ ?_
              rotate_left
              · intro u hSu; have hqd := HRG.out u (joinB HB2.out hSu) 1 _ rfl; clear hSu; go_simp; (try with_reducible rfl)
              try simp only [Act.put, List.setIfInBounds_toArray, List.set_cons_zero, List.set_cons_succ]
              refine tkW 4 (some 55) (v := ?_) rfl ?_ ?_
              rotate_left
              · intro u hSu; have hqd := HRG.out u (joinB HB2.out hSu) 1 _ rfl; clear hSu; go_simp; (try with_reducible rfl)
              try simp only [Act.put, List.setIfInBounds_toArray, List.set_cons_zero, List.set_cons_succ]
              refine tkW 5 (some 56) (v := ?_) rfl ?_ ?_
              rotate_left
              · intro u hSu; have hqd := HRG.out u (joinB HB2.out hSu) 1 _ rfl; clear hSu; go_simp; (try with_reducible rfl)
              try simp only [Act.put, List.setIfInBounds_toArray, List.set_cons_zero, List.set_cons_succ]
              refine wpAnyH_ready (rs := [6, 10]) (by kernel_rfl) (by simp) ?_
              refine (AllReadyH.cons (o := { dst := some 57, op := _, type := _, pos := _, after := _, guard := _ }) rfl (fun K hK => ?_) (AllReadyH.cons (o := { dst := some 13, op := _, type := _, pos := _, after := _, guard := _ }) rfl (fun K hK => ?_) AllReadyH.nil))
              ·
                go_simp
                refine (HFD.out pb _ (HSB2.out.below Z0)).mono ?_; rintro e w5 ⟨rfl, hb5⟩; have Z2 := joinB Z0 hb5; try clear hSn
                have hSn := Z2
                refine hK.out _ _ ?_ (fun hHeld => ?_)
                · exact hSn
                clear hK K
                try simp only [Act.put, List.setIfInBounds_toArray, List.set_cons_zero, List.set_cons_succ]
                refine tkW 7 (some 50) (v := ?_) rfl ?_ ?_
                rotate_left
                · intro u hSu; have hqd := HRG.out u (joinB HB2.out hSu) 1 _ rfl; clear hSu; go_simp; (try with_reducible rfl)
                try simp only [Act.put, List.setIfInBounds_toArray, List.set_cons_zero, List.set_cons_succ]
                refine tkW 8 (some 58) (v := ?_) rfl ?_ ?_
                rotate_left
                · intro u hSu; have hqd := HRG.out u (joinB HB2.out hSu) 1 _ rfl; clear hSu; go_simp; (try with_reducible rfl)
                try simp only [Act.put, List.setIfInBounds_toArray, List.set_cons_zero, List.set_cons_succ]
                refine tkW 9 (some 59) (v := ?_) rfl ?_ ?_
                rotate_left
                · intro u hSu; have hqd := HRG.out u (joinB HB2.out hSu) 1 _ rfl; clear hSu; go_simp; (try with_reducible rfl)
                try simp only [Act.put, List.setIfInBounds_toArray, List.set_cons_zero, List.set_cons_succ]
                refine rdH 10 (some 13) rfl (fun K hK => ?_)
                go_simp
                have HG := heap_alloc_new w5 (.cells #[.int .i64 0, .int .i64 0, .int .i64 0, .bool false] 45); have Z3 := joinB Z2 (allocB w5 (.cells #[.int .i64 0, .int .i64 0, .int .i64 0, .bool false] 45)); clear hSn; have hSn := Z3
                refine hK.out _ _ ?_ (fun hHeld => ?_)
                · exact hSn
                clear hK K
                try simp only [Act.put, List.setIfInBounds_toArray, List.set_cons_zero, List.set_cons_succ]
                refine rdH 11 none rfl (fun K hK => ?_)
                refine wantedIf (by rfl) ?_
                refine wp_store_whole 45 (.tmp 13) (.tmp 58) rfl w5.heap.size #[.int .i64 xt, .int .i64 xl, .int .i64 xn, .bool xd] _ _ rfl rfl HG (by kernel_rfl) (by kernel_rfl) (by kernel_rfl) ?_
                have Z4 := below_setRow Z3 (g := w5.heap.size) (by have := Z2.size; omega) #[.int .i64 xt, .int .i64 xl, .int .i64 xn, .bool xd]
                have HG4 := setRow_heap _ _ _ #[.int .i64 xt, .int .i64 xl, .int .i64 xn, .bool xd] _ _ HG
                clear hSn
                have hSn := Z4
                refine hK.out _ _ ?_ (fun hHeld => ?_)
                · exact hSn
                clear hK K
                try simp only [Act.put]
                refine tkW 12 (some 14) (v := ?_) rfl ?_ ?_
                rotate_left
                · intro u hSu; have hqd := HRG.out u (joinB HB2.out hSu) 1 _ rfl; clear hSu; go_simp; (try with_reducible rfl)
                try simp only [Act.put, List.setIfInBounds_toArray, List.set_cons_zero, List.set_cons_succ]
                refine wpAnyH_done (by kernel_rfl) ?_ _
                clear hHeld hSn
                go_wp2_with fail
                go_meet
                case rel => exact ⟨_, rfl, rfl, HG4, Z4⟩
              ·
                go_simp
                have Z1 := joinB Z0 (allocB w2.drew (.cells #[.int .i64 0, .int .i64 0, .int .i64 0, .bool false] 45)); have hSn := Z1
                refine hK.out _ _ ?_ (fun hHeld => ?_)
                · exact hSn
                clear hK K
                try simp only [Act.put, List.setIfInBounds_toArray, List.set_cons_zero, List.set_cons_succ]
                refine rdH 6 (some 57) rfl (fun K hK => ?_)
                go_simp
                refine (HFD.out pb _ (HSB2.out.below Z1)).mono ?_; rintro e w5 ⟨rfl, hb5⟩; have Z2 := joinB Z1 hb5; try clear hSn
                have hSn := Z2
                have HG := blkNew hb5
                refine hK.out _ _ ?_ (fun hHeld => ?_)
                · exact hSn
                clear hK K
                try simp only [Act.put, List.setIfInBounds_toArray, List.set_cons_zero, List.set_cons_succ]
                refine tkW 7 (some 50) (v := ?_) rfl ?_ ?_
                rotate_left
                · intro u hSu; have hqd := HRG.out u (joinB HB2.out hSu) 1 _ rfl; clear hSu; go_simp; (try with_reducible rfl)
                try simp only [Act.put, List.setIfInBounds_toArray, List.set_cons_zero, List.set_cons_succ]
                refine tkW 8 (some 58) (v := ?_) rfl ?_ ?_
                rotate_left
                · intro u hSu; have hqd := HRG.out u (joinB HB2.out hSu) 1 _ rfl; clear hSu; go_simp; (try with_reducible rfl)
                try simp only [Act.put, List.setIfInBounds_toArray, List.set_cons_zero, List.set_cons_succ]
                refine tkW 9 (some 59) (v := ?_) rfl ?_ ?_
                rotate_left
                · intro u hSu; have hqd := HRG.out u (joinB HB2.out hSu) 1 _ rfl; clear hSu; go_simp; (try with_reducible rfl)
                try simp only [Act.put, List.setIfInBounds_toArray, List.set_cons_zero, List.set_cons_succ]
                refine rdH 11 none rfl (fun K hK => ?_)
                refine wantedIf (by rfl) ?_
                refine wp_store_whole 45 (.tmp 13) (.tmp 58) rfl w2.drew.heap.size #[.int .i64 xt, .int .i64 xl, .int .i64 xn, .bool xd] _ _ rfl rfl HG (by kernel_rfl) (by kernel_rfl) (by kernel_rfl) ?_
                have Z4 := below_setRow Z2 (g := w2.drew.heap.size) (by show w2.heap.size ≤ w2.heap.size; omega) #[.int .i64 xt, .int .i64 xl, .int .i64 xn, .bool xd]
                have HG4 := setRow_heap _ _ _ #[.int .i64 xt, .int .i64 xl, .int .i64 xn, .bool xd] _ _ HG
                clear hSn
                have hSn := Z4
                refine hK.out _ _ ?_ (fun hHeld => ?_)
                · exact hSn
                clear hK K
                try simp only [Act.put]
                refine tkW 12 (some 14) (v := ?_) rfl ?_ ?_
                rotate_left
                · intro u hSu; have hqd := HRG.out u (joinB HB2.out hSu) 1 _ rfl; clear hSu; go_simp; (try with_reducible rfl)
                try simp only [Act.put, List.setIfInBounds_toArray, List.set_cons_zero, List.set_cons_succ]
                refine wpAnyH_done (by kernel_rfl) ?_ _
                clear hHeld hSn
                go_wp2_with fail
                go_meet
                case rel => exact ⟨_, rfl, rfl, HG4, Z4⟩
            case rest =>
              obtain ⟨gx, rfl, rfl, hgx, hbb⟩ := hcut
              obtain ⟨w3, rfl⟩ : ∃ wm : World, wm = wc := ⟨_, rfl⟩
              have HA3 := Lib.hid (blkOld HA2.out hbb)
              have HSA3 := Lib.hid (HSA2.out.below hbb)
              have HB3 := Lib.hid (joinB HB2.out hbb)
              have HBX3 := Lib.hid (blkOld HBX2.out hbb)
              have HT3 := Lib.hid (blkOld HT2.out hbb)
              have HSB3 := Lib.hid (HSB2.out.below hbb)
              have HX3 := Lib.hid hgx
              clear hgx hbb HA2 HSA2 HB2 HBX2 HT2 HSB2 HFD
              go_upto_region 10 with fail
              go_cut [15, 16] (fun x y wc => ∃ gt : Nat, x = .pointer (some ⟨gt, 0, none⟩) ∧ y = .bool ok ∧ wc.heap[gt]? = some (.cells #[.int .i64 xt, .int .i64 xl, .int .i64 xn, .bool xd] 45 (0, 0)) ∧ Below w3.heap.size w3 wc)
              case first =>
                clear HSAME HTE HMK HRM HGD9 HLN
                have Z0 : Below w3.heap.size w3 w3.drew := (Below.refl _ w3).drew
                refine wp_region_held_drew (S := (fun u => Below w3.heap.size w3 u)) (by kernel_rfl) ?_ (fun hHeld => ?_)
                · exact Z0
                refine tkV 0 (some 61) (v := .agg #[.int .i64 s9.zlog, .int .i64 s9.zpages, .int .i64 s9.zframes, .slice pb.A s9.disk.sectors.length pb.c, .int .i64 s9.disk.left, .bool s9.disk.down, .int .i64 s9.log.from_, .int .i64 s9.log.n, .int .i64 s9.log.end_, .int .i64 s9.log.safe, .string s9.log.tail, .slice pb.F pb.fn pb.fc, .int .i64 s9.hand, .slice pb.T s9.txns.length pb.tc, .int .i64 s9.next]) rfl (yieldsIf_load_mid (by rfl) 37 (.tmp 10) rfl gb 0 (by rfl) #[.int .i64 s9.zlog, .int .i64 s9.zpages, .int .i64 s9.zframes, .slice pb.A s9.disk.sectors.length pb.c, .int .i64 s9.disk.left, .bool s9.disk.down, .int .i64 s9.log.from_, .int .i64 s9.log.n, .int .i64 s9.log.end_, .int .i64 s9.log.safe, .string s9.log.tail, .slice pb.F pb.fn pb.fc, .int .i64 s9.hand, .slice pb.T s9.txns.length pb.tc, .int .i64 s9.next].toList _ (fun u hu => (by intro j v hj; rw [Nat.zero_add, blkCell (blkOld HT3.out hu)]; simpa using hj)) Tryz.underlying37 (by kernel_rfl) (by kernel_rfl)) ?_
                try simp only [Act.put, List.setIfInBounds_toArray, List.set_cons_zero, List.set_cons_succ]
                refine tkW 1 (some 62) (v := ?_) rfl ?_ ?_
                rotate_left
                · intro u hSu; have hqd := HRG.out u (joinB HB3.out hSu) 1 _ rfl; clear hSu; go_simp; (try with_reducible rfl)
                try simp only [Act.put, List.setIfInBounds_toArray, List.set_cons_zero, List.set_cons_succ]
                refine tkW 2 (some 63) (v := ?_) rfl ?_ ?_
                rotate_left
                · intro u hSu; have hqd := HRG.out u (joinB HB3.out hSu) 1 _ rfl; clear hSu; go_simp; (try with_reducible rfl)
                try simp only [Act.put, List.setIfInBounds_toArray, List.set_cons_zero, List.set_cons_succ]
                refine tkW 3 (some 64) (v := ?_) rfl ?_ ?_
                rotate_left
                · intro u hSu; have hqd := HRG.out u (joinB HB3.out hSu) 1 _ rfl; clear hSu; go_simp; (try with_reducible rfl)
                try simp only [Act.put, List.setIfInBounds_toArray, List.set_cons_zero, List.set_cons_succ]
                refine tkW 4 (some 65) (v := ?_) rfl ?_ ?_
                rotate_left
                · intro u hSu; have hqd := HRG.out u (joinB HB3.out hSu) 1 _ rfl; clear hSu; go_simp; (try with_reducible rfl)
                try simp only [Act.put, List.setIfInBounds_toArray, List.set_cons_zero, List.set_cons_succ]
                refine tkW 5 (some 66) (v := ?_) rfl ?_ ?_
                rotate_left
                · intro u hSu; have hqd := HRG.out u (joinB HB3.out hSu) 1 _ rfl; clear hSu; go_simp; (try with_reducible rfl)
                try simp only [Act.put, List.setIfInBounds_toArray, List.set_cons_zero, List.set_cons_succ]
                refine wpAnyH_ready (rs := [6, 10]) (by kernel_rfl) (by simp) ?_
                refine (AllReadyH.cons (o := { dst := some 67, op := _, type := _, pos := _, after := _, guard := _ }) rfl (fun K hK => ?_) (AllReadyH.cons (o := { dst := some 15, op := _, type := _, pos := _, after := _, guard := _ }) rfl (fun K hK => ?_) AllReadyH.nil))
                ·
                  go_simp
                  refine (HRF.out pb _ (HSB3.out.below Z0)).mono ?_; rintro e w5 ⟨rfl, hb5⟩; have Z2 := joinB Z0 hb5; try clear hSn
                  have hSn := Z2
                  refine hK.out _ _ ?_ (fun hHeld => ?_)
                  · exact hSn
                  clear hK K
                  try simp only [Act.put, List.setIfInBounds_toArray, List.set_cons_zero, List.set_cons_succ]
                  refine tkW 7 (some 60) (v := ?_) rfl ?_ ?_
                  rotate_left
                  · intro u hSu; have hqd := HRG.out u (joinB HB3.out hSu) 1 _ rfl; clear hSu; go_simp; (try with_reducible rfl)
                  try simp only [Act.put, List.setIfInBounds_toArray, List.set_cons_zero, List.set_cons_succ]
                  refine tkW 8 (some 68) (v := ?_) rfl ?_ ?_
                  rotate_left
                  · intro u hSu; have hqd := HRG.out u (joinB HB3.out hSu) 1 _ rfl; clear hSu; go_simp; (try with_reducible rfl)
                  try simp only [Act.put, List.setIfInBounds_toArray, List.set_cons_zero, List.set_cons_succ]
                  refine tkW 9 (some 69) (v := ?_) rfl ?_ ?_
                  rotate_left
                  · intro u hSu; have hqd := HRG.out u (joinB HB3.out hSu) 1 _ rfl; clear hSu; go_simp; (try with_reducible rfl)
                  try simp only [Act.put, List.setIfInBounds_toArray, List.set_cons_zero, List.set_cons_succ]
                  refine rdH 10 (some 15) rfl (fun K hK => ?_)
                  go_simp
                  have HG := heap_alloc_new w5 (.cells #[.int .i64 0, .int .i64 0, .int .i64 0, .bool false] 45); have Z3 := joinB Z2 (allocB w5 (.cells #[.int .i64 0, .int .i64 0, .int .i64 0, .bool false] 45)); clear hSn; have hSn := Z3
                  refine hK.out _ _ ?_ (fun hHeld => ?_)
                  · exact hSn
                  clear hK K
                  try simp only [Act.put, List.setIfInBounds_toArray, List.set_cons_zero, List.set_cons_succ]
                  refine rdH 11 none rfl (fun K hK => ?_)
                  refine wantedIf (by rfl) ?_
                  refine wp_store_whole 45 (.tmp 15) (.tmp 68) rfl w5.heap.size #[.int .i64 xt, .int .i64 xl, .int .i64 xn, .bool xd] _ _ rfl rfl HG (by kernel_rfl) (by kernel_rfl) (by kernel_rfl) ?_
                  have Z4 := below_setRow Z3 (g := w5.heap.size) (by have := Z2.size; omega) #[.int .i64 xt, .int .i64 xl, .int .i64 xn, .bool xd]
                  have HG4 := setRow_heap _ _ _ #[.int .i64 xt, .int .i64 xl, .int .i64 xn, .bool xd] _ _ HG
                  clear hSn
                  have hSn := Z4
                  refine hK.out _ _ ?_ (fun hHeld => ?_)
                  · exact hSn
                  clear hK K
                  try simp only [Act.put]
                  refine tkW 12 (some 16) (v := ?_) rfl ?_ ?_
                  rotate_left
                  · intro u hSu; have hqd := HRG.out u (joinB HB3.out hSu) 1 _ rfl; clear hSu; go_simp; (try with_reducible rfl)
                  try simp only [Act.put, List.setIfInBounds_toArray, List.set_cons_zero, List.set_cons_succ]
                  refine wpAnyH_done (by kernel_rfl) ?_ _
                  clear hHeld hSn
                  go_wp2_with fail
                  go_meet
                  case rel => exact ⟨_, rfl, rfl, HG4, Z4⟩
                ·
                  go_simp
                  have Z1 := joinB Z0 (allocB w3.drew (.cells #[.int .i64 0, .int .i64 0, .int .i64 0, .bool false] 45)); have hSn := Z1
                  refine hK.out _ _ ?_ (fun hHeld => ?_)
                  · exact hSn
                  clear hK K
                  try simp only [Act.put, List.setIfInBounds_toArray, List.set_cons_zero, List.set_cons_succ]
                  refine rdH 6 (some 67) rfl (fun K hK => ?_)
                  go_simp
                  refine (HRF.out pb _ (HSB3.out.below Z1)).mono ?_; rintro e w5 ⟨rfl, hb5⟩; have Z2 := joinB Z1 hb5; try clear hSn
                  have hSn := Z2
                  have HG := blkNew hb5
                  refine hK.out _ _ ?_ (fun hHeld => ?_)
                  · exact hSn
                  clear hK K
                  try simp only [Act.put, List.setIfInBounds_toArray, List.set_cons_zero, List.set_cons_succ]
                  refine tkW 7 (some 60) (v := ?_) rfl ?_ ?_
                  rotate_left
                  · intro u hSu; have hqd := HRG.out u (joinB HB3.out hSu) 1 _ rfl; clear hSu; go_simp; (try with_reducible rfl)
                  try simp only [Act.put, List.setIfInBounds_toArray, List.set_cons_zero, List.set_cons_succ]
                  refine tkW 8 (some 68) (v := ?_) rfl ?_ ?_
                  rotate_left
                  · intro u hSu; have hqd := HRG.out u (joinB HB3.out hSu) 1 _ rfl; clear hSu; go_simp; (try with_reducible rfl)
                  try simp only [Act.put, List.setIfInBounds_toArray, List.set_cons_zero, List.set_cons_succ]
                  refine tkW 9 (some 69) (v := ?_) rfl ?_ ?_
                  rotate_left
                  · intro u hSu; have hqd := HRG.out u (joinB HB3.out hSu) 1 _ rfl; clear hSu; go_simp; (try with_reducible rfl)
                  try simp only [Act.put, List.setIfInBounds_toArray, List.set_cons_zero, List.set_cons_succ]
                  refine rdH 11 none rfl (fun K hK => ?_)
                  refine wantedIf (by rfl) ?_
                  refine wp_store_whole 45 (.tmp 15) (.tmp 68) rfl w3.drew.heap.size #[.int .i64 xt, .int .i64 xl, .int .i64 xn, .bool xd] _ _ rfl rfl HG (by kernel_rfl) (by kernel_rfl) (by kernel_rfl) ?_
                  have Z4 := below_setRow Z2 (g := w3.drew.heap.size) (by show w3.heap.size ≤ w3.heap.size; omega) #[.int .i64 xt, .int .i64 xl, .int .i64 xn, .bool xd]
                  have HG4 := setRow_heap _ _ _ #[.int .i64 xt, .int .i64 xl, .int .i64 xn, .bool xd] _ _ HG
                  clear hSn
                  have hSn := Z4
                  refine hK.out _ _ ?_ (fun hHeld => ?_)
                  · exact hSn
                  clear hK K
                  try simp only [Act.put]
                  refine tkW 12 (some 16) (v := ?_) rfl ?_ ?_
                  rotate_left
                  · intro u hSu; have hqd := HRG.out u (joinB HB3.out hSu) 1 _ rfl; clear hSu; go_simp; (try with_reducible rfl)
                  try simp only [Act.put, List.setIfInBounds_toArray, List.set_cons_zero, List.set_cons_succ]
                  refine wpAnyH_done (by kernel_rfl) ?_ _
                  clear hHeld hSn
                  go_wp2_with fail
                  go_meet
                  case rel => exact ⟨_, rfl, rfl, HG4, Z4⟩
              case rest =>
                obtain ⟨gy, rfl, rfl, hgx, hbb⟩ := hcut
                obtain ⟨w4, rfl⟩ : ∃ wm : World, wm = wc := ⟨_, rfl⟩
                have HA4 := Lib.hid (blkOld HA3.out hbb)
                have HSA4 := Lib.hid (HSA3.out.below hbb)
                have HB4 := Lib.hid (joinB HB3.out hbb)
                have HBX4 := Lib.hid (blkOld HBX3.out hbb)
                have HT4 := Lib.hid (blkOld HT3.out hbb)
                have HSB4 := Lib.hid (HSB3.out.below hbb)
                have HX4 := Lib.hid (blkOld HX3.out hbb)
                have HY4 := Lib.hid hgx
                clear hgx hbb HA3 HSA3 HB3 HBX3 HT3 HSB3 HX3 HRF
                go_upto_region 11 with fail
                have Z0 : Below w4.heap.size w4 w4.drew := (Below.refl _ w4).drew
                have hte := HTE.out
                have hm9 : (m9 != m9) = false := by simp
                have he9 : (e9 != e9) = false := by simp
                have hok : (ok != ok) = false := by simp
                have hmk : (mk != mk) = false := by simp
                refine wp_region_held_drew (S := (fun u => Below w4.heap.size w4 u)) (by kernel_rfl) ?_ (fun hHeld => ?_)
                · first | exact hSn | exact Z0
                refine tkW 0 (some 70) (v := ?_) rfl ?_ ?_
                rotate_left
                · intro u hSu; have hqd := HRG.out u (joinB HB4.out hSu) 1 _ rfl; clear hSu; go_simp; (try with_reducible rfl)
                try simp only [Act.put, List.setIfInBounds_toArray, List.set_cons_zero, List.set_cons_succ]
                refine tkW 1 (some 71) (v := ?_) rfl ?_ ?_
                rotate_left
                · intro u hSu; have hqd := HRG.out u (joinB HB4.out hSu) 1 _ rfl; clear hSu; go_simp; (try with_reducible rfl)
                try simp only [Act.put, List.setIfInBounds_toArray, List.set_cons_zero, List.set_cons_succ]
                refine tkW 2 (some 72) (v := ?_) rfl ?_ ?_
                rotate_left
                · intro u hSu; have hqd := HRG.out u (joinB HB4.out hSu) 1 _ rfl; clear hSu; go_simp; (try with_reducible rfl)
                try simp only [Act.put, List.setIfInBounds_toArray, List.set_cons_zero, List.set_cons_succ]
                refine tkW 3 (some 73) (v := ?_) rfl ?_ ?_
                rotate_left
                · intro u hSu; have hqd := HRG.out u (joinB HB4.out hSu) 1 _ rfl; clear hSu; go_simp; (try with_reducible rfl)
                try simp only [Act.put, List.setIfInBounds_toArray, List.set_cons_zero, List.set_cons_succ]
                refine tkW 4 (some 74) (v := ?_) rfl ?_ ?_
                rotate_left
                · intro u hSu; have hqd := HRG.out u (joinB HB4.out hSu) 1 _ rfl; clear hSu; go_simp; (try with_reducible rfl)
                try simp only [Act.put, List.setIfInBounds_toArray, List.set_cons_zero, List.set_cons_succ]
                refine tkW 5 (some 75) (v := ?_) rfl ?_ ?_
                rotate_left
                · intro u hSu; have hqd := HRG.out u (joinB HB4.out hSu) 1 _ rfl; clear hSu; go_simp; (try with_reducible rfl)
                try simp only [Act.put, List.setIfInBounds_toArray, List.set_cons_zero, List.set_cons_succ]
                refine tkW 6 (some 76) (v := ?_) rfl ?_ ?_
                rotate_left
                · intro u hSu; have hqd := HRG.out u (joinB HB4.out hSu) 1 _ rfl; clear hSu; go_simp; (try with_reducible rfl)
                try simp only [Act.put, List.setIfInBounds_toArray, List.set_cons_zero, List.set_cons_succ]
                refine tkW 7 (some 77) (v := ?_) rfl ?_ ?_
                rotate_left
                · intro u hSu; have hqd := HRG.out u (joinB HB4.out hSu) 1 _ rfl; clear hSu; go_simp; (try with_reducible rfl)
                try simp only [Act.put, List.setIfInBounds_toArray, List.set_cons_zero, List.set_cons_succ]
                refine tkW 8 (some 78) (v := ?_) rfl ?_ ?_
                rotate_left
                · intro u hSu; have hqd := HRG.out u (joinB HB4.out hSu) 1 _ rfl; clear hSu; go_simp; (try with_reducible rfl)
                try simp only [Act.put, List.setIfInBounds_toArray, List.set_cons_zero, List.set_cons_succ]
                refine tkV 9 (some 79) (v := .agg #[.int .i64 s9.zlog, .int .i64 s9.zpages, .int .i64 s9.zframes, .slice pa.A s9.disk.sectors.length pa.c, .int .i64 s9.disk.left, .bool s9.disk.down, .int .i64 s9.log.from_, .int .i64 s9.log.n, .int .i64 s9.log.end_, .int .i64 s9.log.safe, .string s9.log.tail, .slice pa.F pa.fn pa.fc, .int .i64 s9.hand, .slice pa.T s9.txns.length pa.tc, .int .i64 s9.next]) rfl (yieldsIf_load_mid (by rfl) 37 (.tmp 7) rfl ga 0 (by rfl) #[.int .i64 s9.zlog, .int .i64 s9.zpages, .int .i64 s9.zframes, .slice pa.A s9.disk.sectors.length pa.c, .int .i64 s9.disk.left, .bool s9.disk.down, .int .i64 s9.log.from_, .int .i64 s9.log.n, .int .i64 s9.log.end_, .int .i64 s9.log.safe, .string s9.log.tail, .slice pa.F pa.fn pa.fc, .int .i64 s9.hand, .slice pa.T s9.txns.length pa.tc, .int .i64 s9.next].toList _ (fun u hu => (by intro j v hj; rw [Nat.zero_add, blkCell (blkOld HA4.out hu)]; simpa using hj)) Tryz.underlying37 (by kernel_rfl) (by kernel_rfl)) ?_
                try simp only [Act.put, List.setIfInBounds_toArray, List.set_cons_zero, List.set_cons_succ]
                refine tkV 10 (some 80) (v := .agg #[.int .i64 s9.zlog, .int .i64 s9.zpages, .int .i64 s9.zframes, .slice pb.A s9.disk.sectors.length pb.c, .int .i64 s9.disk.left, .bool s9.disk.down, .int .i64 s9.log.from_, .int .i64 s9.log.n, .int .i64 s9.log.end_, .int .i64 s9.log.safe, .string s9.log.tail, .slice pb.F pb.fn pb.fc, .int .i64 s9.hand, .slice pb.T s9.txns.length pb.tc, .int .i64 s9.next]) rfl (yieldsIf_load_mid (by rfl) 37 (.tmp 10) rfl gb 0 (by rfl) #[.int .i64 s9.zlog, .int .i64 s9.zpages, .int .i64 s9.zframes, .slice pb.A s9.disk.sectors.length pb.c, .int .i64 s9.disk.left, .bool s9.disk.down, .int .i64 s9.log.from_, .int .i64 s9.log.n, .int .i64 s9.log.end_, .int .i64 s9.log.safe, .string s9.log.tail, .slice pb.F pb.fn pb.fc, .int .i64 s9.hand, .slice pb.T s9.txns.length pb.tc, .int .i64 s9.next].toList _ (fun u hu => (by intro j v hj; rw [Nat.zero_add, blkCell (blkOld HT4.out hu)]; simpa using hj)) Tryz.underlying37 (by kernel_rfl) (by kernel_rfl)) ?_
                try simp only [Act.put, List.setIfInBounds_toArray, List.set_cons_zero, List.set_cons_succ]
                refine rdH 11 (some 81) rfl (fun K hK => ?_)
                go_simp
                refine (HSAME.out pa pb HPA.out HPB.out _ (HSA4.out.below Z0) (HSB4.out.below Z0)).mono ?_; rintro e v1 ⟨rfl, hb5⟩
                have Z1 := joinB Z0 hb5
                have hSn := Z1
                refine hK.out _ _ ?_ (fun hHeld => ?_)
                · first | exact hSn | exact Z0
                clear hK K
                try simp only [Act.put, List.setIfInBounds_toArray, List.set_cons_zero, List.set_cons_succ]
                refine tkW 12 (some 82) (v := ?_) rfl ?_ ?_
                rotate_left
                · intro u hSu; have hqd := HRG.out u (joinB HB4.out hSu) 1 _ rfl; clear hSu; go_simp; (try with_reducible rfl)
                try simp only [Act.put, List.setIfInBounds_toArray, List.set_cons_zero, List.set_cons_succ]
                refine tkW 13 (some 83) (v := ?_) rfl ?_ ?_
                rotate_left
                · intro u hSu; have hqd := HRG.out u (joinB HB4.out hSu) 1 _ rfl; clear hSu; go_simp; (try with_reducible rfl)
                try simp only [Act.put, List.setIfInBounds_toArray, List.set_cons_zero, List.set_cons_succ]
                refine tkW 14 (some 84) (v := ?_) rfl ?_ ?_
                rotate_left
                · intro u hSu; have hqd := HRG.out u (joinB HB4.out hSu) 1 _ rfl; clear hSu; go_simp; (try with_reducible rfl)
                try simp only [Act.put, List.setIfInBounds_toArray, List.set_cons_zero, List.set_cons_succ]
                refine tkV 15 (some 85) (v := .agg #[.int .i64 xt, .int .i64 xl, .int .i64 xn, .bool xd]) rfl (yieldsIf_load_mid (by rfl) 45 (.tmp 13) rfl gx 0 (by rfl) #[.int .i64 xt, .int .i64 xl, .int .i64 xn, .bool xd].toList _ (fun u hu => (by intro j v hj; rw [Nat.zero_add, blkCell (blkOld HX4.out hu)]; simpa using hj)) Tryz.underlying45 (by kernel_rfl) (by kernel_rfl)) ?_
                try simp only [Act.put, List.setIfInBounds_toArray, List.set_cons_zero, List.set_cons_succ]
                refine tkV 16 (some 86) (v := .agg #[.int .i64 xt, .int .i64 xl, .int .i64 xn, .bool xd]) rfl (yieldsIf_load_mid (by rfl) 45 (.tmp 15) rfl gy 0 (by rfl) #[.int .i64 xt, .int .i64 xl, .int .i64 xn, .bool xd].toList _ (fun u hu => (by intro j v hj; rw [Nat.zero_add, blkCell (blkOld HY4.out hu)]; simpa using hj)) Tryz.underlying45 (by kernel_rfl) (by kernel_rfl)) ?_
                try simp only [Act.put, List.setIfInBounds_toArray, List.set_cons_zero, List.set_cons_succ]
                refine tkW 17 (some 87) (v := ?_) rfl ?_ ?_
                rotate_left
                · intro u hSu; have hqd := HRG.out u (joinB HB4.out hSu) 1 _ rfl; clear hSu; go_simp; (try with_reducible rfl)
                try simp only [Act.put, List.setIfInBounds_toArray, List.set_cons_zero, List.set_cons_succ]
                refine tkW 18 (some 88) (v := ?_) rfl ?_ ?_
                rotate_left
                · intro u hSu; have hqd := HRG.out u (joinB HB4.out hSu) 1 _ rfl; clear hSu; go_simp; (try with_reducible rfl)
                try simp only [Act.put, List.setIfInBounds_toArray, List.set_cons_zero, List.set_cons_succ]
                refine tkW 19 (some 89) (v := ?_) rfl ?_ ?_
                rotate_left
                · intro u hSu; have hqd := HRG.out u (joinB HB4.out hSu) 1 _ rfl; clear hSu; go_simp; (try with_reducible rfl)
                try simp only [Act.put, List.setIfInBounds_toArray, List.set_cons_zero, List.set_cons_succ]
                refine tkW 20 (some 90) (v := ?_) rfl ?_ ?_
                rotate_left
                · intro u hSu; have hqd := HRG.out u (joinB HB4.out hSu) 1 _ rfl; clear hSu; go_simp; (try with_reducible rfl)
                try simp only [Act.put, List.setIfInBounds_toArray, List.set_cons_zero, List.set_cons_succ]
                refine tkW 21 (some 91) (v := ?_) rfl ?_ ?_
                rotate_left
                · intro u hSu; have hqd := HRG.out u (joinB HB4.out hSu) 1 _ rfl; clear hSu; go_simp; (try with_reducible rfl)
                try simp only [Act.put, List.setIfInBounds_toArray, List.set_cons_zero, List.set_cons_succ]
                refine tkW 22 (some 92) (v := ?_) rfl ?_ ?_
                rotate_left
                · intro u hSu; have hqd := HRG.out u (joinB HB4.out hSu) 1 _ rfl; clear hSu; go_simp; (try with_reducible rfl)
                try simp only [Act.put, List.setIfInBounds_toArray, List.set_cons_zero, List.set_cons_succ]
                refine tkW 23 (some 93) (v := ?_) rfl ?_ ?_
                rotate_left
                · intro u hSu; have hqd := HRG.out u (joinB HB4.out hSu) 1 _ rfl; clear hSu; go_simp; (try with_reducible rfl)
                try simp only [Act.put, List.setIfInBounds_toArray, List.set_cons_zero, List.set_cons_succ]
                refine tkW 24 (some 94) (v := ?_) rfl ?_ ?_
                rotate_left
                · intro u hSu; have hqd := HRG.out u (joinB HB4.out hSu) 1 _ rfl; clear hSu; go_simp; (try with_reducible rfl)
                try simp only [Act.put, List.setIfInBounds_toArray, List.set_cons_zero, List.set_cons_succ]
                refine tkV 25 (some 95) (v := .agg #[.int .i64 s9.zlog, .int .i64 s9.zpages, .int .i64 s9.zframes, .slice pb.A s9.disk.sectors.length pb.c, .int .i64 s9.disk.left, .bool s9.disk.down, .int .i64 s9.log.from_, .int .i64 s9.log.n, .int .i64 s9.log.end_, .int .i64 s9.log.safe, .string s9.log.tail, .slice pb.F pb.fn pb.fc, .int .i64 s9.hand, .slice pb.T s9.txns.length pb.tc, .int .i64 s9.next]) rfl (yieldsIf_load_mid (by rfl) 37 (.tmp 10) rfl gb 0 (by rfl) #[.int .i64 s9.zlog, .int .i64 s9.zpages, .int .i64 s9.zframes, .slice pb.A s9.disk.sectors.length pb.c, .int .i64 s9.disk.left, .bool s9.disk.down, .int .i64 s9.log.from_, .int .i64 s9.log.n, .int .i64 s9.log.end_, .int .i64 s9.log.safe, .string s9.log.tail, .slice pb.F pb.fn pb.fc, .int .i64 s9.hand, .slice pb.T s9.txns.length pb.tc, .int .i64 s9.next].toList _ (fun u hu => (by intro j v hj; rw [Nat.zero_add, blkCell (blkOld HT4.out hu)]; simpa using hj)) Tryz.underlying37 (by kernel_rfl) (by kernel_rfl)) ?_
                try simp only [Act.put, List.setIfInBounds_toArray, List.set_cons_zero, List.set_cons_succ]
                refine tkW 26 (some 96) (v := ?_) rfl ?_ ?_
                rotate_left
                · intro u hSu; have hqd := HRG.out u (joinB HB4.out hSu) 1 _ rfl; clear hSu; go_simp; (try with_reducible rfl)
                try simp only [Act.put, List.setIfInBounds_toArray, List.set_cons_zero, List.set_cons_succ]
                refine tkW 27 (some 97) (v := ?_) rfl ?_ ?_
                rotate_left
                · intro u hSu; have hqd := HRG.out u (joinB HB4.out hSu) 1 _ rfl; clear hSu; go_simp; (try with_reducible rfl)
                try simp only [Act.put, List.setIfInBounds_toArray, List.set_cons_zero, List.set_cons_succ]
                refine tkW 28 (some 98) (v := ?_) rfl ?_ ?_
                rotate_left
                · intro u hSu; have hqd := HRG.out u (joinB HB4.out hSu) 1 _ rfl; clear hSu; go_simp; (try with_reducible rfl)
                try simp only [Act.put, List.setIfInBounds_toArray, List.set_cons_zero, List.set_cons_succ]
                refine tkW 29 (some 99) (v := ?_) rfl ?_ ?_
                rotate_left
                · intro u hSu; have hqd := HRG.out u (joinB HB4.out hSu) 1 _ rfl; clear hSu; go_simp; (try with_reducible rfl)
                try simp only [Act.put, List.setIfInBounds_toArray, List.set_cons_zero, List.set_cons_succ]
                refine tkW 30 (some 100) (v := ?_) rfl ?_ ?_
                rotate_left
                · intro u hSu; have hqd := HRG.out u (joinB HB4.out hSu) 1 _ rfl; clear hSu; go_simp; (try with_reducible rfl)
                try simp only [Act.put, List.setIfInBounds_toArray, List.set_cons_zero, List.set_cons_succ]
                refine tkV 32 (some 102) (v := .agg #[.int .i64 s9.zlog, .int .i64 s9.zpages, .int .i64 s9.zframes, .slice pb.A s9.disk.sectors.length pb.c, .int .i64 s9.disk.left, .bool s9.disk.down, .int .i64 s9.log.from_, .int .i64 s9.log.n, .int .i64 s9.log.end_, .int .i64 s9.log.safe, .string s9.log.tail, .slice pb.F pb.fn pb.fc, .int .i64 s9.hand, .slice pb.T s9.txns.length pb.tc, .int .i64 s9.next]) rfl (yieldsIf_load_mid (by rfl) 37 (.tmp 10) rfl gb 0 (by rfl) #[.int .i64 s9.zlog, .int .i64 s9.zpages, .int .i64 s9.zframes, .slice pb.A s9.disk.sectors.length pb.c, .int .i64 s9.disk.left, .bool s9.disk.down, .int .i64 s9.log.from_, .int .i64 s9.log.n, .int .i64 s9.log.end_, .int .i64 s9.log.safe, .string s9.log.tail, .slice pb.F pb.fn pb.fc, .int .i64 s9.hand, .slice pb.T s9.txns.length pb.tc, .int .i64 s9.next].toList _ (fun u hu => (by intro j v hj; rw [Nat.zero_add, blkCell (blkOld HT4.out hu)]; simpa using hj)) Tryz.underlying37 (by kernel_rfl) (by kernel_rfl)) ?_
                try simp only [Act.put, List.setIfInBounds_toArray, List.set_cons_zero, List.set_cons_succ]
                refine tkW 33 (some 103) (v := ?_) rfl ?_ ?_
                rotate_left
                · intro u hSu; have hqd := HRG.out u (joinB HB4.out hSu) 1 _ rfl; clear hSu; go_simp; (try with_reducible rfl)
                try simp only [Act.put, List.setIfInBounds_toArray, List.set_cons_zero, List.set_cons_succ]
                refine tkW 34 (some 104) (v := ?_) rfl ?_ ?_
                rotate_left
                · intro u hSu; have hqd := HRG.out u (joinB HB4.out hSu) 1 _ rfl; clear hSu; go_simp; (try with_reducible rfl)
                try simp only [Act.put, List.setIfInBounds_toArray, List.set_cons_zero, List.set_cons_succ]
                refine tkW 35 (some 105) (v := ?_) rfl ?_ ?_
                rotate_left
                · intro u hSu; have hqd := HRG.out u (joinB HB4.out hSu) 1 _ rfl; clear hSu; go_simp; (try with_reducible rfl)
                try simp only [Act.put, List.setIfInBounds_toArray, List.set_cons_zero, List.set_cons_succ]
                refine tkW 36 (some 106) (v := ?_) rfl ?_ ?_
                rotate_left
                · intro u hSu; have hqd := HRG.out u (joinB HB4.out hSu) 1 _ rfl; clear hSu; go_simp; (try with_reducible rfl)
                try simp only [Act.put, List.setIfInBounds_toArray, List.set_cons_zero, List.set_cons_succ]
                refine tkW 37 (some 107) (v := ?_) rfl ?_ ?_
                rotate_left
                · intro u hSu; have hqd := HRG.out u (joinB HB4.out hSu) 1 _ rfl; clear hSu; go_simp; (try with_reducible rfl)
                try simp only [Act.put, List.setIfInBounds_toArray, List.set_cons_zero, List.set_cons_succ]
                refine rdH 31 (some 101) rfl (fun K hK => ?_)
                go_simp
                refine (HMK.out pb _ (HSB4.out.below Z1)).mono ?_; rintro e v2 ⟨rfl, hb6⟩
                have Z2 := joinB Z1 hb6
                clear hSn
                have hSn := Z2
                refine hK.out _ _ ?_ (fun hHeld => ?_)
                · first | exact hSn | exact Z0
                clear hK K
                try simp only [Act.put, List.setIfInBounds_toArray, List.set_cons_zero, List.set_cons_succ]
                refine rdH 38 (some 108) rfl (fun K hK => ?_)
                go_simp
                refine (HRM.out pb _ (HSB4.out.below Z2)).mono ?_; rintro e v3 ⟨rfl, hb7⟩
                have Z3 := joinB Z2 hb7
                clear hSn
                have hSn := Z3
                refine hK.out _ _ ?_ (fun hHeld => ?_)
                · first | exact hSn | exact Z0
                clear hK K
                try simp only [Act.put, List.setIfInBounds_toArray, List.set_cons_zero, List.set_cons_succ]
                refine tkW 39 (some 109) (v := ?_) rfl ?_ ?_
                rotate_left
                · intro u hSu; have hqd := HRG.out u (joinB HB4.out hSu) 1 _ rfl; clear hSu; go_simp; (try with_reducible rfl)
                try simp only [Act.put, List.setIfInBounds_toArray, List.set_cons_zero, List.set_cons_succ]
                refine tkW 40 (some 110) (v := ?_) rfl ?_ ?_
                rotate_left
                · intro u hSu; have hqd := HRG.out u (joinB HB4.out hSu) 1 _ rfl; clear hSu; go_simp; (try with_reducible rfl)
                try simp only [Act.put, List.setIfInBounds_toArray, List.set_cons_zero, List.set_cons_succ]
                refine wpAnyH_done (by kernel_rfl) ?_ _
                clear hHeld hSn hte hm9 he9 hok hmk HSAME HMK HRM HTE
                have HT5 := Lib.hid (blkOld HT4.out Z3)
                have HBX5 := Lib.hid (blkOld HBX4.out Z3)
                have HSB5 := Lib.hid (HSB4.out.below Z3)
                have HB5 := Lib.hid (joinB HBW.out (joinB HB4.out Z3))
                obtain ⟨la9, lt9, hsafe⟩ := HGD9.out
                have HSF := Lib.hid hsafe
                clear hsafe Z0 Z1 Z2 Z3 hb5 hb6 hb7 HT4 HBX4 HSB4 HA4 HSA4 HB4 HX4 HY4 HGD9 HRG HCW HLN
                have HS10 := Lib.hid (HSB5.out.other HBX5.out (by decide) (by decide) #[.int .i64 s9.zlog, .int .i64 s9.zpages, .int .i64 s9.zframes, .slice pb.A s9.disk.sectors.length pb.c, .int .i64 s9.disk.left, .bool s9.disk.down, .int .i64 s9.log.from_, .int .i64 s9.log.n, .int .i64 s9.log.end_, .int .i64 s9.log.safe, .string s9.log.tail, .slice pb.F pb.fn pb.fc, .int .i64 s9.hand, .slice pb.T s9.txns.length pb.tc, .int .i64 s9.next])
                have HX10 := Lib.hid (setRow_heap v3 gs _ #[.int .i64 s9.zlog, .int .i64 s9.zpages, .int .i64 s9.zframes, .slice pb.A s9.disk.sectors.length pb.c, .int .i64 s9.disk.left, .bool s9.disk.down, .int .i64 s9.log.from_, .int .i64 s9.log.n, .int .i64 s9.log.end_, .int .i64 s9.log.safe, .string s9.log.tail, .slice pb.F pb.fn pb.fc, .int .i64 s9.hand, .slice pb.T s9.txns.length pb.tc, .int .i64 s9.next] _ _ HBX5.out)
                have HB10 := Lib.hid (below_setRow HB5.out (g := gs) (by omega) #[.int .i64 s9.zlog, .int .i64 s9.zpages, .int .i64 s9.zframes, .slice pb.A s9.disk.sectors.length pb.c, .int .i64 s9.disk.left, .bool s9.disk.down, .int .i64 s9.log.from_, .int .i64 s9.log.n, .int .i64 s9.log.end_, .int .i64 s9.log.safe, .string s9.log.tail, .slice pb.F pb.fn pb.fc, .int .i64 s9.hand, .slice pb.T s9.txns.length pb.tc, .int .i64 s9.next])
                go_wp2_with (first | (with_reducible refine listLoad (by kernel_rfl) 37 (.tmp 10) rfl gb rfl #[.int .i64 s9.zlog, .int .i64 s9.zpages, .int .i64 s9.zframes, .slice pb.A s9.disk.sectors.length pb.c, .int .i64 s9.disk.left, .bool s9.disk.down, .int .i64 s9.log.from_, .int .i64 s9.log.n, .int .i64 s9.log.end_, .int .i64 s9.log.safe, .string s9.log.tail, .slice pb.F pb.fn pb.fc, .int .i64 s9.hand, .slice pb.T s9.txns.length pb.tc, .int .i64 s9.next] _ HT5.out _ Tryz.underlying37 (by kernel_rfl) (by kernel_rfl) ?_) | (with_reducible refine listStore (by kernel_rfl) 37 (.tmp 5) (.tmp 111) rfl gs #[.int .i64 s9.zlog, .int .i64 s9.zpages, .int .i64 s9.zframes, .slice pb.A s9.disk.sectors.length pb.c, .int .i64 s9.disk.left, .bool s9.disk.down, .int .i64 s9.log.from_, .int .i64 s9.log.n, .int .i64 s9.log.end_, .int .i64 s9.log.safe, .string s9.log.tail, .slice pb.F pb.fn pb.fc, .int .i64 s9.hand, .slice pb.T s9.txns.length pb.tc, .int .i64 s9.next] _ _ rfl rfl HBX5.out (by kernel_rfl) (by kernel_rfl) (by kernel_rfl) ?_))
                go_roundw
                case rel => exact ⟨k + 1, s9, pb, la9, lt9, (by go_num), by omega, HSF.out, by omega, by omega, by omega, HPB.out, HS10.out, HX10.out, HB10.out⟩
                case measure => simp [intOf]; omega
      · have hki : ¬ (k : Int) < (l.length : Int) := by omega
        clear HGD HST HBX HPF HR HP
        go_wp2_with (go_at_call 6; (with_reducible refine (HAW.out _).mono ?_); rintro e w6 ⟨rfl, hb6⟩)
        go_ret
        exact ⟨rfl, joinB HBW.out hb6⟩
end Go.Proofs.YthfglhafphfhiaaGreat
