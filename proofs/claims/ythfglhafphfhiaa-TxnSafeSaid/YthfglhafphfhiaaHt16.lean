/- The walk over the statement TxnSafe. -/
import Derived.Test.YthfglhafphfhiaaHt15
namespace Go.Proofs.Ythfglhafphfhiaa
open Go.RowKit
set_option maxRecDepth 100000 in
set_option maxHeartbeats 8000000 in
theorem txnsafe_any (n : Int) (l : List Tx.Deed) (A0 : Option Addr) (c0 : Nat) (hp : ∀ d ∈ l, d.n ≤ 9223372036854775807) (w : World) (hr : Reads w A0 c0 l.length (l.flatMap deC)) :
    Calls Try.prog 5 #[.int .i64 n, .slice A0 l.length c0] w fun e w' => e = .returned (.bool true) ∧ Below w.heap.size w w' := by
  have HAW := Lib.hid (fun W => tawake_any W)
  have HFE := Lib.hid (fun W => tfew_any n A0 l.length c0 W)
  have HR := Lib.hid hr
  have HP := Lib.hid hp
  clear hr hp
  cases hf : decide (0 ≤ n ∧ n ≤ 60 ∧ l.length ≤ 40) with
  | false =>
    rw [hf] at HFE
    clear hf HR
    go_enter Try.func5, Try.ntmps5
    go_wp2_with (first
      | (go_at_call 10; (with_reducible refine (HFE.out _).mono ?_); rintro e w1 ⟨rfl, hw1⟩; subst hw1)
      | (go_at_call 6; (with_reducible refine (HAW.out _).mono ?_); rintro e w2 ⟨rfl, hb2⟩))
    go_ret
    exact ⟨rfl, hb2⟩
  | true =>
    rw [hf] at HFE
    obtain ⟨hn0, hn1, hl40⟩ := of_decide_eq_true hf
    clear hf
    obtain ⟨N, rfl⟩ := Int.eq_ofNat_of_zero_le hn0
    have hN : N ≤ 60 := by omega
    have HFR := Lib.hid (fun W => tfresh_any N hN W)
    have HG0 := Lib.hid (Tx.safe_new N)
    have hnx : (Tx.fresh N).next = 1 := rfl
    have htx : (Tx.fresh N).txns.length = 0 := rfl
    have HNX0 := Lib.hid hnx
    have HTX0 := Lib.hid htx
    obtain ⟨s0, hs0⟩ : ∃ s, s = Tx.fresh N := ⟨_, rfl⟩
    rw [← hs0] at HFR HG0 HNX0 HTX0
    clear hs0 hnx htx hn0 hn1
    go_enter Try.func5, Try.ntmps5
    go_upto_region 4 with (first
      | (go_at_call 10; (with_reducible refine (HFE.out _).mono ?_); rintro e w1 ⟨rfl, hw1⟩; subst hw1)
      | (go_at_call 11; (with_reducible refine (HFR.out _).mono ?_); rintro e w2 ⟨p0, rfl, hs2, -, hb2⟩; (try dsimp only [storeV]))
      | (with_reducible refine wpList_store_new rfl 49 (.tmp 5) (.tmp 23) rfl #[.int .i64 s0.zlog, .int .i64 s0.zpages, .int .i64 s0.zframes, .slice p0.A s0.disk.sectors.length p0.c, .int .i64 s0.disk.left, .bool s0.disk.down, .int .i64 s0.log.from_, .int .i64 s0.log.n, .int .i64 s0.log.end_, .int .i64 s0.log.safe, .string s0.log.tail, .slice p0.F p0.fn p0.fc, .int .i64 s0.hand, .slice p0.T s0.txns.length p0.tc, .int .i64 s0.next] _ _ rfl (by kernel_rfl) (by kernel_rfl) (by kernel_rfl) (by kernel_rfl) ?_))
    have X0 := Lib.hid (heap_alloc_new w2 (.cells #[.int .i64 s0.zlog, .int .i64 s0.zpages, .int .i64 s0.zframes, .slice p0.A s0.disk.sectors.length p0.c, .int .i64 s0.disk.left, .bool s0.disk.down, .int .i64 s0.log.from_, .int .i64 s0.log.n, .int .i64 s0.log.end_, .int .i64 s0.log.safe, .string s0.log.tail, .slice p0.F p0.fn p0.fc, .int .i64 s0.hand, .slice p0.T s0.txns.length p0.tc, .int .i64 s0.next] 49))
    have S0 := Lib.hid (hs2.below (allocB w2 (.cells #[.int .i64 s0.zlog, .int .i64 s0.zpages, .int .i64 s0.zframes, .slice p0.A s0.disk.sectors.length p0.c, .int .i64 s0.disk.left, .bool s0.disk.down, .int .i64 s0.log.from_, .int .i64 s0.log.n, .int .i64 s0.log.end_, .int .i64 s0.log.safe, .string s0.log.tail, .slice p0.F p0.fn p0.fc, .int .i64 s0.hand, .slice p0.T s0.txns.length p0.tc, .int .i64 s0.next] 49)))
    have B0 := Lib.hid (pastAlloc (o := .cells #[.int .i64 s0.zlog, .int .i64 s0.zpages, .int .i64 s0.zframes, .slice p0.A s0.disk.sectors.length p0.c, .int .i64 s0.disk.left, .bool s0.disk.down, .int .i64 s0.log.from_, .int .i64 s0.log.n, .int .i64 s0.log.end_, .int .i64 s0.log.safe, .string s0.log.tail, .slice p0.F p0.fn p0.fc, .int .i64 s0.hand, .slice p0.T s0.txns.length p0.tc, .int .i64 s0.next] 49) hb2)
    have hgs0 := hb2.size
    obtain ⟨gs, hgs⟩ : ∃ g, g = w2.heap.size := ⟨_, rfl⟩
    obtain ⟨W0, hW0⟩ : ∃ W, W = w2.alloc (.cells #[.int .i64 s0.zlog, .int .i64 s0.zpages, .int .i64 s0.zframes, .slice p0.A s0.disk.sectors.length p0.c, .int .i64 s0.disk.left, .bool s0.disk.down, .int .i64 s0.log.from_, .int .i64 s0.log.n, .int .i64 s0.log.end_, .int .i64 s0.log.safe, .string s0.log.tail, .slice p0.F p0.fn p0.fc, .int .i64 s0.hand, .slice p0.T s0.txns.length p0.tc, .int .i64 s0.next] 49) := ⟨_, rfl⟩
    have hsz0 : W0.heap.size = gs + 1 := by rw [hW0, hgs]; simp
    rw [← hgs] at X0 hgs0
    rw [← hW0] at X0 S0 B0
    rw [← hW0, ← hgs]
    clear hgs hW0 hs2 hb2 HFR HFE
    have hsz1 : (W0.alloc (.cells #[] 3)).heap.size = gs + 1 + 1 := by rw [← hsz0]; simp
    have ho1 := ownEmpty W0 3 1
    have ho2 := ownEmpty (W0.alloc (.cells #[] 3)) 3 1
    rw [hsz0] at ho1
    rw [hsz1] at ho2
    have R0 := Lib.hid (show TwoR gs gs (storeA s0 p0) w ((W0.alloc (.cells #[] 3)).alloc (.cells #[] 3)) (.slice (some ⟨gs + 1, 0, none⟩) 0 0) (.slice (some ⟨gs + 1 + 1, 0, none⟩) 0 0) s0 p0 [] [] from
      ⟨blkOld X0.out (pastAlloc (allocB W0 _)), blkOld X0.out (pastAlloc (allocB W0 _)), hgs0, joinB B0.out (pastAlloc (allocB W0 _)), S0.out.below (pastAlloc (allocB W0 _)),
        ownBelow ho1 (allocB _ _), ownMono ho2 (Nat.le_succ _), by simp [Value.ownBlock]⟩)
    clear ho1 ho2
    clear X0 S0 B0
    go_wp2_with fail
    go_loopw [6, 7, 8] (fun va vt i wr => ∃ (k : Nat) (s : Tx.St) (p : SP) (la lt : List Int), i = .int .i64 (k : Int) ∧ k ≤ l.length ∧ Tx.Safe N s la lt ∧ s.txns.length ≤ 2 * k ∧ 1 ≤ s.next ∧ s.next ≤ (k : Int) + 1 ∧ la.length ≤ k ∧ lt.length ≤ k ∧ TwoR gs gs (storeA s p) w wr va vt s p la lt) (fun _ _ i _ => l.length - (intOf i).toNat)
    case atStart => exact ⟨0, s0, p0, [], [], rfl, Nat.zero_le _, HG0.out, by rw [HTX0.out]; exact Nat.zero_le _, by rw [HNX0.out]; exact Int.le_refl _, by rw [HNX0.out]; decide, Nat.zero_le _, Nat.zero_le _, R0.out⟩
    case round =>
      obtain ⟨k, s, p, la, lt, rfl, hk, hgd, htl, hx1, hx2, hla, hlt0, htwo⟩ := hrel
      have HGD := Lib.hid hgd
      have HTW := Lib.hid htwo
      have HBX := Lib.hid htwo.box
      have HBW := Lib.hid htwo.low
      clear hgd htwo R0 HG0 HNX0 HTX0
      by_cases hlt : k < l.length
      · have hki : (k : Int) < (l.length : Int) := by omega
        have hk0 : (0 : Int) ≤ (k : Int) := by omega
        have hwk : IntKind.i64.wrap ((k : Int) + 1) = (k : Int) + 1 := IntWalk.i64_in _ (by omega)
        obtain ⟨b, off, rfl, hc, hbl, hcell⟩ := read_at deC_len HR.out hlt
        have HCW := Lib.hid (show ∀ u, Below w.heap.size w u → u.rangeAt b (off + k * 3) (deC l[k]) from fun u hu j v hj => by rw [hu.cell (p := ⟨b, off + k * 3 + j, none⟩) hbl]; exact hcell j v hj)
        have HLB := Lib.hid (Tx.safe_logB HGD.out (by omega))
        have HLF := Lib.hid HGD.out.left
        have HDOC := Lib.hid (fun W (hw : Below wr.heap.size wr W) => tdo_any s p HLB.out (by omega) (by omega) (by omega) (by have := HLF.out; omega) l[k] W (HTW.out.st.below hw))
        have HGO := Lib.hid (Tx.safe_do HGD.out l[k] (HP.out _ (List.getElem_mem hlt)))
        have HDL := Lib.hid (Tx.do_len s l[k])
        have HDN := Lib.hid (Tx.do_next s l[k])
        obtain ⟨d, hd⟩ : ∃ d, d = l[k] := ⟨_, rfl⟩
        rw [← hd] at HDOC HGO HDL HDN HCW
        clear hd hcell HLB HLF
        generalize Tx.doS s d = y at HDOC HGO HDL HDN
        obtain ⟨s9, m9, e9⟩ := y
        obtain ⟨dk, dt, dm⟩ := d
        dsimp only [storeV, deedV, deC] at HDOC HCW
        have hq0 := HCW.out wr HBW.out 0 _ rfl
        simp only [Nat.add_zero] at hq0
        have HRG := Lib.hid (fun u (hu : Below wr.heap.size wr u) => HCW.out u (joinB HBW.out hu))
        go_upto_region 8 with fail
        go_cut [9, 10, 11] (fun x y z wc => ∃ (gt : Nat) (p9 : SP), x = .pointer (some ⟨gt, 0, none⟩) ∧ y = .int .i64 m9 ∧ z = .int .i64 e9 ∧ wc.heap[gt]? = some (.cells #[.int .i64 s9.zlog, .int .i64 s9.zpages, .int .i64 s9.zframes, .slice p9.A s9.disk.sectors.length p9.c, .int .i64 s9.disk.left, .bool s9.disk.down, .int .i64 s9.log.from_, .int .i64 s9.log.n, .int .i64 s9.log.end_, .int .i64 s9.log.safe, .string s9.log.tail, .slice p9.F p9.fn p9.fc, .int .i64 s9.hand, .slice p9.T s9.txns.length p9.tc, .int .i64 s9.next] 49 (0, 0)) ∧ StoreR wc s9 p9 ∧ Below wr.heap.size wr wc)
        case first =>
          have Z0 : Below wr.heap.size wr wr.drew := (Below.refl _ wr).drew
          refine wp_region_held_drew (S := (fun u => Below wr.heap.size wr u)) (by kernel_rfl) ?_ (fun hHeld => ?_)
          · exact Z0
          refine tkV 0 (some 33) (v := .agg #[.int .i64 s.zlog, .int .i64 s.zpages, .int .i64 s.zframes, .slice p.A s.disk.sectors.length p.c, .int .i64 s.disk.left, .bool s.disk.down, .int .i64 s.log.from_, .int .i64 s.log.n, .int .i64 s.log.end_, .int .i64 s.log.safe, .string s.log.tail, .slice p.F p.fn p.fc, .int .i64 s.hand, .slice p.T s.txns.length p.tc, .int .i64 s.next]) rfl (yieldsIf_load_mid (by rfl) 49 (.tmp 5) rfl gs 0 (by rfl) #[.int .i64 s.zlog, .int .i64 s.zpages, .int .i64 s.zframes, .slice p.A s.disk.sectors.length p.c, .int .i64 s.disk.left, .bool s.disk.down, .int .i64 s.log.from_, .int .i64 s.log.n, .int .i64 s.log.end_, .int .i64 s.log.safe, .string s.log.tail, .slice p.F p.fn p.fc, .int .i64 s.hand, .slice p.T s.txns.length p.tc, .int .i64 s.next].toList _ (fun u hu => (by intro j v hj; rw [Nat.zero_add, blkCell (blkOld HBX.out hu)]; simpa using hj)) Try.underlying49 (by kernel_rfl) (by kernel_rfl)) ?_
          try simp only [Act.put, List.setIfInBounds_toArray, List.set_cons_zero, List.set_cons_succ]
          refine tkW 1 (some 34) (v := ?_) rfl ?_ ?_
          rotate_left
          · intro u hSu; clear hSu; go_simp; (try with_reducible rfl)
          try simp only [Act.put, List.setIfInBounds_toArray, List.set_cons_zero, List.set_cons_succ]
          refine tkW 2 (some 35) (v := ?_) rfl ?_ ?_
          rotate_left
          · intro u hSu; clear hSu; go_simp; (try with_reducible rfl)
          try simp only [Act.put, List.setIfInBounds_toArray, List.set_cons_zero, List.set_cons_succ]
          refine tkW 3 (some 36) (v := ?_) rfl ?_ ?_
          rotate_left
          · intro u hSu; clear hSu; go_simp; (try with_reducible rfl)
          try simp only [Act.put, List.setIfInBounds_toArray, List.set_cons_zero, List.set_cons_succ]
          refine tkV 4 (some 37) (v := .agg #[.int .i64 dk, .int .i64 dt, .int .i64 dm]) rfl (yieldsIf_load_mid (by rfl) 52 (.tmp 36) rfl b (off + k * 3) (by rfl) [.int .i64 dk, .int .i64 dt, .int .i64 dm] _ HRG.out Try.underlying52 (by kernel_rfl) (by kernel_rfl)) ?_
          try simp only [Act.put, List.setIfInBounds_toArray, List.set_cons_zero, List.set_cons_succ]
          refine wpAnyH_ready (rs := [5, 10]) (by kernel_rfl) (by simp) ?_
          refine (AllReadyH.cons (o := { dst := some 38, op := _, type := _, pos := _, after := _, guard := _ }) rfl (fun K hK => ?_) (AllReadyH.cons (o := { dst := some 9, op := _, type := _, pos := _, after := _, guard := _ }) rfl (fun K hK => ?_) AllReadyH.nil))
          ·
            go_simp
            refine (HDOC.out _ Z0).mono ?_; rintro e w5 ⟨p9, rfl, hs5, -, hb5⟩; (try dsimp only [storeV]); have Z2 := joinB Z0 hb5; try clear hSn
            have hSn := Z2
            refine hK.out _ _ ?_ (fun hHeld => ?_)
            · exact hSn
            clear hK K
            try simp only [Act.put, List.setIfInBounds_toArray, List.set_cons_zero, List.set_cons_succ]
            refine tkW 6 (some 32) (v := ?_) rfl ?_ ?_
            rotate_left
            · intro u hSu; clear hSu; go_simp; (try with_reducible rfl)
            try simp only [Act.put, List.setIfInBounds_toArray, List.set_cons_zero, List.set_cons_succ]
            refine tkW 7 (some 39) (v := ?_) rfl ?_ ?_
            rotate_left
            · intro u hSu; clear hSu; go_simp; (try with_reducible rfl)
            try simp only [Act.put, List.setIfInBounds_toArray, List.set_cons_zero, List.set_cons_succ]
            refine tkW 8 (some 40) (v := ?_) rfl ?_ ?_
            rotate_left
            · intro u hSu; clear hSu; go_simp; (try with_reducible rfl)
            try simp only [Act.put, List.setIfInBounds_toArray, List.set_cons_zero, List.set_cons_succ]
            refine tkW 9 (some 41) (v := ?_) rfl ?_ ?_
            rotate_left
            · intro u hSu; clear hSu; go_simp; (try with_reducible rfl)
            try simp only [Act.put, List.setIfInBounds_toArray, List.set_cons_zero, List.set_cons_succ]
            refine rdH 10 (some 9) rfl (fun K hK => ?_)
            go_simp
            have HG := heap_alloc_new w5 (.cells #[.int .i64 0, .int .i64 0, .int .i64 0, .slice none 0 0, .int .i64 0, .bool false, .int .i64 0, .int .i64 0, .int .i64 0, .int .i64 0, .string ⟨#[]⟩, .slice none 0 0, .int .i64 0, .slice none 0 0, .int .i64 0] 49); have Z3 := joinB Z2 (allocB w5 (.cells #[.int .i64 0, .int .i64 0, .int .i64 0, .slice none 0 0, .int .i64 0, .bool false, .int .i64 0, .int .i64 0, .int .i64 0, .int .i64 0, .string ⟨#[]⟩, .slice none 0 0, .int .i64 0, .slice none 0 0, .int .i64 0] 49)); have hs6 := hs5.below (allocB w5 (.cells #[.int .i64 0, .int .i64 0, .int .i64 0, .slice none 0 0, .int .i64 0, .bool false, .int .i64 0, .int .i64 0, .int .i64 0, .int .i64 0, .string ⟨#[]⟩, .slice none 0 0, .int .i64 0, .slice none 0 0, .int .i64 0] 49)); clear hSn; have hSn := Z3
            refine hK.out _ _ ?_ (fun hHeld => ?_)
            · exact hSn
            clear hK K
            try simp only [Act.put, List.setIfInBounds_toArray, List.set_cons_zero, List.set_cons_succ]
            refine rdH 11 none rfl (fun K hK => ?_)
            refine wantedIf (by rfl) ?_
            refine wp_store_whole 49 (.tmp 9) (.tmp 39) rfl w5.heap.size #[.int .i64 s9.zlog, .int .i64 s9.zpages, .int .i64 s9.zframes, .slice p9.A s9.disk.sectors.length p9.c, .int .i64 s9.disk.left, .bool s9.disk.down, .int .i64 s9.log.from_, .int .i64 s9.log.n, .int .i64 s9.log.end_, .int .i64 s9.log.safe, .string s9.log.tail, .slice p9.F p9.fn p9.fc, .int .i64 s9.hand, .slice p9.T s9.txns.length p9.tc, .int .i64 s9.next] _ _ rfl rfl HG (by kernel_rfl) (by kernel_rfl) (by kernel_rfl) ?_
            have Z4 := below_setRow Z3 (g := w5.heap.size) (by have := Z2.size; omega) #[.int .i64 s9.zlog, .int .i64 s9.zpages, .int .i64 s9.zframes, .slice p9.A s9.disk.sectors.length p9.c, .int .i64 s9.disk.left, .bool s9.disk.down, .int .i64 s9.log.from_, .int .i64 s9.log.n, .int .i64 s9.log.end_, .int .i64 s9.log.safe, .string s9.log.tail, .slice p9.F p9.fn p9.fc, .int .i64 s9.hand, .slice p9.T s9.txns.length p9.tc, .int .i64 s9.next]
            have HG4 := setRow_heap _ _ _ #[.int .i64 s9.zlog, .int .i64 s9.zpages, .int .i64 s9.zframes, .slice p9.A s9.disk.sectors.length p9.c, .int .i64 s9.disk.left, .bool s9.disk.down, .int .i64 s9.log.from_, .int .i64 s9.log.n, .int .i64 s9.log.end_, .int .i64 s9.log.safe, .string s9.log.tail, .slice p9.F p9.fn p9.fc, .int .i64 s9.hand, .slice p9.T s9.txns.length p9.tc, .int .i64 s9.next] _ _ HG
            have hs7 := hs6.other HG (by decide) (by decide) #[.int .i64 s9.zlog, .int .i64 s9.zpages, .int .i64 s9.zframes, .slice p9.A s9.disk.sectors.length p9.c, .int .i64 s9.disk.left, .bool s9.disk.down, .int .i64 s9.log.from_, .int .i64 s9.log.n, .int .i64 s9.log.end_, .int .i64 s9.log.safe, .string s9.log.tail, .slice p9.F p9.fn p9.fc, .int .i64 s9.hand, .slice p9.T s9.txns.length p9.tc, .int .i64 s9.next]
            clear hSn
            have hSn := Z4
            refine hK.out _ _ ?_ (fun hHeld => ?_)
            · exact hSn
            clear hK K
            try simp only [Act.put]
            refine tkW 12 (some 10) (v := ?_) rfl ?_ ?_
            rotate_left
            · intro u hSu; clear hSu; go_simp; (try with_reducible rfl)
            try simp only [Act.put, List.setIfInBounds_toArray, List.set_cons_zero, List.set_cons_succ]
            refine tkW 13 (some 11) (v := ?_) rfl ?_ ?_
            rotate_left
            · intro u hSu; clear hSu; go_simp; (try with_reducible rfl)
            try simp only [Act.put, List.setIfInBounds_toArray, List.set_cons_zero, List.set_cons_succ]
            refine wpAnyH_done (by kernel_rfl) ?_ _
            clear hHeld hSn
            go_wp2_with fail
            go_meet
            case rel => exact ⟨_, p9, rfl, rfl, rfl, HG4, hs7, Z4⟩
          ·
            go_simp
            have Z1 := joinB Z0 (allocB wr.drew (.cells #[.int .i64 0, .int .i64 0, .int .i64 0, .slice none 0 0, .int .i64 0, .bool false, .int .i64 0, .int .i64 0, .int .i64 0, .int .i64 0, .string ⟨#[]⟩, .slice none 0 0, .int .i64 0, .slice none 0 0, .int .i64 0] 49)); have hSn := Z1
            refine hK.out _ _ ?_ (fun hHeld => ?_)
            · exact hSn
            clear hK K
            try simp only [Act.put, List.setIfInBounds_toArray, List.set_cons_zero, List.set_cons_succ]
            refine rdH 5 (some 38) rfl (fun K hK => ?_)
            go_simp
            refine (HDOC.out _ Z1).mono ?_; rintro e w5 ⟨p9, rfl, hs5, -, hb5⟩; (try dsimp only [storeV]); have Z2 := joinB Z1 hb5; try clear hSn
            have hSn := Z2
            have HG := blkNew hb5
            refine hK.out _ _ ?_ (fun hHeld => ?_)
            · exact hSn
            clear hK K
            try simp only [Act.put, List.setIfInBounds_toArray, List.set_cons_zero, List.set_cons_succ]
            refine tkW 6 (some 32) (v := ?_) rfl ?_ ?_
            rotate_left
            · intro u hSu; clear hSu; go_simp; (try with_reducible rfl)
            try simp only [Act.put, List.setIfInBounds_toArray, List.set_cons_zero, List.set_cons_succ]
            refine tkW 7 (some 39) (v := ?_) rfl ?_ ?_
            rotate_left
            · intro u hSu; clear hSu; go_simp; (try with_reducible rfl)
            try simp only [Act.put, List.setIfInBounds_toArray, List.set_cons_zero, List.set_cons_succ]
            refine tkW 8 (some 40) (v := ?_) rfl ?_ ?_
            rotate_left
            · intro u hSu; clear hSu; go_simp; (try with_reducible rfl)
            try simp only [Act.put, List.setIfInBounds_toArray, List.set_cons_zero, List.set_cons_succ]
            refine tkW 9 (some 41) (v := ?_) rfl ?_ ?_
            rotate_left
            · intro u hSu; clear hSu; go_simp; (try with_reducible rfl)
            try simp only [Act.put, List.setIfInBounds_toArray, List.set_cons_zero, List.set_cons_succ]
            refine rdH 11 none rfl (fun K hK => ?_)
            refine wantedIf (by rfl) ?_
            refine wp_store_whole 49 (.tmp 9) (.tmp 39) rfl wr.drew.heap.size #[.int .i64 s9.zlog, .int .i64 s9.zpages, .int .i64 s9.zframes, .slice p9.A s9.disk.sectors.length p9.c, .int .i64 s9.disk.left, .bool s9.disk.down, .int .i64 s9.log.from_, .int .i64 s9.log.n, .int .i64 s9.log.end_, .int .i64 s9.log.safe, .string s9.log.tail, .slice p9.F p9.fn p9.fc, .int .i64 s9.hand, .slice p9.T s9.txns.length p9.tc, .int .i64 s9.next] _ _ rfl rfl HG (by kernel_rfl) (by kernel_rfl) (by kernel_rfl) ?_
            have Z4 := below_setRow Z2 (g := wr.drew.heap.size) (by show wr.heap.size ≤ wr.heap.size; omega) #[.int .i64 s9.zlog, .int .i64 s9.zpages, .int .i64 s9.zframes, .slice p9.A s9.disk.sectors.length p9.c, .int .i64 s9.disk.left, .bool s9.disk.down, .int .i64 s9.log.from_, .int .i64 s9.log.n, .int .i64 s9.log.end_, .int .i64 s9.log.safe, .string s9.log.tail, .slice p9.F p9.fn p9.fc, .int .i64 s9.hand, .slice p9.T s9.txns.length p9.tc, .int .i64 s9.next]
            have HG4 := setRow_heap _ _ _ #[.int .i64 s9.zlog, .int .i64 s9.zpages, .int .i64 s9.zframes, .slice p9.A s9.disk.sectors.length p9.c, .int .i64 s9.disk.left, .bool s9.disk.down, .int .i64 s9.log.from_, .int .i64 s9.log.n, .int .i64 s9.log.end_, .int .i64 s9.log.safe, .string s9.log.tail, .slice p9.F p9.fn p9.fc, .int .i64 s9.hand, .slice p9.T s9.txns.length p9.tc, .int .i64 s9.next] _ _ HG
            have hs7 := hs5.other HG (by decide) (by decide) #[.int .i64 s9.zlog, .int .i64 s9.zpages, .int .i64 s9.zframes, .slice p9.A s9.disk.sectors.length p9.c, .int .i64 s9.disk.left, .bool s9.disk.down, .int .i64 s9.log.from_, .int .i64 s9.log.n, .int .i64 s9.log.end_, .int .i64 s9.log.safe, .string s9.log.tail, .slice p9.F p9.fn p9.fc, .int .i64 s9.hand, .slice p9.T s9.txns.length p9.tc, .int .i64 s9.next]
            clear hSn
            have hSn := Z4
            refine hK.out _ _ ?_ (fun hHeld => ?_)
            · exact hSn
            clear hK K
            try simp only [Act.put]
            refine tkW 12 (some 10) (v := ?_) rfl ?_ ?_
            rotate_left
            · intro u hSu; clear hSu; go_simp; (try with_reducible rfl)
            try simp only [Act.put, List.setIfInBounds_toArray, List.set_cons_zero, List.set_cons_succ]
            refine tkW 13 (some 11) (v := ?_) rfl ?_ ?_
            rotate_left
            · intro u hSu; clear hSu; go_simp; (try with_reducible rfl)
            try simp only [Act.put, List.setIfInBounds_toArray, List.set_cons_zero, List.set_cons_succ]
            refine wpAnyH_done (by kernel_rfl) ?_ _
            clear hHeld hSn
            go_wp2_with fail
            go_meet
            case rel => exact ⟨_, p9, rfl, rfl, rfl, HG4, hs7, Z4⟩
        case rest =>
          obtain ⟨gt, p9, rfl, rfl, rfl, hgt, hs9, hb9⟩ := hcut
          obtain ⟨wb, rfl⟩ : ∃ wm : World, wm = wc := ⟨_, rfl⟩
          have TW0 := Lib.hid (HTW.out.done hb9 hgt hs9)
          have hq2 := HCW.out wb TW0.out.low 0 _ rfl
          have hq3 := HCW.out wb TW0.out.low 1 _ rfl
          simp only [Nat.add_zero] at hq2
          have hps := TW0.out.past
          clear hgt hs9 hb9 hq0 HDOC HRG HBX HBW HTW
          simp only at HGO HDL HDN
          obtain ⟨a1, a2⟩ := HDN.out
          have a3 := HDL.out
          clear HDL HDN
          by_cases hk2 : dk = 2
          · subst hk2
            go_upto_region 11 with (at_builtin; refine wpList_pushA rfl (.tmp 48) (.tmp 54) 61 3 Try.underlying61 info_i rfl (by omega) (by omega) rfl (gs + 1) _ la.length (la.flatMap iC) rfl (TW0.out.step (allocB wb _)).ra wb.heap.size (iC dt) 3 rfl (heap_alloc_new wb _) rfl (by simp [iC, Value.oneCell']) (by omega) (by simp; omega) ?_; intro va2 w6 ho6 hg6 hb6 hat6)
            have TW1 := Lib.hid (((TW0.out.step (allocB wb (.cells #[.int .i64 dt] 3))).pushA (OwnL.push (enc := iC) ho6) hg6 hb6 hat6))
            have hps2 := TW1.out.past
            clear ho6 hg6 hat6
            by_cases he : e9 = 0
            · subst he
              have HGD9 := Lib.hid (show Tx.Safe N s9 (la ++ [dt]) (lt ++ [dt]) from by simpa using HGO.out)
              have hq4 := HCW.out w6 TW1.out.low 1 _ rfl
              clear HGO
              go_upto_region 13 with (at_builtin; refine wpList_pushA rfl (.tmp 58) (.tmp 64) 61 3 Try.underlying61 info_i rfl (by omega) (by omega) rfl (gs + 1) _ lt.length (lt.flatMap iC) rfl (TW1.out.step (allocB w6 _)).rt w6.heap.size (iC dt) 3 rfl (heap_alloc_new w6 _) rfl (by simp [iC, Value.oneCell']) (by omega) (by simp; omega) ?_; intro vt2 w7 ho7 hg7 hb7 hat7)
              have TW2 := ((TW1.out.step (allocB w6 (.cells #[.int .i64 dt] 3))).pushT (OwnL.push (enc := iC) ho7) hg7 hb7 hat7)
              clear ho7 hg7 hb7 hb6 hat7 hq4
              have TWE := Lib.hid TW2
              have HBXE := Lib.hid TW2.box
              have HGTE := Lib.hid TW2.box2
              have HEND := Lib.hid TW2.store
              clear TW2
              go_wp2_with (first | (with_reducible refine listLoad (by kernel_rfl) 49 (.tmp 9) rfl gt rfl #[.int .i64 s9.zlog, .int .i64 s9.zpages, .int .i64 s9.zframes, .slice p9.A s9.disk.sectors.length p9.c, .int .i64 s9.disk.left, .bool s9.disk.down, .int .i64 s9.log.from_, .int .i64 s9.log.n, .int .i64 s9.log.end_, .int .i64 s9.log.safe, .string s9.log.tail, .slice p9.F p9.fn p9.fc, .int .i64 s9.hand, .slice p9.T s9.txns.length p9.tc, .int .i64 s9.next] _ HGTE.out _ Try.underlying49 (by kernel_rfl) (by kernel_rfl) ?_) | (with_reducible refine listStore (by kernel_rfl) 49 (.tmp 5) (.tmp 66) rfl gs #[.int .i64 s9.zlog, .int .i64 s9.zpages, .int .i64 s9.zframes, .slice p9.A s9.disk.sectors.length p9.c, .int .i64 s9.disk.left, .bool s9.disk.down, .int .i64 s9.log.from_, .int .i64 s9.log.n, .int .i64 s9.log.end_, .int .i64 s9.log.safe, .string s9.log.tail, .slice p9.F p9.fn p9.fc, .int .i64 s9.hand, .slice p9.T s9.txns.length p9.tc, .int .i64 s9.next] _ _ rfl rfl HBXE.out (by kernel_rfl) (by kernel_rfl) (by kernel_rfl) ?_))
              go_roundw
              case rel => exact ⟨k + 1, s9, p9, la ++ [dt], lt ++ [dt], (by go_num), by omega, HGD9.out, by omega, by omega, by omega, by first | omega | (simp; omega), by first | omega | (simp; omega), HEND.out⟩
              case measure => simp [intOf]; omega

            · have he1 : (e9 == 0) = false := by simpa using he
              have HGD9 := Lib.hid (show Tx.Safe N s9 (la ++ [dt]) lt from by simpa [he] using HGO.out)
              have TW2 := TW1.out
              clear HGO hb6
              have TWE := Lib.hid TW2
              have HBXE := Lib.hid TW2.box
              have HGTE := Lib.hid TW2.box2
              have HEND := Lib.hid TW2.store
              clear TW2
              go_wp2_with (first | (with_reducible refine listLoad (by kernel_rfl) 49 (.tmp 9) rfl gt rfl #[.int .i64 s9.zlog, .int .i64 s9.zpages, .int .i64 s9.zframes, .slice p9.A s9.disk.sectors.length p9.c, .int .i64 s9.disk.left, .bool s9.disk.down, .int .i64 s9.log.from_, .int .i64 s9.log.n, .int .i64 s9.log.end_, .int .i64 s9.log.safe, .string s9.log.tail, .slice p9.F p9.fn p9.fc, .int .i64 s9.hand, .slice p9.T s9.txns.length p9.tc, .int .i64 s9.next] _ HGTE.out _ Try.underlying49 (by kernel_rfl) (by kernel_rfl) ?_) | (with_reducible refine listStore (by kernel_rfl) 49 (.tmp 5) (.tmp 66) rfl gs #[.int .i64 s9.zlog, .int .i64 s9.zpages, .int .i64 s9.zframes, .slice p9.A s9.disk.sectors.length p9.c, .int .i64 s9.disk.left, .bool s9.disk.down, .int .i64 s9.log.from_, .int .i64 s9.log.n, .int .i64 s9.log.end_, .int .i64 s9.log.safe, .string s9.log.tail, .slice p9.F p9.fn p9.fc, .int .i64 s9.hand, .slice p9.T s9.txns.length p9.tc, .int .i64 s9.next] _ _ rfl rfl HBXE.out (by kernel_rfl) (by kernel_rfl) (by kernel_rfl) ?_))
              go_roundw
              case rel => exact ⟨k + 1, s9, p9, la ++ [dt], lt, (by go_num), by omega, HGD9.out, by omega, by omega, by omega, by first | omega | (simp; omega), by first | omega | (simp; omega), HEND.out⟩
              case measure => simp [intOf]; omega

          · have hk3 : (dk == 2) = false := by simpa using hk2
            have HGD9 := Lib.hid (show Tx.Safe N s9 la lt from by simpa [hk2] using HGO.out)
            have TW2 := TW0.out
            clear HGO
            have TWE := Lib.hid TW2
            have HBXE := Lib.hid TW2.box
            have HGTE := Lib.hid TW2.box2
            have HEND := Lib.hid TW2.store
            clear TW2
            go_wp2_with (first | (with_reducible refine listLoad (by kernel_rfl) 49 (.tmp 9) rfl gt rfl #[.int .i64 s9.zlog, .int .i64 s9.zpages, .int .i64 s9.zframes, .slice p9.A s9.disk.sectors.length p9.c, .int .i64 s9.disk.left, .bool s9.disk.down, .int .i64 s9.log.from_, .int .i64 s9.log.n, .int .i64 s9.log.end_, .int .i64 s9.log.safe, .string s9.log.tail, .slice p9.F p9.fn p9.fc, .int .i64 s9.hand, .slice p9.T s9.txns.length p9.tc, .int .i64 s9.next] _ HGTE.out _ Try.underlying49 (by kernel_rfl) (by kernel_rfl) ?_) | (with_reducible refine listStore (by kernel_rfl) 49 (.tmp 5) (.tmp 66) rfl gs #[.int .i64 s9.zlog, .int .i64 s9.zpages, .int .i64 s9.zframes, .slice p9.A s9.disk.sectors.length p9.c, .int .i64 s9.disk.left, .bool s9.disk.down, .int .i64 s9.log.from_, .int .i64 s9.log.n, .int .i64 s9.log.end_, .int .i64 s9.log.safe, .string s9.log.tail, .slice p9.F p9.fn p9.fc, .int .i64 s9.hand, .slice p9.T s9.txns.length p9.tc, .int .i64 s9.next] _ _ rfl rfl HBXE.out (by kernel_rfl) (by kernel_rfl) (by kernel_rfl) ?_))
            go_roundw
            case rel => exact ⟨k + 1, s9, p9, la, lt, (by go_num), by omega, HGD9.out, by omega, by omega, by omega, by first | omega | (simp; omega), by first | omega | (simp; omega), HEND.out⟩
            case measure => simp [intOf]; omega

      · have hki : ¬ (k : Int) < (l.length : Int) := by omega
        obtain ⟨o, L, e2, e3, e4⟩ := Tx.safe_end HGD.out
        have hsl := HGD.out.len
        have hsw := HGD.out.whole
        have hLl : L.length ≤ 200000 := by have h9 := Tx.openD_len (d := Lg.startD s.disk) (fun x hx => Nat.le_of_eq (hsw x hx)) 1 (N : Int) (by omega); rw [e2] at h9; exact h9
        have HST := Lib.hid (fun W => show Calls Try.prog 15 #[diskV s.disk p.A p.c] W fun e w' => e = .returned (diskV (Lg.startD s.disk) p.A p.c) ∧ Below W.heap.size W w' from cstart_any s.disk p.A p.c W)
        have HOP := Lib.hid (fun W (hw : Below wr.heap.size wr W) => show Calls Try.prog 14 #[diskV (Lg.startD s.disk) p.A p.c, .int .i64 1, .int .i64 (N : Int)] W (OpenOut (o, L, 0) W) from by
          have h9 := open_any (Lg.startD s.disk) (fun x hx => Nat.le_of_eq (hsw x hx)) (by show s.disk.sectors.length ≤ _; omega) p.A p.c 1 (N : Int) (by omega) (by omega) (by omega) W ((show DiskR wr (Lg.startD s.disk) p.A p.c from ⟨HTW.out.st.dk.secs, HTW.out.st.dk.small⟩).below hw)
          rw [e2] at h9
          exact h9)
        have HTOLD := Lib.hid (show ∀ x ∈ lt, x ∈ Tx.comm L from fun x hx => Tx.comm_has (e3 x hx))
        have HASK := Lib.hid (Tx.comm_in e4)
        clear HGD e2 e3 e4 hsl hsw hx1 hx2 HR htl
        dsimp only [diskV] at HST HOP
        obtain ⟨Aa, ca, rfl⟩ := ownLen HTW.out.ra
        obtain ⟨At, ct, rfl⟩ := ownLen HTW.out.rt
        have HRA := Lib.hid (own_reads HTW.out.ra)
        have HRT := Lib.hid (own_reads HTW.out.rt)
        generalize Lg.startD s.disk = dd at HST HOP
        go_upto_region 15 with (first
          | (with_reducible refine listPart (by kernel_rfl) 42 (.tmp 68) rfl gs 3 rfl #[.slice p.A s.disk.sectors.length p.c, .int .i64 s.disk.left, .bool s.disk.down] #[.int .i64 s.zlog, .int .i64 s.zpages, .int .i64 s.zframes, .slice p.A s.disk.sectors.length p.c, .int .i64 s.disk.left, .bool s.disk.down, .int .i64 s.log.from_, .int .i64 s.log.n, .int .i64 s.log.end_, .int .i64 s.log.safe, .string s.log.tail, .slice p.F p.fn p.fc, .int .i64 s.hand, .slice p.T s.txns.length p.tc, .int .i64 s.next] _ HBX.out (by kernel_rfl) _ Try.underlying42 (by kernel_rfl) (by kernel_rfl) ?_)
          | (go_at_call 15; (with_reducible refine (HST.out _).mono ?_); rintro e w8 ⟨rfl, hb8⟩; (try dsimp only [diskV]))
          | (go_at_call 14; (with_reducible refine (HOP.out _ hb8).mono ?_); rintro e w9 ⟨ps, v, h1, rfl, h2, h3, hb9⟩; (try dsimp only [logV]))
          | (with_reducible refine wpList_store_new rfl 44 (.tmp 12) (.tmp 73) rfl #[.int .i64 o.from_, .int .i64 o.n, .int .i64 o.end_, .int .i64 o.safe, .string o.tail] _ _ rfl (by kernel_rfl) (by kernel_rfl) (by kernel_rfl) (by kernel_rfl) ?_))
        obtain ⟨A9, c9, rfl⟩ := ownLen h2
        have hb10 := joinB hb8 hb9
        have hbn := pastAlloc (o := .cells #[.int .i64 o.from_, .int .i64 o.n, .int .i64 o.end_, .int .i64 o.safe, .string o.tail] 44) hb10
        have HB9 := Lib.hid (joinB HBW.out hbn)
        have HP9 := Lib.hid (own_reads (ownBelow h2 (allocB w9 (.cells #[.int .i64 o.from_, .int .i64 o.n, .int .i64 o.end_, .int .i64 o.safe, .string o.tail] 44))))
        have HRA9 := Lib.hid (HRA.out.below hbn)
        have HRT9 := Lib.hid (HRT.out.below hbn)
        have HPS := Lib.hid h1
        obtain ⟨W9, hW9⟩ : ∃ W, W = w9.alloc (.cells #[.int .i64 o.from_, .int .i64 o.n, .int .i64 o.end_, .int .i64 o.safe, .string o.tail] 44) := ⟨_, rfl⟩
        rw [← hW9] at HB9 HP9 HRA9 HRT9
        rw [← hW9]
        clear hW9 h1 h2 h3 hb8 hb9 hb10 hbn HBX HBW HTW HRA HRT HST HOP
        have hpl : ps.length = L.length := by have := congrArg List.length HPS.out; rwa [List.length_map] at this
        have hpl2 : ps.length ≤ 200000 := by omega
        have HPL := Lib.hid hpl
        clear hpl
        have HN0 := Lib.hid (ownEmpty W9 3 1)
        go_wp2_with fail
        go_loopw [15, 16] (fun v i wr => ∃ (j : Nat), i = .int .i64 (j : Int) ∧ j ≤ ps.length ∧ OwnL iC 1 3 W9.heap.size wr v (Tx.comm (L.take j)) ∧ Below W9.heap.size W9 wr) (fun _ i _ => ps.length - (intOf i).toNat)
        case atStart => exact ⟨0, rfl, Nat.zero_le _, HN0.out, allocB W9 _⟩
        case round =>
          obtain ⟨j, rfl, hj, hown, hbj⟩ := hrel
          obtain ⟨AH, ch, rfl⟩ := ownLen hown
          have HOW := Lib.hid hown
          have HBJ := Lib.hid hbj
          have hcl := Tx.comm_len (L.take j)
          rw [List.length_take] at hcl
          clear hown hbj HN0
          by_cases hjl : j < ps.length
          · have hj1 : (0 : Int) ≤ (j : Int) := by omega
            have hj2 : (j : Int) < (ps.length : Int) := by omega
            have hwj : IntKind.i64.wrap ((j : Int) + 1) = (j : Int) + 1 := IntWalk.i64_in _ (by omega)
            obtain ⟨b, off, rfl, hc, hbl, hcell⟩ := read_at recC_len (HP9.out.below HBJ.out) hjl
            have hjr : j < L.length := by have := HPL.out; omega
            have hpj : (ps[j]).r = L[j] := by
              have h9 := HPS.out
              (try simp only at h9)
              subst h9
              simp
            have HCT := Lib.hid (Tx.comm_take hjr)
            rw [← hpj] at HCT
            have q3 := hcell 3 _ rfl
            have q2 := hcell 2 _ rfl
            have HQ2 := Lib.hid (show ∀ u, Below wr.heap.size wr u → u.cell? ⟨b, off + j * 18 + 2, none⟩ = some (.int .i64 (ps[j]).r.txn) from fun u hu => (hu.cell (p := ⟨b, off + j * 18 + 2, none⟩) hbl).trans (hcell 2 _ rfl))
            have hcl2 := Tx.comm_len (L.take j)
            generalize ps[j] = q at HCT q3 q2 HQ2
            obtain ⟨⟨lsn, prev, txn, kind, page, next, nu, op, how, root, key, ts, ds⟩, A5, c5, B5, d5⟩ := q
            simp only at HCT q3 q2 HQ2
            clear hcell hjr hpj
            by_cases hk5 : kind = 5
            · subst hk5
              rw [if_pos rfl] at HCT
              obtain ⟨th, hth⟩ : ∃ th, th = Tx.comm (L.take j) := ⟨_, rfl⟩
              rw [← hth] at HCT HOW hcl
              have hws := HBJ.out.size
              rw [← hth]
              clear hth hcl2
              go_wp2_with (at_builtin; refine wpList_pushA rfl (.tmp 89) (.tmp 95) 61 3 Try.underlying61 info_i rfl (by omega) (by omega) rfl (W9.heap.size) _ th.length (th.flatMap iC) rfl (ownBelow HOW.out (allocB wr _)) wr.heap.size (iC txn) 3 rfl (heap_alloc_new wr _) rfl (by simp [iC, Value.oneCell']) (by omega) (by simp; omega) ?_; intro v9 w9 ho9 hg9 hb9 hat9)
              go_roundw
              case rel => exact ⟨j + 1, by go_num, by omega, by rw [HCT.out]; exact OwnL.push (enc := iC) ho9, (joinB HBJ.out (allocB wr _)).trans hb9⟩
              case measure => simp [intOf]; omega
            · have hk6 : (kind == 5) = false := by simpa using hk5
              rw [if_neg hk5] at HCT
              rw [← HCT.out] at HOW ⊢
              go_wp2_with fail
              go_roundw
              case rel => exact ⟨j + 1, by go_num, by omega, HOW.out, HBJ.out⟩
              case measure => simp [intOf]; omega
          · have hj2 : ¬ (j : Int) < (ps.length : Int) := by omega
            have hall : L.take j = L := List.take_of_length_le (by have := HPL.out; omega)
            rw [hall] at HOW hcl ⊢
            have hcL : (Tx.comm L).length ≤ 200000 := by have := Tx.comm_len L; omega
            have HRH := Lib.hid (own_reads HOW.out)
            have HM1 := Lib.hid (fun W (hw : Below wr.heap.size wr W) => among_any lt (Tx.comm L) HTOLD.out (by omega) (by omega) At ct AH ch W ((HRT9.out.below HBJ.out).below hw) (HRH.out.below hw))
            have HM2 := Lib.hid (fun W (hw : Below wr.heap.size wr W) => among_any (Tx.comm L) la HASK.out (by omega) (by omega) AH ch Aa ca W (HRH.out.below hw) ((HRA9.out.below HBJ.out).below hw))
            have HBR := Lib.hid (joinB HB9.out HBJ.out)
            clear HOW hall HPS HP9 HB9 HBJ HRH HRA9 HRT9 HTOLD HASK
            generalize Tx.comm L = th at HM1 HM2 hcL ⊢
            go_wp2_with (first
              | (go_at_call 6; (with_reducible refine (HAW.out _).mono ?_); rintro e w11 ⟨rfl, hb11⟩)
              | (go_at_call 16; (with_reducible refine (HM1.out _ hb11).mono ?_); rintro e w12 ⟨rfl, hb12⟩)
              | (go_at_call 16; (with_reducible refine (HM2.out _ (joinB hb11 hb12)).mono ?_); rintro e w13 ⟨rfl, hb13⟩))
            go_ret
            exact ⟨by simp, joinB HBR.out (joinB (joinB hb11 hb12) hb13)⟩
end Go.Proofs.Ythfglhafphfhiaa
