/- The walk over the statement LogReads. -/
import Derived.Test.YtojaagnfjenhoaaGs17
import Derived.Test.YtojaagnfjenhoaaGs15
import Derived.BigRegion
namespace Go.Proofs.Ytojaagnfjenhoaa
open Go.RowKit
set_option maxRecDepth 100000 in
set_option maxHeartbeats 16000000 in
theorem logreads_any (l : List PRec) (A0 : Option Addr) (c0 : Nat) (fs : List Bool) (F0 : Option Addr) (f0 : Nat) (other : Int) (hl47 : l.length ≤ 140737488355328) (_hf47 : fs.length ≤ 140737488355328) (w : World)
    (hr : Reads w A0 c0 l.length (l.flatMap recC)) (hp : ∀ p ∈ l, PRecR w p) (hb : Reads w F0 f0 fs.length (fs.flatMap booC)) :
    Calls Try.prog 4 #[.slice A0 l.length c0, .slice F0 fs.length f0, .int .i64 other] w fun e w' => e = .returned (.bool true) ∧ Below w.heap.size w w' := by
  have HAW := Lib.hid (fun W => awake_any W)
  have HR := Lib.hid hr
  have HP := Lib.hid hp
  have HF := Lib.hid hb
  clear hr hp hb
  by_cases h30 : 30 < l.length
  · have h30' : (30 : Int) < (l.length : Int) := by omega
    go_enter Try.func4, Try.ntmps4
    go_wp2_with (go_at_call 7; (with_reducible refine (HAW.out _).mono ?_); rintro e w1 ⟨rfl, hb1⟩)
    go_ret
    exact ⟨rfl, hb1⟩
  · have h30' : ¬ (30 : Int) < (l.length : Int) := by omega
    have HDN := Lib.hid (fun W => show Calls Try.prog 11 #[.int .i64 26] W (NewOut (Lg.newD 26) W) from dnew_any 26 (by omega) (by omega) W)
    have HLN := Lib.hid (fun W => lnew_any 1 24 W)
    have hpl0 := Lg.PL.new
    have hlf0 : (Lg.newD 26).left = -1 := rfl
    generalize Lg.newD 26 = d0 at HDN hpl0 hlf0
    obtain ⟨g0, hg0⟩ : ∃ g0 : Lg.Lo, g0 = ⟨1, 24, 0, 0, ⟨#[]⟩⟩ := ⟨_, rfl⟩
    rw [← hg0] at HLN hpl0
    clear hg0
    have HPL0 := Lib.hid hpl0
    have HLF0 := Lib.hid hlf0
    clear hpl0 hlf0
    go_enter Try.func4, Try.ntmps4
    go_upto_region 4 with (first
      | (go_at_call 11; (with_reducible refine (HDN.out _).mono ?_); rintro e w1 ⟨A1, c1, rfl, hd1, ht1, hb1⟩)
      | (with_reducible refine wpList_store_new rfl 24 (.tmp 7) (.tmp 28) rfl (diskA d0 A1 c1) _ _ rfl (by kernel_rfl) (by kernel_rfl) (by kernel_rfl) (by kernel_rfl) ?_))
    have HK1 := Lib.hid (hd1.below (allocB w1 (.cells (diskA d0 A1 c1) 24)))
    have HT1 := Lib.hid ((ht1.mono (Nat.zero_le _)).below (allocB w1 (.cells (diskA d0 A1 c1) 24)))
    have HX1 := Lib.hid (heap_alloc_new w1 (.cells (diskA d0 A1 c1) 24))
    have HL1 := Lib.hid (pastAlloc (o := .cells (diskA d0 A1 c1) 24) hb1)
    have hbd := hb1.size
    obtain ⟨bd, hbde⟩ : ∃ bd, bd = w1.heap.size := ⟨_, rfl⟩
    obtain ⟨W1, hW1⟩ : ∃ W, W = w1.alloc (.cells (diskA d0 A1 c1) 24) := ⟨_, rfl⟩
    rw [← hbde, ← hW1] at HX1
    rw [← hW1] at HK1 HT1 HL1
    rw [← hbde] at hbd
    rw [← hW1, ← hbde]
    clear hbde hW1 hd1 ht1 hb1 HDN
    go_upto_region 5 with (first
      | (go_at_call 12; (with_reducible refine (HLN.out _).mono ?_); rintro e w2 ⟨rfl, hb2⟩)
      | (with_reducible refine wpList_store_new rfl 28 (.tmp 9) (.tmp 30) rfl (logA g0) _ _ rfl (by kernel_rfl) (by kernel_rfl) (by kernel_rfl) (by kernel_rfl) ?_))
    have HS1 := Lib.hid (StR.new (g := g0) HX1.out hbd HL1.out HK1.out HT1.out hb2)
    obtain ⟨bl, hble⟩ : ∃ bl, bl = w2.heap.size := ⟨_, rfl⟩
    obtain ⟨W2, hW2⟩ : ∃ W, W = w2.alloc (.cells (logA g0) 28) := ⟨_, rfl⟩
    rw [← hble, ← hW2] at HS1
    rw [← hble, ← hW2]
    clear hble hW2 hb2 HX1 HL1 HK1 HT1 hbd HLN
    go_wp2_with fail
    go_loopw [10, 11, 12] (fun va vi i wr => ∃ (k : Nat) (d : Lg.Dk) (A : Option Addr) (c : Nat) (g : Lg.Lo) (r1 r2 : List Rc.Rec) (la : List Int) (ps : List PRec), i = .int .i64 (k : Int) ∧ k ≤ l.length ∧ ps.length ≤ k ∧ la = ps.map (·.r.lsn) ∧ ps.map (·.r) = r1 ++ r2 ∧ Lg.PL d g r1 r2 ∧ d.left = -1 ∧ (∀ p ∈ ps, PRecR w p) ∧ StR bd bl w wr va vi d A c g la ps) (fun _ _ i _ => l.length - (intOf i).toNat)
    case atStart => exact ⟨0, d0, A1, c1, g0, [], [], [], [], rfl, Nat.zero_le _, Nat.le_refl _, rfl, rfl, HPL0.out, HLF0.out, fun _ h => (by cases h), HS1.out⟩
    case round =>
      obtain ⟨k, d, A, c, g, r1, r2, la, ps, rfl, hk, hpk, hla, hps, hpl, hlf, hpp, hst⟩ := hrel
      have HPL := Lib.hid hpl
      have HLF := Lib.hid hlf
      have HPP := Lib.hid hpp
      have HPS := Lib.hid hps
      have HLA := Lib.hid hla
      have hlal : la.length = ps.length := by rw [hla]; simp
      obtain ⟨Aa, ca, hva⟩ := ownLen hst.ra
      rw [hlal] at hva
      subst hva
      obtain ⟨Ai, ci, rfl⟩ := ownLen hst.ri
      have HS := Lib.hid hst
      obtain ⟨q1, q2, q3, q4, q5, q6⟩ := hpl.bounds
      have q7 : -1000000000 ≤ g.from_ ∧ g.from_ ≤ 1000000000 := by omega
      have q8 : -1000000000 ≤ g.n ∧ g.n ≤ 1000000000 := by omega
      obtain ⟨q7a, q7b⟩ := q7
      obtain ⟨q8a, q8b⟩ := q8
      clear q5 q6
      clear hpl hlf hpp hst hps hla HPL0 HLF0 HS1
      by_cases hlt : k < l.length
      · obtain ⟨b, off, rfl, hc, hbl, hcell⟩ := read_at recC_len (HR.out.below HS.out.low) hlt
        have hpr := HP.out _ (List.getElem_mem hlt)
        generalize l[k] = p at hcell hpr
        obtain ⟨⟨lsn, prev, txn, kind, page, next, nu, ⟨ok, os, oo, on⟩, how, root, ⟨ek, ep, es⟩, ts, ds⟩, A3, c3, B3, d3⟩ := p
        have HCELL := Lib.hid (show wr.rangeAt b (off + k * 18) [.int .i64 lsn, .int .i64 prev, .int .i64 txn, .int .i64 kind, .int .i64 page, .int .i64 next, .int .i64 nu, .int .i64 ok, .int .i64 os, .string oo, .string on, .int .i64 how, .int .i64 root, .string ek, .int .i64 ep, .int .i64 es, .slice A3 ts.length c3, .slice B3 ds.length d3] from hcell)
        have HPR := Lib.hid hpr
        have HAPP := Lib.hid (fun W (hb : Below w.heap.size w W) => append_any g q1 (by omega) (by omega) (by omega) (by omega) ⟨lsn, prev, txn, kind, page, next, nu, ⟨ok, os, oo, on⟩, how, root, ⟨ek, ep, es⟩, ts, ds⟩ A3 B3 c3 d3 W (hpr.below hb))
        have happ := HPL.out.append ⟨lsn, prev, txn, kind, page, next, nu, ⟨ok, os, oo, on⟩, how, root, ⟨ek, ep, es⟩, ts, ds⟩
        clear hcell hpr
        have hk1 : (0 : Int) ≤ (k : Int) := by omega
        have hk2 : (k : Int) < (l.length : Int) := by omega
        have hwk : IntKind.i64.wrap ((k : Int) + 1) = (k : Int) + 1 := IntWalk.i64_in _ (by omega)
        go_upto_region 11 with (first
          | (with_reducible refine wpList_load_mid rfl 49 (.tmp 39) rfl b (off + k * 18) rfl [.int .i64 lsn, .int .i64 prev, .int .i64 txn, .int .i64 kind, .int .i64 page, .int .i64 next, .int .i64 nu, .int .i64 ok, .int .i64 os, .string oo, .string on, .int .i64 how, .int .i64 root, .string ek, .int .i64 ep, .int .i64 es, .slice A3 ts.length c3, .slice B3 ds.length d3] _ HCELL.out Try.underlying49 (by kernel_rfl) (by kernel_rfl) ?_)
          | (with_reducible refine wpList_store_new rfl 49 (.tmp 13) (.tmp 40) rfl #[.int .i64 lsn, .int .i64 prev, .int .i64 txn, .int .i64 kind, .int .i64 page, .int .i64 next, .int .i64 nu, .int .i64 ok, .int .i64 os, .string oo, .string on, .int .i64 how, .int .i64 root, .string ek, .int .i64 ep, .int .i64 es, .slice A3 ts.length c3, .slice B3 ds.length d3] _ _ rfl (by kernel_rfl) (by kernel_rfl) (by kernel_rfl) (by kernel_rfl) ?_))
        have HRB := Lib.hid (heap_alloc_new wr (.cells #[.int .i64 lsn, .int .i64 prev, .int .i64 txn, .int .i64 kind, .int .i64 page, .int .i64 next, .int .i64 nu, .int .i64 ok, .int .i64 os, .string oo, .string on, .int .i64 how, .int .i64 root, .string ek, .int .i64 ep, .int .i64 es, .slice A3 ts.length c3, .slice B3 ds.length d3] 49))
        have HS2 := Lib.hid (HS.out.step (allocB wr (.cells #[.int .i64 lsn, .int .i64 prev, .int .i64 txn, .int .i64 kind, .int .i64 page, .int .i64 next, .int .i64 nu, .int .i64 ok, .int .i64 os, .string oo, .string on, .int .i64 how, .int .i64 root, .string ek, .int .i64 ep, .int .i64 es, .slice A3 ts.length c3, .slice B3 ds.length d3] 49)))
        have HFI := Lib.hid (own_old (n := wr.heap.size) HS.out.ri (Nat.le_refl _))
        have hgr := HS.out.past
        obtain ⟨gr, hge⟩ : ∃ gr, gr = wr.heap.size := ⟨_, rfl⟩
        obtain ⟨W3, hW3⟩ : ∃ W, W = wr.alloc (.cells #[.int .i64 lsn, .int .i64 prev, .int .i64 txn, .int .i64 kind, .int .i64 page, .int .i64 next, .int .i64 nu, .int .i64 ok, .int .i64 os, .string oo, .string on, .int .i64 how, .int .i64 root, .string ek, .int .i64 ep, .int .i64 es, .slice A3 ts.length c3, .slice B3 ds.length d3] 49) := ⟨_, rfl⟩
        rw [← hge, ← hW3] at HRB
        rw [← hW3] at HS2
        rw [← hge] at HFI hgr
        rw [← hge, ← hW3]
        clear hge hW3 HCELL HS hbl hc
        rcases happ with ha | ha | ⟨g2, ha, hpl2⟩
        · rw [ha] at HAPP
          clear ha
          go_upto_region 12 with (first
            | (with_reducible refine listLoad (by kernel_rfl) 28 (.tmp 9) rfl bl rfl (logA g) _ HS2.out.log _ Try.underlying28 (by kernel_rfl) (by kernel_rfl) ?_)
            | (with_reducible refine listLoad (by kernel_rfl) 49 (.tmp 13) rfl gr rfl #[.int .i64 lsn, .int .i64 prev, .int .i64 txn, .int .i64 kind, .int .i64 page, .int .i64 next, .int .i64 nu, .int .i64 ok, .int .i64 os, .string oo, .string on, .int .i64 how, .int .i64 root, .string ek, .int .i64 ep, .int .i64 es, .slice A3 ts.length c3, .slice B3 ds.length d3] _ HRB.out _ Try.underlying49 (by kernel_rfl) (by kernel_rfl) ?_)
            | (go_at_call 13; (with_reducible refine (HAPP.out _ HS2.out.low).mono ?_); rintro e w4 ⟨he, hb4⟩; dsimp only [logV] at he; subst he)
            | (with_reducible refine wpList_store_new rfl 28 (.tmp 14) (.tmp 45) rfl (logA g) _ _ rfl (by kernel_rfl) (by kernel_rfl) (by kernel_rfl) (by kernel_rfl) ?_))
          have HNB := Lib.hid (heap_alloc_new w4 (.cells (logA g) 28))
          have HS4 := Lib.hid (HS2.out.step (pastAlloc (o := .cells (logA g) 28) hb4))
          obtain ⟨gn, hge⟩ : ∃ gn, gn = w4.heap.size := ⟨_, rfl⟩
          obtain ⟨W4, hW4⟩ : ∃ W, W = w4.alloc (.cells (logA g) 28) := ⟨_, rfl⟩
          rw [← hge, ← hW4] at HNB
          rw [← hW4] at HS4
          rw [← hge, ← hW4]
          clear hge hW4 hb4 HS2
          go_wp2_with (first
            | (with_reducible refine listLoad (by kernel_rfl) 28 (.tmp 14) rfl gn rfl (logA g) _ HNB.out _ Try.underlying28 (by kernel_rfl) (by kernel_rfl) ?_)
            | (with_reducible refine listLoad (by kernel_rfl) 28 (.tmp 9) rfl bl rfl (logA g) _ HS4.out.log _ Try.underlying28 (by kernel_rfl) (by kernel_rfl) ?_))
          go_roundw
          case rel => exact ⟨k + 1, d, A, c, g, r1, r2, la, ps, (by go_num), by omega, by omega, HLA.out, HPS.out, HPL.out, HLF.out, HPP.out, HS4.out⟩
          case measure => simp [intOf]; omega
        · rw [ha] at HAPP
          clear ha
          go_wp2_with (first
            | (with_reducible refine listLoad (by kernel_rfl) 28 (.tmp 9) rfl bl rfl (logA g) _ HS2.out.log _ Try.underlying28 (by kernel_rfl) (by kernel_rfl) ?_)
            | (with_reducible refine listLoad (by kernel_rfl) 49 (.tmp 13) rfl gr rfl #[.int .i64 lsn, .int .i64 prev, .int .i64 txn, .int .i64 kind, .int .i64 page, .int .i64 next, .int .i64 nu, .int .i64 ok, .int .i64 os, .string oo, .string on, .int .i64 how, .int .i64 root, .string ek, .int .i64 ep, .int .i64 es, .slice A3 ts.length c3, .slice B3 ds.length d3] _ HRB.out _ Try.underlying49 (by kernel_rfl) (by kernel_rfl) ?_)
            | (go_at_call 13; (with_reducible refine (HAPP.out _ HS2.out.low).mono ?_); rintro e w4 ⟨he, hb4⟩; dsimp only [logV] at he; subst he)
            | (with_reducible refine wpList_store_new rfl 28 (.tmp 14) (.tmp 45) rfl (logA g) _ _ rfl (by kernel_rfl) (by kernel_rfl) (by kernel_rfl) (by kernel_rfl) ?_)
            | (go_at_call 7; (with_reducible refine (HAW.out _).mono ?_); rintro e w5 ⟨rfl, hb5⟩))
          go_ret
          exact ⟨rfl, joinB (joinB HS2.out.low (pastAlloc hb4)) hb5⟩
        · rw [ha] at HAPP
          clear ha
          have HPL2 := Lib.hid hpl2
          clear hpl2
          go_upto_region 12 with (first
            | (with_reducible refine listLoad (by kernel_rfl) 28 (.tmp 9) rfl bl rfl (logA g) _ HS2.out.log _ Try.underlying28 (by kernel_rfl) (by kernel_rfl) ?_)
            | (with_reducible refine listLoad (by kernel_rfl) 49 (.tmp 13) rfl gr rfl #[.int .i64 lsn, .int .i64 prev, .int .i64 txn, .int .i64 kind, .int .i64 page, .int .i64 next, .int .i64 nu, .int .i64 ok, .int .i64 os, .string oo, .string on, .int .i64 how, .int .i64 root, .string ek, .int .i64 ep, .int .i64 es, .slice A3 ts.length c3, .slice B3 ds.length d3] _ HRB.out _ Try.underlying49 (by kernel_rfl) (by kernel_rfl) ?_)
            | (go_at_call 13; (with_reducible refine (HAPP.out _ HS2.out.low).mono ?_); rintro e w4 ⟨he, hb4⟩; dsimp only [logV] at he; subst he)
            | (with_reducible refine wpList_store_new rfl 28 (.tmp 14) (.tmp 45) rfl (logA g2) _ _ rfl (by kernel_rfl) (by kernel_rfl) (by kernel_rfl) (by kernel_rfl) ?_))
          have HNB := Lib.hid (heap_alloc_new w4 (.cells (logA g2) 28))
          have HS4 := Lib.hid (HS2.out.step (pastAlloc (o := .cells (logA g2) 28) hb4))
          have HR4 := Lib.hid (blkOld HRB.out (pastAlloc (o := .cells (logA g2) 28) hb4))
          have hgn : gr < w4.heap.size := Nat.lt_of_lt_of_le (heapLt HRB.out) hb4.size
          obtain ⟨gn, hge⟩ : ∃ gn, gn = w4.heap.size := ⟨_, rfl⟩
          obtain ⟨W4, hW4⟩ : ∃ W, W = w4.alloc (.cells (logA g2) 28) := ⟨_, rfl⟩
          rw [← hge, ← hW4] at HNB
          rw [← hW4] at HS4 HR4
          rw [← hge] at hgn
          rw [← hge, ← hW4]
          clear hge hW4 hb4 HS2 HRB HAPP
          have hcr := blkCell HR4.out
          have hzr := blkFrozen HR4.out
          go_upto_region 18 with fail
          have hset : W4.setCell ⟨gr, 0, none⟩ (.int .i64 (g.end_ + 1)) = W4.setRow gr #[.int .i64 (g.end_ + 1), .int .i64 prev, .int .i64 txn, .int .i64 kind, .int .i64 page, .int .i64 next, .int .i64 nu, .int .i64 ok, .int .i64 os, .string oo, .string on, .int .i64 how, .int .i64 root, .string ek, .int .i64 ep, .int .i64 es, .slice A3 ts.length c3, .slice B3 ds.length d3] := setCell_eq_setRow W4 gr 0 _ _ _ _ HR4.out
          rw [hset]
          have HS5 := Lib.hid (HS4.out.other HR4.out (by decide) (by decide) HFI.out hgr #[.int .i64 (g.end_ + 1), .int .i64 prev, .int .i64 txn, .int .i64 kind, .int .i64 page, .int .i64 next, .int .i64 nu, .int .i64 ok, .int .i64 os, .string oo, .string on, .int .i64 how, .int .i64 root, .string ek, .int .i64 ep, .int .i64 es, .slice A3 ts.length c3, .slice B3 ds.length d3])
          have HR5 := Lib.hid (setRow_heap W4 gr _ #[.int .i64 (g.end_ + 1), .int .i64 prev, .int .i64 txn, .int .i64 kind, .int .i64 page, .int .i64 next, .int .i64 nu, .int .i64 ok, .int .i64 os, .string oo, .string on, .int .i64 how, .int .i64 root, .string ek, .int .i64 ep, .int .i64 es, .slice A3 ts.length c3, .slice B3 ds.length d3] _ _ HR4.out)
          have HN5 := Lib.hid ((heap_setRow_other W4 gr #[.int .i64 (g.end_ + 1), .int .i64 prev, .int .i64 txn, .int .i64 kind, .int .i64 page, .int .i64 next, .int .i64 nu, .int .i64 ok, .int .i64 os, .string oo, .string on, .int .i64 how, .int .i64 root, .string ek, .int .i64 ep, .int .i64 es, .slice A3 ts.length c3, .slice B3 ds.length d3] gn (by omega)).trans HNB.out)
          obtain ⟨W5, hW5⟩ : ∃ W, W = W4.setRow gr #[.int .i64 (g.end_ + 1), .int .i64 prev, .int .i64 txn, .int .i64 kind, .int .i64 page, .int .i64 next, .int .i64 nu, .int .i64 ok, .int .i64 os, .string oo, .string on, .int .i64 how, .int .i64 root, .string ek, .int .i64 ep, .int .i64 es, .slice A3 ts.length c3, .slice B3 ds.length d3] := ⟨_, rfl⟩
          rw [← hW5] at HS5 HR5 HN5
          rw [← hW5]
          clear hW5 hset HS4 HR4 HNB hcr hzr
          obtain ⟨n, hn⟩ : ∃ n, n = g.end_ + 1 := ⟨_, rfl⟩
          rw [← hn] at HR5 HPL2
          rw [← hn]
          have HN := Lib.hid hn
          clear hn
          go_cut [10, 11] (fun a i wc => StR bd bl w wc a i d A c g (la ++ [n]) (ps ++ [⟨⟨n, prev, txn, kind, page, next, nu, ⟨ok, os, oo, on⟩, how, root, ⟨ek, ep, es⟩, ts, ds⟩, A3, c3, B3, d3⟩]) ∧ wc.heap[gn]? = some (.cells (logA g2) 28 (0, 0)))
          case first =>
            have S0 := Lib.hid HS5.out.drew
            have R0 := Lib.hid (blkOld HR5.out (Below.refl _ W5).drew)
            have N0 := Lib.hid (blkOld HN5.out (Below.refl _ W5).drew)
            refine wp_region_held_drew (S := (fun u => u.heap[gr]? = some (.cells #[.int .i64 n, .int .i64 prev, .int .i64 txn, .int .i64 kind, .int .i64 page, .int .i64 next, .int .i64 nu, .int .i64 ok, .int .i64 os, .string oo, .string on, .int .i64 how, .int .i64 root, .string ek, .int .i64 ep, .int .i64 es, .slice A3 ts.length c3, .slice B3 ds.length d3] 49 (0, 0)))) (by kernel_rfl) ?_ (fun hHeld => ?_)
            · exact R0.out
            refine wpAnyH_take (i := 0) (oi := { dst := some 62, op := _, type := _, pos := _, after := _, guard := _ }) (v := ?_) rfl (by kernel_rfl) (by kernel_rfl) (by kernel_rfl) (fun _ _ _ h => h) (Or.inl ⟨by rfl, ?_⟩) (by assumption) ?_
            rotate_left
            · intro u hSu; have hSv := blkCell hSu; clear hSu; go_simp; (try with_reducible rfl)
            try simp only [Act.put, List.setIfInBounds_toArray, List.set_cons_zero, List.set_cons_succ]
            refine wpAnyH_take (i := 1) (oi := { dst := some 63, op := _, type := _, pos := _, after := _, guard := _ }) (v := ?_) rfl (by kernel_rfl) (by kernel_rfl) (by kernel_rfl) (fun _ _ _ h => h) (Or.inl ⟨by rfl, ?_⟩) (by assumption) ?_
            rotate_left
            · intro u hSu; have hSv := blkCell hSu; clear hSu; go_simp; (try with_reducible rfl)
            try simp only [Act.put, List.setIfInBounds_toArray, List.set_cons_zero, List.set_cons_succ]
            refine wpAnyH_take (i := 4) (oi := { dst := some 66, op := _, type := _, pos := _, after := _, guard := _ }) (v := ?_) rfl (by kernel_rfl) (by kernel_rfl) (by kernel_rfl) (fun _ _ _ h => h) (Or.inl ⟨by rfl, ?_⟩) (by assumption) ?_
            rotate_left
            · intro u hSu; have hSv := blkCell hSu; clear hSu; go_simp; (try with_reducible rfl)
            try simp only [Act.put, List.setIfInBounds_toArray, List.set_cons_zero, List.set_cons_succ]
            refine wpAnyH_take (i := 5) (oi := { dst := some 67, op := _, type := _, pos := _, after := _, guard := _ }) (v := .agg #[.int .i64 n, .int .i64 prev, .int .i64 txn, .int .i64 kind, .int .i64 page, .int .i64 next, .int .i64 nu, .int .i64 ok, .int .i64 os, .string oo, .string on, .int .i64 how, .int .i64 root, .string ek, .int .i64 ep, .int .i64 es, .slice A3 ts.length c3, .slice B3 ds.length d3]) rfl (by kernel_rfl) (by kernel_rfl) (by kernel_rfl) (fun _ _ _ h => h) (yieldsIf_load_mid (by rfl) 49 (.tmp 13) rfl gr 0 (by rfl) (recC ⟨⟨n, prev, txn, kind, page, next, nu, ⟨ok, os, oo, on⟩, how, root, ⟨ek, ep, es⟩, ts, ds⟩, A3, c3, B3, d3⟩) _ (fun u hu => range_blk hu (Below.refl _ u)) Try.underlying49 (by kernel_rfl) (by kernel_rfl)) (by assumption) ?_
            try simp only [Act.put, List.setIfInBounds_toArray, List.set_cons_zero, List.set_cons_succ]
            refine wpAnyH_ready (rs := [2, 6]) (by kernel_rfl) (by simp) ?_
            refine (AllReadyH.cons (o := { dst := some 64, op := _, type := _, pos := _, after := _, guard := _ }) rfl (fun K hK => ?_) (AllReadyH.cons (o := { dst := some 68, op := _, type := _, pos := _, after := _, guard := _ }) rfl (fun K hK => ?_) AllReadyH.nil))
            ·
              go_simp
              have S1 := Lib.hid (S0.out.step (allocB W5.drew (.cells #[.int .i64 n] 3))); have R1 := Lib.hid (blkOld R0.out (allocB W5.drew (.cells #[.int .i64 n] 3))); have N1 := Lib.hid (blkOld N0.out (allocB W5.drew (.cells #[.int .i64 n] 3))); have TA1 := Lib.hid (heap_alloc_new W5.drew (.cells #[.int .i64 n] 3)); try clear hSn
              have hSn := R1.out
              refine hK.out _ _ ?_ (fun hHeld => ?_)
              · exact hSn
              clear hK K
              try simp only [Act.put, List.setIfInBounds_toArray, List.set_cons_zero, List.set_cons_succ]
              refine wpAnyH_ready (rs := [3, 6]) (by kernel_rfl) (by simp) ?_
              refine (AllReadyH.cons (o := { dst := some 65, op := _, type := _, pos := _, after := _, guard := _ }) rfl (fun K hK => ?_) (AllReadyH.cons (o := { dst := some 68, op := _, type := _, pos := _, after := _, guard := _ }) rfl (fun K hK => ?_) AllReadyH.nil))
              ·
                refine wantedIf (by rfl) ?_
                refine wp_push _ (.tmp 62) (.tmp 64) 39 3 Try.underlying39 info_int rfl (by omega) (by omega) rfl (bl + 1) _ la.length (la.flatMap intC) rfl S1.out.ra _ (intC n) 3 rfl TA1.out rfl (by simp [intC, Value.oneCell']) (by omega) (Nat.succ_le_of_lt S1.out.past) ?_
                intro va2 u2 ho hg hb
                have S2 := Lib.hid (S1.out.pushA (OwnL.push (enc := intC) ho) hg hb)
                have R2 := Lib.hid (box_grown R1.out S1.out.ra (ownApart S1.out.ra R1.out (by decide)) hg)
                have N2 := Lib.hid (box_grown N1.out S1.out.ra (ownApart S1.out.ra N1.out (by decide)) hg)
                try clear hSn
                have hSn := R2.out
                clear ho hg hb
                refine hK.out _ _ ?_ (fun hHeld => ?_)
                · exact hSn
                clear hK K
                try simp only [Act.put, List.setIfInBounds_toArray, List.set_cons_zero, List.set_cons_succ]
                refine wpAnyH_ready (rs := [6]) (by kernel_rfl) (by simp) ?_
                refine (AllReadyH.cons (o := { dst := some 68, op := _, type := _, pos := _, after := _, guard := _ }) rfl (fun K hK => ?_) AllReadyH.nil)
                go_simp
                have S3 := Lib.hid (S2.out.step (allocB u2 (.cells #[.int .i64 n, .int .i64 prev, .int .i64 txn, .int .i64 kind, .int .i64 page, .int .i64 next, .int .i64 nu, .int .i64 ok, .int .i64 os, .string oo, .string on, .int .i64 how, .int .i64 root, .string ek, .int .i64 ep, .int .i64 es, .slice A3 ts.length c3, .slice B3 ds.length d3] 49))); have R3 := Lib.hid (blkOld R2.out (allocB u2 (.cells #[.int .i64 n, .int .i64 prev, .int .i64 txn, .int .i64 kind, .int .i64 page, .int .i64 next, .int .i64 nu, .int .i64 ok, .int .i64 os, .string oo, .string on, .int .i64 how, .int .i64 root, .string ek, .int .i64 ep, .int .i64 es, .slice A3 ts.length c3, .slice B3 ds.length d3] 49))); have N3 := Lib.hid (blkOld N2.out (allocB u2 (.cells #[.int .i64 n, .int .i64 prev, .int .i64 txn, .int .i64 kind, .int .i64 page, .int .i64 next, .int .i64 nu, .int .i64 ok, .int .i64 os, .string oo, .string on, .int .i64 how, .int .i64 root, .string ek, .int .i64 ep, .int .i64 es, .slice A3 ts.length c3, .slice B3 ds.length d3] 49))); have TI3 := Lib.hid (heap_alloc_new u2 (.cells #[.int .i64 n, .int .i64 prev, .int .i64 txn, .int .i64 kind, .int .i64 page, .int .i64 next, .int .i64 nu, .int .i64 ok, .int .i64 os, .string oo, .string on, .int .i64 how, .int .i64 root, .string ek, .int .i64 ep, .int .i64 es, .slice A3 ts.length c3, .slice B3 ds.length d3] 49)); try clear hSn
                have hSn := R3.out
                refine hK.out _ _ ?_ (fun hHeld => ?_)
                · exact hSn
                clear hK K
                try simp only [Act.put, List.setIfInBounds_toArray, List.set_cons_zero, List.set_cons_succ]
                refine wpAnyH_ready (rs := [7]) (by kernel_rfl) (by simp) ?_
                refine (AllReadyH.cons (o := { dst := some 69, op := _, type := _, pos := _, after := _, guard := _ }) rfl (fun K hK => ?_) AllReadyH.nil)
                refine wantedIf (by rfl) ?_
                refine wp_push _ (.tmp 66) (.tmp 68) 29 49 Try.underlying29 info_rec2 rfl (by omega) (by omega) rfl (bl + 1) _ ps.length (ps.flatMap recC) rfl S3.out.ri _ (recC ⟨⟨n, prev, txn, kind, page, next, nu, ⟨ok, os, oo, on⟩, how, root, ⟨ek, ep, es⟩, ts, ds⟩, A3, c3, B3, d3⟩) 49 rfl TI3.out rfl (recC_one _) (by omega) (Nat.succ_le_of_lt S3.out.past) ?_
                intro vi2 u4 ho hg hb
                have S4 := Lib.hid (S3.out.pushI (p := ⟨⟨n, prev, txn, kind, page, next, nu, ⟨ok, os, oo, on⟩, how, root, ⟨ek, ep, es⟩, ts, ds⟩, A3, c3, B3, d3⟩) (OwnL.push (enc := recC) ho) hg hb)
                have R4 := Lib.hid (box_grown R3.out S3.out.ri HFI.out hg)
                have N4 := Lib.hid (box_grown N3.out S3.out.ri (ownApart S3.out.ri N3.out (by decide)) hg)
                try clear hSn
                have hSn := R4.out
                clear ho hg hb
                refine hK.out _ _ ?_ (fun hHeld => ?_)
                · exact hSn
                clear hK K
                try simp only [Act.put, List.setIfInBounds_toArray, List.set_cons_zero, List.set_cons_succ]
                refine wpAnyH_take (i := 8) (oi := { dst := some 10, op := _, type := _, pos := _, after := _, guard := _ }) (v := ?_) rfl (by kernel_rfl) (by kernel_rfl) (by kernel_rfl) (fun _ _ _ h => h) (Or.inl ⟨by rfl, ?_⟩) (by assumption) ?_
                rotate_left
                · intro u hSu; have hSv := blkCell hSu; clear hSu; go_simp; (try with_reducible rfl)
                try simp only [Act.put, List.setIfInBounds_toArray, List.set_cons_zero, List.set_cons_succ]
                refine wpAnyH_take (i := 9) (oi := { dst := some 11, op := _, type := _, pos := _, after := _, guard := _ }) (v := ?_) rfl (by kernel_rfl) (by kernel_rfl) (by kernel_rfl) (fun _ _ _ h => h) (Or.inl ⟨by rfl, ?_⟩) (by assumption) ?_
                rotate_left
                · intro u hSu; have hSv := blkCell hSu; clear hSu; go_simp; (try with_reducible rfl)
                try simp only [Act.put, List.setIfInBounds_toArray, List.set_cons_zero, List.set_cons_succ]
                refine wpAnyH_done (by kernel_rfl) ?_ _
                clear hHeld hSn
                go_wp2_with fail
                go_meet
                case rel => exact ⟨S4.out, N4.out⟩
              ·
                go_simp
                have S2 := Lib.hid (S1.out.step (allocB (W5.drew.alloc (.cells #[.int .i64 n] 3)) (.cells #[.int .i64 n, .int .i64 prev, .int .i64 txn, .int .i64 kind, .int .i64 page, .int .i64 next, .int .i64 nu, .int .i64 ok, .int .i64 os, .string oo, .string on, .int .i64 how, .int .i64 root, .string ek, .int .i64 ep, .int .i64 es, .slice A3 ts.length c3, .slice B3 ds.length d3] 49))); have R2 := Lib.hid (blkOld R1.out (allocB (W5.drew.alloc (.cells #[.int .i64 n] 3)) (.cells #[.int .i64 n, .int .i64 prev, .int .i64 txn, .int .i64 kind, .int .i64 page, .int .i64 next, .int .i64 nu, .int .i64 ok, .int .i64 os, .string oo, .string on, .int .i64 how, .int .i64 root, .string ek, .int .i64 ep, .int .i64 es, .slice A3 ts.length c3, .slice B3 ds.length d3] 49))); have N2 := Lib.hid (blkOld N1.out (allocB (W5.drew.alloc (.cells #[.int .i64 n] 3)) (.cells #[.int .i64 n, .int .i64 prev, .int .i64 txn, .int .i64 kind, .int .i64 page, .int .i64 next, .int .i64 nu, .int .i64 ok, .int .i64 os, .string oo, .string on, .int .i64 how, .int .i64 root, .string ek, .int .i64 ep, .int .i64 es, .slice A3 ts.length c3, .slice B3 ds.length d3] 49))); have TA2 := Lib.hid (blkOld TA1.out (allocB (W5.drew.alloc (.cells #[.int .i64 n] 3)) (.cells #[.int .i64 n, .int .i64 prev, .int .i64 txn, .int .i64 kind, .int .i64 page, .int .i64 next, .int .i64 nu, .int .i64 ok, .int .i64 os, .string oo, .string on, .int .i64 how, .int .i64 root, .string ek, .int .i64 ep, .int .i64 es, .slice A3 ts.length c3, .slice B3 ds.length d3] 49))); have TI2 := Lib.hid (show ((W5.drew.alloc (.cells #[.int .i64 n] 3)).alloc (.cells #[.int .i64 n, .int .i64 prev, .int .i64 txn, .int .i64 kind, .int .i64 page, .int .i64 next, .int .i64 nu, .int .i64 ok, .int .i64 os, .string oo, .string on, .int .i64 how, .int .i64 root, .string ek, .int .i64 ep, .int .i64 es, .slice A3 ts.length c3, .slice B3 ds.length d3] 49)).heap[W5.heap.size + 1]? = some (.cells #[.int .i64 n, .int .i64 prev, .int .i64 txn, .int .i64 kind, .int .i64 page, .int .i64 next, .int .i64 nu, .int .i64 ok, .int .i64 os, .string oo, .string on, .int .i64 how, .int .i64 root, .string ek, .int .i64 ep, .int .i64 es, .slice A3 ts.length c3, .slice B3 ds.length d3] 49) from by (have h := heap_alloc_new (W5.drew.alloc (.cells #[.int .i64 n] 3)) (.cells #[.int .i64 n, .int .i64 prev, .int .i64 txn, .int .i64 kind, .int .i64 page, .int .i64 next, .int .i64 nu, .int .i64 ok, .int .i64 os, .string oo, .string on, .int .i64 how, .int .i64 root, .string ek, .int .i64 ep, .int .i64 es, .slice A3 ts.length c3, .slice B3 ds.length d3] 49)); (have e : ((W5.drew.alloc (.cells #[.int .i64 n] 3))).heap.size = W5.heap.size + 1 := by simp); rw [e] at h; exact h); try clear hSn
                have hSn := R2.out
                refine hK.out _ _ ?_ (fun hHeld => ?_)
                · exact hSn
                clear hK K
                try simp only [Act.put, List.setIfInBounds_toArray, List.set_cons_zero, List.set_cons_succ]
                refine wpAnyH_ready (rs := [3]) (by kernel_rfl) (by simp) ?_
                refine (AllReadyH.cons (o := { dst := some 65, op := _, type := _, pos := _, after := _, guard := _ }) rfl (fun K hK => ?_) AllReadyH.nil)
                refine wantedIf (by rfl) ?_
                refine wp_push _ (.tmp 62) (.tmp 64) 39 3 Try.underlying39 info_int rfl (by omega) (by omega) rfl (bl + 1) _ la.length (la.flatMap intC) rfl S2.out.ra _ (intC n) 3 rfl TA2.out rfl (by simp [intC, Value.oneCell']) (by omega) (Nat.succ_le_of_lt S2.out.past) ?_
                intro va2 u3 ho hg hb
                have S3 := Lib.hid (S2.out.pushA (OwnL.push (enc := intC) ho) hg hb)
                have R3 := Lib.hid (box_grown R2.out S2.out.ra (ownApart S2.out.ra R2.out (by decide)) hg)
                have N3 := Lib.hid (box_grown N2.out S2.out.ra (ownApart S2.out.ra N2.out (by decide)) hg)
                have TI3 := Lib.hid (box_grown TI2.out S2.out.ra (ownApart S2.out.ra TI2.out (by decide)) hg)
                try clear hSn
                have hSn := R3.out
                clear ho hg hb
                refine hK.out _ _ ?_ (fun hHeld => ?_)
                · exact hSn
                clear hK K
                try simp only [Act.put, List.setIfInBounds_toArray, List.set_cons_zero, List.set_cons_succ]
                refine wpAnyH_ready (rs := [7]) (by kernel_rfl) (by simp) ?_
                refine (AllReadyH.cons (o := { dst := some 69, op := _, type := _, pos := _, after := _, guard := _ }) rfl (fun K hK => ?_) AllReadyH.nil)
                refine wantedIf (by rfl) ?_
                refine wp_push _ (.tmp 66) (.tmp 68) 29 49 Try.underlying29 info_rec2 rfl (by omega) (by omega) rfl (bl + 1) _ ps.length (ps.flatMap recC) rfl S3.out.ri _ (recC ⟨⟨n, prev, txn, kind, page, next, nu, ⟨ok, os, oo, on⟩, how, root, ⟨ek, ep, es⟩, ts, ds⟩, A3, c3, B3, d3⟩) 49 rfl TI3.out rfl (recC_one _) (by omega) (Nat.succ_le_of_lt S3.out.past) ?_
                intro vi2 u4 ho hg hb
                have S4 := Lib.hid (S3.out.pushI (p := ⟨⟨n, prev, txn, kind, page, next, nu, ⟨ok, os, oo, on⟩, how, root, ⟨ek, ep, es⟩, ts, ds⟩, A3, c3, B3, d3⟩) (OwnL.push (enc := recC) ho) hg hb)
                have R4 := Lib.hid (box_grown R3.out S3.out.ri HFI.out hg)
                have N4 := Lib.hid (box_grown N3.out S3.out.ri (ownApart S3.out.ri N3.out (by decide)) hg)
                try clear hSn
                have hSn := R4.out
                clear ho hg hb
                refine hK.out _ _ ?_ (fun hHeld => ?_)
                · exact hSn
                clear hK K
                try simp only [Act.put, List.setIfInBounds_toArray, List.set_cons_zero, List.set_cons_succ]
                refine wpAnyH_take (i := 8) (oi := { dst := some 10, op := _, type := _, pos := _, after := _, guard := _ }) (v := ?_) rfl (by kernel_rfl) (by kernel_rfl) (by kernel_rfl) (fun _ _ _ h => h) (Or.inl ⟨by rfl, ?_⟩) (by assumption) ?_
                rotate_left
                · intro u hSu; have hSv := blkCell hSu; clear hSu; go_simp; (try with_reducible rfl)
                try simp only [Act.put, List.setIfInBounds_toArray, List.set_cons_zero, List.set_cons_succ]
                refine wpAnyH_take (i := 9) (oi := { dst := some 11, op := _, type := _, pos := _, after := _, guard := _ }) (v := ?_) rfl (by kernel_rfl) (by kernel_rfl) (by kernel_rfl) (fun _ _ _ h => h) (Or.inl ⟨by rfl, ?_⟩) (by assumption) ?_
                rotate_left
                · intro u hSu; have hSv := blkCell hSu; clear hSu; go_simp; (try with_reducible rfl)
                try simp only [Act.put, List.setIfInBounds_toArray, List.set_cons_zero, List.set_cons_succ]
                refine wpAnyH_done (by kernel_rfl) ?_ _
                clear hHeld hSn
                go_wp2_with fail
                go_meet
                case rel => exact ⟨S4.out, N4.out⟩
            ·
              go_simp
              have S1 := Lib.hid (S0.out.step (allocB W5.drew (.cells #[.int .i64 n, .int .i64 prev, .int .i64 txn, .int .i64 kind, .int .i64 page, .int .i64 next, .int .i64 nu, .int .i64 ok, .int .i64 os, .string oo, .string on, .int .i64 how, .int .i64 root, .string ek, .int .i64 ep, .int .i64 es, .slice A3 ts.length c3, .slice B3 ds.length d3] 49))); have R1 := Lib.hid (blkOld R0.out (allocB W5.drew (.cells #[.int .i64 n, .int .i64 prev, .int .i64 txn, .int .i64 kind, .int .i64 page, .int .i64 next, .int .i64 nu, .int .i64 ok, .int .i64 os, .string oo, .string on, .int .i64 how, .int .i64 root, .string ek, .int .i64 ep, .int .i64 es, .slice A3 ts.length c3, .slice B3 ds.length d3] 49))); have N1 := Lib.hid (blkOld N0.out (allocB W5.drew (.cells #[.int .i64 n, .int .i64 prev, .int .i64 txn, .int .i64 kind, .int .i64 page, .int .i64 next, .int .i64 nu, .int .i64 ok, .int .i64 os, .string oo, .string on, .int .i64 how, .int .i64 root, .string ek, .int .i64 ep, .int .i64 es, .slice A3 ts.length c3, .slice B3 ds.length d3] 49))); have TI1 := Lib.hid (heap_alloc_new W5.drew (.cells #[.int .i64 n, .int .i64 prev, .int .i64 txn, .int .i64 kind, .int .i64 page, .int .i64 next, .int .i64 nu, .int .i64 ok, .int .i64 os, .string oo, .string on, .int .i64 how, .int .i64 root, .string ek, .int .i64 ep, .int .i64 es, .slice A3 ts.length c3, .slice B3 ds.length d3] 49)); try clear hSn
              have hSn := R1.out
              refine hK.out _ _ ?_ (fun hHeld => ?_)
              · exact hSn
              clear hK K
              try simp only [Act.put, List.setIfInBounds_toArray, List.set_cons_zero, List.set_cons_succ]
              refine wpAnyH_ready (rs := [2]) (by kernel_rfl) (by simp) ?_
              refine (AllReadyH.cons (o := { dst := some 64, op := _, type := _, pos := _, after := _, guard := _ }) rfl (fun K hK => ?_) AllReadyH.nil)
              go_simp
              have S2 := Lib.hid (S1.out.step (allocB (W5.drew.alloc (.cells #[.int .i64 n, .int .i64 prev, .int .i64 txn, .int .i64 kind, .int .i64 page, .int .i64 next, .int .i64 nu, .int .i64 ok, .int .i64 os, .string oo, .string on, .int .i64 how, .int .i64 root, .string ek, .int .i64 ep, .int .i64 es, .slice A3 ts.length c3, .slice B3 ds.length d3] 49)) (.cells #[.int .i64 n] 3))); have R2 := Lib.hid (blkOld R1.out (allocB (W5.drew.alloc (.cells #[.int .i64 n, .int .i64 prev, .int .i64 txn, .int .i64 kind, .int .i64 page, .int .i64 next, .int .i64 nu, .int .i64 ok, .int .i64 os, .string oo, .string on, .int .i64 how, .int .i64 root, .string ek, .int .i64 ep, .int .i64 es, .slice A3 ts.length c3, .slice B3 ds.length d3] 49)) (.cells #[.int .i64 n] 3))); have N2 := Lib.hid (blkOld N1.out (allocB (W5.drew.alloc (.cells #[.int .i64 n, .int .i64 prev, .int .i64 txn, .int .i64 kind, .int .i64 page, .int .i64 next, .int .i64 nu, .int .i64 ok, .int .i64 os, .string oo, .string on, .int .i64 how, .int .i64 root, .string ek, .int .i64 ep, .int .i64 es, .slice A3 ts.length c3, .slice B3 ds.length d3] 49)) (.cells #[.int .i64 n] 3))); have TI2 := Lib.hid (blkOld TI1.out (allocB (W5.drew.alloc (.cells #[.int .i64 n, .int .i64 prev, .int .i64 txn, .int .i64 kind, .int .i64 page, .int .i64 next, .int .i64 nu, .int .i64 ok, .int .i64 os, .string oo, .string on, .int .i64 how, .int .i64 root, .string ek, .int .i64 ep, .int .i64 es, .slice A3 ts.length c3, .slice B3 ds.length d3] 49)) (.cells #[.int .i64 n] 3))); have TA2 := Lib.hid (show ((W5.drew.alloc (.cells #[.int .i64 n, .int .i64 prev, .int .i64 txn, .int .i64 kind, .int .i64 page, .int .i64 next, .int .i64 nu, .int .i64 ok, .int .i64 os, .string oo, .string on, .int .i64 how, .int .i64 root, .string ek, .int .i64 ep, .int .i64 es, .slice A3 ts.length c3, .slice B3 ds.length d3] 49)).alloc (.cells #[.int .i64 n] 3)).heap[W5.heap.size + 1]? = some (.cells #[.int .i64 n] 3) from by (have h := heap_alloc_new (W5.drew.alloc (.cells #[.int .i64 n, .int .i64 prev, .int .i64 txn, .int .i64 kind, .int .i64 page, .int .i64 next, .int .i64 nu, .int .i64 ok, .int .i64 os, .string oo, .string on, .int .i64 how, .int .i64 root, .string ek, .int .i64 ep, .int .i64 es, .slice A3 ts.length c3, .slice B3 ds.length d3] 49)) (.cells #[.int .i64 n] 3)); (have e : ((W5.drew.alloc (.cells #[.int .i64 n, .int .i64 prev, .int .i64 txn, .int .i64 kind, .int .i64 page, .int .i64 next, .int .i64 nu, .int .i64 ok, .int .i64 os, .string oo, .string on, .int .i64 how, .int .i64 root, .string ek, .int .i64 ep, .int .i64 es, .slice A3 ts.length c3, .slice B3 ds.length d3] 49))).heap.size = W5.heap.size + 1 := by simp); rw [e] at h; exact h); try clear hSn
              have hSn := R2.out
              refine hK.out _ _ ?_ (fun hHeld => ?_)
              · exact hSn
              clear hK K
              try simp only [Act.put, List.setIfInBounds_toArray, List.set_cons_zero, List.set_cons_succ]
              refine wpAnyH_ready (rs := [3]) (by kernel_rfl) (by simp) ?_
              refine (AllReadyH.cons (o := { dst := some 65, op := _, type := _, pos := _, after := _, guard := _ }) rfl (fun K hK => ?_) AllReadyH.nil)
              refine wantedIf (by rfl) ?_
              refine wp_push _ (.tmp 62) (.tmp 64) 39 3 Try.underlying39 info_int rfl (by omega) (by omega) rfl (bl + 1) _ la.length (la.flatMap intC) rfl S2.out.ra _ (intC n) 3 rfl TA2.out rfl (by simp [intC, Value.oneCell']) (by omega) (Nat.succ_le_of_lt S2.out.past) ?_
              intro va2 u3 ho hg hb
              have S3 := Lib.hid (S2.out.pushA (OwnL.push (enc := intC) ho) hg hb)
              have R3 := Lib.hid (box_grown R2.out S2.out.ra (ownApart S2.out.ra R2.out (by decide)) hg)
              have N3 := Lib.hid (box_grown N2.out S2.out.ra (ownApart S2.out.ra N2.out (by decide)) hg)
              have TI3 := Lib.hid (box_grown TI2.out S2.out.ra (ownApart S2.out.ra TI2.out (by decide)) hg)
              try clear hSn
              have hSn := R3.out
              clear ho hg hb
              refine hK.out _ _ ?_ (fun hHeld => ?_)
              · exact hSn
              clear hK K
              try simp only [Act.put, List.setIfInBounds_toArray, List.set_cons_zero, List.set_cons_succ]
              refine wpAnyH_ready (rs := [7]) (by kernel_rfl) (by simp) ?_
              refine (AllReadyH.cons (o := { dst := some 69, op := _, type := _, pos := _, after := _, guard := _ }) rfl (fun K hK => ?_) AllReadyH.nil)
              refine wantedIf (by rfl) ?_
              refine wp_push _ (.tmp 66) (.tmp 68) 29 49 Try.underlying29 info_rec2 rfl (by omega) (by omega) rfl (bl + 1) _ ps.length (ps.flatMap recC) rfl S3.out.ri _ (recC ⟨⟨n, prev, txn, kind, page, next, nu, ⟨ok, os, oo, on⟩, how, root, ⟨ek, ep, es⟩, ts, ds⟩, A3, c3, B3, d3⟩) 49 rfl TI3.out rfl (recC_one _) (by omega) (Nat.succ_le_of_lt S3.out.past) ?_
              intro vi2 u4 ho hg hb
              have S4 := Lib.hid (S3.out.pushI (p := ⟨⟨n, prev, txn, kind, page, next, nu, ⟨ok, os, oo, on⟩, how, root, ⟨ek, ep, es⟩, ts, ds⟩, A3, c3, B3, d3⟩) (OwnL.push (enc := recC) ho) hg hb)
              have R4 := Lib.hid (box_grown R3.out S3.out.ri HFI.out hg)
              have N4 := Lib.hid (box_grown N3.out S3.out.ri (ownApart S3.out.ri N3.out (by decide)) hg)
              try clear hSn
              have hSn := R4.out
              clear ho hg hb
              refine hK.out _ _ ?_ (fun hHeld => ?_)
              · exact hSn
              clear hK K
              try simp only [Act.put, List.setIfInBounds_toArray, List.set_cons_zero, List.set_cons_succ]
              refine wpAnyH_take (i := 8) (oi := { dst := some 10, op := _, type := _, pos := _, after := _, guard := _ }) (v := ?_) rfl (by kernel_rfl) (by kernel_rfl) (by kernel_rfl) (fun _ _ _ h => h) (Or.inl ⟨by rfl, ?_⟩) (by assumption) ?_
              rotate_left
              · intro u hSu; have hSv := blkCell hSu; clear hSu; go_simp; (try with_reducible rfl)
              try simp only [Act.put, List.setIfInBounds_toArray, List.set_cons_zero, List.set_cons_succ]
              refine wpAnyH_take (i := 9) (oi := { dst := some 11, op := _, type := _, pos := _, after := _, guard := _ }) (v := ?_) rfl (by kernel_rfl) (by kernel_rfl) (by kernel_rfl) (fun _ _ _ h => h) (Or.inl ⟨by rfl, ?_⟩) (by assumption) ?_
              rotate_left
              · intro u hSu; have hSv := blkCell hSu; clear hSu; go_simp; (try with_reducible rfl)
              try simp only [Act.put, List.setIfInBounds_toArray, List.set_cons_zero, List.set_cons_succ]
              refine wpAnyH_done (by kernel_rfl) ?_ _
              clear hHeld hSn
              go_wp2_with fail
              go_meet
              case rel => exact ⟨S4.out, N4.out⟩
          case rest =>
            obtain ⟨hst, hnb⟩ := hcut
            obtain ⟨wa, rfl⟩ : ∃ wm : World, wm = wc := ⟨_, rfl⟩
            have HS6 := Lib.hid hst
            have HN6 := Lib.hid hnb
            clear hst hnb HS5 HR5 HN5
            obtain ⟨p2, hp2⟩ : ∃ p2 : PRec, p2 = ⟨⟨n, prev, txn, kind, page, next, nu, ⟨ok, os, oo, on⟩, how, root, ⟨ek, ep, es⟩, ts, ds⟩, A3, c3, B3, d3⟩ := ⟨_, rfl⟩
            have HPR2 := Lib.hid (show PRecR w p2 from by rw [hp2]; exact ⟨HPR.out.txns, HPR.out.dirty, HPR.out.small⟩)
            have HLS2 := Lib.hid (show p2.r.lsn = n from by rw [hp2])
            have HPL3 := Lib.hid (show Lg.PL d g2 r1 (r2 ++ [p2.r]) from by rw [hp2]; exact HPL2.out)
            rw [← hp2] at HS6
            clear hp2 HPR HPL2
            have hcl := blkCell HS6.out.log
            have hwn : IntKind.i64.wrap (g.end_ + 1) = n := by rw [HN.out]; exact IntWalk.i64_in _ (by omega)
            go_upto_region 22 with (first
              | (with_reducible refine listLoad (by kernel_rfl) 28 (.tmp 14) rfl gn rfl (logA g2) _ HN6.out _ Try.underlying28 (by kernel_rfl) (by kernel_rfl) ?_)
              | (with_reducible refine listStore (by kernel_rfl) 28 (.tmp 9) (.tmp 75) rfl bl (logA g2) _ _ rfl rfl HS6.out.log (by kernel_rfl) (by kernel_rfl) (by kernel_rfl) ?_))
            have HS7 := Lib.hid (HS6.out.setLog g2)
            obtain ⟨W7, hW7⟩ : ∃ W, W = wa.setRow bl (logA g2) := ⟨_, rfl⟩
            rw [← hW7] at HS7
            rw [← hW7]
            clear hW7 hcl HS6 HN6 hwn HPL
            obtain ⟨A8, c8, hv8⟩ := ownLen HS7.out.ra
            obtain ⟨A9, c9, hv9⟩ := ownLen HS7.out.ri
            rw [List.length_append, hlal] at hv8
            rw [List.length_append] at hv9
            subst hv8 hv9
            have HLA2 := Lib.hid (show la ++ [n] = (ps ++ [p2]).map (·.r.lsn) from by rw [HLA.out, List.map_append, List.map_cons, List.map_nil, HLS2.out])
            have HPS2 := Lib.hid (show (ps ++ [p2]).map (·.r) = r1 ++ (r2 ++ [p2.r]) from by rw [List.map_append, HPS.out, List.append_assoc]; rfl)
            have HPP2 := Lib.hid (show ∀ p ∈ ps ++ [p2], PRecR w p from fun p hp => (List.mem_append.1 hp).elim (HPP.out p) (fun h => by rw [List.mem_singleton.1 h]; exact HPR2.out))
            have hpl2 : (ps ++ [p2]).length ≤ k + 1 := by rw [List.length_append, List.length_singleton]; omega
            generalize la ++ [n] = la2 at HS7 HLA2
            generalize ps ++ [p2] = ps2 at HS7 HPS2 HPP2 HLA2 hpl2
            generalize r2 ++ [p2.r] = r3 at HPS2 HPL3
            clear HLA HPS HPP HPR2 HLS2 HN
            by_cases hf1 : k < fs.length
            · have hf2 : decide (k < fs.length) = true := decide_eq_true hf1
              have hf3 : (k : Int) < (fs.length : Int) := by omega
              obtain ⟨b4, off4, rfl, hc4, hbl4, hcell4⟩ := read_at booC_len (HF.out.below HS7.out.low) hf1
              have q0 := hcell4 0 _ rfl
              simp only [Nat.mul_one, Nat.add_zero] at q0
              cases hfk : fs[k] with
              | true =>
                rw [hfk] at q0
                clear hcell4
                obtain ⟨x1, x2, x3, x4, x5, x6⟩ := HPL3.out.bounds
                have HFO := Lib.hid (fun W (hW : DiskR W d A c) => force_any d (by have := HPL3.out.left; omega) A c g2 x1 (by omega) (by omega) (by omega) (by omega) (by omega) (by omega) x3 x4 W hW)
                rcases HPL3.out.force with ⟨d5, g5, hfo, hpl5, hleft5, hsafe5, -⟩ | ⟨d5, hfo, _, hne, _⟩
                · rw [hfo] at HFO
                  have HPL5 := Lib.hid hpl5
                  have HLF5 := Lib.hid (hleft5 HLF.out)
                  have HPS3 := Lib.hid (show ps2.map (·.r) = (r1 ++ r3) ++ [] from by rw [List.append_nil]; exact HPS2.out)
                  have HSF5 := Lib.hid hsafe5
                  clear hfo hpl5 hleft5 hsafe5 x1 x2 x3 x4 x5 x6
                  go_upto_region 24 with (first
                    | (with_reducible refine listLoad (by kernel_rfl) 24 (.tmp 7) rfl bd rfl (diskA d A c) _ HS7.out.disk _ Try.underlying24 (by kernel_rfl) (by kernel_rfl) ?_)
                    | (with_reducible refine listLoad (by kernel_rfl) 28 (.tmp 9) rfl bl rfl (logA g2) _ HS7.out.log _ Try.underlying28 (by kernel_rfl) (by kernel_rfl) ?_)
                    | (go_at_call 14; (with_reducible refine (HFO.out _ HS7.out.dk).mono ?_); rintro e w8 ⟨A7, c7, he, hd8, ht8, hb8⟩; dsimp only [logV, diskV] at he; subst he; have HS8 := Lib.hid (HS7.out.forced (g := g2) (g' := g5) hd8 ht8 hb8); have HX8 := Lib.hid (HS7.out.step hb8); have HY8 := Lib.hid ((HX8.out.setDisk hd8 (ht8.elim (fun e => by rw [e]; exact HX8.out.dt) (fun e => e.mono (Nat.zero_le _)))).log))
                    | (with_reducible refine listStore (by kernel_rfl) 24 (.tmp 7) (.tmp 90) rfl bd (diskA d5 A7 c7) _ _ rfl rfl HX8.out.disk (by kernel_rfl) (by kernel_rfl) (by kernel_rfl) ?_)
                    | (with_reducible refine listStore (by kernel_rfl) 28 (.tmp 9) (.tmp 91) rfl bl (logA g5) _ _ rfl rfl HY8.out (by kernel_rfl) (by kernel_rfl) (by kernel_rfl) ?_))
                  obtain ⟨W8, hW8⟩ : ∃ W, W = (w8.setRow bd (diskA d5 A7 c7)).setRow bl (logA g5) := ⟨_, rfl⟩
                  rw [← hW8] at HS8
                  rw [← hW8]
                  clear hW8
                  clear hd8 ht8 hb8 HX8 HY8 HS7 HFO q0
                  have hcl := blkCell HS8.out.log
                  dsimp only [logA] at hcl
                  rw [HSF5.out] at hcl
                  go_wp2_with fail
                  go_roundw
                  case rel => exact ⟨k + 1, d5, A7, c7, g5, r1 ++ r3, [], la2, ps2, (by go_num), by omega, hpl2, HLA2.out, HPS3.out, HPL5.out, HLF5.out, HPP2.out, HS8.out⟩
                  case measure => simp [intOf]; omega
                · exact absurd HLF.out hne
              | false =>
                rw [hfk] at q0
                clear hcell4
                go_wp2_with fail
                go_roundw
                case rel => exact ⟨k + 1, d, A, c, g2, r1, r3, la2, ps2, (by go_num), by omega, hpl2, HLA2.out, HPS2.out, HPL3.out, HLF.out, HPP2.out, HS7.out⟩
                case measure => simp [intOf]; omega
            · have hf2 : decide (k < fs.length) = false := decide_eq_false hf1
              have hf3 : ¬ (k : Int) < (fs.length : Int) := by omega
              go_wp2_with fail
              go_roundw
              case rel => exact ⟨k + 1, d, A, c, g2, r1, r3, la2, ps2, (by go_num), by omega, hpl2, HLA2.out, HPS2.out, HPL3.out, HLF.out, HPP2.out, HS7.out⟩
              case measure => simp [intOf]; omega
      · have hk2 : ¬ (k : Int) < (l.length : Int) := by omega
        have hp30 : ps.length ≤ 30 := by omega
        clear HR HP HF hk hpk hlt
        obtain ⟨wo, rfl⟩ : ∃ wo : World, wo = wr := ⟨_, rfl⟩
        go_wp2_with fail
        go_loopw [17] (fun i wr => ∃ j : Nat, i = .int .i64 (j : Int) ∧ j ≤ ps.length ∧ StR bd bl w wr (.slice Aa ps.length ca) (.slice Ai ps.length ci) d A c g la ps) (fun i _ => ps.length - (intOf i).toNat)
        case atStart => exact ⟨0, rfl, Nat.zero_le _, HS.out⟩
        case round =>
          obtain ⟨j, rfl, hj, hst⟩ := hrel
          have HS2 := Lib.hid hst
          clear hst HS
          have HSM := Lib.hid HPL.out.small
          have hlen26 := HPL.out.len
          by_cases hjp : j < ps.length
          · have hlt : j < la.length := by omega
            obtain ⟨b, off, e1, hc, hbl, hcell⟩ := read_at intC_len (show Reads wr Aa ca la.length _ from own_reads (by have h := HS2.out.ra; unfold OwnL at h; rw [← hlal] at h; exact h)) hlt
            have hcl := hcell 0 _ rfl
            simp only [Nat.mul_one, Nat.add_zero] at hcl
            obtain ⟨b5, off5, e5, hc5, hbl5, hcell5⟩ := read_at recC_len (own_reads HS2.out.ri) hjp
            have hlaj : la[j] = ps[j].r.lsn := by
              have := HLA.out
              subst this
              simp
            have hrd : Lg.readL d g ps[j].r.lsn = .ok ps[j].r := by
              have h1 := HPL.out.inv.readAt HPL.out.up HPS.out j (by simpa using hjp)
              simpa using h1
            have hpj := HPP.out _ (List.getElem_mem hjp)
            rw [hlaj] at hcl
            subst e1 e5
            clear hcell hlaj
            generalize ps[j] = p at hcell5 hrd hpj hcl
            have HRD := Lib.hid (fun W (hW : DiskR W d A c) => logread_any d HPL.out.small (by omega) A c g.from_ g.n g.end_ g.safe g.tail q1 (by omega) (by omega) (by omega) (by omega) q3 p.r.lsn W hW)
            have hrd2 : Lg.readL d ⟨g.from_, g.n, g.end_, g.safe, g.tail⟩ p.r.lsn = .ok p.r := hrd
            rw [hrd2] at HRD
            have HCL := Lib.hid hcl
            have HC5 := Lib.hid hcell5
            have HPJ := Lib.hid hpj
            clear hrd hrd2 hcl hcell5 hpj
            have hj1 : (0 : Int) ≤ (j : Int) := by omega
            have hj3 : (j : Int) < (ps.length : Int) := by omega
            have hwj : IntKind.i64.wrap ((j : Int) + 1) = (j : Int) + 1 := IntWalk.i64_in _ (by omega)
            go_upto_region 29 with fail
            go_cut [18, 19] (fun x y wc => ∃ (g5 : Nat) (A5 : Option Addr) (c5 : Nat) (B5 : Option Addr) (d5 : Nat), x = .pointer (some ⟨g5, 0, none⟩) ∧ y = .int .i64 0 ∧ wc.heap[g5]? = some (.cells (recA p.r (.slice A5 p.r.txns.length c5) (.slice B5 p.r.dirty.length d5)) 49 (0, 0)) ∧ RecR wc p.r A5 c5 B5 d5 ∧ Below wr.heap.size wr wc)
            case first =>
              have B0 : Below wr.heap.size wr wr.drew := (Below.refl _ wr).drew
              refine wp_region_held_drew (S := (fun u => Below wr.heap.size wr u)) (by kernel_rfl) ?_ (fun hHeld => ?_)
              · exact B0
              refine wpAnyH_take (i := 0) (oi := { dst := some 109, op := _, type := _, pos := _, after := _, guard := _ }) (v := .agg (diskA d A c)) rfl (by kernel_rfl) (by kernel_rfl) (by kernel_rfl) (fun _ _ _ h => h) (yieldsIf_load_mid (by rfl) 24 (.tmp 7) rfl bd 0 (by rfl) (diskA d A c).toList _ (fun u hu => range_blk HS2.out.disk hu) Try.underlying24 (by kernel_rfl) (by kernel_rfl)) (by assumption) ?_
              try simp only [Act.put, List.setIfInBounds_toArray, List.set_cons_zero, List.set_cons_succ]
              refine wpAnyH_take (i := 1) (oi := { dst := some 110, op := _, type := _, pos := _, after := _, guard := _ }) (v := .agg (logA g)) rfl (by kernel_rfl) (by kernel_rfl) (by kernel_rfl) (fun _ _ _ h => h) (yieldsIf_load_mid (by rfl) 28 (.tmp 9) rfl bl 0 (by rfl) (logA g).toList _ (fun u hu => range_blk HS2.out.log hu) Try.underlying28 (by kernel_rfl) (by kernel_rfl)) (by assumption) ?_
              try simp only [Act.put, List.setIfInBounds_toArray, List.set_cons_zero, List.set_cons_succ]
              refine wpAnyH_take (i := 2) (oi := { dst := some 111, op := _, type := _, pos := _, after := _, guard := _ }) (v := ?_) rfl (by kernel_rfl) (by kernel_rfl) (by kernel_rfl) (fun _ _ _ h => h) (Or.inl ⟨by rfl, ?_⟩) (by assumption) ?_
              rotate_left
              · intro u hSu; have hcu := (hSu.cell (p := ⟨b, off + j, none⟩) hbl).trans HCL.out; go_simp; (try with_reducible rfl)
              try simp only [Act.put, List.setIfInBounds_toArray, List.set_cons_zero, List.set_cons_succ]
              refine wpAnyH_take (i := 3) (oi := { dst := some 112, op := _, type := _, pos := _, after := _, guard := _ }) (v := ?_) rfl (by kernel_rfl) (by kernel_rfl) (by kernel_rfl) (fun _ _ _ h => h) (Or.inl ⟨by rfl, ?_⟩) (by assumption) ?_
              rotate_left
              · intro u hSu; have hcu := (hSu.cell (p := ⟨b, off + j, none⟩) hbl).trans HCL.out; go_simp; (try with_reducible rfl)
              try simp only [Act.put, List.setIfInBounds_toArray, List.set_cons_zero, List.set_cons_succ]
              refine wpAnyH_take (i := 4) (oi := { dst := some 113, op := _, type := _, pos := _, after := _, guard := _ }) (v := ?_) rfl (by kernel_rfl) (by kernel_rfl) (by kernel_rfl) (fun _ _ _ h => h) (Or.inl ⟨by rfl, ?_⟩) (by assumption) ?_
              rotate_left
              · intro u hSu; have hcu := (hSu.cell (p := ⟨b, off + j, none⟩) hbl).trans HCL.out; go_simp; (try with_reducible rfl)
              try simp only [Act.put, List.setIfInBounds_toArray, List.set_cons_zero, List.set_cons_succ]
              refine wpAnyH_take (i := 5) (oi := { dst := some 114, op := _, type := _, pos := _, after := _, guard := _ }) (v := ?_) rfl (by kernel_rfl) (by kernel_rfl) (by kernel_rfl) (fun _ _ _ h => h) (Or.inl ⟨by rfl, ?_⟩) (by assumption) ?_
              rotate_left
              · intro u hSu; have hcu := (hSu.cell (p := ⟨b, off + j, none⟩) hbl).trans HCL.out; go_simp; (try with_reducible rfl)
              try simp only [Act.put, List.setIfInBounds_toArray, List.set_cons_zero, List.set_cons_succ]
              refine wpAnyH_ready (rs := [6, 10]) (by kernel_rfl) (by simp) ?_
              refine (AllReadyH.cons (o := { dst := some 115, op := _, type := _, pos := _, after := _, guard := _ }) rfl (fun K hK => ?_) (AllReadyH.cons (o := { dst := some 18, op := _, type := _, pos := _, after := _, guard := _ }) rfl (fun K hK => ?_) AllReadyH.nil))
              ·
                go_simp
                refine (HRD.out _ (HS2.out.dk.below B0)).mono ?_; rintro e w5 ⟨hb5, A5, c5, B5, d5, rfl, hrn⟩; have B2 := joinB B0 hb5; have hSn := B2
                refine hK.out _ _ ?_ (fun hHeld => ?_)
                · exact hSn
                clear hK K
                try simp only [Act.put, List.setIfInBounds_toArray, List.set_cons_zero, List.set_cons_succ]
                refine wpAnyH_take (i := 7) (oi := { dst := some 108, op := _, type := _, pos := _, after := _, guard := _ }) (v := ?_) rfl (by kernel_rfl) (by kernel_rfl) (by kernel_rfl) (fun _ _ _ h => h) (Or.inl ⟨by rfl, ?_⟩) (by assumption) ?_
                rotate_left
                · intro u hSu; have hcu := (hSu.cell (p := ⟨b, off + j, none⟩) hbl).trans HCL.out; go_simp; (try with_reducible rfl)
                try simp only [Act.put, List.setIfInBounds_toArray, List.set_cons_zero, List.set_cons_succ]
                refine wpAnyH_take (i := 8) (oi := { dst := some 116, op := _, type := _, pos := _, after := _, guard := _ }) (v := ?_) rfl (by kernel_rfl) (by kernel_rfl) (by kernel_rfl) (fun _ _ _ h => h) (Or.inl ⟨by rfl, ?_⟩) (by assumption) ?_
                rotate_left
                · intro u hSu; have hcu := (hSu.cell (p := ⟨b, off + j, none⟩) hbl).trans HCL.out; go_simp; (try with_reducible rfl)
                try simp only [Act.put, List.setIfInBounds_toArray, List.set_cons_zero, List.set_cons_succ]
                refine wpAnyH_take (i := 9) (oi := { dst := some 117, op := _, type := _, pos := _, after := _, guard := _ }) (v := ?_) rfl (by kernel_rfl) (by kernel_rfl) (by kernel_rfl) (fun _ _ _ h => h) (Or.inl ⟨by rfl, ?_⟩) (by assumption) ?_
                rotate_left
                · intro u hSu; have hcu := (hSu.cell (p := ⟨b, off + j, none⟩) hbl).trans HCL.out; go_simp; (try with_reducible rfl)
                try simp only [Act.put, List.setIfInBounds_toArray, List.set_cons_zero, List.set_cons_succ]
                refine wpAnyH_ready (rs := [10]) (by kernel_rfl) (by simp) ?_
                refine (AllReadyH.cons (o := { dst := some 18, op := _, type := _, pos := _, after := _, guard := _ }) rfl (fun K hK => ?_) AllReadyH.nil)
                go_simp
                have HG := heap_alloc_new w5 (.cells zeroA 49); have B3 := joinB B2 (allocB w5 (.cells zeroA 49)); have hrn2 := hrn.below (allocB w5 (.cells zeroA 49)); clear hSn; have hSn := B3
                refine hK.out _ _ ?_ (fun hHeld => ?_)
                · exact hSn
                clear hK K
                try simp only [Act.put, List.setIfInBounds_toArray, List.set_cons_zero, List.set_cons_succ]
                refine wpAnyH_ready (rs := [11]) (by kernel_rfl) (by simp) ?_
                refine (AllReadyH.cons (o := { dst := none, op := _, type := _, pos := _, after := _, guard := _ }) rfl (fun K hK => ?_) AllReadyH.nil)
                refine wantedIf (by rfl) ?_
                refine wp_store_whole 49 (.tmp 18) (.tmp 116) rfl w5.heap.size (recA p.r (.slice A5 p.r.txns.length c5) (.slice B5 p.r.dirty.length d5)) _ _ rfl rfl HG (by kernel_rfl) (by kernel_rfl) (by kernel_rfl) ?_
                have B4 := below_setRow B3 (b := w5.heap.size) (by have := B2.size; omega) (recA p.r (.slice A5 p.r.txns.length c5) (.slice B5 p.r.dirty.length d5))
                have HG4 := setRow_heap _ _ _ (recA p.r (.slice A5 p.r.txns.length c5) (.slice B5 p.r.dirty.length d5)) _ _ HG
                have hr4 := (hrn2.other HG (by decide) (by decide) (recA p.r (.slice A5 p.r.txns.length c5) (.slice B5 p.r.dirty.length d5))).rr
                clear hSn
                have hSn := B4
                refine hK.out _ _ ?_ (fun hHeld => ?_)
                · exact hSn
                clear hK K
                try simp only [Act.put]
                refine wpAnyH_take (i := 12) (oi := { dst := some 19, op := _, type := _, pos := _, after := _, guard := _ }) (v := ?_) rfl (by kernel_rfl) (by kernel_rfl) (by kernel_rfl) (fun _ _ _ h => h) (Or.inl ⟨by rfl, ?_⟩) (by assumption) ?_
                rotate_left
                · intro u hSu; have hcu := (hSu.cell (p := ⟨b, off + j, none⟩) hbl).trans HCL.out; go_simp; (try with_reducible rfl)
                try simp only [Act.put, List.setIfInBounds_toArray, List.set_cons_zero, List.set_cons_succ]
                refine wpAnyH_done (by kernel_rfl) ?_ _
                clear hHeld hSn
                go_wp2_with fail
                go_meet
                case rel => exact ⟨_, A5, c5, B5, d5, rfl, rfl, HG4, hr4, B4⟩
              ·
                go_simp
                have B1 := joinB B0 (allocB wr.drew (.cells zeroA 49)); have hSn := B1
                refine hK.out _ _ ?_ (fun hHeld => ?_)
                · exact hSn
                clear hK K
                try simp only [Act.put, List.setIfInBounds_toArray, List.set_cons_zero, List.set_cons_succ]
                refine wpAnyH_ready (rs := [6]) (by kernel_rfl) (by simp) ?_
                refine (AllReadyH.cons (o := { dst := some 115, op := _, type := _, pos := _, after := _, guard := _ }) rfl (fun K hK => ?_) AllReadyH.nil)
                go_simp
                refine (HRD.out _ (HS2.out.dk.below B1)).mono ?_; rintro e w5 ⟨hb5, A5, c5, B5, d5, rfl, hrn⟩; have B2 := joinB B1 hb5; have hSn := B2; have HG := blkNew hb5
                refine hK.out _ _ ?_ (fun hHeld => ?_)
                · exact hSn
                clear hK K
                try simp only [Act.put, List.setIfInBounds_toArray, List.set_cons_zero, List.set_cons_succ]
                refine wpAnyH_take (i := 7) (oi := { dst := some 108, op := _, type := _, pos := _, after := _, guard := _ }) (v := ?_) rfl (by kernel_rfl) (by kernel_rfl) (by kernel_rfl) (fun _ _ _ h => h) (Or.inl ⟨by rfl, ?_⟩) (by assumption) ?_
                rotate_left
                · intro u hSu; have hcu := (hSu.cell (p := ⟨b, off + j, none⟩) hbl).trans HCL.out; go_simp; (try with_reducible rfl)
                try simp only [Act.put, List.setIfInBounds_toArray, List.set_cons_zero, List.set_cons_succ]
                refine wpAnyH_take (i := 8) (oi := { dst := some 116, op := _, type := _, pos := _, after := _, guard := _ }) (v := ?_) rfl (by kernel_rfl) (by kernel_rfl) (by kernel_rfl) (fun _ _ _ h => h) (Or.inl ⟨by rfl, ?_⟩) (by assumption) ?_
                rotate_left
                · intro u hSu; have hcu := (hSu.cell (p := ⟨b, off + j, none⟩) hbl).trans HCL.out; go_simp; (try with_reducible rfl)
                try simp only [Act.put, List.setIfInBounds_toArray, List.set_cons_zero, List.set_cons_succ]
                refine wpAnyH_take (i := 9) (oi := { dst := some 117, op := _, type := _, pos := _, after := _, guard := _ }) (v := ?_) rfl (by kernel_rfl) (by kernel_rfl) (by kernel_rfl) (fun _ _ _ h => h) (Or.inl ⟨by rfl, ?_⟩) (by assumption) ?_
                rotate_left
                · intro u hSu; have hcu := (hSu.cell (p := ⟨b, off + j, none⟩) hbl).trans HCL.out; go_simp; (try with_reducible rfl)
                try simp only [Act.put, List.setIfInBounds_toArray, List.set_cons_zero, List.set_cons_succ]
                refine wpAnyH_ready (rs := [11]) (by kernel_rfl) (by simp) ?_
                refine (AllReadyH.cons (o := { dst := none, op := _, type := _, pos := _, after := _, guard := _ }) rfl (fun K hK => ?_) AllReadyH.nil)
                refine wantedIf (by rfl) ?_
                refine wp_store_whole 49 (.tmp 18) (.tmp 116) rfl wr.drew.heap.size (recA p.r (.slice A5 p.r.txns.length c5) (.slice B5 p.r.dirty.length d5)) _ _ rfl rfl HG (by kernel_rfl) (by kernel_rfl) (by kernel_rfl) ?_
                have B4 := below_setRow B2 (b := wr.drew.heap.size) (by show wr.heap.size ≤ wr.heap.size; omega) (recA p.r (.slice A5 p.r.txns.length c5) (.slice B5 p.r.dirty.length d5))
                have HG4 := setRow_heap _ _ _ (recA p.r (.slice A5 p.r.txns.length c5) (.slice B5 p.r.dirty.length d5)) _ _ HG
                have hr4 := (hrn.other HG (by decide) (by decide) (recA p.r (.slice A5 p.r.txns.length c5) (.slice B5 p.r.dirty.length d5))).rr
                clear hSn
                have hSn := B4
                refine hK.out _ _ ?_ (fun hHeld => ?_)
                · exact hSn
                clear hK K
                try simp only [Act.put]
                refine wpAnyH_take (i := 12) (oi := { dst := some 19, op := _, type := _, pos := _, after := _, guard := _ }) (v := ?_) rfl (by kernel_rfl) (by kernel_rfl) (by kernel_rfl) (fun _ _ _ h => h) (Or.inl ⟨by rfl, ?_⟩) (by assumption) ?_
                rotate_left
                · intro u hSu; have hcu := (hSu.cell (p := ⟨b, off + j, none⟩) hbl).trans HCL.out; go_simp; (try with_reducible rfl)
                try simp only [Act.put, List.setIfInBounds_toArray, List.set_cons_zero, List.set_cons_succ]
                refine wpAnyH_done (by kernel_rfl) ?_ _
                clear hHeld hSn
                go_wp2_with fail
                go_meet
                case rel => exact ⟨_, A5, c5, B5, d5, rfl, rfl, HG4, hr4, B4⟩
            case rest =>
              obtain ⟨g5, A5, c5, B5, d5, rfl, rfl, hg5, hr5, hb5⟩ := hcut
              obtain ⟨wb, rfl⟩ : ∃ wm : World, wm = wc := ⟨_, rfl⟩
              have HS3 := Lib.hid (HS2.out.step hb5)
              have HG5 := Lib.hid hg5
              have HSA := Lib.hid (fun W (hb : Below wb.heap.size wb W) => rsame_any p.r p.r A5 p.A B5 p.B c5 p.c d5 p.d W (hr5.below hb) ((HPJ.out.below HS3.out.low).below hb))
              have hdt : decide (p.r = p.r) = true := by simp
              rw [hdt] at HSA
              have HC6 := Lib.hid (show ∀ u, Below wb.heap.size wb u → u.rangeAt b5 (off5 + j * 18) (recC p) from fun u hu i v hv => by
                rw [hu.cell (p := ⟨b5, off5 + j * 18 + i, none⟩) (Nat.lt_of_lt_of_le hbl5 hb5.size), hb5.cell (p := ⟨b5, off5 + j * 18 + i, none⟩) hbl5]; exact HC5.out i v hv)
              have HCL6 := Lib.hid (show wb.cell? ⟨b, off + j, none⟩ = some (.int .i64 p.r.lsn) from (hb5.cell (p := ⟨b, off + j, none⟩) hbl).trans HCL.out)
              have hbl6 : b < wb.heap.size := Nat.lt_of_lt_of_le hbl hb5.size
              clear hg5 hr5 hb5 HS2 HCL HC5 HRD hdt
              go_upto_region 30 with fail
              have hSn : Below wb.heap.size wb wb.drew := (Below.refl _ wb).drew
              refine wp_region_held_drew (S := (fun u => Below wb.heap.size wb u)) (by kernel_rfl) ?_ (fun hHeld => ?_)
              · exact hSn
              refine wpAnyH_take (i := 0) (oi := { dst := some 118, op := _, type := _, pos := _, after := _, guard := _ }) (v := ?_) rfl (by kernel_rfl) (by kernel_rfl) (by kernel_rfl) (fun _ _ _ h => h) (Or.inl ⟨by rfl, ?_⟩) (by assumption) ?_
              rotate_left
              · intro u hSu; go_simp; (try with_reducible rfl)
              try simp only [Act.put, List.setIfInBounds_toArray, List.set_cons_zero, List.set_cons_succ]
              refine wpAnyH_take (i := 1) (oi := { dst := some 119, op := _, type := _, pos := _, after := _, guard := _ }) (v := ?_) rfl (by kernel_rfl) (by kernel_rfl) (by kernel_rfl) (fun _ _ _ h => h) (Or.inl ⟨by rfl, ?_⟩) (by assumption) ?_
              rotate_left
              · intro u hSu; go_simp; (try with_reducible rfl)
              try simp only [Act.put, List.setIfInBounds_toArray, List.set_cons_zero, List.set_cons_succ]
              refine wpAnyH_take (i := 2) (oi := { dst := some 120, op := _, type := _, pos := _, after := _, guard := _ }) (v := ?_) rfl (by kernel_rfl) (by kernel_rfl) (by kernel_rfl) (fun _ _ _ h => h) (Or.inl ⟨by rfl, ?_⟩) (by assumption) ?_
              rotate_left
              · intro u hSu; go_simp; (try with_reducible rfl)
              try simp only [Act.put, List.setIfInBounds_toArray, List.set_cons_zero, List.set_cons_succ]
              refine wpAnyH_take (i := 3) (oi := { dst := some 121, op := _, type := _, pos := _, after := _, guard := _ }) (v := .agg (recA p.r (.slice A5 p.r.txns.length c5) (.slice B5 p.r.dirty.length d5))) rfl (by kernel_rfl) (by kernel_rfl) (by kernel_rfl) (fun _ _ _ h => h) (yieldsIf_load_mid (by rfl) 49 (.tmp 18) rfl g5 0 (by rfl) (recA p.r (.slice A5 p.r.txns.length c5) (.slice B5 p.r.dirty.length d5)).toList _ (fun u hu => range_blk HG5.out hu) Try.underlying49 (by kernel_rfl) (by kernel_rfl)) (by assumption) ?_
              try simp only [Act.put, List.setIfInBounds_toArray, List.set_cons_zero, List.set_cons_succ]
              refine wpAnyH_take (i := 4) (oi := { dst := some 122, op := _, type := _, pos := _, after := _, guard := _ }) (v := ?_) rfl (by kernel_rfl) (by kernel_rfl) (by kernel_rfl) (fun _ _ _ h => h) (Or.inl ⟨by rfl, ?_⟩) (by assumption) ?_
              rotate_left
              · intro u hSu; go_simp; (try with_reducible rfl)
              try simp only [Act.put, List.setIfInBounds_toArray, List.set_cons_zero, List.set_cons_succ]
              refine wpAnyH_take (i := 5) (oi := { dst := some 123, op := _, type := _, pos := _, after := _, guard := _ }) (v := ?_) rfl (by kernel_rfl) (by kernel_rfl) (by kernel_rfl) (fun _ _ _ h => h) (Or.inl ⟨by rfl, ?_⟩) (by assumption) ?_
              rotate_left
              · intro u hSu; go_simp; (try with_reducible rfl)
              try simp only [Act.put, List.setIfInBounds_toArray, List.set_cons_zero, List.set_cons_succ]
              refine wpAnyH_take (i := 6) (oi := { dst := some 124, op := _, type := _, pos := _, after := _, guard := _ }) (v := ?_) rfl (by kernel_rfl) (by kernel_rfl) (by kernel_rfl) (fun _ _ _ h => h) (Or.inl ⟨by rfl, ?_⟩) (by assumption) ?_
              rotate_left
              · intro u hSu; go_simp; (try with_reducible rfl)
              try simp only [Act.put, List.setIfInBounds_toArray, List.set_cons_zero, List.set_cons_succ]
              refine wpAnyH_take (i := 7) (oi := { dst := some 125, op := _, type := _, pos := _, after := _, guard := _ }) (v := recV p.r (.slice p.A p.r.txns.length p.c) (.slice p.B p.r.dirty.length p.d)) rfl (by kernel_rfl) (by kernel_rfl) (by kernel_rfl) (fun _ _ _ h => h) (yieldsIf_load_mid (by rfl) 49 (.tmp 124) rfl b5 (off5 + j * 18) (by rfl) (recC p) _ HC6.out Try.underlying49 (by kernel_rfl) (by kernel_rfl)) (by assumption) ?_
              try simp only [Act.put, List.setIfInBounds_toArray, List.set_cons_zero, List.set_cons_succ]
              refine wpAnyH_ready (rs := [8]) (by kernel_rfl) (by simp) ?_
              refine AllReadyH.cons (o := { dst := some 126, op := _, type := _, pos := _, after := _, guard := _ }) rfl (fun K hK => ?_) ?_
              rotate_left
              · exact AllReadyH.nil
              go_simp
              refine (HSA.out _ hSn).mono ?_; rintro e w6 ⟨rfl, hb6⟩; have hSm := joinB hSn hb6; clear hSn; have hSn := hSm; clear hSm; try go_simp
              refine hK.out _ _ ?_ (fun hHeld => ?_)
              · exact hSn
              clear hK K
              try simp only [Act.put, List.setIfInBounds_toArray, List.set_cons_zero, List.set_cons_succ]
              refine wpAnyH_take (i := 9) (oi := { dst := some 127, op := _, type := _, pos := _, after := _, guard := _ }) (v := ?_) rfl (by kernel_rfl) (by kernel_rfl) (by kernel_rfl) (fun _ _ _ h => h) (Or.inl ⟨by rfl, ?_⟩) (by assumption) ?_
              rotate_left
              · intro u hSu; go_simp; (try with_reducible rfl)
              try simp only [Act.put, List.setIfInBounds_toArray, List.set_cons_zero, List.set_cons_succ]
              refine wpAnyH_take (i := 10) (oi := { dst := some 128, op := _, type := _, pos := _, after := _, guard := _ }) (v := ?_) rfl (by kernel_rfl) (by kernel_rfl) (by kernel_rfl) (fun _ _ _ h => h) (Or.inl ⟨by rfl, ?_⟩) (by assumption) ?_
              rotate_left
              · intro u hSu; go_simp; (try with_reducible rfl)
              try simp only [Act.put, List.setIfInBounds_toArray, List.set_cons_zero, List.set_cons_succ]
              refine wpAnyH_done (by kernel_rfl) ?_ _
              have HS4 := Lib.hid (HS3.out.step hSn)
              have hcx := (hSn.cell (p := ⟨b, off + j, none⟩) hbl6).trans HCL6.out
              clear hHeld HSA HC6 HS3 HG5
              by_cases ho : p.r.lsn = other
              · have ho2 : (p.r.lsn == other) = true := by simpa using ho
                go_wp2_with (go_at_call 7; (with_reducible refine (HAW.out _).mono ?_); rintro e w7 ⟨rfl, hb7⟩)
                go_ret
                exact ⟨rfl, joinB HS4.out.low hb7⟩
              · have ho2 : (p.r.lsn == other) = false := by simpa using ho
                go_wp2_with fail
                go_roundw
                case rel => exact ⟨j + 1, (by go_num), by omega, HS4.out⟩
                case measure => simp [intOf]; omega
          · have hj2 : ¬ (j : Int) < (ps.length : Int) := by omega
            have HRD := Lib.hid (fun W (hW : DiskR W d A c) => logread_any d HPL.out.small (by omega) A c g.from_ g.n g.end_ g.safe g.tail q1 (by omega) (by omega) (by omega) (by omega) q3 other W hW)
            by_cases hin : 1 ≤ other ∧ other ≤ g.end_
            · obtain ⟨hi1, hi2⟩ := hin
              cases hx : Lg.readL d ⟨g.from_, g.n, g.end_, g.safe, g.tail⟩ other with
              | error e0 =>
                rw [hx] at HRD
                clear hx
                go_upto_region 35 with (first
                  | (with_reducible refine listLoad (by kernel_rfl) 24 (.tmp 7) rfl bd rfl (diskA d A c) _ HS2.out.disk _ Try.underlying24 (by kernel_rfl) (by kernel_rfl) ?_)
                  | (with_reducible refine listLoad (by kernel_rfl) 28 (.tmp 9) rfl bl rfl (logA g) _ HS2.out.log _ Try.underlying28 (by kernel_rfl) (by kernel_rfl) ?_)
                  | (go_at_call 15; (with_reducible refine (HRD.out _ HS2.out.dk).mono ?_); rintro e w5 ⟨hb5, rfl⟩)
                  | (with_reducible refine wpList_store_new rfl 49 (.tmp 20) (.tmp 141) rfl zeroA _ _ rfl (by kernel_rfl) (by kernel_rfl) (by kernel_rfl) (by kernel_rfl) ?_))
                have HS5 := Lib.hid (HS2.out.step (pastAlloc (o := .cells zeroA 49) hb5))
                have hcl := blkCell HS5.out.log
                go_wp2_with (go_at_call 7; (with_reducible refine (HAW.out _).mono ?_); rintro e w7 ⟨rfl, hb7⟩)
                go_ret
                exact ⟨rfl, joinB HS5.out.low hb7⟩
              | ok r5 =>
                rw [hx] at HRD
                clear hx
                obtain ⟨lsn, prev, txn, kind, page, next, nu, ⟨ok, os, oo, on⟩, how, root, ⟨ek, ep, es⟩, ts, ds⟩ := r5
                go_upto_region 35 with (first
                  | (with_reducible refine listLoad (by kernel_rfl) 24 (.tmp 7) rfl bd rfl (diskA d A c) _ HS2.out.disk _ Try.underlying24 (by kernel_rfl) (by kernel_rfl) ?_)
                  | (with_reducible refine listLoad (by kernel_rfl) 28 (.tmp 9) rfl bl rfl (logA g) _ HS2.out.log _ Try.underlying28 (by kernel_rfl) (by kernel_rfl) ?_)
                  | (go_at_call 15; (with_reducible refine (HRD.out _ HS2.out.dk).mono ?_); rintro e w5 ⟨hb5, A3, c3, B3, d3, rfl, hrn⟩)
                  | (with_reducible refine wpList_store_new rfl 49 (.tmp 20) (.tmp 141) rfl #[.int .i64 lsn, .int .i64 prev, .int .i64 txn, .int .i64 kind, .int .i64 page, .int .i64 next, .int .i64 nu, .int .i64 ok, .int .i64 os, .string oo, .string on, .int .i64 how, .int .i64 root, .string ek, .int .i64 ep, .int .i64 es, .slice A3 ts.length c3, .slice B3 ds.length d3] _ _ rfl (by kernel_rfl) (by kernel_rfl) (by kernel_rfl) (by kernel_rfl) ?_))
                have HS5 := Lib.hid (HS2.out.step (pastAlloc (o := .cells #[.int .i64 lsn, .int .i64 prev, .int .i64 txn, .int .i64 kind, .int .i64 page, .int .i64 next, .int .i64 nu, .int .i64 ok, .int .i64 os, .string oo, .string on, .int .i64 how, .int .i64 root, .string ek, .int .i64 ep, .int .i64 es, .slice A3 ts.length c3, .slice B3 ds.length d3] 49) hb5))
                have hcl := blkCell HS5.out.log
                go_wp2_with (go_at_call 7; (with_reducible refine (HAW.out _).mono ?_); rintro e w7 ⟨rfl, hb7⟩)
                go_ret
                exact ⟨rfl, joinB HS5.out.low hb7⟩
            · have hx : Lg.readL d ⟨g.from_, g.n, g.end_, g.safe, g.tail⟩ other = .error 21 := Lg.readL_none (by show other < 1 ∨ g.end_ < other; omega)
              rw [hx] at HRD
              clear hx
              have HSZ := Lib.hid (fun W => rsame_any (⟨0, 0, 0, 0, 0, 0, 0, ⟨0, 0, ⟨#[]⟩, ⟨#[]⟩⟩, 0, 0, ⟨⟨#[]⟩, 0, 0⟩, [], []⟩ : Rc.Rec) ⟨0, 0, 0, 0, 0, 0, 0, ⟨0, 0, ⟨#[]⟩, ⟨#[]⟩⟩, 0, 0, ⟨⟨#[]⟩, 0, 0⟩, [], []⟩ none none none none 0 0 0 0 W (recR_none _ _ rfl rfl) (recR_none _ _ rfl rfl))
              have hdt : decide ((⟨0, 0, 0, 0, 0, 0, 0, ⟨0, 0, ⟨#[]⟩, ⟨#[]⟩⟩, 0, 0, ⟨⟨#[]⟩, 0, 0⟩, [], []⟩ : Rc.Rec) = ⟨0, 0, 0, 0, 0, 0, 0, ⟨0, 0, ⟨#[]⟩, ⟨#[]⟩⟩, 0, 0, ⟨⟨#[]⟩, 0, 0⟩, [], []⟩) = true := by simp
              rw [hdt] at HSZ
              clear hdt
              dsimp only [recV, recA, List.length_nil] at HSZ
              go_upto_region 35 with (first
                | (with_reducible refine listLoad (by kernel_rfl) 24 (.tmp 7) rfl bd rfl (diskA d A c) _ HS2.out.disk _ Try.underlying24 (by kernel_rfl) (by kernel_rfl) ?_)
                | (with_reducible refine listLoad (by kernel_rfl) 28 (.tmp 9) rfl bl rfl (logA g) _ HS2.out.log _ Try.underlying28 (by kernel_rfl) (by kernel_rfl) ?_)
                | (go_at_call 15; (with_reducible refine (HRD.out _ HS2.out.dk).mono ?_); rintro e w5 ⟨hb5, rfl⟩)
                | (with_reducible refine wpList_store_new rfl 49 (.tmp 20) (.tmp 141) rfl zeroA _ _ rfl (by kernel_rfl) (by kernel_rfl) (by kernel_rfl) (by kernel_rfl) ?_))
              have HS5 := Lib.hid (HS2.out.step (pastAlloc (o := .cells zeroA 49) hb5))
              have HG5 := Lib.hid (heap_alloc_new w5 (.cells zeroA 49))
              obtain ⟨g5, hge⟩ : ∃ g5, g5 = w5.heap.size := ⟨_, rfl⟩
              obtain ⟨W5, hW5⟩ : ∃ W, W = w5.alloc (.cells zeroA 49) := ⟨_, rfl⟩
              rw [← hge, ← hW5] at HG5
              rw [← hW5] at HS5
              rw [← hge, ← hW5]
              clear hge hW5 hb5 HRD HS2
              have hcl := blkCell HS5.out.log
              by_cases hi1 : 1 ≤ other
              · have hi2 : ¬ other ≤ g.end_ := fun h => hin ⟨hi1, h⟩
                clear hin
                go_wp2_with (first
                  | (with_reducible refine listLoad (by kernel_rfl) 49 (.tmp 20) rfl g5 rfl zeroA _ HG5.out _ Try.underlying49 (by kernel_rfl) (by kernel_rfl) ?_)
                  | (go_at_call 16; (with_reducible refine (HSZ.out _).mono ?_); rintro e w6 ⟨rfl, hb6⟩)
                  | (go_at_call 7; (with_reducible refine (HAW.out _).mono ?_); rintro e w7 ⟨rfl, hb7⟩))
                go_ret
                exact ⟨rfl, joinB (joinB HS5.out.low hb6) hb7⟩
              · clear hin
                go_wp2_with (first
                  | (with_reducible refine listLoad (by kernel_rfl) 49 (.tmp 20) rfl g5 rfl zeroA _ HG5.out _ Try.underlying49 (by kernel_rfl) (by kernel_rfl) ?_)
                  | (go_at_call 16; (with_reducible refine (HSZ.out _).mono ?_); rintro e w6 ⟨rfl, hb6⟩)
                  | (go_at_call 7; (with_reducible refine (HAW.out _).mono ?_); rintro e w7 ⟨rfl, hb7⟩))
                go_ret
                exact ⟨rfl, joinB (joinB HS5.out.low hb6) hb7⟩
end Go.Proofs.Ytojaagnfjenhoaa
