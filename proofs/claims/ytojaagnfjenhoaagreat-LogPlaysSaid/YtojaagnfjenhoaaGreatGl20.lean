/- The walk over the statement LogPlays. -/
import Derived.Test.YtojaagnfjenhoaaGreatGl11
import Derived.Test.YtojaagnfjenhoaaGreatGl17
import Derived.Test.YtojaagnfjenhoaaGreatGl19
import Derived.Test.YtojaagnfjenhoaaGreatGl09
import Derived.BigRegion
namespace Go.Proofs.YtojaagnfjenhoaaGreat
open Go.RowKit
set_option maxRecDepth 100000 in
set_option maxHeartbeats 8000000 in
theorem logplays_any (l : List PAct) (A0 : Option Addr) (c0 : Nat) (hl47 : l.length ≤ 140737488355328) (w : World) (hr : Reads w A0 c0 l.length (l.flatMap actC)) (hp : ∀ a ∈ l, PRecR w a.p ∧ a.n ≤ 9223372036854775807) :
    Calls Tryz.prog 3 #[.slice A0 l.length c0] w fun e w' => e = .returned (.bool true) ∧ Below w.heap.size w w' := by
  have HAW := Lib.hid (fun W => awake_any W)
  have HR := Lib.hid hr
  have HP := Lib.hid hp
  clear hr hp
  by_cases h60 : 60 < l.length
  · have h60' : (60 : Int) < (l.length : Int) := by omega
    clear HR HP
    go_enter Tryz.func3, Tryz.ntmps3
    go_wp2_with (go_at_call 4; (with_reducible refine (HAW.out _).mono ?_); rintro e w1 ⟨rfl, hb1⟩)
    go_ret
    exact ⟨rfl, hb1⟩
  · have h60' : ¬ (60 : Int) < (l.length : Int) := by omega
    have HDN := Lib.hid (fun W => show Calls Tryz.prog 5 #[.int .i64 26] W (NewOut (Lg.newD 26) W) from dnew_any 26 (by omega) (by omega) W)
    have HLN := Lib.hid (fun W => lnew_any 1 24 W)
    have HRN := Lib.hid (fun W => rlnew_any 1 24 W)
    have hok0 := Pl.ok_new
    generalize Lg.newD 26 = d0 at HDN hok0
    obtain ⟨g0, hg0⟩ : ∃ g0 : Lg.Lo, g0 = ⟨1, 24, 0, 0, ⟨#[]⟩⟩ := ⟨_, rfl⟩
    rw [← hg0] at HLN HRN hok0
    clear hg0
    have HOK0 := Lib.hid hok0
    clear hok0
    go_enter Tryz.func3, Tryz.ntmps3
    go_upto_region 4 with (first
      | (go_at_call 4; (with_reducible refine (HAW.out _).mono ?_); rintro e w0 ⟨rfl, hb0⟩)
      | (go_at_call 5; (with_reducible refine (HDN.out _).mono ?_); rintro e w1 ⟨A1, c1, rfl, hd1, ht1, hb1⟩)
      | (with_reducible refine wpList_store_new rfl 26 (.tmp 3) (.tmp 28) rfl (diskA d0 A1 c1) _ _ rfl (by kernel_rfl) (by kernel_rfl) (by kernel_rfl) (by kernel_rfl) ?_))
    have B0 := Lib.hid (pastAlloc (o := .cells (diskA d0 A1 c1) 26) (joinB hb0 hb1))
    have K0 := Lib.hid (hd1.below (allocB w1 (.cells (diskA d0 A1 c1) 26)))
    have T0 := Lib.hid ((ht1.mono (Nat.zero_le _)).below (allocB w1 (.cells (diskA d0 A1 c1) 26)))
    have X0 := Lib.hid (heap_alloc_new w1 (.cells (diskA d0 A1 c1) 26))
    have hbd := (joinB hb0 hb1).size
    obtain ⟨bd, hbde⟩ : ∃ bd, bd = w1.heap.size := ⟨_, rfl⟩
    obtain ⟨W1, hW1⟩ : ∃ W, W = w1.alloc (.cells (diskA d0 A1 c1) 26) := ⟨_, rfl⟩
    rw [← hbde, ← hW1] at X0
    rw [← hW1] at B0 K0 T0
    rw [← hbde] at hbd
    rw [← hW1, ← hbde]
    clear hbde hW1 hb0 hb1 hd1 ht1 HDN
    go_upto_region 5 with (first
      | (with_reducible refine listLoad (by kernel_rfl) 26 (.tmp 3) rfl bd rfl (diskA d0 A1 c1) _ X0.out _ Tryz.underlying26 (by kernel_rfl) (by kernel_rfl) ?_)
      | (with_reducible refine wpList_store_new rfl 26 (.tmp 5) (.tmp 30) rfl (diskA d0 A1 c1) _ _ rfl (by kernel_rfl) (by kernel_rfl) (by kernel_rfl) (by kernel_rfl) ?_))
    have B1 := Lib.hid (pastAlloc (o := .cells (diskA d0 A1 c1) 26) B0.out)
    have K1 := Lib.hid (K0.out.below (allocB W1 (.cells (diskA d0 A1 c1) 26)))
    have T1 := Lib.hid (T0.out.below (allocB W1 (.cells (diskA d0 A1 c1) 26)))
    have X1 := Lib.hid (blkOld X0.out (allocB W1 (.cells (diskA d0 A1 c1) 26)))
    have Y1 := Lib.hid (heap_alloc_new W1 (.cells (diskA d0 A1 c1) 26))
    have hbx := heapLt X0.out
    obtain ⟨bx, hbxe⟩ : ∃ bx, bx = W1.heap.size := ⟨_, rfl⟩
    obtain ⟨W2, hW2⟩ : ∃ W, W = W1.alloc (.cells (diskA d0 A1 c1) 26) := ⟨_, rfl⟩
    rw [← hbxe, ← hW2] at Y1
    rw [← hW2] at B1 K1 T1 X1
    rw [← hbxe] at hbx
    rw [← hW2, ← hbxe]
    clear hbxe hW2 B0 K0 T0 X0
    go_upto_region 6 with (first
      | (go_at_call 6; (with_reducible refine (HLN.out _).mono ?_); rintro e w2 ⟨rfl, hb2⟩)
      | (go_at_call 7; (with_reducible refine (HRN.out _).mono ?_); rintro e w3 ⟨rfl, hb3⟩; have H5 := Lib.hid (((BxL.nil (Below.refl w3.heap.size w3)).new (by simp) #[.int .i64 0, .int .i64 0, .int .i64 0, .int .i64 0, .string ⟨#[]⟩] 31).new (by simp) #[.int .i64 0, .int .i64 0, .int .i64 0, .int .i64 0, .string ⟨#[]⟩] 31); have H6 := Lib.hid (H5.out.row 0 (logA g0) _ rfl))
      | (with_reducible refine listStore (by kernel_rfl) 31 (.tmp 6) (.tmp 31) rfl w3.heap.size (logA g0) _ _ rfl rfl H5.out.get0 (by kernel_rfl) (by kernel_rfl) (by kernel_rfl) ?_)
      | (with_reducible refine listStore (by kernel_rfl) 31 (.tmp 7) (.tmp 32) rfl (w3.heap.size + 1) (logA g0) _ _ rfl rfl H6.out.get1 (by kernel_rfl) (by kernel_rfl) (by kernel_rfl) ?_))
    have HS0 := Lib.hid (PlS.new (g := g0) (z := #[.int .i64 0, .int .i64 0, .int .i64 0, .int .i64 0, .string ⟨#[]⟩]) X1.out Y1.out hbd hbx B1.out K1.out T1.out (joinB hb2 hb3))
    obtain ⟨bg, hbge⟩ : ∃ bg, bg = w3.heap.size := ⟨_, rfl⟩
    obtain ⟨bh, hbhe⟩ : ∃ bh, bh = bg + 1 := ⟨_, rfl⟩
    obtain ⟨W3, hW3⟩ : ∃ W, W = (((w3.alloc (.cells #[.int .i64 0, .int .i64 0, .int .i64 0, .int .i64 0, .string ⟨#[]⟩] 31)).alloc (.cells #[.int .i64 0, .int .i64 0, .int .i64 0, .int .i64 0, .string ⟨#[]⟩] 31)).setRow w3.heap.size (logA g0)).setRow (w3.heap.size + 1) (logA g0) := ⟨_, rfl⟩
    rw [← hW3, ← hbge, ← hbhe] at HS0
    rw [← hW3, ← hbge, ← hbhe]
    clear hW3 hbge hbhe H5 H6 B1 K1 T1 X1 Y1 hbd hbx hb2 hb3 HLN HRN
    go_wp2_with fail
    go_loopw [8] (fun i wr => ∃ (k : Nat) (d : Lg.Dk) (A : Option Addr) (c : Nat) (A' : Option Addr) (c' : Nat) (g : Lg.Lo), i = .int .i64 (k : Int) ∧ k ≤ l.length ∧ Pl.Ok d g ∧ PlS bd bx bg bh w wr d d A c A' c' g g) (fun i _ => l.length - (intOf i).toNat)
    case atStart => exact ⟨0, d0, A1, c1, A1, c1, g0, rfl, Nat.zero_le _, HOK0.out, HS0.out⟩
    case round =>
      obtain ⟨k, d, A, c, A', c', g, rfl, hk, hok, hst⟩ := hrel
      have HOK := Lib.hid hok
      have HS := Lib.hid hst
      clear hok hst HS0 HOK0
      by_cases hlt : k < l.length
      · obtain ⟨b, off, rfl, hc, hbl, hcell⟩ := read_at actC_len (HR.out.below HS.out.low) hlt
        have hpr := HP.out _ (List.getElem_mem hlt)
        generalize l[k] = p at hcell hpr
        obtain ⟨kd, an, ⟨⟨lsn, prev, txn, kind, page, next, nu, ⟨ok, os, oo, on⟩, how, root, ⟨ek, ep, es⟩, ts, ds⟩, A3, c3, B3, d3⟩⟩ := p
        obtain ⟨hpr, han⟩ := hpr
        simp only at hpr han
        have HCELL := Lib.hid (show wr.rangeAt b (off + k * 20) [.int .i64 kd, .int .i64 an, .int .i64 lsn, .int .i64 prev, .int .i64 txn, .int .i64 kind, .int .i64 page, .int .i64 next, .int .i64 nu, .int .i64 ok, .int .i64 os, .string oo, .string on, .int .i64 how, .int .i64 root, .string ek, .int .i64 ep, .int .i64 es, .slice A3 ts.length c3, .slice B3 ds.length d3] from hcell)
        have HPR := Lib.hid hpr
        clear hcell hpr
        have hk1 : (0 : Int) ≤ (k : Int) := by omega
        have hk2 : (k : Int) < (l.length : Int) := by omega
        have hwk : IntKind.i64.wrap ((k : Int) + 1) = (k : Int) + 1 := IntWalk.i64_in _ (by omega)
        go_upto_region 14 with (first
          | (with_reducible refine wpList_load_mid rfl 44 (.tmp 41) rfl b (off + k * 20) rfl [.int .i64 kd, .int .i64 an, .int .i64 lsn, .int .i64 prev, .int .i64 txn, .int .i64 kind, .int .i64 page, .int .i64 next, .int .i64 nu, .int .i64 ok, .int .i64 os, .string oo, .string on, .int .i64 how, .int .i64 root, .string ek, .int .i64 ep, .int .i64 es, .slice A3 ts.length c3, .slice B3 ds.length d3] _ HCELL.out Tryz.underlying44 (by kernel_rfl) (by kernel_rfl) ?_)
          | (with_reducible refine wpList_store_new rfl 44 (.tmp 9) (.tmp 42) rfl #[.int .i64 kd, .int .i64 an, .int .i64 lsn, .int .i64 prev, .int .i64 txn, .int .i64 kind, .int .i64 page, .int .i64 next, .int .i64 nu, .int .i64 ok, .int .i64 os, .string oo, .string on, .int .i64 how, .int .i64 root, .string ek, .int .i64 ep, .int .i64 es, .slice A3 ts.length c3, .slice B3 ds.length d3] _ _ rfl (by kernel_rfl) (by kernel_rfl) (by kernel_rfl) (by kernel_rfl) ?_))
        have X2 := ((BxL.nil (Below.refl wr.heap.size wr)).new (by simp) #[.int .i64 kd, .int .i64 an, .int .i64 lsn, .int .i64 prev, .int .i64 txn, .int .i64 kind, .int .i64 page, .int .i64 next, .int .i64 nu, .int .i64 ok, .int .i64 os, .string oo, .string on, .int .i64 how, .int .i64 root, .string ek, .int .i64 ep, .int .i64 es, .slice A3 ts.length c3, .slice B3 ds.length d3] 44).new (by simp) (rcA 0 0 0 0 0 0 0 0 0 ⟨#[]⟩ ⟨#[]⟩ 0 0 ⟨#[]⟩ 0 0 (.slice none 0 0) (.slice none 0 0)) 42 |>.new (by simp) (rcA 0 0 0 0 0 0 0 0 0 ⟨#[]⟩ ⟨#[]⟩ 0 0 ⟨#[]⟩ 0 0 (.slice none 0 0) (.slice none 0 0)) 42
        have HB2 := Lib.hid (PlB.mk X2.get0 X2.get1 X2.get2)
        have HS2 := Lib.hid (HS.out.step X2.below)
        have hba := HS.out.past
        have hga : bg < bh := HS.out.lt.2.2
        have hxa : bx < bg := HS.out.lt.2.1
        have hda : bd < bx := HS.out.lt.1
        obtain ⟨ba, hbae⟩ : ∃ ba, ba = wr.heap.size := ⟨_, rfl⟩
        obtain ⟨W4, hW4⟩ : ∃ W, W = ((wr.alloc (.cells #[.int .i64 kd, .int .i64 an, .int .i64 lsn, .int .i64 prev, .int .i64 txn, .int .i64 kind, .int .i64 page, .int .i64 next, .int .i64 nu, .int .i64 ok, .int .i64 os, .string oo, .string on, .int .i64 how, .int .i64 root, .string ek, .int .i64 ep, .int .i64 es, .slice A3 ts.length c3, .slice B3 ds.length d3] 44)).alloc (.cells (rcA 0 0 0 0 0 0 0 0 0 ⟨#[]⟩ ⟨#[]⟩ 0 0 ⟨#[]⟩ 0 0 (.slice none 0 0) (.slice none 0 0)) 42)).alloc (.cells (rcA 0 0 0 0 0 0 0 0 0 ⟨#[]⟩ ⟨#[]⟩ 0 0 ⟨#[]⟩ 0 0 (.slice none 0 0) (.slice none 0 0)) 42) := ⟨_, rfl⟩
        rw [← hW4, ← hbae] at HB2
        rw [← hW4] at HS2
        rw [← hbae] at hba
        rw [← hW4, ← hbae]
        clear hW4 hbae X2 HCELL HS hc hbl
        have hc0 := blkCell HB2.out.act
        go_upto_block 2 with fail
        go_cut [10, 11, 12, 13, 16, 17] (fun e f n m p q wc => PlCut bd bx bg bh ba w e f n m p q wc)
        case first =>
          clear HAW HR HP hlt hk
          have HSM := Lib.hid (fun b hb => Nat.le_of_eq (HOK.out.whole b hb))
          have hd26 : d.sectors.length ≤ 7000 := by rw [HOK.out.len]; decide
          have hq0 : 0 ≤ g.end_ := by have h1 := HOK.out.al.s0; have h2 := HOK.out.al.se; omega
          have hq1 : g.end_ ≤ 3072 := HOK.out.e1
          have hq2 : (g.tail.size : Int) ≤ g.end_ := HOK.out.t0
          have hq3 : g.end_ % 128 ≤ (g.tail.size : Int) := HOK.out.t1
          have hq4 : -1000000000 ≤ g.from_ ∧ g.from_ ≤ 1000000000 := by rw [HOK.out.f]; decide
          have hq5 : 0 ≤ g.n ∧ g.n ≤ 1000000000 := by rw [HOK.out.n]; decide
          have hq6 : -9223372036854775808 ≤ d.left ∧ d.left ≤ 9223372036854775807 := by have := HOK.out.left; omega
          obtain ⟨hq4a, hq4b⟩ := hq4
          obtain ⟨hq5a, hq5b⟩ := hq5
          by_cases h0 : kd = 0
          · subst h0
            have HA := Lib.hid (fun W (hb : Below w.heap.size w W) => append_any g hq0 (by omega) (by omega) hq5b (by omega) ⟨lsn, prev, txn, kind, page, next, nu, ⟨ok, os, oo, on⟩, how, root, ⟨ek, ep, es⟩, ts, ds⟩ A3 B3 c3 d3 W (HPR.out.below hb))
            have HRA := Lib.hid (fun W (hb : Below w.heap.size w W) => rappend_any g hq0 (by omega) hq5a hq5b (by omega) ⟨lsn, prev, txn, kind, page, next, nu, ⟨ok, os, oo, on⟩, how, root, ⟨ek, ep, es⟩, ts, ds⟩ A3 B3 c3 d3 W (HPR.out.below hb))
            have hok2 := Pl.ok_append HOK.out ⟨lsn, prev, txn, kind, page, next, nu, ⟨ok, os, oo, on⟩, how, root, ⟨ek, ep, es⟩, ts, ds⟩
            generalize Lg.appendD g ⟨lsn, prev, txn, kind, page, next, nu, ⟨ok, os, oo, on⟩, how, root, ⟨ek, ep, es⟩, ts, ds⟩ = y at HA HRA hok2
            obtain ⟨g2, n2, e2⟩ := y
            simp only at hok2
            have HOK2 := Lib.hid hok2
            clear hok2 HOK HSM hq0 hq1 hq2 hq3 hq6 hq4a hq4b hq5a hq5b
            dsimp only [AppOut] at HA HRA
            go_upto_region 20 with (first
              | (with_reducible refine listLoad (by kernel_rfl) 31 (.tmp 6) rfl bg rfl (logA g) _ HS2.out.log _ Tryz.underlying31 (by kernel_rfl) (by kernel_rfl) ?_)
              | (with_reducible refine listPart (by kernel_rfl) 42 (.tmp 65) rfl ba 2 rfl (rcA lsn prev txn kind page next nu ok os oo on how root ek ep es (.slice A3 ts.length c3) (.slice B3 ds.length d3)) #[.int .i64 0, .int .i64 an, .int .i64 lsn, .int .i64 prev, .int .i64 txn, .int .i64 kind, .int .i64 page, .int .i64 next, .int .i64 nu, .int .i64 ok, .int .i64 os, .string oo, .string on, .int .i64 how, .int .i64 root, .string ek, .int .i64 ep, .int .i64 es, .slice A3 ts.length c3, .slice B3 ds.length d3] _ HB2.out.act (by kernel_rfl) _ Tryz.underlying42 (by kernel_rfl) (by kernel_rfl) ?_)
              | (go_at_call 8; (with_reducible refine (HA.out _ HS2.out.low).mono ?_); rintro e w4 ⟨he, hb4⟩; (try dsimp only [logV] at he); subst he; have HS3 := Lib.hid (HS2.out.step hb4); have HB3 := Lib.hid (HB2.out.step hb4); clear hb4)
              | (with_reducible refine listStore (by kernel_rfl) 31 (.tmp 6) (.tmp 68) rfl bg (logA g2) _ _ rfl rfl HS3.out.log (by kernel_rfl) (by kernel_rfl) (by kernel_rfl) ?_))
            have HS4 := Lib.hid (HS3.out.setG g2)
            have HB4 := Lib.hid (HB3.out.off (i := bg) (by omega) (logA g2))
            obtain ⟨W5, hW5⟩ : ∃ W, W = w4.setRow bg (logA g2) := ⟨_, rfl⟩
            rw [← hW5] at HS4 HB4 ⊢
            clear hW5 HS3 HB3 HS2 HB2 hc0
            have hc0 := blkCell HB4.out.act
            go_wp2_with (first
              | (with_reducible refine listLoad (by kernel_rfl) 31 (.tmp 7) rfl bh rfl (logA g) _ HS4.out.xlog _ Tryz.underlying31 (by kernel_rfl) (by kernel_rfl) ?_)
              | (with_reducible refine listPart (by kernel_rfl) 42 (.tmp 73) rfl ba 2 rfl (rcA lsn prev txn kind page next nu ok os oo on how root ek ep es (.slice A3 ts.length c3) (.slice B3 ds.length d3)) #[.int .i64 0, .int .i64 an, .int .i64 lsn, .int .i64 prev, .int .i64 txn, .int .i64 kind, .int .i64 page, .int .i64 next, .int .i64 nu, .int .i64 ok, .int .i64 os, .string oo, .string on, .int .i64 how, .int .i64 root, .string ek, .int .i64 ep, .int .i64 es, .slice A3 ts.length c3, .slice B3 ds.length d3] _ HB4.out.act (by kernel_rfl) _ Tryz.underlying42 (by kernel_rfl) (by kernel_rfl) ?_)
              | (go_at_call 9; (with_reducible refine (HRA.out _ HS4.out.low).mono ?_); rintro e w5 ⟨he, hb5⟩; (try dsimp only [logV] at he); subst he; have HS5 := Lib.hid (HS4.out.step hb5); have HB5 := Lib.hid (HB4.out.step hb5); clear hb5)
              | (with_reducible refine listStore (by kernel_rfl) 31 (.tmp 7) (.tmp 76) rfl bh (logA g2) _ _ rfl rfl HS5.out.xlog (by kernel_rfl) (by kernel_rfl) (by kernel_rfl) ?_))
            go_meet
            case rel => exact PlCut.plain HOK2.out (HS5.out.setH g2) (HB5.out.off (i := bh) (by omega) (logA g2))
          have h0b : (kd == 0) = false := by simpa using h0
          by_cases h1 : kd = 1
          · subst h1
            have HA := Lib.hid (fun W (hW : DiskR W d A c) => force_any d hq6 A c g hq0 (by omega) (by omega) hq5b hq4a hq4b (by omega) hq2 hq3 W hW)
            have HRA := Lib.hid (fun W (hW : DiskR W d A' c') (hT : NewT 0 W 9 A') => rforce_any d hq6 A' c' g HOK.out.al (by omega) (by omega) hq5b hq4a hq4b (by omega) W hW hT)
            have hok2 := Pl.ok_force HOK.out
            generalize Lg.forceD d g = y at HA HRA hok2
            obtain ⟨d2, g2, e2⟩ := y
            simp only at hok2
            have HOK2 := Lib.hid hok2
            clear hok2 HOK HSM hq0 hq1 hq2 hq3 hq6 hq4a hq4b hq5a hq5b h0
            go_upto_region 23 with (first
              | (with_reducible refine listLoad (by kernel_rfl) 26 (.tmp 3) rfl bd rfl (diskA d A c) _ HS2.out.disk _ Tryz.underlying26 (by kernel_rfl) (by kernel_rfl) ?_)
              | (with_reducible refine listLoad (by kernel_rfl) 31 (.tmp 6) rfl bg rfl (logA g) _ HS2.out.log _ Tryz.underlying31 (by kernel_rfl) (by kernel_rfl) ?_)
              | (go_at_call 10; (with_reducible refine (HA.out _ HS2.out.dk).mono ?_); rintro e w4 ⟨A2, c2, he, hd4, ht4, hb4⟩; (try dsimp only [logV, diskV] at he); subst he; have HS3 := Lib.hid (HS2.out.step hb4); have HB3 := Lib.hid (HB2.out.step hb4); have HS4 := Lib.hid (HS3.out.setD hd4 (ht4.elim (fun e => by rw [e]; exact HS3.out.dt) (fun e => e.mono (Nat.zero_le _)))); have HB4 := Lib.hid (HB3.out.off (i := bd) (by omega) (diskA d2 A2 c2)); clear hb4 hd4 ht4)
              | (with_reducible refine listStore (by kernel_rfl) 26 (.tmp 3) (.tmp 85) rfl bd (diskA d2 A2 c2) _ _ rfl rfl HS3.out.disk (by kernel_rfl) (by kernel_rfl) (by kernel_rfl) ?_)
              | (with_reducible refine listStore (by kernel_rfl) 31 (.tmp 6) (.tmp 86) rfl bg (logA g2) _ _ rfl rfl HS4.out.log (by kernel_rfl) (by kernel_rfl) (by kernel_rfl) ?_))
            have HS5 := Lib.hid (HS4.out.setG g2)
            have HB5 := Lib.hid (HB4.out.off (i := bg) (by omega) (logA g2))
            obtain ⟨W5, hW5⟩ : ∃ W, W = (w4.setRow bd (diskA d2 A2 c2)).setRow bg (logA g2) := ⟨_, rfl⟩
            rw [← hW5] at HS5 HB5 ⊢
            clear hW5 HS3 HB3 HS4 HB4 HS2 HB2 hc0
            go_wp2_with (first
              | (with_reducible refine listLoad (by kernel_rfl) 26 (.tmp 5) rfl bx rfl (diskA d A' c') _ HS5.out.xdisk _ Tryz.underlying26 (by kernel_rfl) (by kernel_rfl) ?_)
              | (with_reducible refine listLoad (by kernel_rfl) 31 (.tmp 7) rfl bh rfl (logA g) _ HS5.out.xlog _ Tryz.underlying31 (by kernel_rfl) (by kernel_rfl) ?_)
              | (go_at_call 11; (with_reducible refine (HRA.out _ HS5.out.xk HS5.out.xt).mono ?_); rintro e w5 ⟨A4, c4, he, hd5, ht5, hb5⟩; (try dsimp only [logV, diskV] at he); subst he; have HS6 := Lib.hid (HS5.out.step hb5); have HB6 := Lib.hid (HB5.out.step hb5); have HS7 := Lib.hid (HS6.out.setX hd5 (ht5.elim (fun e => by rw [e]; exact HS6.out.xt) (fun e => e.mono (Nat.zero_le _)))); have HB7 := Lib.hid (HB6.out.off (i := bx) (by omega) (diskA d2 A4 c4)); clear hb5 hd5 ht5)
              | (with_reducible refine listStore (by kernel_rfl) 26 (.tmp 5) (.tmp 92) rfl bx (diskA d2 A4 c4) _ _ rfl rfl HS6.out.xdisk (by kernel_rfl) (by kernel_rfl) (by kernel_rfl) ?_)
              | (with_reducible refine listStore (by kernel_rfl) 31 (.tmp 7) (.tmp 93) rfl bh (logA g2) _ _ rfl rfl HS7.out.xlog (by kernel_rfl) (by kernel_rfl) (by kernel_rfl) ?_))
            go_meet
            case rel => exact PlCut.plain HOK2.out (HS7.out.setH g2) (HB7.out.off (i := bh) (by omega) (logA g2))
          have h1b : (kd == 1) = false := by simpa using h1
          by_cases h2 : kd = 2
          · subst h2
            have HA := Lib.hid (fun W (hW : DiskR W d A c) => logread_any d HSM.out hd26 A c g.from_ g.n g.end_ g.safe g.tail hq0 (by omega) hq4a hq4b (by omega) hq2 an W hW)
            have HRA := Lib.hid (fun W (hW : DiskR W d A' c') => rread_any d HSM.out hd26 A' c' g.from_ g.n g.end_ g.safe g.tail HOK.out.al (by omega) hq4a hq4b (by omega) an W hW)
            have HOK2 := HOK
            generalize Lg.readL d ⟨g.from_, g.n, g.end_, g.safe, g.tail⟩ an = y at HA HRA
            clear HOK HSM hq0 hq1 hq2 hq3 hq6 hq4a hq4b hq5a hq5b h0 h1
            cases y with
            | error e2 =>
              go_upto_region 26 with (first
                | (with_reducible refine listLoad (by kernel_rfl) 26 (.tmp 3) rfl bd rfl (diskA d A c) _ HS2.out.disk _ Tryz.underlying26 (by kernel_rfl) (by kernel_rfl) ?_)
                | (with_reducible refine listLoad (by kernel_rfl) 31 (.tmp 6) rfl bg rfl (logA g) _ HS2.out.log _ Tryz.underlying31 (by kernel_rfl) (by kernel_rfl) ?_)
                | (go_at_call 12; (with_reducible refine (HA.out _ HS2.out.dk).mono ?_); rintro e w4 ⟨hb4, rfl⟩; have HS3 := Lib.hid (HS2.out.step hb4); have HB3 := Lib.hid (HB2.out.step hb4); clear hb4)
                | (with_reducible refine listStore (by kernel_rfl) 42 (.tmp 14) (.tmp 103) rfl (ba + 1) zeroA _ _ rfl rfl HB3.out.r (by kernel_rfl) (by kernel_rfl) (by kernel_rfl) ?_))
              have HS4 := Lib.hid (HS3.out.other HB3.out.r (by decide) (by omega) zeroA)
              have HB4 := Lib.hid (HB3.out.setR zeroA)
              obtain ⟨W5, hW5⟩ : ∃ W, W = w4.setRow (ba + 1) zeroA := ⟨_, rfl⟩
              rw [← hW5] at HS4 HB4 ⊢
              clear hW5 HS3 HB3 HS2 HB2 hc0
              have hc0 := blkCell HB4.out.act
              go_wp2_with (first
                | (with_reducible refine listLoad (by kernel_rfl) 26 (.tmp 5) rfl bx rfl (diskA d A' c') _ HS4.out.xdisk _ Tryz.underlying26 (by kernel_rfl) (by kernel_rfl) ?_)
                | (with_reducible refine listLoad (by kernel_rfl) 31 (.tmp 7) rfl bh rfl (logA g) _ HS4.out.xlog _ Tryz.underlying31 (by kernel_rfl) (by kernel_rfl) ?_)
                | (go_at_call 13; (with_reducible refine (HRA.out _ HS4.out.xk).mono ?_); rintro e w5 ⟨hb5, rfl⟩; have HS5 := Lib.hid (HS4.out.step hb5); have HB5 := Lib.hid (HB4.out.step hb5); clear hb5)
                | (with_reducible refine listStore (by kernel_rfl) 42 (.tmp 15) (.tmp 111) rfl (ba + 2) zeroA _ _ rfl rfl HB5.out.s (by kernel_rfl) (by kernel_rfl) (by kernel_rfl) ?_))
              go_meet
              case rel => exact PlCut.plain HOK2.out (HS5.out.other HB5.out.s (by decide) (by omega) zeroA) (HB5.out.setS zeroA)
            | ok r =>
              go_upto_region 26 with (first
                | (with_reducible refine listLoad (by kernel_rfl) 26 (.tmp 3) rfl bd rfl (diskA d A c) _ HS2.out.disk _ Tryz.underlying26 (by kernel_rfl) (by kernel_rfl) ?_)
                | (with_reducible refine listLoad (by kernel_rfl) 31 (.tmp 6) rfl bg rfl (logA g) _ HS2.out.log _ Tryz.underlying31 (by kernel_rfl) (by kernel_rfl) ?_)
                | (go_at_call 12; (with_reducible refine (HA.out _ HS2.out.dk).mono ?_); rintro e w4 ⟨hb4, A5, c5, B5, d5, rfl, hr5⟩; have HS3 := Lib.hid (HS2.out.step hb4); have HB3 := Lib.hid (HB2.out.step hb4); have HR3 := Lib.hid hr5; clear hb4 hr5)
                | (with_reducible refine listStore (by kernel_rfl) 42 (.tmp 14) (.tmp 103) rfl (ba + 1) (recA r (.slice A5 r.txns.length c5) (.slice B5 r.dirty.length d5)) _ _ rfl rfl HB3.out.r (by kernel_rfl) (by kernel_rfl) (by kernel_rfl) ?_))
              have HS4 := Lib.hid (HS3.out.other HB3.out.r (by decide) (by omega) (recA r (.slice A5 r.txns.length c5) (.slice B5 r.dirty.length d5)))
              have HR4 := Lib.hid (HR3.out.other HB3.out.r (by decide) (by decide) (recA r (.slice A5 r.txns.length c5) (.slice B5 r.dirty.length d5)))
              have HB4 := Lib.hid (HB3.out.setR (recA r (.slice A5 r.txns.length c5) (.slice B5 r.dirty.length d5)))
              obtain ⟨W5, hW5⟩ : ∃ W, W = w4.setRow (ba + 1) (recA r (.slice A5 r.txns.length c5) (.slice B5 r.dirty.length d5)) := ⟨_, rfl⟩
              rw [← hW5] at HS4 HB4 HR4 ⊢
              clear hW5 HS3 HB3 HS2 HB2 HR3 hc0
              have hc0 := blkCell HB4.out.act
              go_wp2_with (first
                | (with_reducible refine listLoad (by kernel_rfl) 26 (.tmp 5) rfl bx rfl (diskA d A' c') _ HS4.out.xdisk _ Tryz.underlying26 (by kernel_rfl) (by kernel_rfl) ?_)
                | (with_reducible refine listLoad (by kernel_rfl) 31 (.tmp 7) rfl bh rfl (logA g) _ HS4.out.xlog _ Tryz.underlying31 (by kernel_rfl) (by kernel_rfl) ?_)
                | (go_at_call 13; (with_reducible refine (HRA.out _ HS4.out.xk).mono ?_); rintro e w5 ⟨hb5, A6, c6, B6, d6, rfl, hr6⟩; have HS5 := Lib.hid (HS4.out.step hb5); have HB5 := Lib.hid (HB4.out.step hb5); have HR5 := Lib.hid (HR4.out.below hb5); have HR6 := Lib.hid hr6; clear hb5 hr6)
                | (with_reducible refine listStore (by kernel_rfl) 42 (.tmp 15) (.tmp 111) rfl (ba + 2) (recA r (.slice A6 r.txns.length c6) (.slice B6 r.dirty.length d6)) _ _ rfl rfl HB5.out.s (by kernel_rfl) (by kernel_rfl) (by kernel_rfl) ?_))
              go_meet
              case rel => exact PlCut.read HOK2.out (HS5.out.other HB5.out.s (by decide) (by omega) (recA r (.slice A6 r.txns.length c6) (.slice B6 r.dirty.length d6))) (HB5.out.setS (recA r (.slice A6 r.txns.length c6) (.slice B6 r.dirty.length d6))) (HR5.out.other HB5.out.s (by decide) (by decide) (recA r (.slice A6 r.txns.length c6) (.slice B6 r.dirty.length d6))).rr (HR6.out.other HB5.out.s (by decide) (by decide) (recA r (.slice A6 r.txns.length c6) (.slice B6 r.dirty.length d6))).rr
          have h2b : (kd == 2) = false := by simpa using h2
          by_cases h3 : kd = 3
          · subst h3
            have HA := Lib.hid (fun W => arm_any d A c an W)
            have HRA := Lib.hid (fun W => arm_any d A' c' an W)
            have HOK2 := Lib.hid (Pl.ok_arm HOK.out an han)
            have hds : (Lg.armD d an).sectors = d.sectors := rfl
            clear HOK HSM hq0 hq1 hq2 hq3 hq6 hq4a hq4b hq5a hq5b h0 h1 h2
            go_upto_region 28 with fail
            have Z0 : Below W4.heap.size W4 W4.drew := (Below.refl _ W4).drew
            refine wp_region_Z (S := (fun u => Below W4.heap.size W4 u)) 8 (by kernel_rfl) ?_ (fun hHeld => ?_)
            · first | exact hSn | exact Z0
            refine wpAnyZ_take (i := 0) (oi := { dst := some 115, op := _, type := _, pos := _, after := _, guard := _ }) (v := .agg (diskA d A c)) (p := [8]) rfl (by kernel_rfl) (by kernel_rfl) (by kernel_rfl) (by kernel_rfl) (by kernel_rfl) (by kernel_rfl) (fun _ _ _ h => h) (yieldsIf_load_mid (by rfl) 26 (.tmp 3) rfl bd 0 (by rfl) (diskA d A c).toList _ (fun u hu => range_blk HS2.out.disk hu) Tryz.underlying26 (by kernel_rfl) (by kernel_rfl)) (by assumption) ?_
            try simp only [Act.put, pS]
            refine wpAnyZ_take (i := 1) (oi := { dst := some 116, op := _, type := _, pos := _, after := _, guard := _ }) (v := ?_) (p := [8]) rfl (by kernel_rfl) (by kernel_rfl) (by kernel_rfl) (by kernel_rfl) (by kernel_rfl) (by kernel_rfl) (fun _ _ _ h => h) (Or.inl ⟨by rfl, ?_⟩) (by assumption) ?_
            rotate_left
            · intro u hSu; have hcu := blkCell (blkOld HB2.out.act hSu); clear hSu; go_simp; (try with_reducible rfl)
            try simp only [Act.put, pS]
            refine wpAnyZ_take (i := 2) (oi := { dst := some 117, op := _, type := _, pos := _, after := _, guard := _ }) (v := ?_) (p := [8]) rfl (by kernel_rfl) (by kernel_rfl) (by kernel_rfl) (by kernel_rfl) (by kernel_rfl) (by kernel_rfl) (fun _ _ _ h => h) (Or.inl ⟨by rfl, ?_⟩) (by assumption) ?_
            rotate_left
            · intro u hSu; have hcu := blkCell (blkOld HB2.out.act hSu); clear hSu; go_simp; (try with_reducible rfl)
            try simp only [Act.put, pS]
            refine wpAnyZ_take (i := 4) (oi := { dst := some 119, op := _, type := _, pos := _, after := _, guard := _ }) (v := .agg (diskA d A' c')) (p := [7, 8]) rfl (by kernel_rfl) (by kernel_rfl) (by kernel_rfl) (by kernel_rfl) (by kernel_rfl) (by kernel_rfl) (fun _ _ _ h => h) (yieldsIf_load_mid (by rfl) 26 (.tmp 5) rfl bx 0 (by rfl) (diskA d A' c').toList _ (fun u hu => range_blk HS2.out.xdisk hu) Tryz.underlying26 (by kernel_rfl) (by kernel_rfl)) (by assumption) ?_
            try simp only [Act.put, pS]
            refine wpAnyZ_take (i := 5) (oi := { dst := some 120, op := _, type := _, pos := _, after := _, guard := _ }) (v := ?_) (p := [6, 7, 8]) rfl (by kernel_rfl) (by kernel_rfl) (by kernel_rfl) (by kernel_rfl) (by kernel_rfl) (by kernel_rfl) (fun _ _ _ h => h) (Or.inl ⟨by rfl, ?_⟩) (by assumption) ?_
            rotate_left
            · intro u hSu; have hcu := blkCell (blkOld HB2.out.act hSu); clear hSu; go_simp; (try with_reducible rfl)
            try simp only [Act.put, pS]
            refine wpAnyZ_take (i := 6) (oi := { dst := some 121, op := _, type := _, pos := _, after := _, guard := _ }) (v := ?_) (p := [7, 8]) rfl (by kernel_rfl) (by kernel_rfl) (by kernel_rfl) (by kernel_rfl) (by kernel_rfl) (by kernel_rfl) (fun _ _ _ h => h) (Or.inl ⟨by rfl, ?_⟩) (by assumption) ?_
            rotate_left
            · intro u hSu; have hcu := blkCell (blkOld HB2.out.act hSu); clear hSu; go_simp; (try with_reducible rfl)
            try simp only [Act.put, pS]
            refine wpAnyZ_ready (rs := [3]) (by kernel_rfl) (by simp) ?_
            refine AllReadyZ.cons (o := { dst := some 118, op := _, type := _, pos := _, after := _, guard := _ }) rfl (fun K hK => ?_) ?_
            rotate_left
            · exact AllReadyZ.nil
            go_simp
            refine (HA.out _).mono ?_; rintro e w4 ⟨rfl, hb4⟩; have Z1 := joinB Z0 hb4; clear hb4; (try clear hSn); have hSn := Z1
            refine hK.out _ _ ?_ (fun hHeld => ?_)
            · first | exact hSn | exact Z0
            clear hK K
            try simp only [Act.put, pS]
            refine wpAnyZ_ready (rs := [7]) (by kernel_rfl) (by simp) ?_
            refine AllReadyZ.cons (o := { dst := some 122, op := _, type := _, pos := _, after := _, guard := _ }) rfl (fun K hK => ?_) ?_
            rotate_left
            · exact AllReadyZ.nil
            go_simp
            refine (HRA.out _).mono ?_; rintro e w5 ⟨rfl, hb5⟩; have Z2 := joinB Z1 hb5; clear hb5; (try clear hSn); have hSn := Z2
            have HS3 := Lib.hid (HS2.out.step Z2); have HB3 := Lib.hid (HB2.out.step Z2)
            refine hK.out _ _ ?_ (fun hHeld => ?_)
            · first | exact hSn | exact Z0
            clear hK K
            try simp only [Act.put, pS]
            refine wpAnyZ_ready (rs := [8]) (by kernel_rfl) (by simp) ?_
            refine AllReadyZ.last (o := { dst := none, op := _, type := _, pos := _, after := _, guard := _ }) rfl (by kernel_rfl) (fun K hK => ?_) ?_
            rotate_left
            · exact AllReadyZ.nil
            refine wantedIf (by rfl) ?_
            refine wp_store_whole 26 (.tmp 3) (.tmp 118) rfl bd (diskA (Lg.armD d an) A c) _ _ rfl rfl HS3.out.disk (by kernel_rfl) (by kernel_rfl) (by kernel_rfl) ?_
            have HS4 := Lib.hid (HS3.out.setD (d' := (Lg.armD d an)) (B := A) (k := c) ⟨HS3.out.dk.secs, HS3.out.dk.small⟩ HS3.out.dt); have HB4 := Lib.hid (HB3.out.off (i := bd) (by omega) (diskA (Lg.armD d an) A c))
            refine hK.out _ _ ?_
            clear hK K
            try simp only [Act.put]
            refine wpAnyZ_ready (rs := [9]) (by kernel_rfl) (by simp) ?_
            refine AllReadyZ.last (o := { dst := none, op := _, type := _, pos := _, after := _, guard := _ }) rfl (by kernel_rfl) (fun K hK => ?_) ?_
            rotate_left
            · exact AllReadyZ.nil
            refine wantedIf (by rfl) ?_
            refine wp_store_whole 26 (.tmp 5) (.tmp 122) rfl bx (diskA (Lg.armD d an) A' c') _ _ rfl rfl HS4.out.xdisk (by kernel_rfl) (by kernel_rfl) (by kernel_rfl) ?_
            have HS5 := Lib.hid (HS4.out.setX (d' := (Lg.armD d an)) (B := A') (k := c') ⟨HS4.out.xk.secs, HS4.out.xk.small⟩ HS4.out.xt); have HB5 := Lib.hid (HB4.out.off (i := bx) (by omega) (diskA (Lg.armD d an) A' c'))
            refine hK.out _ _ ?_
            clear hK K
            try simp only [Act.put]
            refine wpAnyZ_done (by kernel_rfl) ?_ _
            clear hSn Z0 Z1 Z2
            (try clear hHeld)
            go_wp2_with fail
            go_meet
            case rel => exact PlCut.plain HOK2.out HS5.out HB5.out
          · have h3b : (kd == 3) = false := by simpa using h3
            have HA := Lib.hid (fun W => start_any d A c W)
            have HRA := Lib.hid (fun W => start_any d A' c' W)
            obtain ⟨o, rs, hop, hok2, hrs⟩ := Pl.ok_open2 HOK.out
            have HOK2 := Lib.hid hok2
            have HO := Lib.hid (fun W (hW : DiskR W (Lg.startD d) A c) => open_any (Lg.startD d) HSM.out hd26 A c 1 24 (by omega) (by omega) (by omega) W hW)
            have HRO := Lib.hid (fun W (hW : DiskR W (Lg.startD d) A' c') => ropen_any (Lg.startD d) HSM.out hd26 A' c' 1 24 (by omega) (by omega) (by omega) W hW)
            rw [hop] at HO HRO
            have HRS := Lib.hid hrs
            clear hop hok2 hrs HOK HSM hq0 hq1 hq2 hq3 hq6 hq4a hq4b hq5a hq5b h0 h1 h2 h3
            go_upto_region 15 with fail
            have Z0 : Below W4.heap.size W4 W4.drew := (Below.refl _ W4).drew
            refine wp_region_Z (S := (fun u => Below W4.heap.size W4 u)) 4 (by kernel_rfl) ?_ (fun hHeld => ?_)
            · first | exact hSn | exact Z0
            refine wpAnyZ_take (i := 0) (oi := { dst := some 45, op := _, type := _, pos := _, after := _, guard := _ }) (v := .agg (diskA d A c)) (p := [4]) rfl (by kernel_rfl) (by kernel_rfl) (by kernel_rfl) (by kernel_rfl) (by kernel_rfl) (by kernel_rfl) (fun _ _ _ h => h) (yieldsIf_load_mid (by rfl) 26 (.tmp 3) rfl bd 0 (by rfl) (diskA d A c).toList _ (fun u hu => range_blk HS2.out.disk hu) Tryz.underlying26 (by kernel_rfl) (by kernel_rfl)) (by assumption) ?_
            try simp only [Act.put, pS]
            refine wpAnyZ_take (i := 2) (oi := { dst := some 47, op := _, type := _, pos := _, after := _, guard := _ }) (v := .agg (diskA d A' c')) (p := [3, 4]) rfl (by kernel_rfl) (by kernel_rfl) (by kernel_rfl) (by kernel_rfl) (by kernel_rfl) (by kernel_rfl) (fun _ _ _ h => h) (yieldsIf_load_mid (by rfl) 26 (.tmp 5) rfl bx 0 (by rfl) (diskA d A' c').toList _ (fun u hu => range_blk HS2.out.xdisk hu) Tryz.underlying26 (by kernel_rfl) (by kernel_rfl)) (by assumption) ?_
            try simp only [Act.put, pS]
            refine wpAnyZ_ready (rs := [1]) (by kernel_rfl) (by simp) ?_
            refine AllReadyZ.cons (o := { dst := some 46, op := _, type := _, pos := _, after := _, guard := _ }) rfl (fun K hK => ?_) ?_
            rotate_left
            · exact AllReadyZ.nil
            go_simp
            refine (HA.out _).mono ?_; rintro e w4 ⟨rfl, hb4⟩; have Z1 := joinB Z0 hb4; clear hb4; (try clear hSn); have hSn := Z1
            refine hK.out _ _ ?_ (fun hHeld => ?_)
            · first | exact hSn | exact Z0
            clear hK K
            try simp only [Act.put, pS]
            refine wpAnyZ_ready (rs := [3]) (by kernel_rfl) (by simp) ?_
            refine AllReadyZ.cons (o := { dst := some 48, op := _, type := _, pos := _, after := _, guard := _ }) rfl (fun K hK => ?_) ?_
            rotate_left
            · exact AllReadyZ.nil
            go_simp
            refine (HRA.out _).mono ?_; rintro e w5 ⟨rfl, hb5⟩; have Z2 := joinB Z1 hb5; clear hb5; (try clear hSn); have hSn := Z2
            have HS3 := Lib.hid (HS2.out.step Z2); have HB3 := Lib.hid (HB2.out.step Z2)
            refine hK.out _ _ ?_ (fun hHeld => ?_)
            · first | exact hSn | exact Z0
            clear hK K
            try simp only [Act.put, pS]
            refine wpAnyZ_ready (rs := [4]) (by kernel_rfl) (by simp) ?_
            refine AllReadyZ.last (o := { dst := none, op := _, type := _, pos := _, after := _, guard := _ }) rfl (by kernel_rfl) (fun K hK => ?_) ?_
            rotate_left
            · exact AllReadyZ.nil
            refine wantedIf (by rfl) ?_
            refine wp_store_whole 26 (.tmp 3) (.tmp 46) rfl bd (diskA (Lg.startD d) A c) _ _ rfl rfl HS3.out.disk (by kernel_rfl) (by kernel_rfl) (by kernel_rfl) ?_
            have HS4 := Lib.hid (HS3.out.setD (d' := (Lg.startD d)) (B := A) (k := c) ⟨HS3.out.dk.secs, HS3.out.dk.small⟩ HS3.out.dt); have HB4 := Lib.hid (HB3.out.off (i := bd) (by omega) (diskA (Lg.startD d) A c))
            refine hK.out _ _ ?_
            clear hK K
            try simp only [Act.put]
            refine wpAnyZ_ready (rs := [5]) (by kernel_rfl) (by simp) ?_
            refine AllReadyZ.last (o := { dst := none, op := _, type := _, pos := _, after := _, guard := _ }) rfl (by kernel_rfl) (fun K hK => ?_) ?_
            rotate_left
            · exact AllReadyZ.nil
            refine wantedIf (by rfl) ?_
            refine wp_store_whole 26 (.tmp 5) (.tmp 48) rfl bx (diskA (Lg.startD d) A' c') _ _ rfl rfl HS4.out.xdisk (by kernel_rfl) (by kernel_rfl) (by kernel_rfl) ?_
            have HS5 := Lib.hid (HS4.out.setX (d' := (Lg.startD d)) (B := A') (k := c') ⟨HS4.out.xk.secs, HS4.out.xk.small⟩ HS4.out.xt); have HB5 := Lib.hid (HB4.out.off (i := bx) (by omega) (diskA (Lg.startD d) A' c'))
            refine hK.out _ _ ?_
            clear hK K
            try simp only [Act.put]
            refine wpAnyZ_done (by kernel_rfl) ?_ _
            clear hSn Z0 Z1 Z2 HS2 HB2 HS3 HB3 HS4 HB4 hc0
            (try clear hHeld)
            obtain ⟨W5, hW5⟩ : ∃ W, W = (w5.setRow bd (diskA (Lg.startD d) A c)).setRow bx (diskA (Lg.startD d) A' c') := ⟨_, rfl⟩
            rw [← hW5] at HS5 HB5 ⊢
            clear hW5
            generalize Lg.startD d = d2 at HS5 HB5 HOK2 HO HRO ⊢
            go_upto_region 17 with (first
              | (with_reducible refine listLoad (by kernel_rfl) 26 (.tmp 3) rfl bd rfl (diskA d2 A c) _ HS5.out.disk _ Tryz.underlying26 (by kernel_rfl) (by kernel_rfl) ?_)
              | (go_at_call 16; (with_reducible refine (HO.out _ HS5.out.dk).mono ?_); rintro e w6 ⟨ps, v, hps, he, how, hrn, hb6⟩; (try dsimp only [logV] at he); subst he; obtain ⟨Ap, cp, rfl⟩ := ownLen how; have HS6 := Lib.hid (HS5.out.step hb6); have HB6 := Lib.hid (HB5.out.step hb6); have hg5 := HS5.out.past; have HW7 := Lib.hid (ownRowOff how bg (logA o) (by omega)); have HR7 := Lib.hid (fun p hp => (hrn p hp).row bg (logA o) (by omega)); have HPS := Lib.hid hps; clear hb6 how hrn hps)
              | (with_reducible refine listStore (by kernel_rfl) 31 (.tmp 6) (.tmp 52) rfl bg (logA o) _ _ rfl rfl HS6.out.log (by kernel_rfl) (by kernel_rfl) (by kernel_rfl) ?_))
            have HS7 := Lib.hid (HS6.out.setG o)
            have HB7 := Lib.hid (HB6.out.off (i := bg) (by omega) (logA o))
            obtain ⟨W7, hW7⟩ : ∃ W, W = w6.setRow bg (logA o) := ⟨_, rfl⟩
            rw [← hW7] at HS7 HB7 HW7 HR7 ⊢
            clear hW7 HS5 HB5 HS6 HB6
            go_wp2_with (first
              | (with_reducible refine listLoad (by kernel_rfl) 26 (.tmp 5) rfl bx rfl (diskA d2 A' c') _ HS7.out.xdisk _ Tryz.underlying26 (by kernel_rfl) (by kernel_rfl) ?_)
              | (go_at_call 17; (with_reducible refine (HRO.out _ HS7.out.xk).mono ?_); rintro e w8 ⟨qs, v, hqs, he, how, hrn, hb8⟩; (try dsimp only [logV] at he); subst he; obtain ⟨Aq, cq, rfl⟩ := ownLen how; have HS8 := Lib.hid (HS7.out.step hb8); have HB8 := Lib.hid (HB7.out.step hb8); have hg7 := HS7.out.past; have HW9 := Lib.hid (ownRowOff how bh (logA o) (by omega)); have HR9 := Lib.hid (fun p hp => (hrn p hp).row bh (logA o) (by omega)); have HQS := Lib.hid hqs; have HW8 := Lib.hid (ownRowOff (ownBelow HW7.out hb8) bh (logA o) (by omega)); have HR8 := Lib.hid (fun p hp => ((HR7.out p hp).below hb8).row bh (logA o) (by omega)); clear hb8 how hrn hqs)
              | (with_reducible refine listStore (by kernel_rfl) 31 (.tmp 7) (.tmp 58) rfl bh (logA o) _ _ rfl rfl HS8.out.xlog (by kernel_rfl) (by kernel_rfl) (by kernel_rfl) ?_))
            go_meet
            case rel =>
              have e1 : ps.map (·.r) = rs := HPS.out
              have e2 : qs.map (·.r) = rs := HQS.out
              exact PlCut.opened HOK2.out (HS8.out.setH o) (HB8.out.off (i := bh) (by omega) (logA o)) (e1.trans e2.symm) (by have h1 := congrArg List.length e1; rw [List.length_map] at h1; have := HRS.out; omega) (own_reads HW8.out) (own_reads HW9.out) (fun p hp => (HR8.out p hp).rr) (fun p hp => (HR9.out p hp).rr)
        case rest =>
          obtain ⟨e0, n0, d2, A2, c2, A4, c4, g2, r, ac, A5, c5, B5, d5, A6, c6, B6, d6, ps, qs, Ap, cp, Aq, cq, ⟨rfl, rfl, rfl, rfl, rfl, rfl⟩, hok2, hs2, hb2, hr5, hr6, hpq, hpl, hql, hrp, hrq, hpp, hpq2⟩ := hcut
          obtain ⟨wb, rfl⟩ : ∃ wm : World, wm = wc := ⟨_, rfl⟩
          have HOK2 := Lib.hid hok2
          have HS3 := Lib.hid hs2
          have HB3 := Lib.hid hb2
          have he0 : (e0 != e0) = false := by simp
          have hn0 : (n0 != n0) = false := by simp
          by_cases h18 : e0 = 18
          · subst h18
            clear hok2 hs2 hb2 HS2 HB2 hc0
            go_wp2_with fail
            go_ret
            exact ⟨rfl, HS3.out.low⟩
          · have h18b : (e0 == 18) = false := by simpa using h18
            have HSA := Lib.hid (fun W (hb : Below wb.heap.size wb W) => rsame_any r r A5 A6 B5 B6 c5 c6 d5 d6 W (hr5.below hb) (hr6.below hb))
            have HRC := Lib.hid (fun W (hb : Below wb.heap.size wb W) => recs_any ps qs (by omega) (by omega) Ap Aq cp cq W (hrp.below hb) (hrq.below hb) (fun p hp => (hpp p hp).below hb) (fun p hp => (hpq2 p hp).below hb))
            rw [decide_eq_true (rfl : r = r)] at HSA
            rw [decide_eq_true hpq] at HRC
            have HDS := Lib.hid (fun W (hb : Below wb.heap.size wb W) => rdsame_any d2 A2 A4 c2 c4 W (hs2.dk.below hb) (hs2.xk.below hb))
            have hle := log_same g2
            clear hok2 hs2 hb2 HS2 HB2 hc0 h18 hr5 hr6 hpq hrp hrq hpp hpq2 hpl hql
            go_upto_region 8 with (first
              | (with_reducible refine listLoad (by kernel_rfl) 42 (.tmp 14) rfl (ba + 1) rfl (recA r (.slice A5 r.txns.length c5) (.slice B5 r.dirty.length d5)) _ HB3.out.r _ Tryz.underlying42 (by kernel_rfl) (by kernel_rfl) ?_)
              | (with_reducible refine listLoad (by kernel_rfl) 42 (.tmp 15) rfl (ba + 2) rfl (recA r (.slice A6 r.txns.length c6) (.slice B6 r.dirty.length d6)) _ HB3.out.s _ Tryz.underlying42 (by kernel_rfl) (by kernel_rfl) ?_)
              | (go_at_call 18; (with_reducible refine (HSA.out _ (Below.refl _ _)).mono ?_); rintro e w4 ⟨rfl, hb4⟩)
              | (go_at_call 19; (with_reducible refine (HRC.out _ hb4).mono ?_); rintro e w5 ⟨rfl, hb5⟩; have Z5 := joinB hb4 hb5; have HS5 := Lib.hid (HS3.out.step Z5))
              | (with_reducible refine listLoad (by kernel_rfl) 31 (.tmp 6) rfl bg rfl (logA g2) _ HS5.out.log _ Tryz.underlying31 (by kernel_rfl) (by kernel_rfl) ?_)
              | (with_reducible refine listLoad (by kernel_rfl) 31 (.tmp 7) rfl bh rfl (logA g2) _ HS5.out.xlog _ Tryz.underlying31 (by kernel_rfl) (by kernel_rfl) ?_)
              | (with_reducible refine listLoad (by kernel_rfl) 26 (.tmp 3) rfl bd rfl (diskA d2 A2 c2) _ HS5.out.disk _ Tryz.underlying26 (by kernel_rfl) (by kernel_rfl) ?_)
              | (with_reducible refine listLoad (by kernel_rfl) 26 (.tmp 5) rfl bx rfl (diskA d2 A4 c4) _ HS5.out.xdisk _ Tryz.underlying26 (by kernel_rfl) (by kernel_rfl) ?_)
              | (go_at_call 20; (with_reducible refine (HDS.out _ Z5).mono ?_); rintro e w6 ⟨rfl, hb6⟩; have HS6 := Lib.hid (HS5.out.step hb6)))
            clear hle HSA HRC HDS HS5 HB3 HS3
            go_wp2_with fail
            go_roundw
            case rel => exact ⟨k + 1, d2, A2, c2, A4, c4, g2, (by go_num), by omega, HOK2.out, HS6.out⟩
            case measure => simp [intOf]; omega
      · have hk2 : ¬ (k : Int) < (l.length : Int) := by omega
        clear HR HP HAW HOK
        go_wp2_with fail
        go_ret
        exact ⟨rfl, HS.out.low⟩
end Go.Proofs.YtojaagnfjenhoaaGreat
