/- The walk over the statement LogCuts. -/
import Derived.Test.YtojaagnfjenhoaaGs19
import Derived.Test.YtojaagnfjenhoaaGs15
import Derived.BigRegion
namespace Go.Proofs.Ytojaagnfjenhoaa
open Go.RowKit
theorem take_of {ps : List PRec} {r1 r2 : List Rc.Rec} (h : ps.map (·.r) = r1 ++ r2) : (ps.map (·.r)).take r1.length = r1 ∧ r1.length ≤ ps.length ∧ r1.length + r2.length = ps.length := by
  have h1 := congrArg List.length h
  rw [List.length_map, List.length_append] at h1
  exact ⟨by rw [h, List.take_left], by omega, h1.symm⟩
set_option maxRecDepth 100000 in
set_option maxHeartbeats 16000000 in
theorem logcuts_any (l : List PRec) (A0 : Option Addr) (c0 : Nat) (fs : List Bool) (F0 : Option Addr) (f0 : Nat) (lf : Int) (hlf : -9223372036854775808 ≤ lf ∧ lf ≤ 9223372036854775807) (more : PRec) (hl47 : l.length ≤ 140737488355328) (_hf47 : fs.length ≤ 140737488355328) (w : World)
    (hr : Reads w A0 c0 l.length (l.flatMap recC)) (hp : ∀ p ∈ l, PRecR w p) (hb : Reads w F0 f0 fs.length (fs.flatMap booC)) (hm : PRecR w more) :
    Calls Try.prog 5 #[.slice A0 l.length c0, .slice F0 fs.length f0, .int .i64 lf, recV more.r (.slice more.A more.r.txns.length more.c) (.slice more.B more.r.dirty.length more.d)] w fun e w' => e = .returned (.bool true) ∧ Below w.heap.size w w' := by
  have HAW := Lib.hid (fun W => awake_any W)
  obtain ⟨⟨mlsn, mprev, mtxn, mkind, mpage, mnext, mnu, ⟨mok, mos, moo, mon⟩, mhow, mroot, ⟨mek, mep, mes⟩, mts, mds⟩, MA, mc, MB, md⟩ := more
  dsimp only [recV, recA]
  obtain ⟨w0, hw0⟩ : ∃ W, W = w.alloc (.cells #[.int .i64 mlsn, .int .i64 mprev, .int .i64 mtxn, .int .i64 mkind, .int .i64 mpage, .int .i64 mnext, .int .i64 mnu, .int .i64 mok, .int .i64 mos, .string moo, .string mon, .int .i64 mhow, .int .i64 mroot, .string mek, .int .i64 mep, .int .i64 mes, .slice MA mts.length mc, .slice MB mds.length md] 49) := ⟨_, rfl⟩
  have HB0 := Lib.hid (show Below w.heap.size w w0 from by rw [hw0]; exact allocB _ _)
  have HR := Lib.hid (show Reads w0 A0 c0 l.length (l.flatMap recC) from hr.below HB0.out)
  have HP := Lib.hid (show ∀ p ∈ l, PRecR w0 p from fun p h => (hp p h).below HB0.out)
  have HF := Lib.hid (show Reads w0 F0 f0 fs.length (fs.flatMap booC) from hb.below HB0.out)
  have HM := Lib.hid (show RecR w0 ⟨mlsn, mprev, mtxn, mkind, mpage, mnext, mnu, ⟨mok, mos, moo, mon⟩, mhow, mroot, ⟨mek, mep, mes⟩, mts, mds⟩ MA mc MB md from hm.below HB0.out)
  have HMW := Lib.hid (show RecR w ⟨mlsn, mprev, mtxn, mkind, mpage, mnext, mnu, ⟨mok, mos, moo, mon⟩, mhow, mroot, ⟨mek, mep, mes⟩, mts, mds⟩ MA mc MB md from hm)
  have HG0 := Lib.hid (show w0.heap[w.heap.size]? = some (.cells #[.int .i64 mlsn, .int .i64 mprev, .int .i64 mtxn, .int .i64 mkind, .int .i64 mpage, .int .i64 mnext, .int .i64 mnu, .int .i64 mok, .int .i64 mos, .string moo, .string mon, .int .i64 mhow, .int .i64 mroot, .string mek, .int .i64 mep, .int .i64 mes, .slice MA mts.length mc, .slice MB mds.length md] 49 (0, 0)) from by rw [hw0]; exact heap_alloc_new _ _)
  have hgm0 : w0.heap.size = w.heap.size + 1 := by rw [hw0]; simp
  clear hr hp hb hm
  go_enter Try.func5, Try.ntmps5
  go_upto_region 1 with fail
  rw [← hw0]
  clear hw0
  obtain ⟨gm, hgm⟩ : ∃ gm, gm = w.heap.size := ⟨_, rfl⟩
  rw [← hgm] at HG0 hgm0
  have HGM := Lib.hid hgm
  rw [← hgm]
  clear hgm
  by_cases h30 : 30 < l.length
  · have h30' : (30 : Int) < (l.length : Int) := by omega
    go_wp2_with (go_at_call 7; (with_reducible refine (HAW.out _).mono ?_); rintro e w1 ⟨rfl, hb1⟩)
    go_ret
    exact ⟨rfl, HB0.out.trans (hb1.mono (by have := HB0.out.size; omega))⟩
  · have h30' : ¬ (30 : Int) < (l.length : Int) := by omega
    by_cases hneg : lf < 0
    · go_wp2_with (go_at_call 7; (with_reducible refine (HAW.out _).mono ?_); rintro e w1 ⟨rfl, hb1⟩)
      go_ret
      exact ⟨rfl, HB0.out.trans (hb1.mono (by have := HB0.out.size; omega))⟩
    · have HDN := Lib.hid (fun W => show Calls Try.prog 11 #[.int .i64 26] W (NewOut (Lg.newD 26) W) from dnew_any 26 (by omega) (by omega) W)
      have HLN := Lib.hid (fun W => lnew_any 1 24 W)
      have HARM := Lib.hid (fun A c W => arm_any (Lg.newD 26) A c lf W)
      have hpl0 := Lg.PL.new.armed (n := lf) (by omega) hlf.2
      have hls0 : Lg.Lies (Lg.logS 1 24 (Lg.armD (Lg.newD 26) lf)) [] := Lg.lies_new
      have hsec : (Lg.armD (Lg.newD 26) lf).sectors = (Lg.newD 26).sectors := rfl
      generalize Lg.armD (Lg.newD 26) lf = d1 at HARM hpl0 hls0 hsec
      generalize Lg.newD 26 = d0 at HDN HARM hsec
      obtain ⟨g0, hg0⟩ : ∃ g0 : Lg.Lo, g0 = ⟨1, 24, 0, 0, ⟨#[]⟩⟩ := ⟨_, rfl⟩
      rw [← hg0] at HLN hpl0
      clear hg0
      have HPL0 := Lib.hid hpl0
      have HLS0 := Lib.hid hls0
      have HSEC := Lib.hid hsec
      clear hpl0 hls0 hsec
      go_upto_region 4 with (first
        | (go_at_call 11; (with_reducible refine (HDN.out _).mono ?_); rintro e w1 ⟨A1, c1, rfl, hd1, ht1, hb1⟩)
        | (with_reducible refine wpList_store_new rfl 24 (.tmp 9) (.tmp 38) rfl (diskA d0 A1 c1) _ _ rfl (by kernel_rfl) (by kernel_rfl) (by kernel_rfl) (by kernel_rfl) ?_))
      have HK1 := Lib.hid (hd1.below (allocB w1 (.cells (diskA d0 A1 c1) 24)))
      have HT1 := Lib.hid ((ht1.mono (Nat.zero_le _)).below (allocB w1 (.cells (diskA d0 A1 c1) 24)))
      have HX1 := Lib.hid (heap_alloc_new w1 (.cells (diskA d0 A1 c1) 24))
      have HL1 := Lib.hid (pastAlloc (o := .cells (diskA d0 A1 c1) 24) hb1)
      have hbd := hb1.size
      obtain ⟨bd, hbde⟩ : ∃ bd, bd = w1.heap.size := ⟨_, rfl⟩
      obtain ⟨W1, hW1⟩ : ∃ W, W = w1.alloc (.cells (diskA d0 A1 c1) 24) := ⟨_, rfl⟩
      rw [← hbde, ← hW1] at HX1
      rw [← hW1] at HK1 HT1 HL1
      rw [← hbde] at hbd
      rw [← hW1, ← hbde]
      clear hbde hW1 hd1 ht1 hb1 HDN
      go_upto_region 5 with (first
        | (with_reducible refine listLoad (by kernel_rfl) 24 (.tmp 9) rfl bd rfl (diskA d0 A1 c1) _ HX1.out _ Try.underlying24 (by kernel_rfl) (by kernel_rfl) ?_)
        | (go_at_call 17; (with_reducible refine (HARM.out A1 c1 _).mono ?_); rintro e w2 ⟨he, hb2⟩; dsimp only [diskV] at he; subst he; have HX2 := Lib.hid (blkOld HX1.out hb2))
        | (with_reducible refine listStore (by kernel_rfl) 24 (.tmp 9) (.tmp 42) rfl bd (diskA d1 A1 c1) _ _ rfl rfl HX2.out (by kernel_rfl) (by kernel_rfl) (by kernel_rfl) ?_))
      have HX3 := Lib.hid (setRow_heap w2 bd _ (diskA d1 A1 c1) _ _ HX2.out)
      have HK3 := Lib.hid (show DiskR (w2.setRow bd (diskA d1 A1 c1)) d1 A1 c1 from ⟨by rw [HSEC.out]; exact (HT1.out.below hb2).readsRow (HK1.out.secs.below hb2) HX2.out (by decide) _, by rw [HSEC.out]; exact HK1.out.small⟩)
      have HT3 := Lib.hid ((HT1.out.below hb2).row bd (diskA d1 A1 c1))
      have HL3 := Lib.hid (below_setRow (joinB HL1.out hb2) hbd (diskA d1 A1 c1))
      obtain ⟨W3, hW3⟩ : ∃ W, W = w2.setRow bd (diskA d1 A1 c1) := ⟨_, rfl⟩
      rw [← hW3] at HX3 HK3 HT3 HL3
      rw [← hW3]
      clear hW3 hb2 HX2 HX1 HK1 HT1 HL1 HARM HSEC
      go_upto_region 6 with (first
        | (go_at_call 12; (with_reducible refine (HLN.out _).mono ?_); rintro e w4 ⟨rfl, hb4⟩)
        | (with_reducible refine wpList_store_new rfl 28 (.tmp 11) (.tmp 43) rfl (logA g0) _ _ rfl (by kernel_rfl) (by kernel_rfl) (by kernel_rfl) (by kernel_rfl) ?_))
      have HS1 := Lib.hid (StR.new (g := g0) HX3.out hbd HL3.out HK3.out HT3.out hb4)
      obtain ⟨bl, hble⟩ : ∃ bl, bl = w4.heap.size := ⟨_, rfl⟩
      obtain ⟨W4, hW4⟩ : ∃ W, W = w4.alloc (.cells (logA g0) 28) := ⟨_, rfl⟩
      rw [← hble, ← hW4] at HS1
      rw [← hble, ← hW4]
      clear hble hW4 hb4 HX3 HL3 HK3 HT3 HLN
      have hbd2 : gm < bd := by omega
      go_upto_block 0 with fail
      go_cut [12, 13, 14] (fun vi vs vu wc => ∃ (s0 u0 kk : Nat) (d : Lg.Dk) (A : Option Addr) (c : Nat) (g : Lg.Lo) (ps : List PRec), vs = .int .i64 (s0 : Int) ∧ vu = .int .i64 (u0 : Int) ∧ s0 ≤ 30 ∧ u0 ≤ 30 ∧ kk ≤ ps.length ∧ ps.length ≤ 30 ∧ (kk = s0 ∨ kk = u0) ∧ Lg.Opens d ((ps.map (·.r)).take kk) ∧ (∀ p ∈ ps, PRecR w0 p) ∧ StR bd bl w0 wc (.slice none 0 0) vi d A c g [] ps)
      case first =>
        go_wp2_with fail
        go_loopw [12, 13, 14, 15] (fun vi vs vu i wr => ∃ (k : Nat) (d : Lg.Dk) (A : Option Addr) (c : Nat) (g : Lg.Lo) (r1 r2 : List Rc.Rec) (ps : List PRec) (s0 : Nat), i = .int .i64 (k : Int) ∧ k ≤ l.length ∧ ps.length ≤ k ∧ ps.map (·.r) = r1 ++ r2 ∧ s0 = r1.length ∧ vs = .int .i64 (s0 : Int) ∧ vu = .int .i64 (s0 : Int) ∧ Lg.PL d g r1 r2 ∧ Lg.Lies (Lg.logS 1 24 d) r1 ∧ (∀ p ∈ ps, PRecR w0 p) ∧ StR bd bl w0 wr (.slice none 0 0) vi d A c g [] ps) (fun _ _ _ i _ => l.length - (intOf i).toNat)
        case atStart => exact ⟨0, d1, A1, c1, g0, [], [], [], 0, rfl, Nat.zero_le _, Nat.le_refl _, rfl, rfl, rfl, rfl, HPL0.out, HLS0.out, fun _ h => (by cases h), HS1.out⟩
        case round =>
          obtain ⟨k, d, A, c, g, r1, r2, ps, s0, rfl, hk, hpk, hps, hs0, rfl, rfl, hpl, hls, hpp, hst⟩ := hrel
          have HPL := Lib.hid hpl
          have HLS := Lib.hid hls
          have HPP := Lib.hid hpp
          have HPS := Lib.hid hps
          have HS0 := Lib.hid hs0
          have hs30 : s0 ≤ ps.length := by rw [hs0]; exact (take_of hps).2.1
          obtain ⟨Ai, ci, rfl⟩ := ownLen hst.ri
          have HS := Lib.hid hst
          obtain ⟨q1, q2, q3, q4, q5, q6⟩ := hpl.bounds
          have q7 : -1000000000 ≤ g.from_ ∧ g.from_ ≤ 1000000000 := by omega
          have q8 : -1000000000 ≤ g.n ∧ g.n ≤ 1000000000 := by omega
          obtain ⟨q7a, q7b⟩ := q7
          obtain ⟨q8a, q8b⟩ := q8
          clear q5 q6 hpl hls hpp hst hps hs0 HPL0 HLS0 HS1
          by_cases hlt : k < l.length
          · obtain ⟨b, off, rfl, hc, hbl, hcell⟩ := read_at recC_len (HR.out.below HS.out.low) hlt
            have hpr := HP.out _ (List.getElem_mem hlt)
            generalize l[k] = p at hcell hpr
            obtain ⟨⟨lsn, prev, txn, kind, page, next, nu, ⟨ok, os, oo, on⟩, how, root, ⟨ek, ep, es⟩, ts, ds⟩, A3, c3, B3, d3⟩ := p
            have HCELL := Lib.hid (show wr.rangeAt b (off + k * 18) [.int .i64 lsn, .int .i64 prev, .int .i64 txn, .int .i64 kind, .int .i64 page, .int .i64 next, .int .i64 nu, .int .i64 ok, .int .i64 os, .string oo, .string on, .int .i64 how, .int .i64 root, .string ek, .int .i64 ep, .int .i64 es, .slice A3 ts.length c3, .slice B3 ds.length d3] from hcell)
            have HPR := Lib.hid hpr
            have HAPP := Lib.hid (fun W (hb : Below w0.heap.size w0 W) => append_any g q1 (by omega) (by omega) (by omega) (by omega) ⟨lsn, prev, txn, kind, page, next, nu, ⟨ok, os, oo, on⟩, how, root, ⟨ek, ep, es⟩, ts, ds⟩ A3 B3 c3 d3 W (hpr.below hb))
            have happ := HPL.out.append ⟨lsn, prev, txn, kind, page, next, nu, ⟨ok, os, oo, on⟩, how, root, ⟨ek, ep, es⟩, ts, ds⟩
            clear hcell hpr
            have hk1 : (0 : Int) ≤ (k : Int) := by omega
            have hk2 : (k : Int) < (l.length : Int) := by omega
            have hwk : IntKind.i64.wrap ((k : Int) + 1) = (k : Int) + 1 := IntWalk.i64_in _ (by omega)
            go_upto_region 12 with (first
              | (with_reducible refine wpList_load_mid rfl 49 (.tmp 52) rfl b (off + k * 18) rfl [.int .i64 lsn, .int .i64 prev, .int .i64 txn, .int .i64 kind, .int .i64 page, .int .i64 next, .int .i64 nu, .int .i64 ok, .int .i64 os, .string oo, .string on, .int .i64 how, .int .i64 root, .string ek, .int .i64 ep, .int .i64 es, .slice A3 ts.length c3, .slice B3 ds.length d3] _ HCELL.out Try.underlying49 (by kernel_rfl) (by kernel_rfl) ?_)
              | (with_reducible refine wpList_store_new rfl 49 (.tmp 16) (.tmp 53) rfl #[.int .i64 lsn, .int .i64 prev, .int .i64 txn, .int .i64 kind, .int .i64 page, .int .i64 next, .int .i64 nu, .int .i64 ok, .int .i64 os, .string oo, .string on, .int .i64 how, .int .i64 root, .string ek, .int .i64 ep, .int .i64 es, .slice A3 ts.length c3, .slice B3 ds.length d3] _ _ rfl (by kernel_rfl) (by kernel_rfl) (by kernel_rfl) (by kernel_rfl) ?_))
            have HRB := Lib.hid (heap_alloc_new wr (.cells #[.int .i64 lsn, .int .i64 prev, .int .i64 txn, .int .i64 kind, .int .i64 page, .int .i64 next, .int .i64 nu, .int .i64 ok, .int .i64 os, .string oo, .string on, .int .i64 how, .int .i64 root, .string ek, .int .i64 ep, .int .i64 es, .slice A3 ts.length c3, .slice B3 ds.length d3] 49))
            have HS2 := Lib.hid (HS.out.step (allocB wr (.cells #[.int .i64 lsn, .int .i64 prev, .int .i64 txn, .int .i64 kind, .int .i64 page, .int .i64 next, .int .i64 nu, .int .i64 ok, .int .i64 os, .string oo, .string on, .int .i64 how, .int .i64 root, .string ek, .int .i64 ep, .int .i64 es, .slice A3 ts.length c3, .slice B3 ds.length d3] 49)))
            have HFI := Lib.hid (own_old (n := wr.heap.size) HS.out.ri (Nat.le_refl _))
            have hgr := HS.out.past
            obtain ⟨gr, hge⟩ : ∃ gr, gr = wr.heap.size := ⟨_, rfl⟩
            obtain ⟨W3, hW3⟩ : ∃ W, W = wr.alloc (.cells #[.int .i64 lsn, .int .i64 prev, .int .i64 txn, .int .i64 kind, .int .i64 page, .int .i64 next, .int .i64 nu, .int .i64 ok, .int .i64 os, .string oo, .string on, .int .i64 how, .int .i64 root, .string ek, .int .i64 ep, .int .i64 es, .slice A3 ts.length c3, .slice B3 ds.length d3] 49) := ⟨_, rfl⟩
            rw [← hge, ← hW3] at HRB
            rw [← hW3] at HS2
            rw [← hge] at HFI hgr
            rw [← hge, ← hW3]
            clear hge hW3 HCELL HS hbl hc
            rcases happ with ha | ha | ⟨g2, ha, hpl2⟩
            · rw [ha] at HAPP
              clear ha
              go_upto_region 13 with (first
                | (with_reducible refine listLoad (by kernel_rfl) 28 (.tmp 11) rfl bl rfl (logA g) _ HS2.out.log _ Try.underlying28 (by kernel_rfl) (by kernel_rfl) ?_)
                | (with_reducible refine listLoad (by kernel_rfl) 49 (.tmp 16) rfl gr rfl #[.int .i64 lsn, .int .i64 prev, .int .i64 txn, .int .i64 kind, .int .i64 page, .int .i64 next, .int .i64 nu, .int .i64 ok, .int .i64 os, .string oo, .string on, .int .i64 how, .int .i64 root, .string ek, .int .i64 ep, .int .i64 es, .slice A3 ts.length c3, .slice B3 ds.length d3] _ HRB.out _ Try.underlying49 (by kernel_rfl) (by kernel_rfl) ?_)
                | (go_at_call 13; (with_reducible refine (HAPP.out _ HS2.out.low).mono ?_); rintro e w4 ⟨he, hb4⟩; dsimp only [logV] at he; subst he)
                | (with_reducible refine wpList_store_new rfl 28 (.tmp 17) (.tmp 58) rfl (logA g) _ _ rfl (by kernel_rfl) (by kernel_rfl) (by kernel_rfl) (by kernel_rfl) ?_))
              have HS4 := Lib.hid (HS2.out.step (pastAlloc (o := .cells (logA g) 28) hb4))
              go_wp2_with fail
              go_roundw
              case rel => exact ⟨k + 1, d, A, c, g, r1, r2, ps, s0, (by go_num), by omega, by omega, HPS.out, HS0.out, rfl, rfl, HPL.out, HLS.out, HPP.out, HS4.out⟩
              case measure => simp [intOf]; omega
            · rw [ha] at HAPP
              clear ha
              go_wp2_with (first
                | (with_reducible refine listLoad (by kernel_rfl) 28 (.tmp 11) rfl bl rfl (logA g) _ HS2.out.log _ Try.underlying28 (by kernel_rfl) (by kernel_rfl) ?_)
                | (with_reducible refine listLoad (by kernel_rfl) 49 (.tmp 16) rfl gr rfl #[.int .i64 lsn, .int .i64 prev, .int .i64 txn, .int .i64 kind, .int .i64 page, .int .i64 next, .int .i64 nu, .int .i64 ok, .int .i64 os, .string oo, .string on, .int .i64 how, .int .i64 root, .string ek, .int .i64 ep, .int .i64 es, .slice A3 ts.length c3, .slice B3 ds.length d3] _ HRB.out _ Try.underlying49 (by kernel_rfl) (by kernel_rfl) ?_)
                | (go_at_call 13; (with_reducible refine (HAPP.out _ HS2.out.low).mono ?_); rintro e w4 ⟨he, hb4⟩; dsimp only [logV] at he; subst he)
                | (with_reducible refine wpList_store_new rfl 28 (.tmp 17) (.tmp 58) rfl (logA g) _ _ rfl (by kernel_rfl) (by kernel_rfl) (by kernel_rfl) (by kernel_rfl) ?_)
                | (go_at_call 7; (with_reducible refine (HAW.out _).mono ?_); rintro e w5 ⟨rfl, hb5⟩))
              go_ret
              exact ⟨rfl, joinB HB0.out (joinB (joinB HS2.out.low (pastAlloc hb4)) hb5)⟩
            · rw [ha] at HAPP
              clear ha
              have HPL2 := Lib.hid hpl2
              clear hpl2
              go_upto_region 13 with (first
                | (with_reducible refine listLoad (by kernel_rfl) 28 (.tmp 11) rfl bl rfl (logA g) _ HS2.out.log _ Try.underlying28 (by kernel_rfl) (by kernel_rfl) ?_)
                | (with_reducible refine listLoad (by kernel_rfl) 49 (.tmp 16) rfl gr rfl #[.int .i64 lsn, .int .i64 prev, .int .i64 txn, .int .i64 kind, .int .i64 page, .int .i64 next, .int .i64 nu, .int .i64 ok, .int .i64 os, .string oo, .string on, .int .i64 how, .int .i64 root, .string ek, .int .i64 ep, .int .i64 es, .slice A3 ts.length c3, .slice B3 ds.length d3] _ HRB.out _ Try.underlying49 (by kernel_rfl) (by kernel_rfl) ?_)
                | (go_at_call 13; (with_reducible refine (HAPP.out _ HS2.out.low).mono ?_); rintro e w4 ⟨he, hb4⟩; dsimp only [logV] at he; subst he)
                | (with_reducible refine wpList_store_new rfl 28 (.tmp 17) (.tmp 58) rfl (logA g2) _ _ rfl (by kernel_rfl) (by kernel_rfl) (by kernel_rfl) (by kernel_rfl) ?_))
              have HNB := Lib.hid (heap_alloc_new w4 (.cells (logA g2) 28))
              have HS4 := Lib.hid (HS2.out.step (pastAlloc (o := .cells (logA g2) 28) hb4))
              have HR4 := Lib.hid (blkOld HRB.out (pastAlloc (o := .cells (logA g2) 28) hb4))
              have hgn : gr < w4.heap.size := Nat.lt_of_lt_of_le (heapLt HRB.out) hb4.size
              obtain ⟨gn, hge⟩ : ∃ gn, gn = w4.heap.size := ⟨_, rfl⟩
              obtain ⟨W4, hW4⟩ : ∃ W, W = w4.alloc (.cells (logA g2) 28) := ⟨_, rfl⟩
              rw [← hge, ← hW4] at HNB
              rw [← hW4] at HS4 HR4
              rw [← hge] at hgn
              rw [← hge, ← hW4]
              clear hge hW4 hb4 HS2 HRB HAPP
              have hcr := blkCell HR4.out
              have hzr := blkFrozen HR4.out
              go_upto_region 17 with fail
              have hset : W4.setCell ⟨gr, 0, none⟩ (.int .i64 (g.end_ + 1)) = W4.setRow gr #[.int .i64 (g.end_ + 1), .int .i64 prev, .int .i64 txn, .int .i64 kind, .int .i64 page, .int .i64 next, .int .i64 nu, .int .i64 ok, .int .i64 os, .string oo, .string on, .int .i64 how, .int .i64 root, .string ek, .int .i64 ep, .int .i64 es, .slice A3 ts.length c3, .slice B3 ds.length d3] := setCell_eq_setRow W4 gr 0 _ _ _ _ HR4.out
              rw [hset]
              have HS5 := Lib.hid (HS4.out.other HR4.out (by decide) (by decide) HFI.out hgr #[.int .i64 (g.end_ + 1), .int .i64 prev, .int .i64 txn, .int .i64 kind, .int .i64 page, .int .i64 next, .int .i64 nu, .int .i64 ok, .int .i64 os, .string oo, .string on, .int .i64 how, .int .i64 root, .string ek, .int .i64 ep, .int .i64 es, .slice A3 ts.length c3, .slice B3 ds.length d3])
              have HR5 := Lib.hid (setRow_heap W4 gr _ #[.int .i64 (g.end_ + 1), .int .i64 prev, .int .i64 txn, .int .i64 kind, .int .i64 page, .int .i64 next, .int .i64 nu, .int .i64 ok, .int .i64 os, .string oo, .string on, .int .i64 how, .int .i64 root, .string ek, .int .i64 ep, .int .i64 es, .slice A3 ts.length c3, .slice B3 ds.length d3] _ _ HR4.out)
              have HN5 := Lib.hid ((heap_setRow_other W4 gr #[.int .i64 (g.end_ + 1), .int .i64 prev, .int .i64 txn, .int .i64 kind, .int .i64 page, .int .i64 next, .int .i64 nu, .int .i64 ok, .int .i64 os, .string oo, .string on, .int .i64 how, .int .i64 root, .string ek, .int .i64 ep, .int .i64 es, .slice A3 ts.length c3, .slice B3 ds.length d3] gn (by omega)).trans HNB.out)
              obtain ⟨W5, hW5⟩ : ∃ W, W = W4.setRow gr #[.int .i64 (g.end_ + 1), .int .i64 prev, .int .i64 txn, .int .i64 kind, .int .i64 page, .int .i64 next, .int .i64 nu, .int .i64 ok, .int .i64 os, .string oo, .string on, .int .i64 how, .int .i64 root, .string ek, .int .i64 ep, .int .i64 es, .slice A3 ts.length c3, .slice B3 ds.length d3] := ⟨_, rfl⟩
              rw [← hW5] at HS5 HR5 HN5
              rw [← hW5]
              clear hW5 hset HS4 HR4 HNB hcr hzr
              obtain ⟨n, hn⟩ : ∃ n, n = g.end_ + 1 := ⟨_, rfl⟩
              rw [← hn] at HR5 HPL2
              rw [← hn]
              clear hn
              have S0 := Lib.hid HS5.out.drew
              have R0 := Lib.hid (blkOld HR5.out (Below.refl _ W5).drew)
              have N0 := Lib.hid (blkOld HN5.out (Below.refl _ W5).drew)
              refine wp_region_held_drew (S := (fun u => u.heap[gr]? = some (.cells #[.int .i64 n, .int .i64 prev, .int .i64 txn, .int .i64 kind, .int .i64 page, .int .i64 next, .int .i64 nu, .int .i64 ok, .int .i64 os, .string oo, .string on, .int .i64 how, .int .i64 root, .string ek, .int .i64 ep, .int .i64 es, .slice A3 ts.length c3, .slice B3 ds.length d3] 49 (0, 0)) ∧ u.heap[gn]? = some (.cells (logA g2) 28 (0, 0)))) (by kernel_rfl) ?_ (fun hHeld => ?_)
              · first | exact hSn | exact ⟨R0.out, N0.out⟩
              refine wpAnyH_take (i := 0) (oi := { dst := some 68, op := _, type := _, pos := _, after := _, guard := _ }) (v := ?_) rfl (by kernel_rfl) (by kernel_rfl) (by kernel_rfl) (fun _ _ _ h => h) (Or.inl ⟨by rfl, ?_⟩) (by assumption) ?_
              rotate_left
              · intro u hSu; clear hSu; go_simp; (try with_reducible rfl)
              try simp only [Act.put, List.setIfInBounds_toArray, List.set_cons_zero, List.set_cons_succ]
              refine wpAnyH_take (i := 1) (oi := { dst := some 69, op := _, type := _, pos := _, after := _, guard := _ }) (v := .agg #[.int .i64 n, .int .i64 prev, .int .i64 txn, .int .i64 kind, .int .i64 page, .int .i64 next, .int .i64 nu, .int .i64 ok, .int .i64 os, .string oo, .string on, .int .i64 how, .int .i64 root, .string ek, .int .i64 ep, .int .i64 es, .slice A3 ts.length c3, .slice B3 ds.length d3]) rfl (by kernel_rfl) (by kernel_rfl) (by kernel_rfl) (fun _ _ _ h => h) (yieldsIf_load_mid (by rfl) 49 (.tmp 16) rfl gr 0 (by rfl) (recC ⟨⟨n, prev, txn, kind, page, next, nu, ⟨ok, os, oo, on⟩, how, root, ⟨ek, ep, es⟩, ts, ds⟩, A3, c3, B3, d3⟩) _ (fun u hu => range_blk hu.1 (Below.refl _ u)) Try.underlying49 (by kernel_rfl) (by kernel_rfl)) (by assumption) ?_
              try simp only [Act.put, List.setIfInBounds_toArray, List.set_cons_zero, List.set_cons_succ]
              refine wpAnyH_take (i := 4) (oi := { dst := some 72, op := _, type := _, pos := _, after := _, guard := _ }) (v := .agg (logA g2)) rfl (by kernel_rfl) (by kernel_rfl) (by kernel_rfl) (fun _ _ _ h => h) (yieldsIf_load_mid (by rfl) 28 (.tmp 17) rfl gn 0 (by rfl) (logA g2).toList _ (fun u hu => range_blk hu.2 (Below.refl _ u)) Try.underlying28 (by kernel_rfl) (by kernel_rfl)) (by assumption) ?_
              try simp only [Act.put, List.setIfInBounds_toArray, List.set_cons_zero, List.set_cons_succ]
              refine wpAnyH_ready (rs := [2]) (by kernel_rfl) (by simp) ?_
              refine AllReadyH.cons (o := { dst := some 70, op := _, type := _, pos := _, after := _, guard := _ }) rfl (fun K hK => ?_) ?_
              rotate_left
              · exact AllReadyH.nil
              go_simp
              have S1 := Lib.hid (S0.out.step (allocB W5.drew (.cells #[.int .i64 n, .int .i64 prev, .int .i64 txn, .int .i64 kind, .int .i64 page, .int .i64 next, .int .i64 nu, .int .i64 ok, .int .i64 os, .string oo, .string on, .int .i64 how, .int .i64 root, .string ek, .int .i64 ep, .int .i64 es, .slice A3 ts.length c3, .slice B3 ds.length d3] 49))); have R1 := Lib.hid (blkOld R0.out (allocB W5.drew (.cells #[.int .i64 n, .int .i64 prev, .int .i64 txn, .int .i64 kind, .int .i64 page, .int .i64 next, .int .i64 nu, .int .i64 ok, .int .i64 os, .string oo, .string on, .int .i64 how, .int .i64 root, .string ek, .int .i64 ep, .int .i64 es, .slice A3 ts.length c3, .slice B3 ds.length d3] 49))); have N1 := Lib.hid (blkOld N0.out (allocB W5.drew (.cells #[.int .i64 n, .int .i64 prev, .int .i64 txn, .int .i64 kind, .int .i64 page, .int .i64 next, .int .i64 nu, .int .i64 ok, .int .i64 os, .string oo, .string on, .int .i64 how, .int .i64 root, .string ek, .int .i64 ep, .int .i64 es, .slice A3 ts.length c3, .slice B3 ds.length d3] 49))); have TI := Lib.hid (heap_alloc_new W5.drew (.cells #[.int .i64 n, .int .i64 prev, .int .i64 txn, .int .i64 kind, .int .i64 page, .int .i64 next, .int .i64 nu, .int .i64 ok, .int .i64 os, .string oo, .string on, .int .i64 how, .int .i64 root, .string ek, .int .i64 ep, .int .i64 es, .slice A3 ts.length c3, .slice B3 ds.length d3] 49)); have hSn := And.intro R1.out N1.out
              refine hK.out _ _ ?_ (fun hHeld => ?_)
              · first | exact hSn | exact ⟨R0.out, N0.out⟩
              clear hK K
              try simp only [Act.put, List.setIfInBounds_toArray, List.set_cons_zero, List.set_cons_succ]
              refine wpAnyH_ready (rs := [3]) (by kernel_rfl) (by simp) ?_
              refine AllReadyH.cons (o := { dst := some 71, op := _, type := _, pos := _, after := _, guard := _ }) rfl (fun K hK => ?_) ?_
              rotate_left
              · exact AllReadyH.nil
              refine wantedIf (by rfl) ?_
              refine wp_push _ (.tmp 68) (.tmp 70) 29 49 Try.underlying29 info_rec2 rfl (by omega) (by omega) rfl (bl + 1) _ ps.length (ps.flatMap recC) rfl S1.out.ri _ (recC ⟨⟨n, prev, txn, kind, page, next, nu, ⟨ok, os, oo, on⟩, how, root, ⟨ek, ep, es⟩, ts, ds⟩, A3, c3, B3, d3⟩) 49 rfl TI.out rfl (recC_one _) (by omega) (Nat.succ_le_of_lt S1.out.past) ?_
              intro vi2 u2 ho hg hb
              have S2 := Lib.hid (S1.out.pushI (p := ⟨⟨n, prev, txn, kind, page, next, nu, ⟨ok, os, oo, on⟩, how, root, ⟨ek, ep, es⟩, ts, ds⟩, A3, c3, B3, d3⟩) (OwnL.push (enc := recC) ho) hg hb)
              have R2 := Lib.hid (box_grown R1.out S1.out.ri HFI.out hg)
              have N2 := Lib.hid (box_grown N1.out S1.out.ri (ownApart S1.out.ri N1.out (by decide)) hg)
              clear hSn ho hg hb
              have hSn := And.intro R2.out N2.out
              refine hK.out _ _ ?_ (fun hHeld => ?_)
              · first | exact hSn | exact ⟨R0.out, N0.out⟩
              clear hK K
              try simp only [Act.put, List.setIfInBounds_toArray, List.set_cons_zero, List.set_cons_succ]
              refine wpAnyH_take (i := 5) (oi := { dst := some 12, op := _, type := _, pos := _, after := _, guard := _ }) (v := ?_) rfl (by kernel_rfl) (by kernel_rfl) (by kernel_rfl) (fun _ _ _ h => h) (Or.inl ⟨by rfl, ?_⟩) (by assumption) ?_
              rotate_left
              · intro u hSu; clear hSu; go_simp; (try with_reducible rfl)
              try simp only [Act.put, List.setIfInBounds_toArray, List.set_cons_zero, List.set_cons_succ]
              refine wpAnyH_ready (rs := [6]) (by kernel_rfl) (by simp) ?_
              refine AllReadyH.cons (o := { dst := none, op := _, type := _, pos := _, after := _, guard := _ }) rfl (fun K hK => ?_) ?_
              rotate_left
              · exact AllReadyH.nil
              refine wantedIf (by rfl) ?_
              refine wp_store_whole 28 (.tmp 11) (.tmp 72) rfl bl (logA g2) _ _ rfl rfl S2.out.log (by kernel_rfl) (by kernel_rfl) (by kernel_rfl) ?_
              have S3 := Lib.hid (S2.out.setLog g2)
              have R3 := (heap_setRow_other u2 bl (logA g2) gr (by omega)).trans R2.out
              have N3 := (heap_setRow_other u2 bl (logA g2) gn (by omega)).trans N2.out
              clear hSn
              have hSn := And.intro R3 N3
              refine hK.out _ _ ?_ (fun hHeld => ?_)
              · first | exact hSn | exact ⟨R0.out, N0.out⟩
              clear hK K
              try simp only [Act.put]
              refine wpAnyH_done (by kernel_rfl) ?_ _
              obtain ⟨W7, hW7⟩ : ∃ W, W = u2.setRow bl (logA g2) := ⟨_, rfl⟩
              rw [← hW7] at S3
              rw [← hW7]
              clear hW7 hHeld hSn R3 N3 S0 S1 S2 R0 R1 R2 N0 N1 N2 TI HS5 HR5 HN5 HPL
              obtain ⟨p2, hp2⟩ : ∃ p2 : PRec, p2 = ⟨⟨n, prev, txn, kind, page, next, nu, ⟨ok, os, oo, on⟩, how, root, ⟨ek, ep, es⟩, ts, ds⟩, A3, c3, B3, d3⟩ := ⟨_, rfl⟩
              have HPR2 := Lib.hid (show PRecR w0 p2 from by rw [hp2]; exact ⟨HPR.out.txns, HPR.out.dirty, HPR.out.small⟩)
              have HPL3 := Lib.hid (show Lg.PL d g2 r1 (r2 ++ [p2.r]) from by rw [hp2]; exact HPL2.out)
              rw [← hp2] at S3
              clear hp2 HPR HPL2
              have HS7 := Lib.hid S3.out
              obtain ⟨A9, c9, hv9⟩ := ownLen HS7.out.ri
              rw [List.length_append] at hv9
              subst hv9
              have HPS2 := Lib.hid (show (ps ++ [p2]).map (·.r) = r1 ++ (r2 ++ [p2.r]) from by rw [List.map_append, HPS.out, List.append_assoc]; rfl)
              have HPP2 := Lib.hid (show ∀ p ∈ ps ++ [p2], PRecR w0 p from fun p hp => (List.mem_append.1 hp).elim (HPP.out p) (fun h => by rw [List.mem_singleton.1 h]; exact HPR2.out))
              have hpl2 : (ps ++ [p2]).length ≤ k + 1 := by rw [List.length_append, List.length_singleton]; omega
              have hpe2 : ps.length + 1 = (ps ++ [p2]).length := by rw [List.length_append, List.length_singleton]
              have hne3 : r2 ++ [p2.r] ≠ [] := by simp
              generalize ps ++ [p2] = ps2 at HS7 HPS2 HPP2 hpl2 hpe2
              generalize r2 ++ [p2.r] = r3 at HPS2 HPL3 hne3
              have HNE := Lib.hid hne3
              have HPE := Lib.hid hpe2
              clear HPS HPP HPR2 S3 hne3 hpe2
              by_cases hf1 : k < fs.length
              · have hf2 : decide (k < fs.length) = true := decide_eq_true hf1
                have hf3 : (k : Int) < (fs.length : Int) := by omega
                obtain ⟨b4, off4, rfl, hc4, hbl4, hcell4⟩ := read_at booC_len (HF.out.below HS7.out.low) hf1
                have q0 := hcell4 0 _ rfl
                simp only [Nat.mul_one, Nat.add_zero] at q0
                cases hfk : fs[k] with
                | true =>
                  rw [hfk] at q0
                  clear hcell4
                  obtain ⟨x1, x2, x3, x4, x5, x6⟩ := HPL3.out.bounds
                  have HFO := Lib.hid (fun W (hW : DiskR W d A c) => force_any d (by have := HPL3.out.left; omega) A c g2 x1 (by omega) (by omega) (by omega) (by omega) (by omega) (by omega) x3 x4 W hW)
                  obtain ⟨t1, t2, t3⟩ := take_of HPS2.out
                  have HTK := Lib.hid t1
                  rcases HPL3.out.force with ⟨d5, g5, hfo, hpl5, hleft5, hsafe5, hlies5⟩ | ⟨d5, hfo, _, hne, hwh5, hlen5, n5, q5, hln5, hnl5, hmix5⟩
                  · rw [hfo] at HFO
                    have HPL5 := Lib.hid hpl5
                    have HLS5 := Lib.hid (hlies5 (.inl HLS.out))
                    have HPS3 := Lib.hid (show ps2.map (·.r) = (r1 ++ r3) ++ [] from by rw [List.append_nil]; exact HPS2.out)
                    have HSX := Lib.hid (show ps.length + 1 = (r1 ++ r3).length from by rw [List.length_append, HPE.out]; omega)
                    clear hfo hpl5 hleft5 hsafe5 hlies5 x1 x2 x3 x4 x5 x6 t1
                    go_upto_region 21 with (first
                      | (with_reducible refine listLoad (by kernel_rfl) 24 (.tmp 9) rfl bd rfl (diskA d A c) _ HS7.out.disk _ Try.underlying24 (by kernel_rfl) (by kernel_rfl) ?_)
                      | (with_reducible refine listLoad (by kernel_rfl) 28 (.tmp 11) rfl bl rfl (logA g2) _ HS7.out.log _ Try.underlying28 (by kernel_rfl) (by kernel_rfl) ?_)
                      | (go_at_call 14; (with_reducible refine (HFO.out _ HS7.out.dk).mono ?_); rintro e w8 ⟨A7, c7, he, hd8, ht8, hb8⟩; dsimp only [logV, diskV] at he; subst he; have HS8 := Lib.hid (HS7.out.forced (g := g2) (g' := g5) hd8 ht8 hb8); have HX8 := Lib.hid (HS7.out.step hb8); have HY8 := Lib.hid ((HX8.out.setDisk hd8 (ht8.elim (fun e => by rw [e]; exact HX8.out.dt) (fun e => e.mono (Nat.zero_le _)))).log))
                      | (with_reducible refine listStore (by kernel_rfl) 24 (.tmp 9) (.tmp 89) rfl bd (diskA d5 A7 c7) _ _ rfl rfl HX8.out.disk (by kernel_rfl) (by kernel_rfl) (by kernel_rfl) ?_)
                      | (with_reducible refine listStore (by kernel_rfl) 28 (.tmp 11) (.tmp 90) rfl bl (logA g5) _ _ rfl rfl HY8.out (by kernel_rfl) (by kernel_rfl) (by kernel_rfl) ?_))
                    obtain ⟨W8, hW8⟩ : ∃ W, W = (w8.setRow bd (diskA d5 A7 c7)).setRow bl (logA g5) := ⟨_, rfl⟩
                    rw [← hW8] at HS8
                    rw [← hW8]
                    clear hW8 hd8 ht8 hb8 HX8 HY8 HS7 HFO q0
                    go_wp2_with fail
                    go_roundw
                    case rel => exact ⟨k + 1, d5, A7, c7, g5, r1 ++ r3, [], ps2, ps.length + 1, (by go_num), by omega, hpl2, HPS3.out, HSX.out, (by go_num), (by go_num), HPL5.out, HLS5.out, HPP2.out, HS8.out⟩
                    case measure => simp [intOf]; omega
                  · rw [hfo] at HFO
                    have HOP := Lib.hid (show Lg.Opens d5 r1 ∨ Lg.Opens d5 (r1 ++ r3) from Lg.opens_cut hwh5 hlen5 HLS.out hln5 HNE.out (Lg.logS_len HPL3.out.inv.whole HPL3.out.inv.room) hnl5 hmix5)
                    clear hfo hne hwh5 hlen5 hln5 hnl5 hmix5 x1 x2 x3 x4 x5 x6 t1
                    go_upto_region 21 with (first
                      | (with_reducible refine listLoad (by kernel_rfl) 24 (.tmp 9) rfl bd rfl (diskA d A c) _ HS7.out.disk _ Try.underlying24 (by kernel_rfl) (by kernel_rfl) ?_)
                      | (with_reducible refine listLoad (by kernel_rfl) 28 (.tmp 11) rfl bl rfl (logA g2) _ HS7.out.log _ Try.underlying28 (by kernel_rfl) (by kernel_rfl) ?_)
                      | (go_at_call 14; (with_reducible refine (HFO.out _ HS7.out.dk).mono ?_); rintro e w8 ⟨A7, c7, he, hd8, ht8, hb8⟩; dsimp only [logV, diskV] at he; subst he; have HS8 := Lib.hid (HS7.out.forced (g := g2) (g' := g2) hd8 ht8 hb8); have HX8 := Lib.hid (HS7.out.step hb8); have HY8 := Lib.hid ((HX8.out.setDisk hd8 (ht8.elim (fun e => by rw [e]; exact HX8.out.dt) (fun e => e.mono (Nat.zero_le _)))).log))
                      | (with_reducible refine listStore (by kernel_rfl) 24 (.tmp 9) (.tmp 89) rfl bd (diskA d5 A7 c7) _ _ rfl rfl HX8.out.disk (by kernel_rfl) (by kernel_rfl) (by kernel_rfl) ?_)
                      | (with_reducible refine listStore (by kernel_rfl) 28 (.tmp 11) (.tmp 90) rfl bl (logA g2) _ _ rfl rfl HY8.out (by kernel_rfl) (by kernel_rfl) (by kernel_rfl) ?_))
                    obtain ⟨W8, hW8⟩ : ∃ W, W = (w8.setRow bd (diskA d5 A7 c7)).setRow bl (logA g2) := ⟨_, rfl⟩
                    rw [← hW8] at HS8
                    rw [← hW8]
                    clear hW8 hd8 ht8 hb8 HX8 HY8 HS7 HFO q0
                    go_wp2_with fail
                    go_meet
                    case rel =>
                      rcases HOP.out with ho | ho
                      · refine ⟨s0, ps.length + 1, s0, d5, A7, c7, g2, ps2, rfl, (by go_num), by omega, by omega, by rw [HS0.out]; exact t2, by omega, .inl rfl, ?_, HPP2.out, HS8.out⟩
                        rw [HS0.out, HTK.out]; exact ho
                      · refine ⟨s0, ps.length + 1, ps.length + 1, d5, A7, c7, g2, ps2, rfl, (by go_num), by omega, by omega, by rw [HPE.out]; exact Nat.le_refl _, by omega, .inr rfl, ?_, HPP2.out, HS8.out⟩
                        rw [HPE.out, List.take_of_length_le (by simp), HPS2.out]; exact ho
                | false =>
                  rw [hfk] at q0
                  clear hcell4
                  go_wp2_with fail
                  go_roundw
                  case rel => exact ⟨k + 1, d, A, c, g2, r1, r3, ps2, s0, (by go_num), by omega, hpl2, HPS2.out, HS0.out, rfl, rfl, HPL3.out, HLS.out, HPP2.out, HS7.out⟩
                  case measure => simp [intOf]; omega
              · have hf2 : decide (k < fs.length) = false := decide_eq_false hf1
                have hf3 : ¬ (k : Int) < (fs.length : Int) := by omega
                go_wp2_with fail
                go_roundw
                case rel => exact ⟨k + 1, d, A, c, g2, r1, r3, ps2, s0, (by go_num), by omega, hpl2, HPS2.out, HS0.out, rfl, rfl, HPL3.out, HLS.out, HPP2.out, HS7.out⟩
                case measure => simp [intOf]; omega
          · have hk2 : ¬ (k : Int) < (l.length : Int) := by omega
            obtain ⟨t1, t2, t3⟩ := take_of HPS.out
            go_wp2_with fail
            go_meet
            case rel => exact ⟨s0, s0, s0, d, A, c, g, ps, rfl, rfl, by omega, by omega, by omega, by omega, .inl rfl, by rw [HS0.out, t1]; exact Lg.opens_lies HPL.out.inv.whole HPL.out.len HLS.out, HPP.out, HS.out⟩
      case rest =>
        obtain ⟨s0, u0, kk, d, A, c, g, ps, rfl, rfl, hs30, hu30, hkk, hp30, hor, hop, hpp, hst⟩ := hcut
        obtain ⟨wa, rfl⟩ : ∃ wm : World, wm = wc := ⟨_, rfl⟩
        have HPP := Lib.hid hpp
        obtain ⟨Ai, ci, rfl⟩ := ownLen hst.ri
        have HS := Lib.hid hst
        obtain ⟨o, hod, hpo, hso⟩ := hop.start
        have hw3 : Lg.Whole (Lg.startD d).sectors := hpo.inv.whole
        have HSTA := Lib.hid (fun W => start_any d A c W)
        have hsec : (Lg.startD d).sectors = d.sectors := rfl
        have hsl : (Lg.startD d).left = -1 := rfl
        generalize Lg.startD d = d1 at HSTA hod hpo hsec hsl
        have HOPN := Lib.hid (fun W (hW : DiskR W d1 A c) => open_any d1 hpo.small (by have := hpo.len; omega) A c 1 24 (by omega) (by omega) (by omega) W hW)
        rw [hod] at HOPN
        have HPO := Lib.hid hpo
        have HSO := Lib.hid hso
        have HSEC := Lib.hid hsec
        have HSL := Lib.hid hsl
        clear hpp hst hod hpo hso hsec hsl hop HR HP HF
        go_upto_region 24 with (first
          | (with_reducible refine listLoad (by kernel_rfl) 24 (.tmp 9) rfl bd rfl (diskA d A c) _ HS.out.disk _ Try.underlying24 (by kernel_rfl) (by kernel_rfl) ?_)
          | (go_at_call 18; (with_reducible refine (HSTA.out _).mono ?_); rintro e w2 ⟨he, hb2⟩; dsimp only [diskV] at he; subst he; have HX2 := Lib.hid (HS.out.step hb2))
          | (with_reducible refine listStore (by kernel_rfl) 24 (.tmp 9) (.tmp 97) rfl bd (diskA d1 A c) _ _ rfl rfl HX2.out.disk (by kernel_rfl) (by kernel_rfl) (by kernel_rfl) ?_))
        have HS3 := Lib.hid (HX2.out.setDisk (d' := d1) (A' := A) (c' := c) ⟨by rw [HSEC.out]; exact HX2.out.dk.secs, by rw [HSEC.out]; exact HX2.out.dk.small⟩ HX2.out.dt)
        obtain ⟨W3, hW3⟩ : ∃ W, W = w2.setRow bd (diskA d1 A c) := ⟨_, rfl⟩
        rw [← hW3] at HS3
        rw [← hW3]
        clear hW3 hb2 HX2 HS HSTA HSEC
        go_upto_region 25 with (first
          | (with_reducible refine listLoad (by kernel_rfl) 24 (.tmp 9) rfl bd rfl (diskA d1 A c) _ HS3.out.disk _ Try.underlying24 (by kernel_rfl) (by kernel_rfl) ?_)
          | (go_at_call 8; (with_reducible refine (HOPN.out _ HS3.out.dk).mono ?_); rintro e w4 ⟨qs, v4, hqs, he, hv4, hq4, hb4⟩; dsimp only [logV] at he; subst he)
          | (with_reducible refine wpList_store_new rfl 28 (.tmp 20) (.tmp 101) rfl (logA o) _ _ rfl (by kernel_rfl) (by kernel_rfl) (by kernel_rfl) (by kernel_rfl) ?_))
        have HS5 := Lib.hid (HS3.out.step (pastAlloc (o := .cells (logA o) 28) hb4))
        have HV5 := Lib.hid (ownBelow hv4 (allocB w4 (.cells (logA o) 28)))
        have HQ5 := Lib.hid (hq4.below (allocB w4 (.cells (logA o) 28)))
        have HO5 := Lib.hid (heap_alloc_new w4 (.cells (logA o) 28))
        have hgo : bl < w4.heap.size := Nat.lt_of_lt_of_le HS3.out.past hb4.size
        have hgo2 := HS3.out.past
        have hbdl := HS3.out.lt
        have hgo3 : W3.heap.size ≤ w4.heap.size := hb4.size
        obtain ⟨go, hge⟩ : ∃ go, go = w4.heap.size := ⟨_, rfl⟩
        obtain ⟨W5, hW5⟩ : ∃ W, W = w4.alloc (.cells (logA o) 28) := ⟨_, rfl⟩
        rw [← hge, ← hW5] at HO5
        rw [← hW5] at HS5 HV5 HQ5
        rw [← hge] at hgo hgo3
        rw [← hge, ← hW5]
        clear hge hW5 hb4 hv4 hq4 HOPN
        obtain ⟨A6, c6, hv6⟩ := ownLen HV5.out
        subst hv6
        have hqs' : qs.map (·.r) = (ps.map (·.r)).take kk := hqs
        have hql : qs.length = kk := by
          have h1 := congrArg List.length hqs'
          rw [List.length_map, List.length_take, List.length_map] at h1
          omega
        have HRQ := Lib.hid (show ∀ W, Below W5.heap.size W5 W → Calls Try.prog 10 #[.slice A6 kk c6, .slice Ai kk ci] W fun e w' => e = .returned (.bool true) ∧ Below W.heap.size W w' from fun W hb => by
          have h1 := recs_any qs (ps.take kk) (by omega) (by rw [List.length_take]; omega) A6 Ai c6 ci W ((own_reads HV5.out).below hb) (by
            rw [List.length_take, Nat.min_eq_left hkk]
            intro h0
            obtain ⟨g1, off1, e1, e2, e3, e4⟩ := (own_reads HS5.out.ri).below hb (by omega)
            refine ⟨g1, off1, e1, by omega, e3, fun j v hj => e4 j v ?_⟩
            have h2 : ps.flatMap recC = (ps.take kk).flatMap recC ++ (ps.drop kk).flatMap recC := by rw [← List.flatMap_append, List.take_append_drop]
            rw [h2, List.getElem?_append_left (List.getElem?_eq_some_iff.1 hj).1]
            exact hj) (fun p hp => ((HQ5.out p hp).rr).below hb) (fun p hp => (HPP.out p (List.mem_of_mem_take hp)).below (joinB HS5.out.low hb))
          rw [hql, List.length_take, Nat.min_eq_left hkk] at h1
          have h2 : decide (qs.map (·.r) = (ps.take kk).map (·.r)) = true := decide_eq_true (by rw [hqs', List.map_take])
          rw [h2] at h1
          exact h1)
        have HSAFE := Lib.hid HSO.out
        have hcl := blkCell HO5.out
        dsimp only [logA] at hcl
        rw [HSAFE.out] at hcl
        have hkc : kk ≤ ci := by
          rcases HS5.out.ri.2 with ⟨hv, h0⟩ | ⟨g', cap, cur, hv, hg', hh, hn9, _⟩
          · omega
          · injection hv with e1 e2 e3
            omega
        have hk1 : (0 : Int) ≤ (kk : Int) := by omega
        have hk2 : (kk : Int) ≤ (ci : Int) := by omega
        have hk3 : (kk : Int) ≤ (ps.length : Int) := by omega
        rw [hql]
        have hk4 : (((kk : Nat) : Int) == ((kk : Nat) : Int)) = true := by simp
        go_cut [133] (fun x wc => x = .bool false ∧ Below W5.heap.size W5 wc)
        case first =>
          by_cases hks : kk = s0
          · subst hks
            clear hor
            go_wp2_with (go_at_call 10; (with_reducible refine (HRQ.out _ (by first | exact Below.refl _ _ | exact (Below.refl _ _).drew)).mono ?_); rintro e w6 ⟨rfl, hb6⟩; have hcl6 := blkCell (blkOld HO5.out hb6); dsimp only [logA] at hcl6; rw [HSAFE.out] at hcl6)
            go_meet
            case rel => exact ⟨rfl, hb6⟩
          · have hku : kk = u0 := hor.elim (fun h => absurd h hks) id
            subst hku
            have hks1 : (((kk : Nat) : Int) == ((s0 : Nat) : Int)) = false := by simp only [beq_eq_false_iff_ne, ne_eq]; omega
            have hks2 : (((kk : Nat) : Int) != ((s0 : Nat) : Int)) = true := by simp only [bne_iff_ne, ne_eq]; omega
            clear hor hks
            go_wp2_with (go_at_call 10; (with_reducible refine (HRQ.out _ (by first | exact Below.refl _ _ | exact (Below.refl _ _).drew)).mono ?_); rintro e w6 ⟨rfl, hb6⟩; have hcl6 := blkCell (blkOld HO5.out hb6); dsimp only [logA] at hcl6; rw [HSAFE.out] at hcl6)
            go_meet
            case rel => exact ⟨rfl, hb6⟩
        case rest =>
          obtain ⟨rfl, hb6⟩ := hcut
          obtain ⟨W6, rfl⟩ : ∃ wm : World, wm = wc := ⟨_, rfl⟩
          have HS6 := Lib.hid (HS5.out.step hb6)
          have HV6 := Lib.hid (ownBelow HV5.out hb6)
          have HQ6 := Lib.hid (HQ5.out.below hb6)
          have HO6 := Lib.hid (blkOld HO5.out hb6)
          have HG6 := Lib.hid (blkOld HG0.out HS6.out.low)
          have hqo : W3.heap.size ≤ W6.heap.size := Nat.le_trans (by have := heapLt HO5.out; omega) hb6.size
          clear hb6 HS5 HV5 HQ5 HO5 HRQ HSAFE hcl hkc hk1 hk2 hk3 hk4 HPP hor
          obtain ⟨q1, q2, q3, q4, q5, q6⟩ := HPO.out.bounds
          have HAPP := Lib.hid (fun W (hb : Below w0.heap.size w0 W) => append_any o q1 (by omega) (by omega) (by omega) (by omega) ⟨mlsn, mprev, mtxn, mkind, mpage, mnext, mnu, ⟨mok, mos, moo, mon⟩, mhow, mroot, ⟨mek, mep, mes⟩, mts, mds⟩ MA MB mc md W (HM.out.below hb))
          have happ := HPO.out.append ⟨mlsn, mprev, mtxn, mkind, mpage, mnext, mnu, ⟨mok, mos, moo, mon⟩, mhow, mroot, ⟨mek, mep, mes⟩, mts, mds⟩
          clear q5 q6
          rcases happ with ha | ha | ⟨g2, ha, hpl2⟩
          · rw [ha] at HAPP
            clear ha
            go_wp2_with (first
              | (with_reducible refine listLoad (by kernel_rfl) 28 (.tmp 20) rfl go rfl (logA o) _ HO6.out _ Try.underlying28 (by kernel_rfl) (by kernel_rfl) ?_)
              | (with_reducible refine listLoad (by kernel_rfl) 49 (.tmp 7) rfl gm rfl #[.int .i64 mlsn, .int .i64 mprev, .int .i64 mtxn, .int .i64 mkind, .int .i64 mpage, .int .i64 mnext, .int .i64 mnu, .int .i64 mok, .int .i64 mos, .string moo, .string mon, .int .i64 mhow, .int .i64 mroot, .string mek, .int .i64 mep, .int .i64 mes, .slice MA mts.length mc, .slice MB mds.length md] _ HG6.out _ Try.underlying49 (by kernel_rfl) (by kernel_rfl) ?_)
              | (go_at_call 13; (with_reducible refine (HAPP.out _ HS6.out.low).mono ?_); rintro e w7 ⟨he, hb7⟩; dsimp only [logV] at he; subst he)
              | (with_reducible refine wpList_store_new rfl 28 (.tmp 23) (.tmp 138) rfl (logA o) _ _ rfl (by kernel_rfl) (by kernel_rfl) (by kernel_rfl) (by kernel_rfl) ?_)
              | (go_at_call 7; (with_reducible refine (HAW.out _).mono ?_); rintro e w8 ⟨rfl, hb8⟩))
            go_ret
            exact ⟨rfl, joinB HB0.out (joinB (joinB HS6.out.low (pastAlloc hb7)) hb8)⟩
          · rw [ha] at HAPP
            clear ha
            go_wp2_with (first
              | (with_reducible refine listLoad (by kernel_rfl) 28 (.tmp 20) rfl go rfl (logA o) _ HO6.out _ Try.underlying28 (by kernel_rfl) (by kernel_rfl) ?_)
              | (with_reducible refine listLoad (by kernel_rfl) 49 (.tmp 7) rfl gm rfl #[.int .i64 mlsn, .int .i64 mprev, .int .i64 mtxn, .int .i64 mkind, .int .i64 mpage, .int .i64 mnext, .int .i64 mnu, .int .i64 mok, .int .i64 mos, .string moo, .string mon, .int .i64 mhow, .int .i64 mroot, .string mek, .int .i64 mep, .int .i64 mes, .slice MA mts.length mc, .slice MB mds.length md] _ HG6.out _ Try.underlying49 (by kernel_rfl) (by kernel_rfl) ?_)
              | (go_at_call 13; (with_reducible refine (HAPP.out _ HS6.out.low).mono ?_); rintro e w7 ⟨he, hb7⟩; dsimp only [logV] at he; subst he)
              | (with_reducible refine wpList_store_new rfl 28 (.tmp 23) (.tmp 138) rfl (logA o) _ _ rfl (by kernel_rfl) (by kernel_rfl) (by kernel_rfl) (by kernel_rfl) ?_)
              | (go_at_call 7; (with_reducible refine (HAW.out _).mono ?_); rintro e w8 ⟨rfl, hb8⟩))
            go_ret
            exact ⟨rfl, joinB HB0.out (joinB (joinB HS6.out.low (pastAlloc hb7)) hb8)⟩
          · rw [ha] at HAPP
            clear ha
            have HPL7 := Lib.hid hpl2
            clear hpl2
            go_upto_region 28 with (first
              | (with_reducible refine listLoad (by kernel_rfl) 28 (.tmp 20) rfl go rfl (logA o) _ HO6.out _ Try.underlying28 (by kernel_rfl) (by kernel_rfl) ?_)
              | (with_reducible refine listLoad (by kernel_rfl) 49 (.tmp 7) rfl gm rfl #[.int .i64 mlsn, .int .i64 mprev, .int .i64 mtxn, .int .i64 mkind, .int .i64 mpage, .int .i64 mnext, .int .i64 mnu, .int .i64 mok, .int .i64 mos, .string moo, .string mon, .int .i64 mhow, .int .i64 mroot, .string mek, .int .i64 mep, .int .i64 mes, .slice MA mts.length mc, .slice MB mds.length md] _ HG6.out _ Try.underlying49 (by kernel_rfl) (by kernel_rfl) ?_)
              | (go_at_call 13; (with_reducible refine (HAPP.out _ HS6.out.low).mono ?_); rintro e w7 ⟨he, hb7⟩; dsimp only [logV] at he; subst he)
              | (with_reducible refine wpList_store_new rfl 28 (.tmp 23) (.tmp 138) rfl (logA g2) _ _ rfl (by kernel_rfl) (by kernel_rfl) (by kernel_rfl) (by kernel_rfl) ?_))
            have HS7 := Lib.hid (HS6.out.step (pastAlloc (o := .cells (logA g2) 28) hb7))
            have HV7 := Lib.hid (ownBelow HV6.out (pastAlloc (o := .cells (logA g2) 28) hb7))
            have HQ7 := Lib.hid (HQ6.out.below (pastAlloc (o := .cells (logA g2) 28) hb7))
            have HG7 := Lib.hid (blkOld HG6.out (pastAlloc (o := .cells (logA g2) 28) hb7))
            have HN7 := Lib.hid (heap_alloc_new w7 (.cells (logA g2) 28))
            have hgx : W3.heap.size ≤ w7.heap.size := Nat.le_trans hqo hb7.size
            obtain ⟨gx, hge⟩ : ∃ gx, gx = w7.heap.size := ⟨_, rfl⟩
            obtain ⟨W7, hW7⟩ : ∃ W, W = w7.alloc (.cells (logA g2) 28) := ⟨_, rfl⟩
            rw [← hge, ← hW7] at HN7
            rw [← hW7] at HS7 HV7 HQ7 HG7
            rw [← hge] at hgx
            rw [← hge, ← hW7]
            clear hge hW7 hb7 HS6 HV6 HQ6 HG6 HO6 HAPP
            obtain ⟨n, hn⟩ : ∃ n, n = o.end_ + 1 := ⟨_, rfl⟩
            rw [← hn] at HPL7
            rw [← hn]
            clear hn
            obtain ⟨x1, x2, x3, x4, x5, x6⟩ := HPL7.out.bounds
            have HFO := Lib.hid (fun W (hW : DiskR W d1 A c) => force_any d1 (by have := HPL7.out.left; omega) A c g2 x1 (by omega) (by omega) (by omega) (by omega) (by omega) (by omega) x3 x4 W hW)
            rcases HPL7.out.force with ⟨d5, g5, hfo, hpl5, -, -, hlies5⟩ | ⟨d5, hfo, _, hne, _⟩
            · rw [hfo] at HFO
              have hlies6 := hlies5 (.inr (by simp))
              have hag := hpl5.again hlies6
              have HOPN := Lib.hid (fun A c W (hW : DiskR W d5 A c) => open_any d5 hpl5.small (by have := hpl5.len; omega) A c 1 24 (by omega) (by omega) (by omega) W hW)
              rw [hag] at HOPN
              clear hfo hpl5 hlies5 hlies6 hag x1 x2 x3 x4 x5 x6
              go_upto_region 31 with (first
                | (with_reducible refine listLoad (by kernel_rfl) 24 (.tmp 9) rfl bd rfl (diskA d1 A c) _ HS7.out.disk _ Try.underlying24 (by kernel_rfl) (by kernel_rfl) ?_)
                | (with_reducible refine listLoad (by kernel_rfl) 28 (.tmp 23) rfl gx rfl (logA g2) _ HN7.out _ Try.underlying28 (by kernel_rfl) (by kernel_rfl) ?_)
                | (go_at_call 14; (with_reducible refine (HFO.out _ HS7.out.dk).mono ?_); rintro e w8 ⟨A7, c7, he, hd8, ht8, hb8⟩; dsimp only [logV, diskV] at he; subst he; have HX8 := Lib.hid (HS7.out.step hb8); have HY8 := Lib.hid (HX8.out.setDisk hd8 (ht8.elim (fun e => by rw [e]; exact HX8.out.dt) (fun e => e.mono (Nat.zero_le _)))); have HN8 := Lib.hid (blkOld HN7.out hb8); have HN9 := Lib.hid ((heap_setRow_other w8 bd (diskA d5 A7 c7) gx (by omega)).trans HN8.out))
                | (with_reducible refine listStore (by kernel_rfl) 24 (.tmp 9) (.tmp 148) rfl bd (diskA d5 A7 c7) _ _ rfl rfl HX8.out.disk (by kernel_rfl) (by kernel_rfl) (by kernel_rfl) ?_)
                | (with_reducible refine listStore (by kernel_rfl) 28 (.tmp 23) (.tmp 149) rfl gx (logA g5) _ _ rfl rfl HN9.out (by kernel_rfl) (by kernel_rfl) (by kernel_rfl) ?_))
              have HS9 := Lib.hid (HY8.out.other HN9.out (by decide) (by decide) (ownApart HY8.out.ri HN9.out (by decide)) (by omega) (logA g5))
              have HV9 := Lib.hid (ownOther (ownOther (ownBelow HV7.out hb8) HX8.out.disk (by decide) (diskA d5 A7 c7)) HN9.out (by decide) (logA g5))
              have HQ9 := Lib.hid (show RecsN W3.heap.size ((w8.setRow bd (diskA d5 A7 c7)).setRow gx (logA g5)) qs from fun p hp => (((HQ7.out p hp).below hb8).other HX8.out.disk (by decide) (by decide) (diskA d5 A7 c7)).other HN9.out (by decide) (by decide) (logA g5))
              have HG9 := Lib.hid ((heap_setRow_other _ gx (logA g5) gm (by omega)).trans ((heap_setRow_other w8 bd (diskA d5 A7 c7) gm (by omega)).trans (blkOld HG7.out hb8)))
              have HX9 := Lib.hid (setRow_heap (w8.setRow bd (diskA d5 A7 c7)) gx _ (logA g5) _ _ HN9.out)
              obtain ⟨W9, hW9⟩ : ∃ W, W = (w8.setRow bd (diskA d5 A7 c7)).setRow gx (logA g5) := ⟨_, rfl⟩
              rw [← hW9] at HS9 HV9 HQ9 HG9 HX9
              rw [← hW9]
              clear hW9 hd8 ht8 hb8 HX8 HY8 HN8 HN9 HS7 HV7 HQ7 HG7 HN7 HFO
              go_upto_region 32 with (first
                | (with_reducible refine listLoad (by kernel_rfl) 24 (.tmp 9) rfl bd rfl (diskA d5 A7 c7) _ HS9.out.disk _ Try.underlying24 (by kernel_rfl) (by kernel_rfl) ?_)
                | (go_at_call 8; (with_reducible refine (HOPN.out _ _ _ HS9.out.dk).mono ?_); rintro e w10 ⟨qs2, v10, hqs2, he, hv10, hq10, hb10⟩; dsimp only [logV] at he; subst he)
                | (with_reducible refine wpList_store_new rfl 28 (.tmp 25) (.tmp 154) rfl (logA g5) _ _ rfl (by kernel_rfl) (by kernel_rfl) (by kernel_rfl) (by kernel_rfl) ?_))
              have HSA := Lib.hid (HS9.out.step (pastAlloc (o := .cells (logA g5) 28) hb10))
              have HVA := Lib.hid (ownBelow HV9.out (pastAlloc (o := .cells (logA g5) 28) hb10))
              have HQA := Lib.hid (HQ9.out.below (pastAlloc (o := .cells (logA g5) 28) hb10))
              have HGA := Lib.hid (blkOld HG9.out (pastAlloc (o := .cells (logA g5) 28) hb10))
              have HXA := Lib.hid (blkOld HX9.out (pastAlloc (o := .cells (logA g5) 28) hb10))
              have HWA := Lib.hid (ownBelow hv10 (allocB w10 (.cells (logA g5) 28)))
              have HRA := Lib.hid (hq10.below (allocB w10 (.cells (logA g5) 28)))
              have HYA := Lib.hid (heap_alloc_new w10 (.cells (logA g5) 28))
              have hgq : gm < w10.heap.size := Nat.lt_of_lt_of_le (heapLt HG9.out) hb10.size
              have hg9 := heapLt HG9.out
              obtain ⟨gq, hge⟩ : ∃ gq, gq = w10.heap.size := ⟨_, rfl⟩
              obtain ⟨WA, hWA⟩ : ∃ W, W = w10.alloc (.cells (logA g5) 28) := ⟨_, rfl⟩
              rw [← hge, ← hWA] at HYA
              rw [← hWA] at HSA HVA HQA HGA HXA HWA HRA
              rw [← hge] at hgq
              rw [← hge, ← hWA]
              clear hge hWA hb10 hv10 hq10 HS9 HV9 HQ9 HG9 HX9 HOPN
              have hq2 : qs2.map (·.r) = (ps.map (·.r)).take kk ++ [⟨n, mprev, mtxn, mkind, mpage, mnext, mnu, ⟨mok, mos, moo, mon⟩, mhow, mroot, ⟨mek, mep, mes⟩, mts, mds⟩] := hqs2
              have hq2l : qs2.length = kk + 1 := by
                have h1 := congrArg List.length hq2
                rw [List.length_map, List.length_append, List.length_take, List.length_map, List.length_singleton] at h1
                omega
              obtain ⟨A9, c9, hv9⟩ := ownLen HWA.out
              rw [hq2l] at hv9
              subst hv9
              have hcg := blkCell HGA.out
              have hzg := blkFrozen HGA.out
              go_upto_region 33 with fail
              have hset : WA.setCell ⟨gm, 0, none⟩ (.int .i64 n) = WA.setRow gm #[.int .i64 n, .int .i64 mprev, .int .i64 mtxn, .int .i64 mkind, .int .i64 mpage, .int .i64 mnext, .int .i64 mnu, .int .i64 mok, .int .i64 mos, .string moo, .string mon, .int .i64 mhow, .int .i64 mroot, .string mek, .int .i64 mep, .int .i64 mes, .slice MA mts.length mc, .slice MB mds.length md] := setCell_eq_setRow WA gm 0 _ _ _ _ HGA.out
              rw [hset]
              have HLB := Lib.hid (show Below w.heap.size w (WA.setRow gm #[.int .i64 n, .int .i64 mprev, .int .i64 mtxn, .int .i64 mkind, .int .i64 mpage, .int .i64 mnext, .int .i64 mnu, .int .i64 mok, .int .i64 mos, .string moo, .string mon, .int .i64 mhow, .int .i64 mroot, .string mek, .int .i64 mep, .int .i64 mes, .slice MA mts.length mc, .slice MB mds.length md]) from below_setRow (joinB HB0.out HSA.out.low) (by rw [HGM.out]; exact Nat.le_refl _) _)
              have HMB := Lib.hid (show RecR (WA.setRow gm #[.int .i64 n, .int .i64 mprev, .int .i64 mtxn, .int .i64 mkind, .int .i64 mpage, .int .i64 mnext, .int .i64 mnu, .int .i64 mok, .int .i64 mos, .string moo, .string mon, .int .i64 mhow, .int .i64 mroot, .string mek, .int .i64 mep, .int .i64 mes, .slice MA mts.length mc, .slice MB mds.length md]) ⟨n, mprev, mtxn, mkind, mpage, mnext, mnu, ⟨mok, mos, moo, mon⟩, mhow, mroot, ⟨mek, mep, mes⟩, mts, mds⟩ MA mc MB md from ⟨HMW.out.txns.below HLB.out, HMW.out.dirty.below HLB.out, HMW.out.small⟩)
              have HVB := Lib.hid (ownRowOff HVA.out gm #[.int .i64 n, .int .i64 mprev, .int .i64 mtxn, .int .i64 mkind, .int .i64 mpage, .int .i64 mnext, .int .i64 mnu, .int .i64 mok, .int .i64 mos, .string moo, .string mon, .int .i64 mhow, .int .i64 mroot, .string mek, .int .i64 mep, .int .i64 mes, .slice MA mts.length mc, .slice MB mds.length md] (by omega))
              have HQB := Lib.hid (show RecsN W3.heap.size (WA.setRow gm #[.int .i64 n, .int .i64 mprev, .int .i64 mtxn, .int .i64 mkind, .int .i64 mpage, .int .i64 mnext, .int .i64 mnu, .int .i64 mok, .int .i64 mos, .string moo, .string mon, .int .i64 mhow, .int .i64 mroot, .string mek, .int .i64 mep, .int .i64 mes, .slice MA mts.length mc, .slice MB mds.length md]) qs from fun p hp => (HQA.out p hp).row gm #[.int .i64 n, .int .i64 mprev, .int .i64 mtxn, .int .i64 mkind, .int .i64 mpage, .int .i64 mnext, .int .i64 mnu, .int .i64 mok, .int .i64 mos, .string moo, .string mon, .int .i64 mhow, .int .i64 mroot, .string mek, .int .i64 mep, .int .i64 mes, .slice MA mts.length mc, .slice MB mds.length md] (by omega))
              have HWB := Lib.hid (ownRowOff HWA.out gm #[.int .i64 n, .int .i64 mprev, .int .i64 mtxn, .int .i64 mkind, .int .i64 mpage, .int .i64 mnext, .int .i64 mnu, .int .i64 mok, .int .i64 mos, .string moo, .string mon, .int .i64 mhow, .int .i64 mroot, .string mek, .int .i64 mep, .int .i64 mes, .slice MA mts.length mc, .slice MB mds.length md] (by omega))
              have HRB := Lib.hid (show RecsN W9.heap.size (WA.setRow gm #[.int .i64 n, .int .i64 mprev, .int .i64 mtxn, .int .i64 mkind, .int .i64 mpage, .int .i64 mnext, .int .i64 mnu, .int .i64 mok, .int .i64 mos, .string moo, .string mon, .int .i64 mhow, .int .i64 mroot, .string mek, .int .i64 mep, .int .i64 mes, .slice MA mts.length mc, .slice MB mds.length md]) qs2 from fun p hp => (HRA.out p hp).row gm #[.int .i64 n, .int .i64 mprev, .int .i64 mtxn, .int .i64 mkind, .int .i64 mpage, .int .i64 mnext, .int .i64 mnu, .int .i64 mok, .int .i64 mos, .string moo, .string mon, .int .i64 mhow, .int .i64 mroot, .string mek, .int .i64 mep, .int .i64 mes, .slice MA mts.length mc, .slice MB mds.length md] (by omega))
              have HXB := Lib.hid ((heap_setRow_other WA gm #[.int .i64 n, .int .i64 mprev, .int .i64 mtxn, .int .i64 mkind, .int .i64 mpage, .int .i64 mnext, .int .i64 mnu, .int .i64 mok, .int .i64 mos, .string moo, .string mon, .int .i64 mhow, .int .i64 mroot, .string mek, .int .i64 mep, .int .i64 mes, .slice MA mts.length mc, .slice MB mds.length md] gx (by omega)).trans HXA.out)
              have HYB := Lib.hid ((heap_setRow_other WA gm #[.int .i64 n, .int .i64 mprev, .int .i64 mtxn, .int .i64 mkind, .int .i64 mpage, .int .i64 mnext, .int .i64 mnu, .int .i64 mok, .int .i64 mos, .string moo, .string mon, .int .i64 mhow, .int .i64 mroot, .string mek, .int .i64 mep, .int .i64 mes, .slice MA mts.length mc, .slice MB mds.length md] gq (by omega)).trans HYA.out)
              have HGB := Lib.hid (setRow_heap WA gm _ #[.int .i64 n, .int .i64 mprev, .int .i64 mtxn, .int .i64 mkind, .int .i64 mpage, .int .i64 mnext, .int .i64 mnu, .int .i64 mok, .int .i64 mos, .string moo, .string mon, .int .i64 mhow, .int .i64 mroot, .string mek, .int .i64 mep, .int .i64 mes, .slice MA mts.length mc, .slice MB mds.length md] _ _ HGA.out)
              obtain ⟨WB, hWB⟩ : ∃ W, W = WA.setRow gm #[.int .i64 n, .int .i64 mprev, .int .i64 mtxn, .int .i64 mkind, .int .i64 mpage, .int .i64 mnext, .int .i64 mnu, .int .i64 mok, .int .i64 mos, .string moo, .string mon, .int .i64 mhow, .int .i64 mroot, .string mek, .int .i64 mep, .int .i64 mes, .slice MA mts.length mc, .slice MB mds.length md] := ⟨_, rfl⟩
              rw [← hWB] at HLB HMB HVB HQB HWB HRB HXB HYB HGB
              rw [← hWB]
              clear hWB hset hcg hzg HSA HVA HQA HGA HXA HWA HRA HYA
              obtain ⟨mp, hmp⟩ : ∃ mp : PRec, mp = ⟨⟨n, mprev, mtxn, mkind, mpage, mnext, mnu, ⟨mok, mos, moo, mon⟩, mhow, mroot, ⟨mek, mep, mes⟩, mts, mds⟩, MA, mc, MB, md⟩ := ⟨_, rfl⟩
              have HMP := Lib.hid (show PRecR WB mp from by rw [hmp]; exact HMB.out)
              have HMC := Lib.hid (show recC mp = [.int .i64 n, .int .i64 mprev, .int .i64 mtxn, .int .i64 mkind, .int .i64 mpage, .int .i64 mnext, .int .i64 mnu, .int .i64 mok, .int .i64 mos, .string moo, .string mon, .int .i64 mhow, .int .i64 mroot, .string mek, .int .i64 mep, .int .i64 mes, .slice MA mts.length mc, .slice MB mds.length md] from by rw [hmp]; rfl)
              have HDEC := Lib.hid (show decide (qs2.map (·.r) = (qs ++ [mp]).map (·.r)) = true from decide_eq_true (by rw [List.map_append, hqs', hq2, hmp]; rfl))
              have HRR := Lib.hid (fun W Aj cj (hb : Below WB.heap.size WB W) (hj : W.ownsRow WB.heap.size 49 18 (.slice Aj (kk + 1) cj) (kk + 1) ((qs ++ [mp]).flatMap recC)) => show Calls Try.prog 10 #[.slice A9 (kk + 1) c9, .slice Aj (kk + 1) cj] W fun e w' => e = .returned (.bool true) ∧ Below W.heap.size W w' from by
                have e1 : (qs ++ [mp]).length = kk + 1 := by rw [List.length_append, List.length_singleton, hql]
                have h1 := recs_any qs2 (qs ++ [mp]) (by omega) (by omega) A9 Aj c9 cj W (by
                  have h2 := HWB.out
                  rw [hq2l] at h2
                  rw [hq2l]
                  exact (own_reads h2).below hb) (by rw [e1]; exact own_reads hj) (fun p hp => ((HRB.out p hp).rr).below hb) (fun p hp => (List.mem_append.1 hp).elim (fun h => ((HQB.out p h).rr).below hb) (fun h => by rw [List.mem_singleton.1 h]; exact HMP.out.below hb))
                rw [hq2l, e1, HDEC.out] at h1
                exact h1)
              have hk32 : kk ≤ 30 := by omega
              have HVR := Lib.hid (show Reads WB A6 c6 kk (qs.flatMap recC) from by
                have h2 := HVB.out
                rw [hql] at h2
                exact own_reads h2)
              have hvl : (qs.flatMap recC).length = kk * 18 := by rw [flat_len recC_len, hql]
              have hone : ∀ u ∈ qs.flatMap recC, u.oneCell' = true := fun u hu => by
                obtain ⟨p, _, hp2⟩ := List.mem_flatMap.1 hu
                exact recC_one p u hp2
              have B0 : Below WB.heap.size WB WB.drew := (Below.refl _ WB).drew
              refine wp_region_held_drew (S := (fun u => Below WB.heap.size WB u)) (by kernel_rfl) ?_ (fun hHeld => ?_)
              · exact B0
              refine wpAnyH_take (i := 0) (oi := { dst := some 159, op := _, type := _, pos := _, after := _, guard := _ }) (v := ?_) rfl (by kernel_rfl) (by kernel_rfl) (by kernel_rfl) (fun _ _ _ h => h) (Or.inl ⟨by rfl, ?_⟩) (by assumption) ?_
              rotate_left
              · intro u hSu; clear hSu; go_simp; (try with_reducible rfl)
              try simp only [Act.put, List.setIfInBounds_toArray, List.set_cons_zero, List.set_cons_succ]
              refine wpAnyH_take (i := 1) (oi := { dst := some 160, op := _, type := _, pos := _, after := _, guard := _ }) (v := ?_) rfl (by kernel_rfl) (by kernel_rfl) (by kernel_rfl) (fun _ _ _ h => h) (Or.inl ⟨by rfl, ?_⟩) (by assumption) ?_
              rotate_left
              · intro u hSu; clear hSu; go_simp; (try with_reducible rfl)
              try simp only [Act.put, List.setIfInBounds_toArray, List.set_cons_zero, List.set_cons_succ]
              refine wpAnyH_take (i := 2) (oi := { dst := some 161, op := _, type := _, pos := _, after := _, guard := _ }) (v := ?_) rfl (by kernel_rfl) (by kernel_rfl) (by kernel_rfl) (fun _ _ _ h => h) (Or.inl ⟨by rfl, ?_⟩) (by assumption) ?_
              rotate_left
              · intro u hSu; clear hSu; go_simp; (try with_reducible rfl)
              try simp only [Act.put, List.setIfInBounds_toArray, List.set_cons_zero, List.set_cons_succ]
              refine wpAnyH_take (i := 3) (oi := { dst := some 162, op := _, type := _, pos := _, after := _, guard := _ }) (v := ?_) rfl (by kernel_rfl) (by kernel_rfl) (by kernel_rfl) (fun _ _ _ h => h) (Or.inl ⟨by rfl, ?_⟩) (by assumption) ?_
              rotate_left
              · intro u hSu; clear hSu; go_simp; (try with_reducible rfl)
              try simp only [Act.put, List.setIfInBounds_toArray, List.set_cons_zero, List.set_cons_succ]
              refine wpAnyH_take (i := 4) (oi := { dst := some 163, op := _, type := _, pos := _, after := _, guard := _ }) (v := ?_) rfl (by kernel_rfl) (by kernel_rfl) (by kernel_rfl) (fun _ _ _ h => h) (Or.inl ⟨by rfl, ?_⟩) (by assumption) ?_
              rotate_left
              · intro u hSu; clear hSu; go_simp; (try with_reducible rfl)
              try simp only [Act.put, List.setIfInBounds_toArray, List.set_cons_zero, List.set_cons_succ]
              refine wpAnyH_take (i := 5) (oi := { dst := some 164, op := _, type := _, pos := _, after := _, guard := _ }) (v := ?_) rfl (by kernel_rfl) (by kernel_rfl) (by kernel_rfl) (fun _ _ _ h => h) (Or.inl ⟨by rfl, ?_⟩) (by assumption) ?_
              rotate_left
              · intro u hSu; clear hSu; go_simp; (try with_reducible rfl)
              try simp only [Act.put, List.setIfInBounds_toArray, List.set_cons_zero, List.set_cons_succ]
              refine wpAnyH_take (i := 6) (oi := { dst := some 165, op := _, type := _, pos := _, after := _, guard := _ }) (v := ?_) rfl (by kernel_rfl) (by kernel_rfl) (by kernel_rfl) (fun _ _ _ h => h) (Or.inl ⟨by rfl, ?_⟩) (by assumption) ?_
              rotate_left
              · intro u hSu; clear hSu; go_simp; (try with_reducible rfl)
              try simp only [Act.put, List.setIfInBounds_toArray, List.set_cons_zero, List.set_cons_succ]
              refine wpAnyH_take (i := 7) (oi := { dst := some 166, op := _, type := _, pos := _, after := _, guard := _ }) (v := .agg (logA g5)) rfl (by kernel_rfl) (by kernel_rfl) (by kernel_rfl) (fun _ _ _ h => h) (yieldsIf_load_mid (by rfl) 28 (.tmp 25) rfl gq 0 (by rfl) (logA g5).toList _ (fun u hu => range_blk HYB.out hu) Try.underlying28 (by kernel_rfl) (by kernel_rfl)) (by assumption) ?_
              try simp only [Act.put, List.setIfInBounds_toArray, List.set_cons_zero, List.set_cons_succ]
              refine wpAnyH_take (i := 8) (oi := { dst := some 167, op := _, type := _, pos := _, after := _, guard := _ }) (v := .agg (logA g5)) rfl (by kernel_rfl) (by kernel_rfl) (by kernel_rfl) (fun _ _ _ h => h) (yieldsIf_load_mid (by rfl) 28 (.tmp 23) rfl gx 0 (by rfl) (logA g5).toList _ (fun u hu => range_blk HXB.out hu) Try.underlying28 (by kernel_rfl) (by kernel_rfl)) (by assumption) ?_
              try simp only [Act.put, List.setIfInBounds_toArray, List.set_cons_zero, List.set_cons_succ]
              refine wpAnyH_take (i := 9) (oi := { dst := some 168, op := _, type := _, pos := _, after := _, guard := _ }) (v := ?_) rfl (by kernel_rfl) (by kernel_rfl) (by kernel_rfl) (fun _ _ _ h => h) (Or.inl ⟨by rfl, ?_⟩) (by assumption) ?_
              rotate_left
              · intro u hSu; clear hSu; go_simp; (try with_reducible rfl)
              try simp only [Act.put, List.setIfInBounds_toArray, List.set_cons_zero, List.set_cons_succ]
              refine wpAnyH_take (i := 10) (oi := { dst := some 169, op := _, type := _, pos := _, after := _, guard := _ }) (v := ?_) rfl (by kernel_rfl) (by kernel_rfl) (by kernel_rfl) (fun _ _ _ h => h) (Or.inl ⟨by rfl, ?_⟩) (by assumption) ?_
              rotate_left
              · intro u hSu; clear hSu; go_simp; (try with_reducible rfl)
              try simp only [Act.put, List.setIfInBounds_toArray, List.set_cons_zero, List.set_cons_succ]
              refine wpAnyH_take (i := 11) (oi := { dst := some 170, op := _, type := _, pos := _, after := _, guard := _ }) (v := ?_) rfl (by kernel_rfl) (by kernel_rfl) (by kernel_rfl) (fun _ _ _ h => h) (Or.inl ⟨by rfl, ?_⟩) (by assumption) ?_
              rotate_left
              · intro u hSu; clear hSu; go_simp; (try with_reducible rfl)
              try simp only [Act.put, List.setIfInBounds_toArray, List.set_cons_zero, List.set_cons_succ]
              refine wpAnyH_take (i := 12) (oi := { dst := some 171, op := _, type := _, pos := _, after := _, guard := _ }) (v := ?_) rfl (by kernel_rfl) (by kernel_rfl) (by kernel_rfl) (fun _ _ _ h => h) (Or.inl ⟨by rfl, ?_⟩) (by assumption) ?_
              rotate_left
              · intro u hSu; clear hSu; go_simp; (try with_reducible rfl)
              try simp only [Act.put, List.setIfInBounds_toArray, List.set_cons_zero, List.set_cons_succ]
              refine wpAnyH_take (i := 14) (oi := { dst := some 173, op := _, type := _, pos := _, after := _, guard := _ }) (v := ?_) rfl (by kernel_rfl) (by kernel_rfl) (by kernel_rfl) (fun _ _ _ h => h) (Or.inl ⟨by rfl, ?_⟩) (by assumption) ?_
              rotate_left
              · intro u hSu; clear hSu; go_simp; (try with_reducible rfl)
              try simp only [Act.put, List.setIfInBounds_toArray, List.set_cons_zero, List.set_cons_succ]
              refine wpAnyH_take (i := 16) (oi := { dst := some 175, op := _, type := _, pos := _, after := _, guard := _ }) (v := .agg #[.int .i64 n, .int .i64 mprev, .int .i64 mtxn, .int .i64 mkind, .int .i64 mpage, .int .i64 mnext, .int .i64 mnu, .int .i64 mok, .int .i64 mos, .string moo, .string mon, .int .i64 mhow, .int .i64 mroot, .string mek, .int .i64 mep, .int .i64 mes, .slice MA mts.length mc, .slice MB mds.length md]) rfl (by kernel_rfl) (by kernel_rfl) (by kernel_rfl) (fun _ _ _ h => h) (yieldsIf_load_mid (by rfl) 49 (.tmp 7) rfl gm 0 (by rfl) #[.int .i64 n, .int .i64 mprev, .int .i64 mtxn, .int .i64 mkind, .int .i64 mpage, .int .i64 mnext, .int .i64 mnu, .int .i64 mok, .int .i64 mos, .string moo, .string mon, .int .i64 mhow, .int .i64 mroot, .string mek, .int .i64 mep, .int .i64 mes, .slice MA mts.length mc, .slice MB mds.length md].toList _ (fun u hu => range_blk HGB.out hu) Try.underlying49 (by kernel_rfl) (by kernel_rfl)) (by assumption) ?_
              try simp only [Act.put, List.setIfInBounds_toArray, List.set_cons_zero, List.set_cons_succ]
              refine wpAnyH_ready (rs := [13, 17]) (by kernel_rfl) (by simp) ?_
              refine (AllReadyH.cons (o := { dst := some 172, op := _, type := _, pos := _, after := _, guard := _ }) rfl (fun K hK => ?_) (AllReadyH.cons (o := { dst := some 176, op := _, type := _, pos := _, after := _, guard := _ }) rfl (fun K hK => ?_) AllReadyH.nil))
              ·
                go_simp
                have B1 : Below WB.heap.size WB (WB.drew.alloc (.cells #[] 49)) := joinB B0 (allocB WB.drew (.cells #[] 49)); have J1 : (WB.drew.alloc (.cells #[] 49)).ownsRow WB.heap.size 49 18 (.slice (some ⟨WB.heap.size, 0, none⟩) 0 0) 0 [] := (by (have h := ownMono (ownEmpty WB.drew 49 18) (show WB.heap.size ≤ (WB.drew).heap.size from B0.size)); (have e : (WB.drew).heap.size = WB.heap.size := by simp); (try rw [e] at h); exact h)
                try clear hSn
                have hSn := B1
                refine hK.out _ _ ?_ (fun hHeld => ?_)
                · exact hSn
                clear hK K
                try simp only [Act.put, List.setIfInBounds_toArray, List.set_cons_zero, List.set_cons_succ]
                refine wpAnyH_ready (rs := [15, 17]) (by kernel_rfl) (by simp) ?_
                refine (AllReadyH.cons (o := { dst := some 174, op := _, type := _, pos := _, after := _, guard := _ }) rfl (fun K hK => ?_) (AllReadyH.cons (o := { dst := some 176, op := _, type := _, pos := _, after := _, guard := _ }) rfl (fun K hK => ?_) AllReadyH.nil))
                ·
                  refine wantedIf (by rfl) ?_
                  refine wp_appL _ (.tmp 172) (.tmp 173) 29 49 Try.underlying29 info_rec2 rfl (by omega) (by omega) rfl WB.heap.size (.slice (some ⟨WB.heap.size, 0, none⟩) 0 0) 0 [] rfl J1 A6 kk c6 (qs.flatMap recC) rfl (HVR.out.below B1) hvl hone (by omega) B1.size ?_
                  intro vj u2 ho hg hb
                  have B2 : Below WB.heap.size WB u2 := B1.trans hb
                  have J2 : u2.ownsRow WB.heap.size 49 18 vj kk (qs.flatMap recC) := (by simpa using ho)
                  obtain ⟨Aj, cj, rfl⟩ := ownLen J2
                  try clear hSn
                  have hSn := B2
                  clear ho hg hb
                  refine hK.out _ _ ?_ (fun hHeld => ?_)
                  · exact hSn
                  clear hK K
                  try simp only [Act.put, List.setIfInBounds_toArray, List.set_cons_zero, List.set_cons_succ]
                  refine wpAnyH_ready (rs := [17]) (by kernel_rfl) (by simp) ?_
                  refine (AllReadyH.cons (o := { dst := some 176, op := _, type := _, pos := _, after := _, guard := _ }) rfl (fun K hK => ?_) AllReadyH.nil)
                  go_simp
                  have B3 : Below WB.heap.size WB (u2.alloc (.cells #[.int .i64 n, .int .i64 mprev, .int .i64 mtxn, .int .i64 mkind, .int .i64 mpage, .int .i64 mnext, .int .i64 mnu, .int .i64 mok, .int .i64 mos, .string moo, .string mon, .int .i64 mhow, .int .i64 mroot, .string mek, .int .i64 mep, .int .i64 mes, .slice MA mts.length mc, .slice MB mds.length md] 49)) := joinB B2 (allocB u2 (.cells #[.int .i64 n, .int .i64 mprev, .int .i64 mtxn, .int .i64 mkind, .int .i64 mpage, .int .i64 mnext, .int .i64 mnu, .int .i64 mok, .int .i64 mos, .string moo, .string mon, .int .i64 mhow, .int .i64 mroot, .string mek, .int .i64 mep, .int .i64 mes, .slice MA mts.length mc, .slice MB mds.length md] 49)); have J3 := ownBelow J2 (allocB u2 (.cells #[.int .i64 n, .int .i64 mprev, .int .i64 mtxn, .int .i64 mkind, .int .i64 mpage, .int .i64 mnext, .int .i64 mnu, .int .i64 mok, .int .i64 mos, .string moo, .string mon, .int .i64 mhow, .int .i64 mroot, .string mek, .int .i64 mep, .int .i64 mes, .slice MA mts.length mc, .slice MB mds.length md] 49)); have TM3 : (u2.alloc (.cells #[.int .i64 n, .int .i64 mprev, .int .i64 mtxn, .int .i64 mkind, .int .i64 mpage, .int .i64 mnext, .int .i64 mnu, .int .i64 mok, .int .i64 mos, .string moo, .string mon, .int .i64 mhow, .int .i64 mroot, .string mek, .int .i64 mep, .int .i64 mes, .slice MA mts.length mc, .slice MB mds.length md] 49)).heap[u2.heap.size]? = some (.cells #[.int .i64 n, .int .i64 mprev, .int .i64 mtxn, .int .i64 mkind, .int .i64 mpage, .int .i64 mnext, .int .i64 mnu, .int .i64 mok, .int .i64 mos, .string moo, .string mon, .int .i64 mhow, .int .i64 mroot, .string mek, .int .i64 mep, .int .i64 mes, .slice MA mts.length mc, .slice MB mds.length md] 49) := (by (have h := heap_alloc_new u2 (.cells #[.int .i64 n, .int .i64 mprev, .int .i64 mtxn, .int .i64 mkind, .int .i64 mpage, .int .i64 mnext, .int .i64 mnu, .int .i64 mok, .int .i64 mos, .string moo, .string mon, .int .i64 mhow, .int .i64 mroot, .string mek, .int .i64 mep, .int .i64 mes, .slice MA mts.length mc, .slice MB mds.length md] 49)); (have e : (u2).heap.size = u2.heap.size := by simp); (try rw [e] at h); exact h)
                  try clear hSn
                  have hSn := B3
                  refine hK.out _ _ ?_ (fun hHeld => ?_)
                  · exact hSn
                  clear hK K
                  try simp only [Act.put, List.setIfInBounds_toArray, List.set_cons_zero, List.set_cons_succ]
                  refine wpAnyH_ready (rs := [18]) (by kernel_rfl) (by simp) ?_
                  refine (AllReadyH.cons (o := { dst := some 177, op := _, type := _, pos := _, after := _, guard := _ }) rfl (fun K hK => ?_) AllReadyH.nil)
                  refine wantedIf (by rfl) ?_
                  refine wp_push _ (.tmp 174) (.tmp 176) 29 49 Try.underlying29 info_rec2 rfl (by omega) (by omega) rfl WB.heap.size _ kk (qs.flatMap recC) rfl J3 _ [.int .i64 n, .int .i64 mprev, .int .i64 mtxn, .int .i64 mkind, .int .i64 mpage, .int .i64 mnext, .int .i64 mnu, .int .i64 mok, .int .i64 mos, .string moo, .string mon, .int .i64 mhow, .int .i64 mroot, .string mek, .int .i64 mep, .int .i64 mes, .slice MA mts.length mc, .slice MB mds.length md] 49 rfl TM3 rfl (by rw [← HMC.out]; exact recC_one mp) (by omega) B3.size ?_
                  intro vk u4 ho hg hb
                  have B4 : Below WB.heap.size WB u4 := B3.trans hb
                  have J4 : u4.ownsRow WB.heap.size 49 18 vk (kk + 1) ((qs ++ [mp]).flatMap recC) := (by rw [List.flatMap_append, List.flatMap_cons, List.flatMap_nil, List.append_nil, HMC.out]; exact ho)
                  obtain ⟨Ak, ck, rfl⟩ := ownLen J4
                  try clear hSn
                  have hSn := B4
                  clear ho hg hb
                  refine hK.out _ _ ?_ (fun hHeld => ?_)
                  · exact hSn
                  clear hK K
                  try simp only [Act.put, List.setIfInBounds_toArray, List.set_cons_zero, List.set_cons_succ]
                  refine wpAnyH_ready (rs := [19]) (by kernel_rfl) (by simp) ?_
                  refine (AllReadyH.cons (o := { dst := some 178, op := _, type := _, pos := _, after := _, guard := _ }) rfl (fun K hK => ?_) AllReadyH.nil)
                  go_simp
                  refine (HRR.out _ Ak ck B4 J4).mono ?_; rintro e u5 ⟨rfl, hbr⟩; have B5 := joinB B4 hbr; clear hbr hSn; have hSn := B5
                  refine hK.out _ _ ?_ (fun hHeld => ?_)
                  · exact hSn
                  clear hK K
                  try simp only [Act.put, List.setIfInBounds_toArray, List.set_cons_zero, List.set_cons_succ]
                  refine wpAnyH_take (i := 20) (oi := { dst := some 179, op := _, type := _, pos := _, after := _, guard := _ }) (v := ?_) rfl (by kernel_rfl) (by kernel_rfl) (by kernel_rfl) (fun _ _ _ h => h) (Or.inl ⟨by rfl, ?_⟩) (by assumption) ?_
                  rotate_left
                  · intro u hSu; clear hSu; go_simp; (try with_reducible rfl)
                  try simp only [Act.put, List.setIfInBounds_toArray, List.set_cons_zero, List.set_cons_succ]
                  refine wpAnyH_take (i := 21) (oi := { dst := some 180, op := _, type := _, pos := _, after := _, guard := _ }) (v := ?_) rfl (by kernel_rfl) (by kernel_rfl) (by kernel_rfl) (fun _ _ _ h => h) (Or.inl ⟨by rfl, ?_⟩) (by assumption) ?_
                  rotate_left
                  · intro u hSu; clear hSu; go_simp; (try with_reducible rfl)
                  try simp only [Act.put, List.setIfInBounds_toArray, List.set_cons_zero, List.set_cons_succ]
                  refine wpAnyH_ready (rs := [22]) (by kernel_rfl) (by simp) ?_
                  refine (AllReadyH.cons (o := { dst := some 181, op := _, type := _, pos := _, after := _, guard := _ }) rfl (fun K hK => ?_) AllReadyH.nil)
                  go_simp
                  refine (HAW.out _).mono ?_; rintro e u6 ⟨rfl, hbr⟩; have B6 := joinB B5 hbr; clear hbr hSn; have hSn := B6
                  refine hK.out _ _ ?_ (fun hHeld => ?_)
                  · exact hSn
                  clear hK K
                  try simp only [Act.put, List.setIfInBounds_toArray, List.set_cons_zero, List.set_cons_succ]
                  refine wpAnyH_take (i := 23) (oi := { dst := some 182, op := _, type := _, pos := _, after := _, guard := _ }) (v := ?_) rfl (by kernel_rfl) (by kernel_rfl) (by kernel_rfl) (fun _ _ _ h => h) (Or.inl ⟨by rfl, ?_⟩) (by assumption) ?_
                  rotate_left
                  · intro u hSu; clear hSu; go_simp; (try with_reducible rfl)
                  try simp only [Act.put, List.setIfInBounds_toArray, List.set_cons_zero, List.set_cons_succ]
                  refine wpAnyH_take (i := 24) (oi := { dst := some 8, op := _, type := _, pos := _, after := _, guard := _ }) (v := ?_) rfl (by kernel_rfl) (by kernel_rfl) (by kernel_rfl) (fun _ _ _ h => h) (Or.inl ⟨by rfl, ?_⟩) (by assumption) ?_
                  rotate_left
                  · intro u hSu; clear hSu; go_simp; (try with_reducible rfl)
                  try simp only [Act.put, List.setIfInBounds_toArray, List.set_cons_zero, List.set_cons_succ]
                  refine wpAnyH_done (by kernel_rfl) ?_ _
                  clear hHeld hSn
                  go_wp2_with fail
                  go_ret
                  exact ⟨rfl, joinB HLB.out B6⟩
                ·
                  go_simp
                  have B2 : Below WB.heap.size WB ((WB.drew.alloc (.cells #[] 49)).alloc (.cells #[.int .i64 n, .int .i64 mprev, .int .i64 mtxn, .int .i64 mkind, .int .i64 mpage, .int .i64 mnext, .int .i64 mnu, .int .i64 mok, .int .i64 mos, .string moo, .string mon, .int .i64 mhow, .int .i64 mroot, .string mek, .int .i64 mep, .int .i64 mes, .slice MA mts.length mc, .slice MB mds.length md] 49)) := joinB B1 (allocB (WB.drew.alloc (.cells #[] 49)) (.cells #[.int .i64 n, .int .i64 mprev, .int .i64 mtxn, .int .i64 mkind, .int .i64 mpage, .int .i64 mnext, .int .i64 mnu, .int .i64 mok, .int .i64 mos, .string moo, .string mon, .int .i64 mhow, .int .i64 mroot, .string mek, .int .i64 mep, .int .i64 mes, .slice MA mts.length mc, .slice MB mds.length md] 49)); have J2 := ownBelow J1 (allocB (WB.drew.alloc (.cells #[] 49)) (.cells #[.int .i64 n, .int .i64 mprev, .int .i64 mtxn, .int .i64 mkind, .int .i64 mpage, .int .i64 mnext, .int .i64 mnu, .int .i64 mok, .int .i64 mos, .string moo, .string mon, .int .i64 mhow, .int .i64 mroot, .string mek, .int .i64 mep, .int .i64 mes, .slice MA mts.length mc, .slice MB mds.length md] 49)); have TM2 : ((WB.drew.alloc (.cells #[] 49)).alloc (.cells #[.int .i64 n, .int .i64 mprev, .int .i64 mtxn, .int .i64 mkind, .int .i64 mpage, .int .i64 mnext, .int .i64 mnu, .int .i64 mok, .int .i64 mos, .string moo, .string mon, .int .i64 mhow, .int .i64 mroot, .string mek, .int .i64 mep, .int .i64 mes, .slice MA mts.length mc, .slice MB mds.length md] 49)).heap[WB.heap.size + 1]? = some (.cells #[.int .i64 n, .int .i64 mprev, .int .i64 mtxn, .int .i64 mkind, .int .i64 mpage, .int .i64 mnext, .int .i64 mnu, .int .i64 mok, .int .i64 mos, .string moo, .string mon, .int .i64 mhow, .int .i64 mroot, .string mek, .int .i64 mep, .int .i64 mes, .slice MA mts.length mc, .slice MB mds.length md] 49) := (by (have h := heap_alloc_new (WB.drew.alloc (.cells #[] 49)) (.cells #[.int .i64 n, .int .i64 mprev, .int .i64 mtxn, .int .i64 mkind, .int .i64 mpage, .int .i64 mnext, .int .i64 mnu, .int .i64 mok, .int .i64 mos, .string moo, .string mon, .int .i64 mhow, .int .i64 mroot, .string mek, .int .i64 mep, .int .i64 mes, .slice MA mts.length mc, .slice MB mds.length md] 49)); (have e : ((WB.drew.alloc (.cells #[] 49))).heap.size = WB.heap.size + 1 := by simp); (try rw [e] at h); exact h)
                  try clear hSn
                  have hSn := B2
                  refine hK.out _ _ ?_ (fun hHeld => ?_)
                  · exact hSn
                  clear hK K
                  try simp only [Act.put, List.setIfInBounds_toArray, List.set_cons_zero, List.set_cons_succ]
                  refine wpAnyH_ready (rs := [15]) (by kernel_rfl) (by simp) ?_
                  refine (AllReadyH.cons (o := { dst := some 174, op := _, type := _, pos := _, after := _, guard := _ }) rfl (fun K hK => ?_) AllReadyH.nil)
                  refine wantedIf (by rfl) ?_
                  refine wp_appL _ (.tmp 172) (.tmp 173) 29 49 Try.underlying29 info_rec2 rfl (by omega) (by omega) rfl WB.heap.size (.slice (some ⟨WB.heap.size, 0, none⟩) 0 0) 0 [] rfl J2 A6 kk c6 (qs.flatMap recC) rfl (HVR.out.below B2) hvl hone (by omega) B2.size ?_
                  intro vj u3 ho hg hb
                  have B3 : Below WB.heap.size WB u3 := B2.trans hb
                  have J3 : u3.ownsRow WB.heap.size 49 18 vj kk (qs.flatMap recC) := (by simpa using ho)
                  obtain ⟨Aj, cj, rfl⟩ := ownLen J3
                  have TM3 := (hg.block _ (heapLt TM2) (by simp [Value.ownBlock])).trans TM2
                  try clear hSn
                  have hSn := B3
                  clear ho hg hb
                  refine hK.out _ _ ?_ (fun hHeld => ?_)
                  · exact hSn
                  clear hK K
                  try simp only [Act.put, List.setIfInBounds_toArray, List.set_cons_zero, List.set_cons_succ]
                  refine wpAnyH_ready (rs := [18]) (by kernel_rfl) (by simp) ?_
                  refine (AllReadyH.cons (o := { dst := some 177, op := _, type := _, pos := _, after := _, guard := _ }) rfl (fun K hK => ?_) AllReadyH.nil)
                  refine wantedIf (by rfl) ?_
                  refine wp_push _ (.tmp 174) (.tmp 176) 29 49 Try.underlying29 info_rec2 rfl (by omega) (by omega) rfl WB.heap.size _ kk (qs.flatMap recC) rfl J3 _ [.int .i64 n, .int .i64 mprev, .int .i64 mtxn, .int .i64 mkind, .int .i64 mpage, .int .i64 mnext, .int .i64 mnu, .int .i64 mok, .int .i64 mos, .string moo, .string mon, .int .i64 mhow, .int .i64 mroot, .string mek, .int .i64 mep, .int .i64 mes, .slice MA mts.length mc, .slice MB mds.length md] 49 rfl TM3 rfl (by rw [← HMC.out]; exact recC_one mp) (by omega) B3.size ?_
                  intro vk u4 ho hg hb
                  have B4 : Below WB.heap.size WB u4 := B3.trans hb
                  have J4 : u4.ownsRow WB.heap.size 49 18 vk (kk + 1) ((qs ++ [mp]).flatMap recC) := (by rw [List.flatMap_append, List.flatMap_cons, List.flatMap_nil, List.append_nil, HMC.out]; exact ho)
                  obtain ⟨Ak, ck, rfl⟩ := ownLen J4
                  try clear hSn
                  have hSn := B4
                  clear ho hg hb
                  refine hK.out _ _ ?_ (fun hHeld => ?_)
                  · exact hSn
                  clear hK K
                  try simp only [Act.put, List.setIfInBounds_toArray, List.set_cons_zero, List.set_cons_succ]
                  refine wpAnyH_ready (rs := [19]) (by kernel_rfl) (by simp) ?_
                  refine (AllReadyH.cons (o := { dst := some 178, op := _, type := _, pos := _, after := _, guard := _ }) rfl (fun K hK => ?_) AllReadyH.nil)
                  go_simp
                  refine (HRR.out _ Ak ck B4 J4).mono ?_; rintro e u5 ⟨rfl, hbr⟩; have B5 := joinB B4 hbr; clear hbr hSn; have hSn := B5
                  refine hK.out _ _ ?_ (fun hHeld => ?_)
                  · exact hSn
                  clear hK K
                  try simp only [Act.put, List.setIfInBounds_toArray, List.set_cons_zero, List.set_cons_succ]
                  refine wpAnyH_take (i := 20) (oi := { dst := some 179, op := _, type := _, pos := _, after := _, guard := _ }) (v := ?_) rfl (by kernel_rfl) (by kernel_rfl) (by kernel_rfl) (fun _ _ _ h => h) (Or.inl ⟨by rfl, ?_⟩) (by assumption) ?_
                  rotate_left
                  · intro u hSu; clear hSu; go_simp; (try with_reducible rfl)
                  try simp only [Act.put, List.setIfInBounds_toArray, List.set_cons_zero, List.set_cons_succ]
                  refine wpAnyH_take (i := 21) (oi := { dst := some 180, op := _, type := _, pos := _, after := _, guard := _ }) (v := ?_) rfl (by kernel_rfl) (by kernel_rfl) (by kernel_rfl) (fun _ _ _ h => h) (Or.inl ⟨by rfl, ?_⟩) (by assumption) ?_
                  rotate_left
                  · intro u hSu; clear hSu; go_simp; (try with_reducible rfl)
                  try simp only [Act.put, List.setIfInBounds_toArray, List.set_cons_zero, List.set_cons_succ]
                  refine wpAnyH_ready (rs := [22]) (by kernel_rfl) (by simp) ?_
                  refine (AllReadyH.cons (o := { dst := some 181, op := _, type := _, pos := _, after := _, guard := _ }) rfl (fun K hK => ?_) AllReadyH.nil)
                  go_simp
                  refine (HAW.out _).mono ?_; rintro e u6 ⟨rfl, hbr⟩; have B6 := joinB B5 hbr; clear hbr hSn; have hSn := B6
                  refine hK.out _ _ ?_ (fun hHeld => ?_)
                  · exact hSn
                  clear hK K
                  try simp only [Act.put, List.setIfInBounds_toArray, List.set_cons_zero, List.set_cons_succ]
                  refine wpAnyH_take (i := 23) (oi := { dst := some 182, op := _, type := _, pos := _, after := _, guard := _ }) (v := ?_) rfl (by kernel_rfl) (by kernel_rfl) (by kernel_rfl) (fun _ _ _ h => h) (Or.inl ⟨by rfl, ?_⟩) (by assumption) ?_
                  rotate_left
                  · intro u hSu; clear hSu; go_simp; (try with_reducible rfl)
                  try simp only [Act.put, List.setIfInBounds_toArray, List.set_cons_zero, List.set_cons_succ]
                  refine wpAnyH_take (i := 24) (oi := { dst := some 8, op := _, type := _, pos := _, after := _, guard := _ }) (v := ?_) rfl (by kernel_rfl) (by kernel_rfl) (by kernel_rfl) (fun _ _ _ h => h) (Or.inl ⟨by rfl, ?_⟩) (by assumption) ?_
                  rotate_left
                  · intro u hSu; clear hSu; go_simp; (try with_reducible rfl)
                  try simp only [Act.put, List.setIfInBounds_toArray, List.set_cons_zero, List.set_cons_succ]
                  refine wpAnyH_done (by kernel_rfl) ?_ _
                  clear hHeld hSn
                  go_wp2_with fail
                  go_ret
                  exact ⟨rfl, joinB HLB.out B6⟩
              ·
                go_simp
                have B1 : Below WB.heap.size WB (WB.drew.alloc (.cells #[.int .i64 n, .int .i64 mprev, .int .i64 mtxn, .int .i64 mkind, .int .i64 mpage, .int .i64 mnext, .int .i64 mnu, .int .i64 mok, .int .i64 mos, .string moo, .string mon, .int .i64 mhow, .int .i64 mroot, .string mek, .int .i64 mep, .int .i64 mes, .slice MA mts.length mc, .slice MB mds.length md] 49)) := joinB B0 (allocB WB.drew (.cells #[.int .i64 n, .int .i64 mprev, .int .i64 mtxn, .int .i64 mkind, .int .i64 mpage, .int .i64 mnext, .int .i64 mnu, .int .i64 mok, .int .i64 mos, .string moo, .string mon, .int .i64 mhow, .int .i64 mroot, .string mek, .int .i64 mep, .int .i64 mes, .slice MA mts.length mc, .slice MB mds.length md] 49)); have TM1 : (WB.drew.alloc (.cells #[.int .i64 n, .int .i64 mprev, .int .i64 mtxn, .int .i64 mkind, .int .i64 mpage, .int .i64 mnext, .int .i64 mnu, .int .i64 mok, .int .i64 mos, .string moo, .string mon, .int .i64 mhow, .int .i64 mroot, .string mek, .int .i64 mep, .int .i64 mes, .slice MA mts.length mc, .slice MB mds.length md] 49)).heap[WB.heap.size]? = some (.cells #[.int .i64 n, .int .i64 mprev, .int .i64 mtxn, .int .i64 mkind, .int .i64 mpage, .int .i64 mnext, .int .i64 mnu, .int .i64 mok, .int .i64 mos, .string moo, .string mon, .int .i64 mhow, .int .i64 mroot, .string mek, .int .i64 mep, .int .i64 mes, .slice MA mts.length mc, .slice MB mds.length md] 49) := (by (have h := heap_alloc_new WB.drew (.cells #[.int .i64 n, .int .i64 mprev, .int .i64 mtxn, .int .i64 mkind, .int .i64 mpage, .int .i64 mnext, .int .i64 mnu, .int .i64 mok, .int .i64 mos, .string moo, .string mon, .int .i64 mhow, .int .i64 mroot, .string mek, .int .i64 mep, .int .i64 mes, .slice MA mts.length mc, .slice MB mds.length md] 49)); (have e : (WB.drew).heap.size = WB.heap.size := by simp); (try rw [e] at h); exact h)
                try clear hSn
                have hSn := B1
                refine hK.out _ _ ?_ (fun hHeld => ?_)
                · exact hSn
                clear hK K
                try simp only [Act.put, List.setIfInBounds_toArray, List.set_cons_zero, List.set_cons_succ]
                refine wpAnyH_ready (rs := [13]) (by kernel_rfl) (by simp) ?_
                refine (AllReadyH.cons (o := { dst := some 172, op := _, type := _, pos := _, after := _, guard := _ }) rfl (fun K hK => ?_) AllReadyH.nil)
                go_simp
                have B2 : Below WB.heap.size WB ((WB.drew.alloc (.cells #[.int .i64 n, .int .i64 mprev, .int .i64 mtxn, .int .i64 mkind, .int .i64 mpage, .int .i64 mnext, .int .i64 mnu, .int .i64 mok, .int .i64 mos, .string moo, .string mon, .int .i64 mhow, .int .i64 mroot, .string mek, .int .i64 mep, .int .i64 mes, .slice MA mts.length mc, .slice MB mds.length md] 49)).alloc (.cells #[] 49)) := joinB B1 (allocB (WB.drew.alloc (.cells #[.int .i64 n, .int .i64 mprev, .int .i64 mtxn, .int .i64 mkind, .int .i64 mpage, .int .i64 mnext, .int .i64 mnu, .int .i64 mok, .int .i64 mos, .string moo, .string mon, .int .i64 mhow, .int .i64 mroot, .string mek, .int .i64 mep, .int .i64 mes, .slice MA mts.length mc, .slice MB mds.length md] 49)) (.cells #[] 49)); have J2 : ((WB.drew.alloc (.cells #[.int .i64 n, .int .i64 mprev, .int .i64 mtxn, .int .i64 mkind, .int .i64 mpage, .int .i64 mnext, .int .i64 mnu, .int .i64 mok, .int .i64 mos, .string moo, .string mon, .int .i64 mhow, .int .i64 mroot, .string mek, .int .i64 mep, .int .i64 mes, .slice MA mts.length mc, .slice MB mds.length md] 49)).alloc (.cells #[] 49)).ownsRow WB.heap.size 49 18 (.slice (some ⟨WB.heap.size + 1, 0, none⟩) 0 0) 0 [] := (by (have h := ownMono (ownEmpty (WB.drew.alloc (.cells #[.int .i64 n, .int .i64 mprev, .int .i64 mtxn, .int .i64 mkind, .int .i64 mpage, .int .i64 mnext, .int .i64 mnu, .int .i64 mok, .int .i64 mos, .string moo, .string mon, .int .i64 mhow, .int .i64 mroot, .string mek, .int .i64 mep, .int .i64 mes, .slice MA mts.length mc, .slice MB mds.length md] 49)) 49 18) (show WB.heap.size ≤ ((WB.drew.alloc (.cells #[.int .i64 n, .int .i64 mprev, .int .i64 mtxn, .int .i64 mkind, .int .i64 mpage, .int .i64 mnext, .int .i64 mnu, .int .i64 mok, .int .i64 mos, .string moo, .string mon, .int .i64 mhow, .int .i64 mroot, .string mek, .int .i64 mep, .int .i64 mes, .slice MA mts.length mc, .slice MB mds.length md] 49))).heap.size from B1.size)); (have e : ((WB.drew.alloc (.cells #[.int .i64 n, .int .i64 mprev, .int .i64 mtxn, .int .i64 mkind, .int .i64 mpage, .int .i64 mnext, .int .i64 mnu, .int .i64 mok, .int .i64 mos, .string moo, .string mon, .int .i64 mhow, .int .i64 mroot, .string mek, .int .i64 mep, .int .i64 mes, .slice MA mts.length mc, .slice MB mds.length md] 49))).heap.size = WB.heap.size + 1 := by simp); (try rw [e] at h); exact h); have TM2 := blkOld TM1 (allocB (WB.drew.alloc (.cells #[.int .i64 n, .int .i64 mprev, .int .i64 mtxn, .int .i64 mkind, .int .i64 mpage, .int .i64 mnext, .int .i64 mnu, .int .i64 mok, .int .i64 mos, .string moo, .string mon, .int .i64 mhow, .int .i64 mroot, .string mek, .int .i64 mep, .int .i64 mes, .slice MA mts.length mc, .slice MB mds.length md] 49)) (.cells #[] 49))
                try clear hSn
                have hSn := B2
                refine hK.out _ _ ?_ (fun hHeld => ?_)
                · exact hSn
                clear hK K
                try simp only [Act.put, List.setIfInBounds_toArray, List.set_cons_zero, List.set_cons_succ]
                refine wpAnyH_ready (rs := [15]) (by kernel_rfl) (by simp) ?_
                refine (AllReadyH.cons (o := { dst := some 174, op := _, type := _, pos := _, after := _, guard := _ }) rfl (fun K hK => ?_) AllReadyH.nil)
                refine wantedIf (by rfl) ?_
                refine wp_appL _ (.tmp 172) (.tmp 173) 29 49 Try.underlying29 info_rec2 rfl (by omega) (by omega) rfl WB.heap.size (.slice (some ⟨WB.heap.size + 1, 0, none⟩) 0 0) 0 [] rfl J2 A6 kk c6 (qs.flatMap recC) rfl (HVR.out.below B2) hvl hone (by omega) B2.size ?_
                intro vj u3 ho hg hb
                have B3 : Below WB.heap.size WB u3 := B2.trans hb
                have J3 : u3.ownsRow WB.heap.size 49 18 vj kk (qs.flatMap recC) := (by simpa using ho)
                obtain ⟨Aj, cj, rfl⟩ := ownLen J3
                have TM3 := (hg.block _ (heapLt TM2) (by simp [Value.ownBlock])).trans TM2
                try clear hSn
                have hSn := B3
                clear ho hg hb
                refine hK.out _ _ ?_ (fun hHeld => ?_)
                · exact hSn
                clear hK K
                try simp only [Act.put, List.setIfInBounds_toArray, List.set_cons_zero, List.set_cons_succ]
                refine wpAnyH_ready (rs := [18]) (by kernel_rfl) (by simp) ?_
                refine (AllReadyH.cons (o := { dst := some 177, op := _, type := _, pos := _, after := _, guard := _ }) rfl (fun K hK => ?_) AllReadyH.nil)
                refine wantedIf (by rfl) ?_
                refine wp_push _ (.tmp 174) (.tmp 176) 29 49 Try.underlying29 info_rec2 rfl (by omega) (by omega) rfl WB.heap.size _ kk (qs.flatMap recC) rfl J3 _ [.int .i64 n, .int .i64 mprev, .int .i64 mtxn, .int .i64 mkind, .int .i64 mpage, .int .i64 mnext, .int .i64 mnu, .int .i64 mok, .int .i64 mos, .string moo, .string mon, .int .i64 mhow, .int .i64 mroot, .string mek, .int .i64 mep, .int .i64 mes, .slice MA mts.length mc, .slice MB mds.length md] 49 rfl TM3 rfl (by rw [← HMC.out]; exact recC_one mp) (by omega) B3.size ?_
                intro vk u4 ho hg hb
                have B4 : Below WB.heap.size WB u4 := B3.trans hb
                have J4 : u4.ownsRow WB.heap.size 49 18 vk (kk + 1) ((qs ++ [mp]).flatMap recC) := (by rw [List.flatMap_append, List.flatMap_cons, List.flatMap_nil, List.append_nil, HMC.out]; exact ho)
                obtain ⟨Ak, ck, rfl⟩ := ownLen J4
                try clear hSn
                have hSn := B4
                clear ho hg hb
                refine hK.out _ _ ?_ (fun hHeld => ?_)
                · exact hSn
                clear hK K
                try simp only [Act.put, List.setIfInBounds_toArray, List.set_cons_zero, List.set_cons_succ]
                refine wpAnyH_ready (rs := [19]) (by kernel_rfl) (by simp) ?_
                refine (AllReadyH.cons (o := { dst := some 178, op := _, type := _, pos := _, after := _, guard := _ }) rfl (fun K hK => ?_) AllReadyH.nil)
                go_simp
                refine (HRR.out _ Ak ck B4 J4).mono ?_; rintro e u5 ⟨rfl, hbr⟩; have B5 := joinB B4 hbr; clear hbr hSn; have hSn := B5
                refine hK.out _ _ ?_ (fun hHeld => ?_)
                · exact hSn
                clear hK K
                try simp only [Act.put, List.setIfInBounds_toArray, List.set_cons_zero, List.set_cons_succ]
                refine wpAnyH_take (i := 20) (oi := { dst := some 179, op := _, type := _, pos := _, after := _, guard := _ }) (v := ?_) rfl (by kernel_rfl) (by kernel_rfl) (by kernel_rfl) (fun _ _ _ h => h) (Or.inl ⟨by rfl, ?_⟩) (by assumption) ?_
                rotate_left
                · intro u hSu; clear hSu; go_simp; (try with_reducible rfl)
                try simp only [Act.put, List.setIfInBounds_toArray, List.set_cons_zero, List.set_cons_succ]
                refine wpAnyH_take (i := 21) (oi := { dst := some 180, op := _, type := _, pos := _, after := _, guard := _ }) (v := ?_) rfl (by kernel_rfl) (by kernel_rfl) (by kernel_rfl) (fun _ _ _ h => h) (Or.inl ⟨by rfl, ?_⟩) (by assumption) ?_
                rotate_left
                · intro u hSu; clear hSu; go_simp; (try with_reducible rfl)
                try simp only [Act.put, List.setIfInBounds_toArray, List.set_cons_zero, List.set_cons_succ]
                refine wpAnyH_ready (rs := [22]) (by kernel_rfl) (by simp) ?_
                refine (AllReadyH.cons (o := { dst := some 181, op := _, type := _, pos := _, after := _, guard := _ }) rfl (fun K hK => ?_) AllReadyH.nil)
                go_simp
                refine (HAW.out _).mono ?_; rintro e u6 ⟨rfl, hbr⟩; have B6 := joinB B5 hbr; clear hbr hSn; have hSn := B6
                refine hK.out _ _ ?_ (fun hHeld => ?_)
                · exact hSn
                clear hK K
                try simp only [Act.put, List.setIfInBounds_toArray, List.set_cons_zero, List.set_cons_succ]
                refine wpAnyH_take (i := 23) (oi := { dst := some 182, op := _, type := _, pos := _, after := _, guard := _ }) (v := ?_) rfl (by kernel_rfl) (by kernel_rfl) (by kernel_rfl) (fun _ _ _ h => h) (Or.inl ⟨by rfl, ?_⟩) (by assumption) ?_
                rotate_left
                · intro u hSu; clear hSu; go_simp; (try with_reducible rfl)
                try simp only [Act.put, List.setIfInBounds_toArray, List.set_cons_zero, List.set_cons_succ]
                refine wpAnyH_take (i := 24) (oi := { dst := some 8, op := _, type := _, pos := _, after := _, guard := _ }) (v := ?_) rfl (by kernel_rfl) (by kernel_rfl) (by kernel_rfl) (fun _ _ _ h => h) (Or.inl ⟨by rfl, ?_⟩) (by assumption) ?_
                rotate_left
                · intro u hSu; clear hSu; go_simp; (try with_reducible rfl)
                try simp only [Act.put, List.setIfInBounds_toArray, List.set_cons_zero, List.set_cons_succ]
                refine wpAnyH_done (by kernel_rfl) ?_ _
                clear hHeld hSn
                go_wp2_with fail
                go_ret
                exact ⟨rfl, joinB HLB.out B6⟩
            · exact absurd HSL.out hne
end Go.Proofs.Ytojaagnfjenhoaa
