/- The walk over package log: Open. -/
import Derived.Test.YtojaagnfjenhoaaGreatGl09
import Derived.Test.YtojaagnfjenhoaaGreatGl04
import Derived.Test.YtojaagnfjenhoaaGreatGl01
namespace Go.Proofs.YtojaagnfjenhoaaGreat
open Go.RowKit
set_option maxRecDepth 100000 in
set_option maxHeartbeats 8000000 in
theorem open_any (d : Lg.Dk) (hw : ∀ b ∈ d.sectors, b.size ≤ 128) (hdl : d.sectors.length ≤ 7000) (A : Option Addr) (c : Nat) (f0 n0 : Int) (hf1 : -9223372036854775808 ≤ f0) (hf2 : f0 ≤ 9223372036854775807) (hn : n0 ≤ 100000) (w : World) (h : DiskR w d A c) :
    Calls Tryz.prog 16 #[diskV d A c, .int .i64 f0, .int .i64 n0] w (OpenOut (Lg.openD d f0 n0) w) := by
  have HS := Lib.hid (fun W (hb : Below w.heap.size w W) => sectors_any d (fun b hb => Nat.le_trans (hw b hb) (by omega)) A c f0 n0 hf1 hf2 hn W (h.below hb))
  have hlen := @Lg.secs_len d hw n0.toNat f0
  have HO := Lib.hid (fun ps v w' x (hx : Lg.openD d f0 n0 = x) (h1 : ps.map (·.r) = x.2.1) (h2 : OwnL recC 18 42 w.heap.size w' v ps) (h3 : RecsN w.heap.size w' ps) (h4 : Below w.heap.size w w') => show OpenOut (Lg.openD d f0 n0) w (.returned (.tuple #[logV x.1, v, .int .i64 x.2.2])) w' from ⟨ps, v, by rw [hx]; exact h1, by rw [hx], h2, h3, h4⟩)
  have hdef : Lg.openD d f0 n0 = Lg.openD d f0 n0 := rfl
  conv at hdef => rhs; unfold Lg.openD
  have hne := @Lg.secs_fault d n0.toNat f0
  generalize Lg.openD d f0 n0 = o at HO hdef ⊢
  generalize OpenOut o w = Q at HO ⊢
  clear h hw
  cases hs : Lg.secsD d f0 n0.toNat with
  | error e =>
    rw [hs] at HS hdef
    have he := hne hs
    simp only at hdef
    have HDEF := Lib.hid hdef
    have he1 : (e == 0) = false := by simpa using he
    have he2 : (e != 0) = true := by simpa using he
    clear hdef hne hlen hs he hn hf1 hf2 hdl
    go_enter Tryz.func16, Tryz.ntmps16
    go_upto_region 1 with fail
    have H0 := Lib.hid (show BxL w.heap.size w [(#[.slice A d.sectors.length c, .int .i64 d.left, .bool d.down], 26), (#[.int .i64 0, .int .i64 0, .int .i64 0, .int .i64 0, .string ⟨#[]⟩], 31)] ((w.alloc (.cells #[.slice A d.sectors.length c, .int .i64 d.left, .bool d.down] 26)).alloc (.cells #[.int .i64 0, .int .i64 0, .int .i64 0, .int .i64 0, .string ⟨#[]⟩] 31)) from ((BxL.nil (Below.refl w.heap.size w)).new (by simp) #[.slice A d.sectors.length c, .int .i64 d.left, .bool d.down] 26).new (by simp) #[.int .i64 0, .int .i64 0, .int .i64 0, .int .i64 0, .string ⟨#[]⟩] 31)
    obtain ⟨W0, hW0⟩ : ∃ W, W = ((w.alloc (.cells #[.slice A d.sectors.length c, .int .i64 d.left, .bool d.down] 26)).alloc (.cells #[.int .i64 0, .int .i64 0, .int .i64 0, .int .i64 0, .string ⟨#[]⟩] 31)) := ⟨_, rfl⟩
    rw [← hW0] at H0 ⊢
    clear hW0
    dsimp only [diskV] at HS
    go_wp2_with (first
      | (with_reducible refine listLoad (by kernel_rfl) 26 (.tmp 3) rfl w.heap.size rfl #[.slice A d.sectors.length c, .int .i64 d.left, .bool d.down] _ H0.out.get0 _ Tryz.underlying26 (by kernel_rfl) (by kernel_rfl) ?_)
      | (go_at_call 32; (with_reducible refine (HS.out _ H0.out.below).mono ?_); rintro e1 w1 ⟨hb1, rfl⟩; (try dsimp only [secV]); have H1 := Lib.hid (H0.out.step hb1); clear hb1)
      | (with_reducible refine listStore (by kernel_rfl) 31 (.tmp 6) (.tmp 26) rfl (w.heap.size + 1) #[.int .i64 0, .int .i64 0, .int .i64 0, .int .i64 0, .string ⟨#[]⟩] _ _ rfl rfl H1.out.get1 (by kernel_rfl) (by kernel_rfl) (by kernel_rfl) ?_))
    refine bodyPost_ret (v := .tuple #[.agg #[.int .i64 0, .int .i64 0, .int .i64 0, .int .i64 0, .string ⟨#[]⟩], .slice none 0 0, .int .i64 e]) (results_cell3 rfl _ _ rfl (load_whole (setRow_heap _ _ _ _ _ _ H1.out.get1) Tryz.underlying31 (by kernel_rfl) (by kernel_rfl)) rfl rfl) rfl ?_
    exact HO.out [] _ _ (Lg.noLog, [], e) HDEF.out rfl (ownNil _ _ _ _) (RecsN.nil _ _) ((H1.out.row 1 _ _ rfl).below)
  | ok L =>
    rw [hs] at HS hdef
    simp only at hdef
    have hl2 := hlen hs
    have hLl : L.length ≤ 1000000 := by
      rcases hl2.2 with h0 | h0
      · have := hl2.1; rw [h0] at this; omega
      · have := hl2.1
        have h3 : n0.toNat ≤ 7000 := by omega
        omega
    have HDEF := Lib.hid hdef
    clear hdef hne hlen hs hn hf1 hf2 hdl hl2
    obtain ⟨S, hS⟩ : ∃ S : ByteArray, S = ⟨L.toArray⟩ := ⟨_, rfl⟩
    have hSl : S.data.toList = L := by rw [hS]
    have hSs : S.size = L.length := by rw [← hSl]; simp
    have hSm : S.size ≤ 1000000 := by omega
    have HG := Lib.hid (fun a W => get_rec S a hSm W)
    rw [hSl] at HG
    have HSV : Hid (secV (.ok L) = .tuple #[.string S, .int .i64 0]) := Lib.hid (by rw [hS]; rfl)
    have HSL := Lib.hid hSl
    have HTL := Lib.hid (fun k m (hk : k ≤ S.size) (hm : m ≤ k) => show (⟨((L.take k).drop (k - m)).toArray⟩ : ByteArray) = S.extract (k - m) k from by
      rw [← HSL.out]
      apply ByteArray.ext
      rw [ByteArray.data_extract]
      apply Array.toList_inj.1
      rw [Array.toList_extract, List.extract_eq_take_drop, List.drop_take])
    rw [← hSs] at HDEF
    clear hS hSl hLl hSs
    go_enter Tryz.func16, Tryz.ntmps16
    go_upto_region 1 with fail
    have H0 := Lib.hid (show BxL w.heap.size w [(#[.slice A d.sectors.length c, .int .i64 d.left, .bool d.down], 26), (#[.int .i64 0, .int .i64 0, .int .i64 0, .int .i64 0, .string ⟨#[]⟩], 31)] ((w.alloc (.cells #[.slice A d.sectors.length c, .int .i64 d.left, .bool d.down] 26)).alloc (.cells #[.int .i64 0, .int .i64 0, .int .i64 0, .int .i64 0, .string ⟨#[]⟩] 31)) from ((BxL.nil (Below.refl w.heap.size w)).new (by simp) #[.slice A d.sectors.length c, .int .i64 d.left, .bool d.down] 26).new (by simp) #[.int .i64 0, .int .i64 0, .int .i64 0, .int .i64 0, .string ⟨#[]⟩] 31)
    obtain ⟨W0, hW0⟩ : ∃ W, W = ((w.alloc (.cells #[.slice A d.sectors.length c, .int .i64 d.left, .bool d.down] 26)).alloc (.cells #[.int .i64 0, .int .i64 0, .int .i64 0, .int .i64 0, .string ⟨#[]⟩] 31)) := ⟨_, rfl⟩
    rw [← hW0] at H0 ⊢
    clear hW0
    dsimp only [diskV] at HS
    go_upto_block 0 with (first
      | (with_reducible refine listLoad (by kernel_rfl) 26 (.tmp 3) rfl w.heap.size rfl #[.slice A d.sectors.length c, .int .i64 d.left, .bool d.down] _ H0.out.get0 _ Tryz.underlying26 (by kernel_rfl) (by kernel_rfl) ?_)
      | (go_at_call 32; (with_reducible refine (HS.out _ H0.out.below).mono ?_); rintro e1 w1 ⟨hb1, rfl⟩; rw [HSV.out]; have H1 := Lib.hid (H0.out.step hb1); clear hb1))
    clear H0 HS HSV
    go_cut [11, 12] (fun v a wc => ∃ (ps : List PRec) (k : Nat), a = .int .i64 (k : Int) ∧ k ≤ S.size ∧ Lg.openL L (S.size + 1) 0 = (ps.map (·.r), k) ∧ BxL w.heap.size w [(#[.slice A d.sectors.length c, .int .i64 d.left, .bool d.down], 26), (#[.int .i64 0, .int .i64 0, .int .i64 0, .int .i64 0, .string ⟨#[]⟩], 31)] wc ∧ OwnL recC 18 42 (w.heap.size + 2) wc v ps ∧ RecsN (w.heap.size + 2) wc ps)
    case first =>
      go_wp2_with fail
      go_loopw [11, 12] (fun v a wr => ∃ (ps : List PRec) (k f : Nat), a = .int .i64 (k : Int) ∧ k ≤ S.size ∧ S.size + 1 ≤ f + k ∧ ps.length ≤ k ∧ Lg.openL L (S.size + 1) 0 = (ps.map (·.r) ++ (Lg.openL L f k).1, (Lg.openL L f k).2) ∧ BxL w.heap.size w [(#[.slice A d.sectors.length c, .int .i64 d.left, .bool d.down], 26), (#[.int .i64 0, .int .i64 0, .int .i64 0, .int .i64 0, .string ⟨#[]⟩], 31)] wr ∧ OwnL recC 18 42 (w.heap.size + 2) wr v ps ∧ RecsN (w.heap.size + 2) wr ps) (fun _ a _ => S.size - (intOf a).toNat)
      case atStart => exact ⟨[], 0, S.size + 1, rfl, Nat.zero_le _, Nat.le_refl _, Nat.le_refl _, rfl, H1.out, ownNil _ _ _ _, RecsN.nil _ _⟩
      case round =>
        obtain ⟨ps, k, f, rfl, hk, hf, hpk, hop, hbx, hown, hrs⟩ := hrel
        obtain ⟨f, rfl⟩ : ∃ g, f = g + 1 := ⟨f - 1, by omega⟩
        have HOP := Lib.hid hop
        have HB := Lib.hid hbx
        have HRS := Lib.hid hrs
        obtain ⟨A8, c8, rfl⟩ := ownLen hown
        have HOW := Lib.hid hown
        clear hop hbx hrs hown H1
        have hGk := HG.out k
        have hGN := @Lg.openL_none L f k
        have hGS := @Lg.openL_stop L f k
        have hGG := @Lg.openL_go L f k
        have hGI := @Lg.getO_some L k
        rw [show L.length = S.size by rw [← HSL.out]; simp] at hGI
        cases hg : Lg.getO L k with
        | none =>
          rw [hg] at hGk
          have HGk := Lib.hid hGk
          have HX := Lib.hid (HOP.out.trans (by rw [hGN hg, List.append_nil]))
          clear hGk hGN hGS hGG hGI hg
          go_wp2_with (first
            | (go_at_call 33; (with_reducible refine (HGk.out _).mono ?_); rintro e w2 ⟨hb2, kk, hkk, rfl⟩; have he1 : (kk == 0) = false := (by simpa using hkk); have he2 : (kk != 0) = true := (by simpa using hkk); clear hkk)
            | (with_reducible refine wpList_store_new rfl 42 (.tmp 13) (.tmp 32) rfl (rcA 0 0 0 0 0 0 0 0 0 ⟨#[]⟩ ⟨#[]⟩ 0 0 ⟨#[]⟩ 0 0 (.slice none 0 0) (.slice none 0 0)) _ _ rfl (by kernel_rfl) (by kernel_rfl) (by kernel_rfl) (by kernel_rfl) ?_))
          go_meet
          case rel => exact ⟨ps, k, rfl, hk, HX.out, HB.out.step (pastAlloc hb2), ownBelow HOW.out (pastAlloc hb2), HRS.out.below (pastAlloc hb2)⟩
        | some rb =>
          obtain ⟨r, b⟩ := rb
          rw [hg] at hGk
          have HGk := Lib.hid hGk
          obtain ⟨_, hb8, hbs⟩ := hGI hg
          by_cases hl : r.lsn = (k : Int) + 1
          · have HX := Lib.hid (HOP.out.trans (by rw [hGG hg hl]))
            clear hGk hGN hGS hGG hGI hg
            obtain ⟨lsn, prev, txn, kind, page, next, nu, ⟨ok, os, oo, on⟩, how, root, ⟨ek, ep, es⟩, ts, ds⟩ := r
            simp only at hl
            subst hl
            have hwk : IntKind.i64.wrap ((k : Int) + 1) = (k : Int) + 1 := IntWalk.i64_in _ (by omega)
            have hself : (((k : Int) + 1) != ((k : Int) + 1)) = false := by simp
            go_upto_region 8 with (first
              | (go_at_call 33; (with_reducible refine (HGk.out _).mono ?_); rintro e w2 ⟨hb2, A1, c1, D1, d1, rfl, hrr⟩; (try dsimp only [recV, recA]); have hx2 := blkCell (heap_alloc_new w2 (.cells (rcA ((k : Int) + 1) prev txn kind page next nu ok os oo on how root ek ep es (.slice A1 ts.length c1) (.slice D1 ds.length d1)) 42)); simp at hx2)
              | (with_reducible refine wpList_store_new rfl 42 (.tmp 13) (.tmp 32) rfl (rcA ((k : Int) + 1) prev txn kind page next nu ok os oo on how root ek ep es (.slice A1 ts.length c1) (.slice D1 ds.length d1)) _ _ rfl (by kernel_rfl) (by kernel_rfl) (by kernel_rfl) (by kernel_rfl) ?_))
            have HX2 := Lib.hid (heap_alloc_new w2 (.cells (rcA ((k : Int) + 1) prev txn kind page next nu ok os oo on how root ek ep es (.slice A1 ts.length c1) (.slice D1 ds.length d1)) 42))
            have HB2 := Lib.hid (HB.out.step (pastAlloc (o := .cells (rcA ((k : Int) + 1) prev txn kind page next nu ok os oo on how root ek ep es (.slice A1 ts.length c1) (.slice D1 ds.length d1)) 42) hb2))
            have HO2 := Lib.hid (ownBelow HOW.out (pastAlloc (o := .cells (rcA ((k : Int) + 1) prev txn kind page next nu ok os oo on how root ek ep es (.slice A1 ts.length c1) (.slice D1 ds.length d1)) 42) hb2))
            have HR2 := Lib.hid ((HRS.out.below (pastAlloc (o := .cells (rcA ((k : Int) + 1) prev txn kind page next nu ok os oo on how root ek ep es (.slice A1 ts.length c1) (.slice D1 ds.length d1)) 42) hb2)).push (p := ⟨⟨(k : Int) + 1, prev, txn, kind, page, next, nu, ⟨ok, os, oo, on⟩, how, root, ⟨ek, ep, es⟩, ts, ds⟩, A1, c1, D1, d1⟩) ((hrr.mono (by have h1 := HB.out.lt (i := 1) (by simp); omega)).below (allocB w2 _)))
            obtain ⟨g, hge⟩ : ∃ g, g = w2.heap.size := ⟨_, rfl⟩
            obtain ⟨w3, hw3⟩ : ∃ W, W = w2.alloc (.cells (rcA ((k : Int) + 1) prev txn kind page next nu ok os oo on how root ek ep es (.slice A1 ts.length c1) (.slice D1 ds.length d1)) 42) := ⟨_, rfl⟩
            rw [← hge, ← hw3] at HX2
            rw [← hw3] at HB2 HO2 HR2
            try rw [← hge]
            try rw [← hw3]
            clear hge hw3 hx2 hb2 hrr HOW HRS HB HGk hself
            have hll : ps.length + 1 ≤ 1048576 := by omega
            go_wp2_with (first
              | (with_reducible refine listLoad (by kernel_rfl) 42 (.tmp 13) rfl g rfl (rcA ((k : Int) + 1) prev txn kind page next nu ok os oo on how root ek ep es (.slice A1 ts.length c1) (.slice D1 ds.length d1)) _ HX2.out _ Tryz.underlying42 (by kernel_rfl) (by kernel_rfl) ?_)
              | (at_builtin; refine wpList_push (by kernel_rfl) (.tmp 44) (.tmp 46) 45 42 Tryz.underlying45 info_rec2 rfl (by omega) (by omega) rfl (w.heap.size + 2) _ ps.length (ps.flatMap recC) rfl (ownBelow HO2.out (allocB _ _)) w3.heap.size (recC ⟨⟨(k : Int) + 1, prev, txn, kind, page, next, nu, ⟨ok, os, oo, on⟩, how, root, ⟨ek, ep, es⟩, ts, ds⟩, A1, c1, D1, d1⟩) 42 rfl (heap_alloc_new w3 _) rfl (recC_one _) hll (by have := HB2.out.lt (i := 1) (by simp); simp; omega) ?_; intro v7 w7 ho hg hb; have hR7 := fun q hq => ((HR2.out.below (allocB w3 (.cells (rcA ((k : Int) + 1) prev txn kind page next nu ok os oo on how root ek ep es (.slice A1 ts.length c1) (.slice D1 ds.length d1)) 42))) q hq).grown (ownBelow HO2.out (allocB w3 (.cells (rcA ((k : Int) + 1) prev txn kind page next nu ok os oo on how root ek ep es (.slice A1 ts.length c1) (.slice D1 ds.length d1)) 42))) (by decide) (by decide) hg; have HB7 := Lib.hid ((HB2.out.step (allocB w3 (.cells (rcA ((k : Int) + 1) prev txn kind page next nu ok os oo on how root ek ep es (.slice A1 ts.length c1) (.slice D1 ds.length d1)) 42))).under (M := w.heap.size + 2) (Nat.le_refl _) hb); have HO7 := Lib.hid (OwnL.push (enc := recC) ho); have HR7 := Lib.hid hR7; clear ho hg hb hR7))
            go_roundw
            case rel => exact ⟨_, b, f, rfl, hbs, by omega, by rw [List.length_append, List.length_singleton]; omega, by rw [HX.out, List.map_append, List.append_assoc]; rfl, HB7.out, HO7.out, HR7.out⟩
            case measure => simp [intOf]; omega
          · have HX := Lib.hid (HOP.out.trans (by rw [hGS hg hl, List.append_nil]))
            clear hGk hGN hGS hGG hGI hg
            obtain ⟨lsn, prev, txn, kind, page, next, nu, ⟨ok, os, oo, on⟩, how, root, ⟨ek, ep, es⟩, ts, ds⟩ := r
            simp only at hl
            have hwk : IntKind.i64.wrap ((k : Int) + 1) = (k : Int) + 1 := IntWalk.i64_in _ (by omega)
            have hl1 : (lsn == ((k : Int) + 1)) = false := by simpa using hl
            have hl2 : (lsn != ((k : Int) + 1)) = true := by simpa using hl
            clear hl
            go_wp2_with (first
              | (go_at_call 33; (with_reducible refine (HGk.out _).mono ?_); rintro e w2 ⟨hb2, A1, c1, D1, d1, rfl, hrr⟩; (try dsimp only [recV, recA]); have hx2 := blkCell (heap_alloc_new w2 (.cells (rcA lsn prev txn kind page next nu ok os oo on how root ek ep es (.slice A1 ts.length c1) (.slice D1 ds.length d1)) 42)); simp at hx2)
              | (with_reducible refine wpList_store_new rfl 42 (.tmp 13) (.tmp 32) rfl (rcA lsn prev txn kind page next nu ok os oo on how root ek ep es (.slice A1 ts.length c1) (.slice D1 ds.length d1)) _ _ rfl (by kernel_rfl) (by kernel_rfl) (by kernel_rfl) (by kernel_rfl) ?_))
            go_meet
            case rel => exact ⟨ps, k, rfl, hk, HX.out, HB.out.step (pastAlloc hb2), ownBelow HOW.out (pastAlloc hb2), HRS.out.below (pastAlloc hb2)⟩
    case rest =>
      obtain ⟨ps, k, rfl, hk, hop, hbx, hown, hrs⟩ := hcut
      obtain ⟨wb, rfl⟩ : ∃ wm : World, wm = wc := ⟨_, rfl⟩
      obtain ⟨A8, c8, rfl⟩ := ownLen hown
      have HB2 := Lib.hid hbx
      have HO2 := Lib.hid hown
      have HR2 := Lib.hid hrs
      obtain ⟨m, hm⟩ : ∃ m : Nat, m = k % 128 := ⟨_, rfl⟩
      have hmI : (k : Int) % 128 = (m : Int) := by omega
      have hwm : IntKind.i64.wrap ((k : Int) - (m : Int)) = (k : Int) - (m : Int) := IntWalk.i64_in _ (by omega)
      have hm1 : (0 : Int) ≤ (k : Int) - (m : Int) := by omega
      have hm2 : (k : Int) - (m : Int) ≤ (k : Int) := by omega
      have hm3 : (k : Int) ≤ (S.size : Int) := by omega
      have hm4 : ((k : Int) - (m : Int)).toNat = k - m := by omega
      have HFIN := Lib.hid (show o = (⟨f0, n0, (k : Int), (k : Int), S.extract (k - m) k⟩, ps.map (·.r), 0) from by
        rw [HDEF.out, hop]
        simp only
        rw [← hm, HTL.out k m hk (by omega)])
      clear hop hbx hown hrs H1 HDEF HTL HG HSL hm
      have HNW := Lib.hid (fun W => lnew_any f0 n0 W)
      dsimp only [logV] at HNW
      go_upto_region 11 with (first
        | (go_at_call 6; (with_reducible refine (HNW.out _).mono ?_); rintro e w4 ⟨rfl, hb4⟩)
        | (with_reducible refine wpList_store_new rfl 31 (.tmp 16) (.tmp 51) rfl #[.int .i64 f0, .int .i64 n0, .int .i64 0, .int .i64 0, .string ⟨#[]⟩] _ _ rfl (by kernel_rfl) (by kernel_rfl) (by kernel_rfl) (by kernel_rfl) ?_))
      have HL5 := Lib.hid (heap_alloc_new w4 (.cells #[.int .i64 f0, .int .i64 n0, .int .i64 0, .int .i64 0, .string ⟨#[]⟩] 31))
      have HB5 := Lib.hid (HB2.out.step (pastAlloc (o := .cells #[.int .i64 f0, .int .i64 n0, .int .i64 0, .int .i64 0, .string ⟨#[]⟩] 31) hb4))
      have HO5 := Lib.hid (ownBelow HO2.out (pastAlloc (o := .cells #[.int .i64 f0, .int .i64 n0, .int .i64 0, .int .i64 0, .string ⟨#[]⟩] 31) hb4))
      have HR5 := Lib.hid (HR2.out.below (pastAlloc (o := .cells #[.int .i64 f0, .int .i64 n0, .int .i64 0, .int .i64 0, .string ⟨#[]⟩] 31) hb4))
      have hg4 : w.heap.size + 2 ≤ w4.heap.size := by have h1 := HB2.out.lt (i := 1) (by simp); have := hb4.size; omega
      obtain ⟨g, hge⟩ : ∃ g, g = w4.heap.size := ⟨_, rfl⟩
      obtain ⟨w5, hw5⟩ : ∃ W, W = w4.alloc (.cells #[.int .i64 f0, .int .i64 n0, .int .i64 0, .int .i64 0, .string ⟨#[]⟩] 31) := ⟨_, rfl⟩
      rw [← hge, ← hw5] at HL5
      rw [← hw5] at HB5 HO5 HR5 ⊢
      rw [← hge] at hg4 ⊢
      clear hge hw5 hb4 HB2 HO2 HR2 HNW
      have hcl := blkCell HL5.out
      have hzl := blkFrozen HL5.out
      go_upto_region 12 with fail
      have HL6 := Lib.hid (show ((w5.setCell ⟨g, 2, none⟩ (.int .i64 (k : Int))).setCell ⟨g, 3, none⟩ (.int .i64 (k : Int))).heap[g]? = some (.cells #[.int .i64 f0, .int .i64 n0, .int .i64 (k : Int), .int .i64 (k : Int), .string ⟨#[]⟩] 31 (0, 0)) from by have h := blkSet 3 (blkSet 2 HL5.out (.int .i64 (k : Int))) (.int .i64 (k : Int)); simpa using h)
      have hcl6 := blkCell HL6.out
      have hzl6 := blkFrozen HL6.out
      clear hcl hzl
      go_upto_region 13 with fail
      have HL7 := Lib.hid (show (((w5.setCell ⟨g, 2, none⟩ (.int .i64 (k : Int))).setCell ⟨g, 3, none⟩ (.int .i64 (k : Int))).setCell ⟨g, 4, none⟩ (.string (S.extract (k - m) k))).heap[g]? = some (.cells #[.int .i64 f0, .int .i64 n0, .int .i64 (k : Int), .int .i64 (k : Int), .string (S.extract (k - m) k)] 31 (0, 0)) from by have h := blkSet 4 HL6.out (.string (S.extract (k - m) k)); simpa using h)
      have HAP := Lib.hid ((((Apart.refl g (g + 1) w5).cell g 2 (.int .i64 (k : Int)) (Nat.le_refl _) (Nat.lt_succ_self _)).cell g 3 (.int .i64 (k : Int)) (Nat.le_refl _) (Nat.lt_succ_self _)).cell g 4 (.string (S.extract (k - m) k)) (Nat.le_refl _) (Nat.lt_succ_self _))
      have HBE := Lib.hid (show Below g w5 (((w5.setCell ⟨g, 2, none⟩ (.int .i64 (k : Int))).setCell ⟨g, 3, none⟩ (.int .i64 (k : Int))).setCell ⟨g, 4, none⟩ (.string (S.extract (k - m) k))) from (((Below.refl g w5).setCell (p := ⟨g, 2, none⟩) (Nat.le_refl _) _).setCell (p := ⟨g, 3, none⟩) (Nat.le_refl _) _).setCell (p := ⟨g, 4, none⟩) (Nat.le_refl _) _)
      have HB7 := Lib.hid (HB5.out.under (M := g) (by show w.heap.size + 2 ≤ g; exact hg4) HBE.out)
      have HO7 := Lib.hid (ownSetOther HO5.out HL5.out (by decide) HAP.out)
      have HR7 := Lib.hid (show RecsN (w.heap.size + 2) _ ps from fun p hp => (HR5.out p hp).turn HAP.out.size (fun j cs T fr hj hjc hT => HAP.out.block j (heapLt hjc) (by
        rcases Nat.lt_trichotomy j g with h1 | h1 | h1
        · exact .inl h1
        · exfalso
          subst h1
          rw [HL5.out] at hjc
          injection hjc with hjc
          injection hjc with _ hjc
          rcases hT with h3 | h3
          · rw [h3] at hjc; exact absurd hjc (by decide)
          · rw [h3] at hjc; exact absurd hjc (by decide)
        · exact .inr h1)))
      generalize (((w5.setCell ⟨g, 2, none⟩ (.int .i64 (k : Int))).setCell ⟨g, 3, none⟩ (.int .i64 (k : Int))).setCell ⟨g, 4, none⟩ (.string (S.extract (k - m) k))) = w7 at HL7 HB7 HO7 HR7 ⊢
      clear HL5 HL6 HAP HBE HB5 HO5 HR5 hcl6 hzl6
      go_wp2_with (first
        | (with_reducible refine listLoad (by kernel_rfl) 31 (.tmp 16) rfl g rfl #[.int .i64 f0, .int .i64 n0, .int .i64 (k : Int), .int .i64 (k : Int), .string (S.extract (k - m) k)] _ HL7.out _ Tryz.underlying31 (by kernel_rfl) (by kernel_rfl) ?_)
        | (with_reducible refine listStore (by kernel_rfl) 31 (.tmp 6) (.tmp 64) rfl (w.heap.size + 1) #[.int .i64 f0, .int .i64 n0, .int .i64 (k : Int), .int .i64 (k : Int), .string (S.extract (k - m) k)] _ _ rfl rfl HB7.out.get1 (by kernel_rfl) (by kernel_rfl) (by kernel_rfl) ?_))
      refine bodyPost_ret (v := .tuple #[.agg #[.int .i64 f0, .int .i64 n0, .int .i64 (k : Int), .int .i64 (k : Int), .string (S.extract (k - m) k)], .slice A8 ps.length c8, .int .i64 0]) (results_cell3 rfl _ _ rfl (load_whole (setRow_heap _ _ _ _ _ _ HB7.out.get1) Tryz.underlying31 (by kernel_rfl) (by kernel_rfl)) rfl rfl) rfl ?_
      exact HO.out ps _ _ (⟨f0, n0, (k : Int), (k : Int), S.extract (k - m) k⟩, ps.map (·.r), 0) HFIN.out rfl (ownMono (ownRowOff HO7.out _ _ (by omega)) (by omega)) (fun p hp => ((HR7.out p hp).row _ _ (by omega)).mono (by omega)) ((HB7.out.row 1 _ _ rfl).below)
end Go.Proofs.YtojaagnfjenhoaaGreat
/- The walk over package log: Read. -/
namespace Go.Proofs.YtojaagnfjenhoaaGreat
open Go.RowKit
/-- What Read answers. -/
def ReadOut (x : Except Int Rc.Rec) (w : World) (e : Ending) (w' : World) : Prop :=
  Below w.heap.size w w' ∧ match x with
  | .ok r => ∃ A c B d, e = .returned (.tuple #[recV r (.slice A r.txns.length c) (.slice B r.dirty.length d), .int .i64 0]) ∧ RecN w.heap.size w' r A c B d
  | .error k => e = .returned (.tuple #[.agg zeroA, .int .i64 k])
theorem read_err {x : Except Int Rc.Rec} {k : Int} (h : x = .error k) {w w' : World} (hb : Below w.heap.size w w') {e : Ending} (he : e = .returned (.tuple #[.agg zeroA, .int .i64 k])) : ReadOut x w e w' := by
  subst h; exact ⟨hb, he⟩
set_option maxRecDepth 100000 in
set_option maxHeartbeats 8000000 in
theorem logread_any (d : Lg.Dk) (hw : ∀ b ∈ d.sectors, b.size ≤ 128) (hdl : d.sectors.length ≤ 7000) (A : Option Addr) (c : Nat) (fr n en sf : Int) (tl : ByteArray) (he0 : 0 ≤ en) (he1 : en ≤ 10000000) (hf0 : -1000000000 ≤ fr) (hf1 : fr ≤ 1000000000) (ht : tl.size ≤ 100000) (hte : (tl.size : Int) ≤ en) (lsn : Int) (w : World) (h : DiskR w d A c) :
    Calls Tryz.prog 12 #[diskV d A c, .agg #[.int .i64 fr, .int .i64 n, .int .i64 en, .int .i64 sf, .string tl], .int .i64 lsn] w (ReadOut (Lg.readL d ⟨fr, n, en, sf, tl⟩ lsn) w) := by
  have HO := Lib.hid (fun k (hk : Lg.readL d ⟨fr, n, en, sf, tl⟩ lsn = .error k) w' (hb : Below w.heap.size w w') (e : Ending) (he : e = .returned (.tuple #[.agg zeroA, .int .i64 k])) => read_err (e := e) hk hb he)
  have HOK := Lib.hid (fun r (hk : Lg.readL d ⟨fr, n, en, sf, tl⟩ lsn = .ok r) w' (hb : Below w.heap.size w w') A1 c1 D1 d1 (hr : RecN w.heap.size w' r A1 c1 D1 d1) => show ReadOut (Lg.readL d ⟨fr, n, en, sf, tl⟩ lsn) w (.returned (.tuple #[recV r (.slice A1 r.txns.length c1) (.slice D1 r.dirty.length d1), .int .i64 0])) w' from by
    rw [hk]; exact ⟨hb, A1, c1, D1, d1, rfl, hr⟩)
  have hdef : Lg.readL d ⟨fr, n, en, sf, tl⟩ lsn = Lg.readL d ⟨fr, n, en, sf, tl⟩ lsn := rfl
  conv at hdef => rhs; unfold Lg.readL
  generalize Lg.readL d ⟨fr, n, en, sf, tl⟩ lsn = o at HO HOK hdef ⊢
  generalize ReadOut o w = Q at HO HOK ⊢
  by_cases hin : lsn < 1 ∨ en < lsn
  · rw [if_pos hin] at hdef
    have HDEF := Lib.hid hdef
    clear hdef h hw
    by_cases h1 : lsn < 1
    · clear hin
      go_enter Tryz.func12, Tryz.ntmps12
      go_upto_region 1 with fail
      have H0 := Lib.hid (show BxL w.heap.size w [(#[.slice A d.sectors.length c, .int .i64 d.left, .bool d.down], 26), (#[.int .i64 fr, .int .i64 n, .int .i64 en, .int .i64 sf, .string tl], 31), ((rcA 0 0 0 0 0 0 0 0 0 ⟨#[]⟩ ⟨#[]⟩ 0 0 ⟨#[]⟩ 0 0 (.slice none 0 0) (.slice none 0 0)), 42)] (((w.alloc (.cells #[.slice A d.sectors.length c, .int .i64 d.left, .bool d.down] 26)).alloc (.cells #[.int .i64 fr, .int .i64 n, .int .i64 en, .int .i64 sf, .string tl] 31)).alloc (.cells (rcA 0 0 0 0 0 0 0 0 0 ⟨#[]⟩ ⟨#[]⟩ 0 0 ⟨#[]⟩ 0 0 (.slice none 0 0) (.slice none 0 0)) 42)) from (((BxL.nil (Below.refl w.heap.size w)).new (by simp) #[.slice A d.sectors.length c, .int .i64 d.left, .bool d.down] 26).new (by simp) #[.int .i64 fr, .int .i64 n, .int .i64 en, .int .i64 sf, .string tl] 31).new (by simp) (rcA 0 0 0 0 0 0 0 0 0 ⟨#[]⟩ ⟨#[]⟩ 0 0 ⟨#[]⟩ 0 0 (.slice none 0 0) (.slice none 0 0)) 42)
      obtain ⟨W0, hW0⟩ : ∃ W, W = (((w.alloc (.cells #[.slice A d.sectors.length c, .int .i64 d.left, .bool d.down] 26)).alloc (.cells #[.int .i64 fr, .int .i64 n, .int .i64 en, .int .i64 sf, .string tl] 31)).alloc (.cells (rcA 0 0 0 0 0 0 0 0 0 ⟨#[]⟩ ⟨#[]⟩ 0 0 ⟨#[]⟩ 0 0 (.slice none 0 0) (.slice none 0 0)) 42)) := ⟨_, rfl⟩
      rw [← hW0] at H0 ⊢
      clear hW0
      have hc0 := blkCell H0.out.get1
      go_wp2_with (first | (with_reducible refine listStore (by kernel_rfl) 42 (.tmp 6) (.tmp 23) rfl (w.heap.size + 2) (rcA 0 0 0 0 0 0 0 0 0 ⟨#[]⟩ ⟨#[]⟩ 0 0 ⟨#[]⟩ 0 0 (.slice none 0 0) (.slice none 0 0)) _ _ rfl rfl H0.out.get2 (by kernel_rfl) (by kernel_rfl) (by kernel_rfl) ?_))
      refine bodyPost_ret (v := .tuple #[.agg (rcA 0 0 0 0 0 0 0 0 0 ⟨#[]⟩ ⟨#[]⟩ 0 0 ⟨#[]⟩ 0 0 (.slice none 0 0) (.slice none 0 0)), .int .i64 21]) (results_cell2 rfl _ _ rfl (load_whole (setRow_heap _ _ _ _ _ _ H0.out.get2) Tryz.underlying42 (by kernel_rfl) (by kernel_rfl)) rfl) rfl ?_
      exact HO.out _ HDEF.out _ ((H0.out.row 2 _ _ rfl).below) _ rfl
    · have h2 : en < lsn := by omega
      clear hin
      go_enter Tryz.func12, Tryz.ntmps12
      go_upto_region 1 with fail
      have H0 := Lib.hid (show BxL w.heap.size w [(#[.slice A d.sectors.length c, .int .i64 d.left, .bool d.down], 26), (#[.int .i64 fr, .int .i64 n, .int .i64 en, .int .i64 sf, .string tl], 31), ((rcA 0 0 0 0 0 0 0 0 0 ⟨#[]⟩ ⟨#[]⟩ 0 0 ⟨#[]⟩ 0 0 (.slice none 0 0) (.slice none 0 0)), 42)] (((w.alloc (.cells #[.slice A d.sectors.length c, .int .i64 d.left, .bool d.down] 26)).alloc (.cells #[.int .i64 fr, .int .i64 n, .int .i64 en, .int .i64 sf, .string tl] 31)).alloc (.cells (rcA 0 0 0 0 0 0 0 0 0 ⟨#[]⟩ ⟨#[]⟩ 0 0 ⟨#[]⟩ 0 0 (.slice none 0 0) (.slice none 0 0)) 42)) from (((BxL.nil (Below.refl w.heap.size w)).new (by simp) #[.slice A d.sectors.length c, .int .i64 d.left, .bool d.down] 26).new (by simp) #[.int .i64 fr, .int .i64 n, .int .i64 en, .int .i64 sf, .string tl] 31).new (by simp) (rcA 0 0 0 0 0 0 0 0 0 ⟨#[]⟩ ⟨#[]⟩ 0 0 ⟨#[]⟩ 0 0 (.slice none 0 0) (.slice none 0 0)) 42)
      obtain ⟨W0, hW0⟩ : ∃ W, W = (((w.alloc (.cells #[.slice A d.sectors.length c, .int .i64 d.left, .bool d.down] 26)).alloc (.cells #[.int .i64 fr, .int .i64 n, .int .i64 en, .int .i64 sf, .string tl] 31)).alloc (.cells (rcA 0 0 0 0 0 0 0 0 0 ⟨#[]⟩ ⟨#[]⟩ 0 0 ⟨#[]⟩ 0 0 (.slice none 0 0) (.slice none 0 0)) 42)) := ⟨_, rfl⟩
      rw [← hW0] at H0 ⊢
      clear hW0
      have hc0 := blkCell H0.out.get1
      go_wp2_with (first | (with_reducible refine listStore (by kernel_rfl) 42 (.tmp 6) (.tmp 23) rfl (w.heap.size + 2) (rcA 0 0 0 0 0 0 0 0 0 ⟨#[]⟩ ⟨#[]⟩ 0 0 ⟨#[]⟩ 0 0 (.slice none 0 0) (.slice none 0 0)) _ _ rfl rfl H0.out.get2 (by kernel_rfl) (by kernel_rfl) (by kernel_rfl) ?_))
      refine bodyPost_ret (v := .tuple #[.agg (rcA 0 0 0 0 0 0 0 0 0 ⟨#[]⟩ ⟨#[]⟩ 0 0 ⟨#[]⟩ 0 0 (.slice none 0 0) (.slice none 0 0)), .int .i64 21]) (results_cell2 rfl _ _ rfl (load_whole (setRow_heap _ _ _ _ _ _ H0.out.get2) Tryz.underlying42 (by kernel_rfl) (by kernel_rfl)) rfl) rfl ?_
      exact HO.out _ HDEF.out _ ((H0.out.row 2 _ _ rfl).below) _ rfl
  · rw [if_neg hin] at hdef
    have hn1 : ¬ lsn < 1 := fun h => hin (.inl h)
    have hn2 : ¬ en < lsn := fun h => hin (.inr h)
    have hl1 : 1 ≤ lsn := by omega
    have hl2 : lsn ≤ en := by omega
    obtain ⟨Bs, hBs⟩ : ∃ x : Int, x = (en - (tl.size : Int)) / 128 := ⟨_, rfl⟩
    obtain ⟨Fi, hFi⟩ : ∃ x : Int, x = min ((lsn - 1) / 128) Bs := ⟨_, rfl⟩
    simp only [← hBs, ← hFi] at hdef
    have hB0 : 0 ≤ Bs := by omega
    have hB1 : Bs ≤ 100000 := by omega
    have hF0 : 0 ≤ Fi := by omega
    have hF1 : Fi ≤ Bs := by omega
    have hF2 : Fi * 128 ≤ lsn - 1 := by omega
    have HS := Lib.hid (fun W (hb : Below w.heap.size w W) => sectors_any d (fun b hb => Nat.le_trans (hw b hb) (by omega)) A c (fr + Fi) (Bs - Fi) (by omega) (by omega) (by omega) W (h.below hb))
    have hlen := @Lg.secs_len d hw (Bs - Fi).toNat (fr + Fi)
    have hne := @Lg.secs_fault d (Bs - Fi).toNat (fr + Fi)
    obtain ⟨q, hq⟩ := Int.eq_ofNat_of_zero_le (show 0 ≤ lsn - 1 - Fi * 128 by omega)
    have hq2 : (lsn - 1 - Fi * 128).toNat = q := by omega
    rw [hq2] at hdef
    have hwq1 : IntKind.i64.wrap (en - (tl.size : Int)) = en - (tl.size : Int) := IntWalk.i64_in _ (by omega)
    have hwq2 : IntKind.i64.wrap (lsn - 1) = lsn - 1 := IntWalk.i64_in _ (by omega)
    have hwq3 : IntKind.i64.wrap (fr + Fi) = fr + Fi := IntWalk.i64_in _ (by omega)
    have hwq4 : IntKind.i64.wrap (Bs - Fi) = Bs - Fi := IntWalk.i64_in _ (by omega)
    have hwq5 : IntKind.i64.wrap (Fi * 128) = Fi * 128 := IntWalk.i64_in _ (by omega)
    have hwq6 : IntKind.i64.wrap (lsn - 1 - Fi * 128) = (q : Int) := by rw [hq]; exact IntWalk.i64_in _ (by omega)
    have hp1 : 0 ≤ en - (tl.size : Int) := by omega
    have hp2 : 0 ≤ lsn - 1 := by omega
    have HBS := Lib.hid hBs
    have HFI := Lib.hid hFi
    have HQ := Lib.hid hq
    clear h hw hq2 hBs hFi hin
    cases hs : Lg.secsD d (fr + Fi) (Bs - Fi).toNat with
    | error e =>
      rw [hs] at HS hdef
      simp only at hdef
      have he := hne hs
      have HDEF := Lib.hid hdef
      have he1 : (e == 0) = false := by simpa using he
      have he2 : (e != 0) = true := by simpa using he
      clear hdef hne hlen hs he hq
      go_enter Tryz.func12, Tryz.ntmps12
      go_upto_region 1 with fail
      have H0 := Lib.hid (show BxL w.heap.size w [(#[.slice A d.sectors.length c, .int .i64 d.left, .bool d.down], 26), (#[.int .i64 fr, .int .i64 n, .int .i64 en, .int .i64 sf, .string tl], 31), ((rcA 0 0 0 0 0 0 0 0 0 ⟨#[]⟩ ⟨#[]⟩ 0 0 ⟨#[]⟩ 0 0 (.slice none 0 0) (.slice none 0 0)), 42)] (((w.alloc (.cells #[.slice A d.sectors.length c, .int .i64 d.left, .bool d.down] 26)).alloc (.cells #[.int .i64 fr, .int .i64 n, .int .i64 en, .int .i64 sf, .string tl] 31)).alloc (.cells (rcA 0 0 0 0 0 0 0 0 0 ⟨#[]⟩ ⟨#[]⟩ 0 0 ⟨#[]⟩ 0 0 (.slice none 0 0) (.slice none 0 0)) 42)) from (((BxL.nil (Below.refl w.heap.size w)).new (by simp) #[.slice A d.sectors.length c, .int .i64 d.left, .bool d.down] 26).new (by simp) #[.int .i64 fr, .int .i64 n, .int .i64 en, .int .i64 sf, .string tl] 31).new (by simp) (rcA 0 0 0 0 0 0 0 0 0 ⟨#[]⟩ ⟨#[]⟩ 0 0 ⟨#[]⟩ 0 0 (.slice none 0 0) (.slice none 0 0)) 42)
      obtain ⟨W0, hW0⟩ : ∃ W, W = (((w.alloc (.cells #[.slice A d.sectors.length c, .int .i64 d.left, .bool d.down] 26)).alloc (.cells #[.int .i64 fr, .int .i64 n, .int .i64 en, .int .i64 sf, .string tl] 31)).alloc (.cells (rcA 0 0 0 0 0 0 0 0 0 ⟨#[]⟩ ⟨#[]⟩ 0 0 ⟨#[]⟩ 0 0 (.slice none 0 0) (.slice none 0 0)) 42)) := ⟨_, rfl⟩
      rw [← hW0] at H0 ⊢
      clear hW0
      have hc0 := blkCell H0.out.get1
      go_upto_region 4 with fail
      go_upto_region 5 with fail
      rw [← HBS.out, ← HFI.out]
      dsimp only [diskV] at HS
      go_wp2_with (first
        | (with_reducible refine listLoad (by kernel_rfl) 26 (.tmp 3) rfl w.heap.size rfl #[.slice A d.sectors.length c, .int .i64 d.left, .bool d.down] _ H0.out.get0 _ Tryz.underlying26 (by kernel_rfl) (by kernel_rfl) ?_)
        | (go_at_call 32; (try rw [← HBS.out]); (with_reducible refine (HS.out _ H0.out.below).mono ?_); rintro e1 w1 ⟨hb1, rfl⟩; (try dsimp only [secV]); have H1 := Lib.hid (H0.out.step hb1); clear hb1)
        | (with_reducible refine listStore (by kernel_rfl) 42 (.tmp 6) (.tmp 51) rfl (w.heap.size + 2) (rcA 0 0 0 0 0 0 0 0 0 ⟨#[]⟩ ⟨#[]⟩ 0 0 ⟨#[]⟩ 0 0 (.slice none 0 0) (.slice none 0 0)) _ _ rfl rfl H1.out.get2 (by kernel_rfl) (by kernel_rfl) (by kernel_rfl) ?_))
      refine bodyPost_ret (v := .tuple #[.agg (rcA 0 0 0 0 0 0 0 0 0 ⟨#[]⟩ ⟨#[]⟩ 0 0 ⟨#[]⟩ 0 0 (.slice none 0 0) (.slice none 0 0)), .int .i64 e]) (results_cell2 rfl _ _ rfl (load_whole (setRow_heap _ _ _ _ _ _ H1.out.get2) Tryz.underlying42 (by kernel_rfl) (by kernel_rfl)) rfl) rfl ?_
      exact HO.out _ HDEF.out _ ((H1.out.row 2 _ _ rfl).below) _ rfl
    | ok L =>
      rw [hs] at HS hdef
      simp only at hdef
      have hl2' := hlen hs
      have hLl : L.length ≤ 896000 := by
        rcases hl2'.2 with h0 | h0
        · have := hl2'.1; rw [h0] at this; omega
        · have := hl2'.1
          have h3 : (Bs - Fi).toNat ≤ 7000 := by omega
          omega
      obtain ⟨S, hS⟩ : ∃ S : ByteArray, S = ⟨L.toArray⟩ := ⟨_, rfl⟩
      have hSl : S.data.toList = L := by rw [hS]
      have hSs : S.size = L.length := by rw [← hSl]; simp
      have hSm : S.size ≤ 896000 := by omega
      have hadd : ∀ W : World, (Op.stringOp .add S tl).run Tryz.prog W = .ok (.string (S ++ tl)) W := fun W => run_string_add_sum W _ _ (by omega)
      have hTl : (S ++ tl).data.toList = L ++ tl.data.toList := by rw [ByteArray.data_append, Array.toList_append, hSl]
      have hTs : (S ++ tl).size ≤ 1000000 := by rw [ByteArray.size_append]; omega
      have HG := Lib.hid (fun W => get_rec (S ++ tl) q hTs W)
      rw [hTl] at HG
      have HSV : Hid (secV (.ok L) = .tuple #[.string S, .int .i64 0]) := Lib.hid (by rw [hS]; rfl)
      generalize S ++ tl = St at HG hadd
      clear hS hSl hLl hSs hTl hTs hl2' hlen hne hs hq
      cases hg : Lg.getO (L ++ tl.data.toList) q with
      | none =>
        rw [hg] at HG hdef
        have HDEF := Lib.hid hdef
        clear hdef hg
        go_enter Tryz.func12, Tryz.ntmps12
        go_upto_region 1 with fail
        have H0 := Lib.hid (show BxL w.heap.size w [(#[.slice A d.sectors.length c, .int .i64 d.left, .bool d.down], 26), (#[.int .i64 fr, .int .i64 n, .int .i64 en, .int .i64 sf, .string tl], 31), ((rcA 0 0 0 0 0 0 0 0 0 ⟨#[]⟩ ⟨#[]⟩ 0 0 ⟨#[]⟩ 0 0 (.slice none 0 0) (.slice none 0 0)), 42)] (((w.alloc (.cells #[.slice A d.sectors.length c, .int .i64 d.left, .bool d.down] 26)).alloc (.cells #[.int .i64 fr, .int .i64 n, .int .i64 en, .int .i64 sf, .string tl] 31)).alloc (.cells (rcA 0 0 0 0 0 0 0 0 0 ⟨#[]⟩ ⟨#[]⟩ 0 0 ⟨#[]⟩ 0 0 (.slice none 0 0) (.slice none 0 0)) 42)) from (((BxL.nil (Below.refl w.heap.size w)).new (by simp) #[.slice A d.sectors.length c, .int .i64 d.left, .bool d.down] 26).new (by simp) #[.int .i64 fr, .int .i64 n, .int .i64 en, .int .i64 sf, .string tl] 31).new (by simp) (rcA 0 0 0 0 0 0 0 0 0 ⟨#[]⟩ ⟨#[]⟩ 0 0 ⟨#[]⟩ 0 0 (.slice none 0 0) (.slice none 0 0)) 42)
        obtain ⟨W0, hW0⟩ : ∃ W, W = (((w.alloc (.cells #[.slice A d.sectors.length c, .int .i64 d.left, .bool d.down] 26)).alloc (.cells #[.int .i64 fr, .int .i64 n, .int .i64 en, .int .i64 sf, .string tl] 31)).alloc (.cells (rcA 0 0 0 0 0 0 0 0 0 ⟨#[]⟩ ⟨#[]⟩ 0 0 ⟨#[]⟩ 0 0 (.slice none 0 0) (.slice none 0 0)) 42)) := ⟨_, rfl⟩
        rw [← hW0] at H0 ⊢
        clear hW0
        have hc0 := blkCell H0.out.get1
        go_upto_region 4 with fail
        go_upto_region 5 with fail
        rw [← HBS.out, ← HFI.out]
        dsimp only [diskV] at HS
        go_wp2_with (first
          | (with_reducible refine listLoad (by kernel_rfl) 26 (.tmp 3) rfl w.heap.size rfl #[.slice A d.sectors.length c, .int .i64 d.left, .bool d.down] _ H0.out.get0 _ Tryz.underlying26 (by kernel_rfl) (by kernel_rfl) ?_)
          | (go_at_call 32; (try rw [← HBS.out]); (with_reducible refine (HS.out _ H0.out.below).mono ?_); rintro e1 w1 ⟨hb1, rfl⟩; rw [HSV.out]; have H1 := Lib.hid (H0.out.step hb1); have hc1 := blkCell H1.out.get1; clear hb1)
          | (go_at_call 33; (with_reducible refine (HG.out _).mono ?_); rintro e w2 ⟨hb2, kk, hkk, rfl⟩; have he1 : (kk == 0) = false := (by simpa using hkk); have he2 : (kk != 0) = true := (by simpa using hkk); have H2 := Lib.hid (H1.out.step (pastAlloc (o := .cells (rcA 0 0 0 0 0 0 0 0 0 ⟨#[]⟩ ⟨#[]⟩ 0 0 ⟨#[]⟩ 0 0 (.slice none 0 0) (.slice none 0 0)) 42) hb2)); clear hkk hb2)
          | (with_reducible refine wpList_store_new rfl 42 (.tmp 12) (.tmp 64) rfl (rcA 0 0 0 0 0 0 0 0 0 ⟨#[]⟩ ⟨#[]⟩ 0 0 ⟨#[]⟩ 0 0 (.slice none 0 0) (.slice none 0 0)) _ _ rfl (by kernel_rfl) (by kernel_rfl) (by kernel_rfl) (by kernel_rfl) ?_)
          | (with_reducible refine listStore (by kernel_rfl) 42 (.tmp 6) (.tmp 75) rfl (w.heap.size + 2) (rcA 0 0 0 0 0 0 0 0 0 ⟨#[]⟩ ⟨#[]⟩ 0 0 ⟨#[]⟩ 0 0 (.slice none 0 0) (.slice none 0 0)) _ _ rfl rfl H2.out.get2 (by kernel_rfl) (by kernel_rfl) (by kernel_rfl) ?_))
        refine bodyPost_ret (v := .tuple #[.agg (rcA 0 0 0 0 0 0 0 0 0 ⟨#[]⟩ ⟨#[]⟩ 0 0 ⟨#[]⟩ 0 0 (.slice none 0 0) (.slice none 0 0)), .int .i64 21]) (results_cell2 rfl _ _ rfl (load_whole (setRow_heap _ _ _ _ _ _ H2.out.get2) Tryz.underlying42 (by kernel_rfl) (by kernel_rfl)) rfl) rfl ?_
        exact HO.out _ HDEF.out _ ((H2.out.row 2 _ _ rfl).below) _ rfl
      | some rb =>
        obtain ⟨r, b⟩ := rb
        rw [hg] at HG hdef
        simp only at hdef
        clear hg
        by_cases hl : r.lsn = lsn
        · rw [if_pos hl] at hdef
          have HF := Lib.hid (fun w' hb A1 c1 D1 d1 hr => HOK.out r hdef w' hb A1 c1 D1 d1 hr)
          clear hdef HOK
          obtain ⟨lsn0, prev, txn, kind, page, next, nu, ⟨ok, os, oo, on⟩, how, root, ⟨ek, ep, es⟩, ts, ds⟩ := r
          simp only at hl
          subst hl
          have hself : (lsn0 != lsn0) = false := by simp
          dsimp only [recV, recA] at HF
          go_enter Tryz.func12, Tryz.ntmps12
          go_upto_region 1 with fail
          have H0 := Lib.hid (show BxL w.heap.size w [(#[.slice A d.sectors.length c, .int .i64 d.left, .bool d.down], 26), (#[.int .i64 fr, .int .i64 n, .int .i64 en, .int .i64 sf, .string tl], 31), ((rcA 0 0 0 0 0 0 0 0 0 ⟨#[]⟩ ⟨#[]⟩ 0 0 ⟨#[]⟩ 0 0 (.slice none 0 0) (.slice none 0 0)), 42)] (((w.alloc (.cells #[.slice A d.sectors.length c, .int .i64 d.left, .bool d.down] 26)).alloc (.cells #[.int .i64 fr, .int .i64 n, .int .i64 en, .int .i64 sf, .string tl] 31)).alloc (.cells (rcA 0 0 0 0 0 0 0 0 0 ⟨#[]⟩ ⟨#[]⟩ 0 0 ⟨#[]⟩ 0 0 (.slice none 0 0) (.slice none 0 0)) 42)) from (((BxL.nil (Below.refl w.heap.size w)).new (by simp) #[.slice A d.sectors.length c, .int .i64 d.left, .bool d.down] 26).new (by simp) #[.int .i64 fr, .int .i64 n, .int .i64 en, .int .i64 sf, .string tl] 31).new (by simp) (rcA 0 0 0 0 0 0 0 0 0 ⟨#[]⟩ ⟨#[]⟩ 0 0 ⟨#[]⟩ 0 0 (.slice none 0 0) (.slice none 0 0)) 42)
          obtain ⟨W0, hW0⟩ : ∃ W, W = (((w.alloc (.cells #[.slice A d.sectors.length c, .int .i64 d.left, .bool d.down] 26)).alloc (.cells #[.int .i64 fr, .int .i64 n, .int .i64 en, .int .i64 sf, .string tl] 31)).alloc (.cells (rcA 0 0 0 0 0 0 0 0 0 ⟨#[]⟩ ⟨#[]⟩ 0 0 ⟨#[]⟩ 0 0 (.slice none 0 0) (.slice none 0 0)) 42)) := ⟨_, rfl⟩
          rw [← hW0] at H0 ⊢
          clear hW0
          have hc0 := blkCell H0.out.get1
          go_upto_region 4 with fail
          go_upto_region 5 with fail
          rw [← HBS.out, ← HFI.out]
          dsimp only [diskV] at HS
          go_wp2_with (first
            | (with_reducible refine listLoad (by kernel_rfl) 26 (.tmp 3) rfl w.heap.size rfl #[.slice A d.sectors.length c, .int .i64 d.left, .bool d.down] _ H0.out.get0 _ Tryz.underlying26 (by kernel_rfl) (by kernel_rfl) ?_)
            | (go_at_call 32; (try rw [← HBS.out]); (with_reducible refine (HS.out _ H0.out.below).mono ?_); rintro e1 w1 ⟨hb1, rfl⟩; rw [HSV.out]; have H1 := Lib.hid (H0.out.step hb1); have hc1 := blkCell H1.out.get1; clear hb1)
            | (go_at_call 33; (with_reducible refine (HG.out _).mono ?_); rintro e w2 ⟨hb2, A1, c1, D1, d1, rfl, hrr⟩; (try dsimp only [recV, recA]); have H2 := Lib.hid (H1.out.step (pastAlloc (o := .cells (rcA lsn0 prev txn kind page next nu ok os oo on how root ek ep es (.slice A1 ts.length c1) (.slice D1 ds.length d1)) 42) hb2)); have HR2 := Lib.hid (((hrr.mono (show w.heap.size + 3 ≤ w1.heap.size from (by have h9 := H1.out.lt (i := 2) (by simp); omega)))).below (allocB w2 (.cells (rcA lsn0 prev txn kind page next nu ok os oo on how root ek ep es (.slice A1 ts.length c1) (.slice D1 ds.length d1)) 42))); have hx2 := blkCell (heap_alloc_new w2 (.cells (rcA lsn0 prev txn kind page next nu ok os oo on how root ek ep es (.slice A1 ts.length c1) (.slice D1 ds.length d1)) 42)); simp at hx2; clear hb2 hrr)
            | (with_reducible refine wpList_store_new rfl 42 (.tmp 12) (.tmp 64) rfl (rcA lsn0 prev txn kind page next nu ok os oo on how root ek ep es (.slice A1 ts.length c1) (.slice D1 ds.length d1)) _ _ rfl (by kernel_rfl) (by kernel_rfl) (by kernel_rfl) (by kernel_rfl) ?_)
            | (with_reducible refine listLoad (by kernel_rfl) 42 (.tmp 12) rfl w2.heap.size rfl (rcA lsn0 prev txn kind page next nu ok os oo on how root ek ep es (.slice A1 ts.length c1) (.slice D1 ds.length d1)) _ (heap_alloc_new w2 _) _ Tryz.underlying42 (by kernel_rfl) (by kernel_rfl) ?_)
            | (with_reducible refine listStore (by kernel_rfl) 42 (.tmp 6) (.tmp 76) rfl (w.heap.size + 2) (rcA lsn0 prev txn kind page next nu ok os oo on how root ek ep es (.slice A1 ts.length c1) (.slice D1 ds.length d1)) _ _ rfl rfl H2.out.get2 (by kernel_rfl) (by kernel_rfl) (by kernel_rfl) ?_))
          refine bodyPost_ret (v := .tuple #[.agg (rcA lsn0 prev txn kind page next nu ok os oo on how root ek ep es (.slice A1 ts.length c1) (.slice D1 ds.length d1)), .int .i64 0]) (results_cell2 rfl _ _ rfl (load_whole (setRow_heap _ _ _ _ _ _ H2.out.get2) Tryz.underlying42 (by kernel_rfl) (by kernel_rfl)) rfl) rfl ?_
          exact HF.out _ ((H2.out.row 2 _ _ rfl).below) A1 c1 D1 d1 ((HR2.out.row _ _ (by omega)).mono (by omega))
        · rw [if_neg hl] at hdef
          have HDEF := Lib.hid hdef
          clear hdef HOK
          obtain ⟨lsn0, prev, txn, kind, page, next, nu, ⟨ok, os, oo, on⟩, how, root, ⟨ek, ep, es⟩, ts, ds⟩ := r
          simp only at hl
          have hl1' : (lsn0 == lsn) = false := by simpa using hl
          have hl2' : (lsn0 != lsn) = true := by simpa using hl
          clear hl
          go_enter Tryz.func12, Tryz.ntmps12
          go_upto_region 1 with fail
          have H0 := Lib.hid (show BxL w.heap.size w [(#[.slice A d.sectors.length c, .int .i64 d.left, .bool d.down], 26), (#[.int .i64 fr, .int .i64 n, .int .i64 en, .int .i64 sf, .string tl], 31), ((rcA 0 0 0 0 0 0 0 0 0 ⟨#[]⟩ ⟨#[]⟩ 0 0 ⟨#[]⟩ 0 0 (.slice none 0 0) (.slice none 0 0)), 42)] (((w.alloc (.cells #[.slice A d.sectors.length c, .int .i64 d.left, .bool d.down] 26)).alloc (.cells #[.int .i64 fr, .int .i64 n, .int .i64 en, .int .i64 sf, .string tl] 31)).alloc (.cells (rcA 0 0 0 0 0 0 0 0 0 ⟨#[]⟩ ⟨#[]⟩ 0 0 ⟨#[]⟩ 0 0 (.slice none 0 0) (.slice none 0 0)) 42)) from (((BxL.nil (Below.refl w.heap.size w)).new (by simp) #[.slice A d.sectors.length c, .int .i64 d.left, .bool d.down] 26).new (by simp) #[.int .i64 fr, .int .i64 n, .int .i64 en, .int .i64 sf, .string tl] 31).new (by simp) (rcA 0 0 0 0 0 0 0 0 0 ⟨#[]⟩ ⟨#[]⟩ 0 0 ⟨#[]⟩ 0 0 (.slice none 0 0) (.slice none 0 0)) 42)
          obtain ⟨W0, hW0⟩ : ∃ W, W = (((w.alloc (.cells #[.slice A d.sectors.length c, .int .i64 d.left, .bool d.down] 26)).alloc (.cells #[.int .i64 fr, .int .i64 n, .int .i64 en, .int .i64 sf, .string tl] 31)).alloc (.cells (rcA 0 0 0 0 0 0 0 0 0 ⟨#[]⟩ ⟨#[]⟩ 0 0 ⟨#[]⟩ 0 0 (.slice none 0 0) (.slice none 0 0)) 42)) := ⟨_, rfl⟩
          rw [← hW0] at H0 ⊢
          clear hW0
          have hc0 := blkCell H0.out.get1
          go_upto_region 4 with fail
          go_upto_region 5 with fail
          rw [← HBS.out, ← HFI.out]
          dsimp only [diskV] at HS
          go_wp2_with (first
            | (with_reducible refine listLoad (by kernel_rfl) 26 (.tmp 3) rfl w.heap.size rfl #[.slice A d.sectors.length c, .int .i64 d.left, .bool d.down] _ H0.out.get0 _ Tryz.underlying26 (by kernel_rfl) (by kernel_rfl) ?_)
            | (go_at_call 32; (try rw [← HBS.out]); (with_reducible refine (HS.out _ H0.out.below).mono ?_); rintro e1 w1 ⟨hb1, rfl⟩; rw [HSV.out]; have H1 := Lib.hid (H0.out.step hb1); have hc1 := blkCell H1.out.get1; clear hb1)
            | (go_at_call 33; (with_reducible refine (HG.out _).mono ?_); rintro e w2 ⟨hb2, A1, c1, D1, d1, rfl, hrr⟩; (try dsimp only [recV, recA]); have H2 := Lib.hid (H1.out.step (pastAlloc (o := .cells (rcA lsn0 prev txn kind page next nu ok os oo on how root ek ep es (.slice A1 ts.length c1) (.slice D1 ds.length d1)) 42) hb2)); have hx2 := blkCell (heap_alloc_new w2 (.cells (rcA lsn0 prev txn kind page next nu ok os oo on how root ek ep es (.slice A1 ts.length c1) (.slice D1 ds.length d1)) 42)); simp at hx2; clear hb2 hrr)
            | (with_reducible refine wpList_store_new rfl 42 (.tmp 12) (.tmp 64) rfl (rcA lsn0 prev txn kind page next nu ok os oo on how root ek ep es (.slice A1 ts.length c1) (.slice D1 ds.length d1)) _ _ rfl (by kernel_rfl) (by kernel_rfl) (by kernel_rfl) (by kernel_rfl) ?_)
            | (with_reducible refine listStore (by kernel_rfl) 42 (.tmp 6) (.tmp 75) rfl (w.heap.size + 2) (rcA 0 0 0 0 0 0 0 0 0 ⟨#[]⟩ ⟨#[]⟩ 0 0 ⟨#[]⟩ 0 0 (.slice none 0 0) (.slice none 0 0)) _ _ rfl rfl H2.out.get2 (by kernel_rfl) (by kernel_rfl) (by kernel_rfl) ?_))
          refine bodyPost_ret (v := .tuple #[.agg (rcA 0 0 0 0 0 0 0 0 0 ⟨#[]⟩ ⟨#[]⟩ 0 0 ⟨#[]⟩ 0 0 (.slice none 0 0) (.slice none 0 0)), .int .i64 21]) (results_cell2 rfl _ _ rfl (load_whole (setRow_heap _ _ _ _ _ _ H2.out.get2) Tryz.underlying42 (by kernel_rfl) (by kernel_rfl)) rfl) rfl ?_
          exact HO.out _ HDEF.out _ ((H2.out.row 2 _ _ rfl).below) _ rfl
end Go.Proofs.YtojaagnfjenhoaaGreat
/- The walks over the reference of records: Same. -/
namespace Go.Proofs.YtojaagnfjenhoaaGreat
open Go.RowKit
set_option maxRecDepth 100000 in
set_option maxHeartbeats 8000000 in
theorem rsame_any (r s : Rc.Rec) (A A' B B' : Option Addr) (c c' d d' : Nat) (w : World) (hr : RecR w r A c B d) (hs : RecR w s A' c' B' d') :
    Calls Tryz.prog 18 #[recV r (.slice A r.txns.length c) (.slice B r.dirty.length d), recV s (.slice A' s.txns.length c') (.slice B' s.dirty.length d')] w fun e w' => e = .returned (.bool (decide (r = s))) ∧ Below w.heap.size w w' := by
  have HT := Lib.hid (fun W hb => rsame_txn r.txns s.txns hr.small.1 hs.small.1 A A' c c' W (hr.txns.below hb) (hs.txns.below hb))
  have HD := Lib.hid (fun W hb => rsame_dirty r.dirty s.dirty hr.small.2 hs.small.2 B B' d d' W (hr.dirty.below hb) (hs.dirty.below hb))
  have ht1 := hr.small.1
  have ht2 := hs.small.1
  have hd1 := hr.small.2
  have hd2 := hs.small.2
  have HO := Lib.hid (fun W => op_equal r.op s.op W)
  have HK := Lib.hid (fun W => key_equal r.e s.e W)
  clear hr hs
  obtain ⟨rls, rpr, rtx, rki, rpa, rne, rnu, rop, rho, rro, rek, rts, rds⟩ := r
  obtain ⟨sls, spr, stx, ski, spa, sne, snu, sop, sho, sro, sek, sts, sds⟩ := s
  simp only at HT HD HO HK ht1 ht2 hd1 hd2 ⊢
  by_cases hls : rls = sls
  rotate_left
  · rw [decide_eq_false (fun e => hls (congrArg Rc.Rec.lsn e))]
    have nls : (rls == sls) = false := by simp [hls]
    have mls : (rls != sls) = true := by simp [hls]
    clear hls
    obtain ⟨rk, rs, rx, ry⟩ := rop
    obtain ⟨sk, ss, sx, sy⟩ := sop
    obtain ⟨rek1, rek2, rek3⟩ := rek
    obtain ⟨sek1, sek2, sek3⟩ := sek
    go_enter Tryz.func18, Tryz.ntmps18
    go_wp2_with fail
    go_ret
    exact ⟨by simp, pastAlloc (allocB _ _)⟩
  subst hls
  by_cases hpr : rpr = spr
  rotate_left
  · rw [decide_eq_false (fun e => hpr (congrArg Rc.Rec.prev e))]
    have npr : (rpr == spr) = false := by simp [hpr]
    have mpr : (rpr != spr) = true := by simp [hpr]
    clear hpr
    obtain ⟨rk, rs, rx, ry⟩ := rop
    obtain ⟨sk, ss, sx, sy⟩ := sop
    obtain ⟨rek1, rek2, rek3⟩ := rek
    obtain ⟨sek1, sek2, sek3⟩ := sek
    go_enter Tryz.func18, Tryz.ntmps18
    go_wp2_with fail
    go_ret
    exact ⟨by simp, pastAlloc (allocB _ _)⟩
  subst hpr
  by_cases htx : rtx = stx
  rotate_left
  · rw [decide_eq_false (fun e => htx (congrArg Rc.Rec.txn e))]
    have ntx : (rtx == stx) = false := by simp [htx]
    have mtx : (rtx != stx) = true := by simp [htx]
    clear htx
    obtain ⟨rk, rs, rx, ry⟩ := rop
    obtain ⟨sk, ss, sx, sy⟩ := sop
    obtain ⟨rek1, rek2, rek3⟩ := rek
    obtain ⟨sek1, sek2, sek3⟩ := sek
    go_enter Tryz.func18, Tryz.ntmps18
    go_wp2_with fail
    go_ret
    exact ⟨by simp, pastAlloc (allocB _ _)⟩
  subst htx
  by_cases hki : rki = ski
  rotate_left
  · rw [decide_eq_false (fun e => hki (congrArg Rc.Rec.kind e))]
    have nki : (rki == ski) = false := by simp [hki]
    have mki : (rki != ski) = true := by simp [hki]
    clear hki
    obtain ⟨rk, rs, rx, ry⟩ := rop
    obtain ⟨sk, ss, sx, sy⟩ := sop
    obtain ⟨rek1, rek2, rek3⟩ := rek
    obtain ⟨sek1, sek2, sek3⟩ := sek
    go_enter Tryz.func18, Tryz.ntmps18
    go_wp2_with fail
    go_ret
    exact ⟨by simp, pastAlloc (allocB _ _)⟩
  subst hki
  by_cases hpa : rpa = spa
  rotate_left
  · rw [decide_eq_false (fun e => hpa (congrArg Rc.Rec.page e))]
    have npa : (rpa == spa) = false := by simp [hpa]
    have mpa : (rpa != spa) = true := by simp [hpa]
    clear hpa
    obtain ⟨rk, rs, rx, ry⟩ := rop
    obtain ⟨sk, ss, sx, sy⟩ := sop
    obtain ⟨rek1, rek2, rek3⟩ := rek
    obtain ⟨sek1, sek2, sek3⟩ := sek
    go_enter Tryz.func18, Tryz.ntmps18
    go_wp2_with fail
    go_ret
    exact ⟨by simp, pastAlloc (allocB _ _)⟩
  subst hpa
  by_cases hne : rne = sne
  rotate_left
  · rw [decide_eq_false (fun e => hne (congrArg Rc.Rec.next e))]
    have nne : (rne == sne) = false := by simp [hne]
    have mne : (rne != sne) = true := by simp [hne]
    clear hne
    obtain ⟨rk, rs, rx, ry⟩ := rop
    obtain ⟨sk, ss, sx, sy⟩ := sop
    obtain ⟨rek1, rek2, rek3⟩ := rek
    obtain ⟨sek1, sek2, sek3⟩ := sek
    go_enter Tryz.func18, Tryz.ntmps18
    go_wp2_with fail
    go_ret
    exact ⟨by simp, pastAlloc (allocB _ _)⟩
  subst hne
  by_cases hnu : rnu = snu
  rotate_left
  · rw [decide_eq_false (fun e => hnu (congrArg Rc.Rec.num e))]
    have nnu : (rnu == snu) = false := by simp [hnu]
    have mnu : (rnu != snu) = true := by simp [hnu]
    clear hnu
    obtain ⟨rk, rs, rx, ry⟩ := rop
    obtain ⟨sk, ss, sx, sy⟩ := sop
    obtain ⟨rek1, rek2, rek3⟩ := rek
    obtain ⟨sek1, sek2, sek3⟩ := sek
    go_enter Tryz.func18, Tryz.ntmps18
    go_wp2_with fail
    go_ret
    exact ⟨by simp, pastAlloc (allocB _ _)⟩
  subst hnu
  cases hop : decide (rop = sop) with
  | false =>
    rw [decide_eq_false (fun e => of_decide_eq_false hop (congrArg Rc.Rec.op e))]
    have eop := HO.out
    rw [hop] at eop
    clear hop
    obtain ⟨rk, rs, rx, ry⟩ := rop
    obtain ⟨sk, ss, sx, sy⟩ := sop
    obtain ⟨rek1, rek2, rek3⟩ := rek
    obtain ⟨sek1, sek2, sek3⟩ := sek
    go_enter Tryz.func18, Tryz.ntmps18
    go_wp2_with fail
    go_ret
    exact ⟨by simp, pastAlloc (allocB _ _)⟩
  | true =>
  have eop := HO.out
  rw [hop] at eop
  have Dop := Lib.hid (of_decide_eq_true hop)
  clear hop HO
  by_cases hho : rho = sho
  rotate_left
  · rw [decide_eq_false (fun e => hho (congrArg Rc.Rec.how e))]
    have nho : (rho == sho) = false := by simp [hho]
    have mho : (rho != sho) = true := by simp [hho]
    clear hho
    obtain ⟨rk, rs, rx, ry⟩ := rop
    obtain ⟨sk, ss, sx, sy⟩ := sop
    obtain ⟨rek1, rek2, rek3⟩ := rek
    obtain ⟨sek1, sek2, sek3⟩ := sek
    go_enter Tryz.func18, Tryz.ntmps18
    go_wp2_with fail
    go_ret
    exact ⟨by simp, pastAlloc (allocB _ _)⟩
  subst hho
  by_cases hro : rro = sro
  rotate_left
  · rw [decide_eq_false (fun e => hro (congrArg Rc.Rec.root e))]
    have nro : (rro == sro) = false := by simp [hro]
    have mro : (rro != sro) = true := by simp [hro]
    clear hro
    obtain ⟨rk, rs, rx, ry⟩ := rop
    obtain ⟨sk, ss, sx, sy⟩ := sop
    obtain ⟨rek1, rek2, rek3⟩ := rek
    obtain ⟨sek1, sek2, sek3⟩ := sek
    go_enter Tryz.func18, Tryz.ntmps18
    go_wp2_with fail
    go_ret
    exact ⟨by simp, pastAlloc (allocB _ _)⟩
  subst hro
  cases hek : decide (rek = sek) with
  | false =>
    rw [decide_eq_false (fun e => of_decide_eq_false hek (congrArg Rc.Rec.e e))]
    have eek := HK.out
    rw [hek] at eek
    clear hek
    obtain ⟨rk, rs, rx, ry⟩ := rop
    obtain ⟨sk, ss, sx, sy⟩ := sop
    obtain ⟨rek1, rek2, rek3⟩ := rek
    obtain ⟨sek1, sek2, sek3⟩ := sek
    go_enter Tryz.func18, Tryz.ntmps18
    go_wp2_with fail
    go_ret
    exact ⟨by simp, pastAlloc (allocB _ _)⟩
  | true =>
  have eek := HK.out
  rw [hek] at eek
  have Dek := Lib.hid (of_decide_eq_true hek)
  clear hek HK
  cases hts' : decide (rts = sts) with
  | false =>
    have Dts := Lib.hid hts'
    rw [decide_eq_false (fun e => of_decide_eq_false hts' (congrArg Rc.Rec.txns e))]
    clear hts'
    obtain ⟨rk, rs, rx, ry⟩ := rop
    obtain ⟨sk, ss, sx, sy⟩ := sop
    obtain ⟨rek1, rek2, rek3⟩ := rek
    obtain ⟨sek1, sek2, sek3⟩ := sek
    go_enter Tryz.func18, Tryz.ntmps18
    go_wp2_with (first | (go_at_call 36; (with_reducible refine (HT.out _ ?_).mono ?_); (exact pastAlloc (allocB _ _)); rintro e w2 ⟨rfl, hb2⟩; have hx1 := blkOld (new21 _ _ _) hb2; have hx2 := blkOld (new2 _ _ _) hb2; have q1 := blkCell hx1 17; have q2 := blkCell hx2 17; clear hx1 hx2; simp at q1 q2; rw [Dts.out]))
    go_ret
    exact ⟨by simp, joinB (pastAlloc (allocB _ _)) hb2⟩
  | true =>
  have Bts := Lib.hid hts'
  have Dts := Lib.hid (of_decide_eq_true hts')
  clear hts'
  cases hds' : decide (rds = sds) with
  | false =>
    have Dds := Lib.hid hds'
    rw [decide_eq_false (fun e => of_decide_eq_false hds' (congrArg Rc.Rec.dirty e))]
    clear hds'
    obtain ⟨rk, rs, rx, ry⟩ := rop
    obtain ⟨sk, ss, sx, sy⟩ := sop
    obtain ⟨rek1, rek2, rek3⟩ := rek
    obtain ⟨sek1, sek2, sek3⟩ := sek
    go_enter Tryz.func18, Tryz.ntmps18
    go_wp2_with (first | (go_at_call 36; (with_reducible refine (HT.out _ ?_).mono ?_); (exact pastAlloc (allocB _ _)); rintro e w2 ⟨rfl, hb2⟩; have hx1 := blkOld (new21 _ _ _) hb2; have hx2 := blkOld (new2 _ _ _) hb2; have q1 := blkCell hx1 17; have q2 := blkCell hx2 17; clear hx1 hx2; simp at q1 q2; rw [Bts.out]) | (go_at_call 37; (with_reducible refine (HD.out _ ?_).mono ?_); (exact joinB (pastAlloc (allocB _ _)) hb2); rintro e w3 ⟨rfl, hb3⟩; rw [Dds.out]))
    go_ret
    exact ⟨by simp, joinB (joinB (pastAlloc (allocB _ _)) hb2) hb3⟩
  | true =>
  have Bds := Lib.hid hds'
  have Dds := Lib.hid (of_decide_eq_true hds')
  clear hds'
  rw [decide_eq_true (by rw [Dop.out, Dek.out, Dts.out, Dds.out])]
  clear Dop Dek Dts Dds
  obtain ⟨rk, rs, rx, ry⟩ := rop
  obtain ⟨sk, ss, sx, sy⟩ := sop
  obtain ⟨rek1, rek2, rek3⟩ := rek
  obtain ⟨sek1, sek2, sek3⟩ := sek
  go_enter Tryz.func18, Tryz.ntmps18
  go_wp2_with (first | (go_at_call 36; (with_reducible refine (HT.out _ ?_).mono ?_); (exact pastAlloc (allocB _ _)); rintro e w2 ⟨rfl, hb2⟩; have hx1 := blkOld (new21 _ _ _) hb2; have hx2 := blkOld (new2 _ _ _) hb2; have q1 := blkCell hx1 17; have q2 := blkCell hx2 17; clear hx1 hx2; simp at q1 q2; rw [Bts.out]) | (go_at_call 37; (with_reducible refine (HD.out _ ?_).mono ?_); (exact joinB (pastAlloc (allocB _ _)) hb2); rintro e w3 ⟨rfl, hb3⟩; rw [Bds.out]))
  go_ret
  exact ⟨by simp, joinB (joinB (pastAlloc (allocB _ _)) hb2) hb3⟩
end Go.Proofs.YtojaagnfjenhoaaGreat
/- The walk over the reference of the log: lists of records alike. -/
namespace Go.Proofs.YtojaagnfjenhoaaGreat
open Go.RowKit
theorem recs_no {l m : List PRec} {k : Nat} (h1 : k < l.length) (h2 : k < m.length) (h : l[k].r ≠ m[k].r) : decide (l.map (·.r) = m.map (·.r)) = false :=
  Rc.eq_no (l := l.map (·.r)) (m := m.map (·.r)) (k := k) (by simpa using h1) (by simpa using h2) (by simpa using h)
set_option maxRecDepth 100000 in
set_option maxHeartbeats 4000000 in
theorem recs_any (l m : List PRec) (hn : l.length ≤ 140737488355328) (_hm : m.length ≤ 140737488355328) (A A' : Option Addr) (c c' : Nat) (w : World) (hr : Reads w A c l.length (l.flatMap recC)) (hr' : Reads w A' c' m.length (m.flatMap recC)) (hl : ∀ p ∈ l, PRecR w p) (hm' : ∀ p ∈ m, PRecR w p) :
    Calls Tryz.prog 19 #[.slice A l.length c, .slice A' m.length c'] w fun e w' => e = .returned (.bool (decide (l.map (·.r) = m.map (·.r)))) ∧ Below w.heap.size w w' := by
  have HR := Lib.hid hr
  have HR' := Lib.hid hr'
  have HL := Lib.hid hl
  have HM := Lib.hid hm'
  obtain ⟨b, hb⟩ : ∃ b, b = decide (l.map (·.r) = m.map (·.r)) := ⟨_, rfl⟩
  rw [← hb]
  have HB := Lib.hid hb
  clear hr hr' hb hl hm'
  go_enter Tryz.func19, Tryz.ntmps19
  go_wp2_with fail
  go_loopw [5] (fun i wr => ∃ k : Nat, k ≤ l.length ∧ k ≤ m.length ∧ i = .int .i64 k ∧ (∀ j (hj : j < l.length) (hj' : j < m.length), j < k → l[j].r = m[j].r) ∧ Below w.heap.size w wr) (fun i _ => l.length - (intOf i).toNat)
  case atStart => exact ⟨0, Nat.zero_le _, Nat.zero_le _, rfl, fun _ _ _ h => absurd h (by omega), Below.refl _ _⟩
  case round =>
    obtain ⟨k, hk, hkm, rfl, hall, hbw⟩ := hrel
    have HA := Lib.hid hall
    clear hall
    by_cases hl1 : k < l.length
    · have hi3 : decide (k < l.length) = true := decide_eq_true hl1
      by_cases hl2 : k < m.length
      · have hi4 : decide (k < m.length) = true := decide_eq_true hl2
        have hpl := (HL.out _ (List.getElem_mem hl1)).below hbw
        have hpm := (HM.out _ (List.getElem_mem hl2)).below hbw
        obtain ⟨b1, off, rfl, hc, hbl, hcell⟩ := read_at recC_len (HR.out.below hbw) hl1
        obtain ⟨b2, off2, rfl, hc2, hbl2, hcell2⟩ := read_at recC_len (HR'.out.below hbw) hl2
        have HN := Lib.hid (show l[k].r ≠ m[k].r → b = false from fun h => HB.out.trans (recs_no hl1 hl2 h))
        have HY := Lib.hid (show l[k].r = m[k].r → ∀ j (hj : j < l.length) (hj' : j < m.length), j < k + 1 → l[j].r = m[j].r from fun h j hj hj' hjk => by
          rcases Nat.lt_or_eq_of_le (Nat.le_of_lt_succ hjk) with h1 | h1
          · exact HA.out j hj hj' h1
          · subst h1; exact h)
        clear HA
        generalize l[k] = x at hcell HN HY hpl
        generalize m[k] = y at hcell2 HN HY hpm
        have hj1 : (0 : Int) ≤ (k : Int) := by omega
        have hj2 : (k : Int) < (l.length : Int) := by omega
        have hj3 : (k : Int) < (m.length : Int) := by omega
        have hj4 : IntKind.i64.wrap ((k : Int) + 1) = (k : Int) + 1 := IntWalk.i64_in _ (by omega)
        have HE := Lib.hid (fun W (hb : Below wr.heap.size wr W) => rsame_any x.r y.r x.A y.A x.B y.B x.c y.c x.d y.d W (hpl.below hb) (hpm.below hb))
        have HQ := Lib.hid (show ∀ u, Below wr.heap.size wr u → u.rangeAt b1 (off + k * 18) (recC x) from fun u hu j v hj => by
          rw [hu.cell (p := ⟨b1, off + k * 18 + j, none⟩) hbl]; exact hcell j v hj)
        have HQ2 := Lib.hid (show ∀ u, Below wr.heap.size wr u → u.rangeAt b2 (off2 + k * 18) (recC y) from fun u hu j v hj => by
          rw [hu.cell (p := ⟨b2, off2 + k * 18 + j, none⟩) hbl2]; exact hcell2 j v hj)
        clear hcell hcell2 hpl hpm
        cases hd : decide (x.r = y.r) with
        | true =>
          have HY2 := Lib.hid (HY.out (of_decide_eq_true hd))
          have heq := HE.out
          rw [hd] at heq
          clear HN HY hd HE
          go_upto_region 4 with fail
          have hSn : Below wr.heap.size wr wr.drew := (Below.refl _ wr).drew
          refine wp_region_held_drew (S := (fun u => Below wr.heap.size wr u)) (by kernel_rfl) ?_ (fun hHeld => ?_)
          · exact hSn
          refine tkW 0 (some 18) (v := ?_) rfl ?_ (tkW 1 (some 19) (v := ?_) rfl ?_ (tkW 2 (some 20) (v := ?_) rfl ?_ ?_))
          iterate 3 (rotate_left; focus (intro u hSu; go_simp; (try with_reducible rfl)))
          try simp only [Act.put, pS]
          refine tkV 3 (some 21) (v := recV x.r (.slice x.A x.r.txns.length x.c) (.slice x.B x.r.dirty.length x.d)) rfl (yieldsIf_load_mid (by rfl) 42 (.tmp 20) rfl b1 (off + k * 18) (by rfl) (recC x) _ HQ.out Tryz.underlying42 (by kernel_rfl) (by kernel_rfl)) ?_
          try simp only [Act.put, pS]
          refine tkW 4 (some 22) (v := ?_) rfl ?_ (tkW 5 (some 23) (v := ?_) rfl ?_ (tkW 6 (some 24) (v := ?_) rfl ?_ ?_))
          iterate 3 (rotate_left; focus (intro u hSu; go_simp; (try with_reducible rfl)))
          try simp only [Act.put, pS]
          refine tkV 7 (some 25) (v := recV y.r (.slice y.A y.r.txns.length y.c) (.slice y.B y.r.dirty.length y.d)) rfl (yieldsIf_load_mid (by rfl) 42 (.tmp 24) rfl b2 (off2 + k * 18) (by rfl) (recC y) _ HQ2.out Tryz.underlying42 (by kernel_rfl) (by kernel_rfl)) ?_
          try simp only [Act.put, pS]
          refine rdH 8 (some 26) rfl (fun K hK => ?_)
          go_simp
          refine (heq _ hSn).mono ?_; rintro e w2 ⟨rfl, hb2⟩; have hSm := joinB hSn hb2; clear hSn; have hSn := hSm; clear hSm; try go_simp
          refine hK.out _ _ ?_ (fun hHeld => ?_)
          · exact hSn
          clear hK K
          try simp only [Act.put, pS]
          refine tkW 9 (some 27) (v := ?_) rfl ?_ ?_
          rotate_left
          · intro u hSu; go_simp; (try with_reducible rfl)
          try simp only [Act.put, pS]
          refine wpAnyH_done (by kernel_rfl) ?_ _
          clear hHeld heq HQ HQ2
          go_wp2_with fail
          go_roundw
          case rel => exact ⟨k + 1, by omega, by omega, by go_num, HY2.out, joinB hbw hSn⟩
          case measure => simp [intOf]; omega
        | false =>
          have HN2 := Lib.hid (HN.out (of_decide_eq_false hd))
          have heq := HE.out
          rw [hd] at heq
          clear HN HY hd HE
          go_upto_region 4 with fail
          have hSn : Below wr.heap.size wr wr.drew := (Below.refl _ wr).drew
          refine wp_region_held_drew (S := (fun u => Below wr.heap.size wr u)) (by kernel_rfl) ?_ (fun hHeld => ?_)
          · exact hSn
          refine tkW 0 (some 18) (v := ?_) rfl ?_ (tkW 1 (some 19) (v := ?_) rfl ?_ (tkW 2 (some 20) (v := ?_) rfl ?_ ?_))
          iterate 3 (rotate_left; focus (intro u hSu; go_simp; (try with_reducible rfl)))
          try simp only [Act.put, pS]
          refine tkV 3 (some 21) (v := recV x.r (.slice x.A x.r.txns.length x.c) (.slice x.B x.r.dirty.length x.d)) rfl (yieldsIf_load_mid (by rfl) 42 (.tmp 20) rfl b1 (off + k * 18) (by rfl) (recC x) _ HQ.out Tryz.underlying42 (by kernel_rfl) (by kernel_rfl)) ?_
          try simp only [Act.put, pS]
          refine tkW 4 (some 22) (v := ?_) rfl ?_ (tkW 5 (some 23) (v := ?_) rfl ?_ (tkW 6 (some 24) (v := ?_) rfl ?_ ?_))
          iterate 3 (rotate_left; focus (intro u hSu; go_simp; (try with_reducible rfl)))
          try simp only [Act.put, pS]
          refine tkV 7 (some 25) (v := recV y.r (.slice y.A y.r.txns.length y.c) (.slice y.B y.r.dirty.length y.d)) rfl (yieldsIf_load_mid (by rfl) 42 (.tmp 24) rfl b2 (off2 + k * 18) (by rfl) (recC y) _ HQ2.out Tryz.underlying42 (by kernel_rfl) (by kernel_rfl)) ?_
          try simp only [Act.put, pS]
          refine rdH 8 (some 26) rfl (fun K hK => ?_)
          go_simp
          refine (heq _ hSn).mono ?_; rintro e w2 ⟨rfl, hb2⟩; have hSm := joinB hSn hb2; clear hSn; have hSn := hSm; clear hSm; try go_simp
          refine hK.out _ _ ?_ (fun hHeld => ?_)
          · exact hSn
          clear hK K
          try simp only [Act.put, pS]
          refine tkW 9 (some 27) (v := ?_) rfl ?_ ?_
          rotate_left
          · intro u hSu; go_simp; (try with_reducible rfl)
          try simp only [Act.put, pS]
          refine wpAnyH_done (by kernel_rfl) ?_ _
          clear hHeld heq HQ HQ2
          go_wp2_with fail
          go_ret
          exact ⟨by rw [HN2.out]; rfl, joinB hbw hSn⟩
      · have hi4 : decide (k < m.length) = false := decide_eq_false hl2
        have hne3 : (l.length == m.length) = false := by simp; omega
        have hne4 : ((l.length : Int) == (m.length : Int)) = false := by simp; omega
        have HN2 := Lib.hid (HB.out.trans (decide_eq_false (fun e => by have := congrArg List.length e; simp at this; omega)))
        go_wp2_with fail
        go_ret
        exact ⟨by rw [HN2.out]; simp; try omega, hbw⟩
    · have hi3 : decide (k < l.length) = false := decide_eq_false hl1
      obtain rfl : k = l.length := by omega
      by_cases hlm : l.length = m.length
      · have HE := Lib.hid (show b = true from HB.out.trans (Rc.eq_yes (by simpa using hlm) fun j hj hj' => by
          have h1 := HA.out j (by simpa using hj) (by simpa using hj') (by simpa using hj)
          simpa using h1))
        have hne3 : (l.length == m.length) = true := by simp [hlm]
        have hne4 : ((l.length : Int) == (m.length : Int)) = true := by simp [hlm]
        have HLM := Lib.hid hlm
        clear hlm
        go_wp2_with fail
        go_ret
        exact ⟨by rw [HE.out]; have hlm := HLM.out; simp [hlm], hbw⟩
      · have hne3 : (l.length == m.length) = false := by simp; omega
        have hne4 : ((l.length : Int) == (m.length : Int)) = false := by simp; omega
        have HN2 := Lib.hid (HB.out.trans (decide_eq_false (fun e => hlm (by have := congrArg List.length e; simpa using this))))
        go_wp2_with fail
        go_ret
        exact ⟨by rw [HN2.out]; simp; try omega, hbw⟩
end Go.Proofs.YtojaagnfjenhoaaGreat
/- The plain law of the log: what is appended, forced, cut off by the power, opened again and read. -/
namespace Lg
open Rc
/-- The bytes of a log's sectors. -/
def logS (F N : Nat) (d : Dk) : List UInt8 := flat ((d.sectors.drop F).take N)
theorem logS_len {F N : Nat} {d : Dk} (hw : Whole d.sectors) (hr : F + N ≤ d.sectors.length) : (logS F N d).length = N * 128 := by
  unfold logS
  rw [flat_len ((hw.drop F).take N), List.length_take, List.length_drop]
  congr 1; omega
/-- The log as calls leave it: r1 is safe, r2 is behind it, in memory. -/
structure LInv (F N : Nat) (d : Dk) (g : Lo) (r1 r2 : List Rec) : Prop where
  whole : Whole d.sectors
  room : F + N ≤ d.sectors.length
  hf : g.from_ = (F : Int)
  hn : g.n = (N : Int)
  row : Row 0 (r1 ++ r2)
  pre : (logS F N d).take (bytes r1).length = bytes r1
  safe : g.safe = ((bytes r1).length : Int)
  end_ : g.end_ = ((bytes (r1 ++ r2)).length : Int)
  tail : g.tail = ⟨((bytes (r1 ++ r2)).drop ((bytes r1).length - (bytes r1).length % 128)).toArray⟩
  fit : (bytes (r1 ++ r2)).length ≤ N * 128
theorem bytes_le (r1 r2 : List Rec) : (bytes (r1 ++ r2)).length = (bytes r1).length + (bytes r2).length := by rw [bytes_append, List.length_append]
theorem bytes_one (r : Rec) : bytes [r] = putR r := by unfold bytes; simp
theorem LInv.tail_size {F N : Nat} {d : Dk} {g : Lo} {r1 r2 : List Rec} (h : LInv F N d g r1 r2) : (g.tail.size : Int) = g.end_ - (((bytes r1).length / 128 * 128 : Nat) : Int) := by
  have h1 := bytes_le r1 r2
  rw [h.tail, h.end_]
  show ((((bytes (r1 ++ r2)).drop ((bytes r1).length - (bytes r1).length % 128)).toArray.size : Nat) : Int) = _
  rw [List.size_toArray, List.length_drop]
  omega
/-- A log without bytes. -/
theorem LInv.new {F N : Nat} {d : Dk} (hw : Whole d.sectors) (hr : F + N ≤ d.sectors.length) : LInv F N d ⟨F, N, 0, 0, ⟨#[]⟩⟩ [] [] :=
  ⟨hw, hr, rfl, rfl, trivial, rfl, rfl, rfl, rfl, Nat.zero_le _⟩
/-- What Append does to it. -/
theorem LInv.append {F N : Nat} {d : Dk} {g : Lo} {r1 r2 : List Rec} (h : LInv F N d g r1 r2) (r : Rec) :
    (appendD g r = (g, 0, 1)) ∨ (appendD g r = (g, 0, 18)) ∨
    ((appendD g r).2 = (g.end_ + 1, 0) ∧ LInv F N d (appendD g r).1 r1 (r2 ++ [{ r with lsn := g.end_ + 1 }])) := by
  by_cases h1 : Right { r with lsn := g.end_ + 1 }
  · by_cases h2 : g.n * 128 - ((putR { r with lsn := g.end_ + 1 }).length : Int) < g.end_
    · refine .inr (.inl ?_)
      unfold appendD; simp only; rw [if_neg (fun hn => hn h1), if_pos h2]
    · refine .inr (.inr ?_)
      have e : appendD g r = ({ g with end_ := g.end_ + ((putR { r with lsn := g.end_ + 1 }).length : Int), tail := g.tail ++ ⟨(putR { r with lsn := g.end_ + 1 }).toArray⟩ }, g.end_ + 1, 0) := by
        unfold appendD; simp only; rw [if_neg (fun hn => hn h1), if_neg h2]
      rw [e]
      refine ⟨rfl, ?_⟩
      have hb : bytes (r1 ++ (r2 ++ [{ r with lsn := g.end_ + 1 }])) = bytes (r1 ++ r2) ++ putR { r with lsn := g.end_ + 1 } := by
        rw [← List.append_assoc, bytes_append (r1 ++ r2), bytes_one]
      refine ⟨h.whole, h.room, h.hf, h.hn, ?_, h.pre, h.safe, ?_, ?_, ?_⟩
      · rw [← List.append_assoc, row_append]
        refine ⟨h.row, h1, ?_, trivial⟩
        show g.end_ + 1 = _
        rw [h.end_]; simp
      · show g.end_ + _ = _
        rw [hb, List.length_append, h.end_]; omega
      · show g.tail ++ _ = _
        have h3 := bytes_le r1 r2
        rw [hb, h.tail, List.drop_append_of_le_length (by omega)]
        apply ByteArray.ext
        rw [ByteArray.data_append]
        simp
      · rw [hb, List.length_append]
        have h4 := h.hn
        have h5 := h.end_
        omega
  · refine .inl ?_
    unfold appendD; simp only; rw [if_pos h1]
/-! ### Force -/
/-- What all sectors of a Force are together. -/
structure Sects (F N f : Nat) (s n t : List UInt8) (all : List ByteArray) : Prop where
  whole : Whole all
  fits : f + all.length ≤ N
  some_ : 0 < all.length
  flat_ : n = s.take (f * 128) ++ (flat all ++ s.drop ((f + all.length) * 128))
  len : s.length = N * 128
theorem Sects.start {F N f : Nat} {s n t : List UInt8} {all : List ByteArray} (h : Sects F N f s n t all) : mix s n ((f + all.length) * 128) = s := by
  have h3 := h.fits
  have h4 := h.len
  have h5 := flat_len h.whole
  unfold mix
  rw [h.flat_, ← List.append_assoc, List.drop_left' (by rw [List.length_append, List.length_take]; omega), List.take_append_drop]
theorem LInv.firstS {F N : Nat} {d : Dk} {g : Lo} {r1 r2 : List Rec} (h : LInv F N d g r1 r2) : firstS g = (((bytes r1).length / 128 : Nat) : Int) := by
  unfold Lg.firstS
  have := h.tail_size
  rw [this]
  omega
end Lg
/- The plain law of the log: what is opened and read. -/
namespace Lg
open Rc
theorem secs_ok {d : Dk} (hd : d.down = false) : ∀ (k a : Nat), a + k ≤ d.sectors.length → secsD d (a : Int) k = .ok (flat ((d.sectors.drop a).take k)) := by
  intro k
  induction k with
  | zero => intro a _; unfold secsD; rw [List.take_zero]; rfl
  | succ k ih =>
    intro a ha
    have h1 : readD d (a : Int) = (d.sectors[a]'(by omega), 0) := by
      unfold readD
      rw [hd, if_neg (by simp), if_pos (show hasD d (a : Int) from ⟨by omega, by omega⟩)]
      unfold secAt
      rw [Int.toNat_natCast, List.getElem?_eq_getElem (by omega), Option.getD_some]
    have h2 := ih (a + 1) (by omega)
    unfold secsD
    rw [h1, if_pos rfl, show ((a : Int) + 1) = ((a + 1 : Nat) : Int) by omega, h2, List.drop_eq_getElem_cons (l := d.sectors) (i := a) (by omega), List.take_succ_cons, flat_cons]
theorem part_part (L : List ByteArray) (F N a k : Nat) (h : a + k ≤ N) : (L.drop (F + a)).take k = (((L.drop F).take N).drop a).take k := by
  refine List.ext_getElem? fun i => ?_
  simp only [List.getElem?_take, List.getElem?_drop]
  by_cases h1 : i < k
  · rw [if_pos h1, if_pos h1, if_pos (by omega)]
    congr 1; omega
  · rw [if_neg h1, if_neg h1]
/-- What Open finds is a row, whatever the bytes are. -/
theorem openL_is (s : List UInt8) : ∀ (f a : Nat), a ≤ s.length → Row a (openL s f a).1 ∧ (openL s f a).2 = a + (bytes (openL s f a).1).length ∧ (openL s f a).2 ≤ s.length ∧ s.take (openL s f a).2 = s.take a ++ bytes (openL s f a).1 := by
  intro f
  induction f with
  | zero => intro a ha; unfold openL; exact ⟨trivial, rfl, ha, by simp [bytes]⟩
  | succ f ih =>
    intro a ha
    have hnone : Row a [] ∧ a = a + (bytes []).length ∧ a ≤ s.length ∧ s.take a = s.take a ++ bytes [] := ⟨trivial, rfl, ha, by simp [bytes]⟩
    by_cases hI : Is s a
    · have hg := getO_yes hI
      by_cases hn : (readM true (bodyAt s a)).lsn = (a : Int) + 1
      · have e : openL s (f + 1) a = (readM true (bodyAt s a) :: (openL s f (a + 8 + Oct.getN s a 4)).1, (openL s f (a + 8 + Oct.getN s a 4)).2) := by
          conv => lhs; unfold openL
          rw [hg]; simp only; rw [if_pos hn]
        have hlen : (putR (readM true (bodyAt s a))).length = 8 + Oct.getN s a 4 := by
          rw [putR_len, hI.2.2.2]
          unfold bodyAt
          rw [List.length_take, List.length_drop]
          have := hI.1
          omega
        obtain ⟨h1, h2, h3, h4⟩ := ih (a + 8 + Oct.getN s a 4) hI.1
        rw [e]
        have hb := is_bytes hI
        refine ⟨⟨hI.2.2.1, hn, by rw [hlen, ← Nat.add_assoc]; exact h1⟩, ?_, h3, ?_⟩
        · rw [bytes_cons, List.length_append, hlen, h2]; omega
        · rw [bytes_cons, h4, ← List.append_assoc]
          congr 1
          have h5 := congrArg (List.take (a + 8 + Oct.getN s a 4)) hb
          rw [← List.append_assoc, List.take_left' (by rw [List.length_append, List.length_take, hlen]; omega)] at h5
          exact h5
      · have e : openL s (f + 1) a = ([], a) := by
          conv => lhs; unfold openL
          rw [hg]; simp only; rw [if_neg hn]
        rw [e]; exact hnone
    · have e : openL s (f + 1) a = ([], a) := by
        conv => lhs; unfold openL
        rw [getO_no hI]
      rw [e]; exact hnone
/-- Any log that is opened is one that calls leave. -/
theorem LInv.opened {F N : Nat} {d : Dk} (hd : d.down = false) (hw : Whole d.sectors) (hr : F + N ≤ d.sectors.length) :
    (openD d F N).2 = ((openL (logS F N d) (N * 128 + 1) 0).1, 0) ∧ LInv F N d (openD d F N).1 (openL (logS F N d) (N * 128 + 1) 0).1 [] := by
  have hl := logS_len (N := N) hw hr
  have hs : secsD d (F : Int) (N : Int).toNat = .ok (logS F N d) := by rw [Int.toNat_natCast]; exact secs_ok hd N F hr
  obtain ⟨h1, h2, h3, h4⟩ := openL_is (logS F N d) (N * 128 + 1) 0 (Nat.zero_le _)
  have e : openD d F N = (⟨F, N, ((openL (logS F N d) (N * 128 + 1) 0).2 : Int), ((openL (logS F N d) (N * 128 + 1) 0).2 : Int), ⟨(((logS F N d).take (openL (logS F N d) (N * 128 + 1) 0).2).drop ((openL (logS F N d) (N * 128 + 1) 0).2 - (openL (logS F N d) (N * 128 + 1) 0).2 % 128)).toArray⟩⟩, (openL (logS F N d) (N * 128 + 1) 0).1, 0) := by
    unfold openD
    rw [hs]
    simp only
    rw [hl]
  rw [e]
  rw [Nat.zero_add] at h2
  rw [List.take_zero, List.nil_append] at h4
  refine ⟨rfl, hw, hr, rfl, rfl, by rw [List.append_nil]; exact h1, by rw [← h2]; exact h4, by rw [h2], by rw [List.append_nil, h2], ?_, by rw [List.append_nil]; omega⟩
  rw [List.append_nil, ← h2, h4]
/-- Logs that are left alike are the same. -/
theorem LInv.same {F N : Nat} {d d' : Dk} {g g' : Lo} {r1 r2 : List Rec} (h : LInv F N d g r1 r2) (h' : LInv F N d' g' r1 r2) : g = g' := by
  obtain ⟨a1, a2, a3, a4, a5⟩ := g
  obtain ⟨b1, b2, b3, b4, b5⟩ := g'
  have e1 := h.hf.trans h'.hf.symm
  have e2 := h.hn.trans h'.hn.symm
  have e3 := h.end_.trans h'.end_.symm
  have e4 := h.safe.trans h'.safe.symm
  have e5 := h.tail.trans h'.tail.symm
  simp only at e1 e2 e3 e4 e5
  subst e1 e2 e3 e4 e5
  rfl
theorem LInv.disk {F N : Nat} {d d' : Dk} {g : Lo} {r1 r2 : List Rec} (h : LInv F N d g r1 r2) (he : d'.sectors = d.sectors) : LInv F N d' g r1 r2 :=
  ⟨by rw [he]; exact h.whole, by rw [he]; exact h.room, h.hf, h.hn, h.row, by unfold logS; rw [he]; exact h.pre, h.safe, h.end_, h.tail, h.fit⟩
/-- Each record of the log is read. -/
theorem LInv.read {F N : Nat} {d : Dk} {g : Lo} {r1 r2 : List Rec} (h : LInv F N d g r1 r2) (hd : d.down = false) (x y : List Rec) (r : Rec) (hxy : r1 ++ r2 = x ++ r :: y) :
    r.lsn = ((bytes x).length : Int) + 1 ∧ readL d g (((bytes x).length : Int) + 1) = .ok r := by
  have hrow := h.row
  rw [hxy, row_append] at hrow
  obtain ⟨_, hR, hlsn, _⟩ := hrow
  rw [Nat.zero_add] at hlsn
  refine ⟨hlsn, ?_⟩
  obtain ⟨X, hX⟩ : ∃ X, X = (bytes r1).length := ⟨_, rfl⟩
  obtain ⟨A, hA⟩ : ∃ A, A = (bytes x).length := ⟨_, rfl⟩
  obtain ⟨all, hall⟩ : ∃ all, all = bytes (r1 ++ r2) := ⟨_, rfl⟩
  have hb : all = bytes x ++ (putR r ++ bytes y) := by rw [hall, hxy, bytes_append, bytes_cons]
  have hlen : all.length = A + ((putR r).length + (bytes y).length) := by rw [hb, List.length_append, List.length_append, hA]
  have hpl := putR_len r
  have hle := bytes_le r1 r2
  have hend := h.end_
  have hts := h.tail_size
  have hfit := h.fit
  have hbase : (g.end_ - (g.tail.size : Int)) / 128 = ((X / 128 : Nat) : Int) := by rw [hts, hX]; omega
  rw [← hall] at hend hle hfit
  rw [← hX] at hle
  unfold readL
  rw [if_neg (by omega)]
  simp only
  rw [hbase]
  obtain ⟨a, ha⟩ : ∃ a : Nat, a = min (A / 128) (X / 128) := ⟨_, rfl⟩
  have hmin : min ((((bytes x).length : Int) + 1 - 1) / 128) ((X / 128 : Nat) : Int) = (a : Int) := by rw [← hA]; omega
  rw [hmin]
  have h1 : g.from_ + (a : Int) = ((F + a : Nat) : Int) := by rw [h.hf]; omega
  have h2 : (((X / 128 : Nat) : Int) - (a : Int)).toNat = X / 128 - a := by omega
  have hX128 : X / 128 * 128 ≤ X := by omega
  have hroom := h.room
  rw [h1, h2, secs_ok hd _ _ (by omega), part_part _ F N a _ (by omega)]
  have hpart : flat ((((d.sectors.drop F).take N).drop a).take (X / 128 - a)) = (all.take (X / 128 * 128)).drop (a * 128) := by
    rw [flat_take (((h.whole.drop F).take N).drop a), flat_drop ((h.whole.drop F).take N)]
    show ((logS F N d).drop (a * 128)).take ((X / 128 - a) * 128) = _
    have e1 : all.take (X / 128 * 128) = (logS F N d).take (X / 128 * 128) := by
      have h3 := congrArg (List.take (X / 128 * 128)) h.pre
      rw [List.take_take, Nat.min_eq_left (by omega)] at h3
      rw [h3, hall, bytes_append, List.take_append_of_le_length (by omega)]
    rw [e1, List.drop_take]
    congr 1
    omega
  have htl : g.tail.data.toList = all.drop (X / 128 * 128) := by
    rw [h.tail, ← hall, ← hX, show X - X % 128 = X / 128 * 128 by omega]
  rw [hpart, htl]
  have hjoin : (all.take (X / 128 * 128)).drop (a * 128) ++ all.drop (X / 128 * 128) = all.drop (a * 128) := by
    conv => rhs; rw [← List.take_append_drop (X / 128 * 128) all]
    rw [List.drop_append_of_le_length (by rw [List.length_take]; omega)]
  simp only
  rw [hjoin, getO_drop _ _ _ (by omega)]
  have hpos : a * 128 + (((bytes x).length : Int) + 1 - 1 - (a : Int) * 128).toNat = (bytes x).length := by omega
  rw [hpos, hb, getO_put _ _ hR]
  simp only [Option.map_some]
  rw [if_pos hlsn]
theorem readL_none {d : Dk} {g : Lo} {n : Int} (h : n < 1 ∨ g.end_ < n) : readL d g n = .error 21 := by unfold readL; rw [if_pos h]
end Lg
/- The walk over the statements of the log: the page's own answers. -/
namespace Lg
open Rc
theorem append_small (l : Lo) (kind prev txn : Int) (hk : kind = 1 ∨ kind = 5 ∨ kind = 6 ∨ kind = 7) (h1 : num (l.end_ + 1)) (h2 : num prev) (h3 : num txn) (hf : l.end_ + 27 ≤ l.n * 128) :
    ∃ t : ByteArray, t.size = 27 ∧ appendD l (bare kind 0 prev txn) = ({ l with end_ := l.end_ + 27, tail := l.tail ++ t }, l.end_ + 1, 0) := by
  have hR : Right (bare kind (l.end_ + 1) prev txn) := .small kind _ prev txn hk h1 h2 h3
  have hl : (putR (bare kind (l.end_ + 1) prev txn)).length = 27 := by
    rw [putR_len]
    unfold bodyB
    rw [List.length_append, headB_len]
    have hr : restB (bare kind (l.end_ + 1) prev txn) = [] := by
      unfold restB bare
      simp only
      rw [if_neg (by omega), if_neg (by omega), if_neg (by omega), if_neg (by omega), if_neg (by omega)]
    rw [hr]; rfl
  refine ⟨⟨(putR (bare kind (l.end_ + 1) prev txn)).toArray⟩, by show (putR (bare kind (l.end_ + 1) prev txn)).toArray.size = 27; simpa using hl, ?_⟩
  have e : ({ bare kind 0 prev txn with lsn := l.end_ + 1 } : Rec) = bare kind (l.end_ + 1) prev txn := rfl
  have h := append_ok (l := l) (r := bare kind 0 prev txn) (by rw [e]; exact hR) (by rw [e, hl]; omega)
  rw [h, e, hl]
  rfl
theorem awake_log : ∃ t1 t2 : ByteArray, t1.size = 27 ∧ t2.size = 54 ∧ appendD ⟨1, 2, 0, 0, ⟨#[]⟩⟩ (bare 1 0 0 1) = (⟨1, 2, 27, 0, t1⟩, 1, 0) ∧ appendD ⟨1, 2, 27, 0, t1⟩ (bare 7 0 1 1) = (⟨1, 2, 54, 0, t2⟩, 28, 0) := by
  obtain ⟨a, ha, h1⟩ := append_small ⟨1, 2, 0, 0, ⟨#[]⟩⟩ 1 0 1 (.inl rfl) ⟨by decide, by decide⟩ ⟨by decide, by decide⟩ ⟨by decide, by decide⟩ (by decide)
  obtain ⟨b, hb, h2⟩ := append_small ⟨1, 2, 27, 0, ⟨#[]⟩ ++ a⟩ 7 1 1 (.inr (.inr (.inr rfl))) ⟨by show (0 : Int) ≤ 27 + 1; decide, by show (27 : Int) + 1 < _; decide⟩ ⟨by decide, by decide⟩ ⟨by decide, by decide⟩ (by show (27 : Int) + 27 ≤ 2 * 128; decide)
  have e1 : (27 : Int) + 27 = 54 := rfl
  have e2 : (27 : Int) + 1 = 28 := rfl
  simp only [e1, e2] at h2
  refine ⟨⟨#[]⟩ ++ a, ⟨#[]⟩ ++ a ++ b, ?_, ?_, h1, h2⟩
  · rw [ByteArray.size_append, ha]; rfl
  · rw [ByteArray.size_append, ByteArray.size_append, ha, hb]; rfl
end Lg
namespace Go.Proofs.YtojaagnfjenhoaaGreat
open Go.RowKit
theorem recR_none (r : Rc.Rec) (w : World) (h1 : r.txns = []) (h2 : r.dirty = []) : RecR w r none 0 none 0 := by
  refine ⟨?_, ?_, by rw [h1, h2]; exact ⟨Nat.zero_le _, Nat.zero_le _⟩⟩
  · rw [h1]; exact Reads.none_ _ _ _ _
  · rw [h2]; exact Reads.none_ _ _ _ _
set_option maxRecDepth 100000 in
set_option maxHeartbeats 4000000 in
theorem awake_any (w : World) :
    Calls Tryz.prog 4 #[] w fun e w' => e = .returned (.bool true) ∧ Below w.heap.size w w' := by
  obtain ⟨t1, t2, z1, z2, a1, a2⟩ := Lg.awake_log
  have HN := Lib.hid (fun W => lnew_any 1 2 W)
  have HA1 := Lib.hid (fun W => append_any ⟨1, 2, 0, 0, ⟨#[]⟩⟩ (by decide) (by decide) (by decide) (by decide) (by decide) (Rc.bare 1 0 0 1) none none 0 0 W (recR_none _ _ rfl rfl))
  have HA2 := Lib.hid (fun W => append_any ⟨1, 2, 27, 0, t1⟩ (by show (0 : Int) ≤ 27; decide) (by show (27 : Int) ≤ _; decide) (by show _ ≤ (2 : Int); decide) (by show (2 : Int) ≤ _; decide) (by show t1.size ≤ _; omega) (Rc.bare 7 0 1 1) none none 0 0 W (recR_none _ _ rfl rfl))
  rw [a1] at HA1
  rw [a2] at HA2
  dsimp only [AppOut, logV, recV, recA, Rc.bare, Rc.noOp, Rc.noKey, List.length_nil] at HN HA1 HA2
  clear a1 a2
  go_enter Tryz.func4, Tryz.ntmps4
  go_upto_region 2 with (first
    | (go_at_call 6; (with_reducible refine (HN.out _).mono ?_); rintro e w1 ⟨rfl, hb1⟩)
    | (go_at_call 8; (with_reducible refine (HA1.out _).mono ?_); rintro e w2 ⟨he, hb2⟩; dsimp only [logV] at he; subst he)
    | (with_reducible refine wpList_store_new rfl 31 (.tmp 1) (.tmp 11) rfl #[.int .i64 1, .int .i64 2, .int .i64 27, .int .i64 0, .string t1] _ _ rfl (by kernel_rfl) (by kernel_rfl) (by kernel_rfl) (by kernel_rfl) ?_))
  have HX := Lib.hid (heap_alloc_new w2 (.cells #[.int .i64 1, .int .i64 2, .int .i64 27, .int .i64 0, .string t1] 31))
  have hb3 := joinB hb1 (pastAlloc (o := .cells #[.int .i64 1, .int .i64 2, .int .i64 27, .int .i64 0, .string t1] 31) hb2)
  obtain ⟨g, hg⟩ : ∃ g, g = w2.heap.size := ⟨_, rfl⟩
  obtain ⟨w3, hw3⟩ : ∃ W, W = w2.alloc (.cells #[.int .i64 1, .int .i64 2, .int .i64 27, .int .i64 0, .string t1] 31) := ⟨_, rfl⟩
  rw [← hg, ← hw3] at HX
  rw [← hw3] at hb3
  rw [← hw3, ← hg]
  clear hg hw3 hb1 hb2 HA1 HN
  go_upto_region 3 with (first
    | (with_reducible refine listLoad (by kernel_rfl) 31 (.tmp 1) rfl g rfl #[.int .i64 1, .int .i64 2, .int .i64 27, .int .i64 0, .string t1] _ HX.out _ Tryz.underlying31 (by kernel_rfl) (by kernel_rfl) ?_)
    | (go_at_call 8; (with_reducible refine (HA2.out _).mono ?_); rintro e w4 ⟨he, hb4⟩; dsimp only [logV] at he; subst he)
    | (with_reducible refine wpList_store_new rfl 31 (.tmp 4) (.tmp 19) rfl #[.int .i64 1, .int .i64 2, .int .i64 54, .int .i64 0, .string t2] _ _ rfl (by kernel_rfl) (by kernel_rfl) (by kernel_rfl) (by kernel_rfl) ?_))
  have hb5 := joinB hb3 (pastAlloc (o := .cells #[.int .i64 1, .int .i64 2, .int .i64 54, .int .i64 0, .string t2] 31) hb4)
  have hc1 := blkCell (blkOld HX.out (pastAlloc (o := .cells #[.int .i64 1, .int .i64 2, .int .i64 54, .int .i64 0, .string t2] 31) hb4))
  have hc2 := blkCell (heap_alloc_new w4 (.cells #[.int .i64 1, .int .i64 2, .int .i64 54, .int .i64 0, .string t2] 31))
  have hz2 : (t2.size : Int) = 54 := by omega
  have hw : IntKind.i64.wrap ((27 : Int) + 1) = 28 := IntWalk.i64_in _ (by omega)
  go_wp2_with fail
  go_ret
  exact ⟨by simp, hb5⟩
end Go.Proofs.YtojaagnfjenhoaaGreat
