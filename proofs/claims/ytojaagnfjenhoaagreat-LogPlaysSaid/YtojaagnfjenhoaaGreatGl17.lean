/- The walk over the reference of logs: Open. -/
import Derived.Test.YtojaagnfjenhoaaGreatGl11
import Derived.Test.YtojaagnfjenhoaaGreatGl16
import Derived.Test.YtojaagnfjenhoaaGreatGl10
import Derived.BigRegion
import Derived.Test.YtojaagnfjenhoaaGreatGl15
import Derived.Test.YtojaagnfjenhoaaGreatGl01
import Derived.Test.YtojaagnfjenhoaaGreatGl03
import Derived.Test.YtojaagnfjenhoaaGreatGl08
namespace Go.Proofs.YtojaagnfjenhoaaGreat
open Go.RowKit
theorem rsectors_0 (d : Lg.Dk) (hw : ∀ b ∈ d.sectors, b.size ≤ 1000) (A : Option Addr) (c : Nat) (f : Int) (n : Int) (hf1 : -9223372036854775808 ≤ f) (hf2 : f ≤ 9223372036854775807) (hn : n ≤ 1000) (w : World) (h : DiskR w d A c) :
    Calls Tryz.prog 34 #[diskV d A c, .int .i64 f, .int .i64 0, .int .i64 n] w (SecOut (Lg.secsD d f n.toNat) w) := by
  have e := rsectors_any d hw A c f 0 n (by omega) (by omega) (by omega) hn w h
  rw [show f + ((0 : Nat) : Int) = f by omega, show n - ((0 : Nat) : Int) = n by omega] at e
  exact e
theorem refget_rec (s : ByteArray) (a : Nat) (hm : s.size ≤ 1000000) (w : World) :
    Calls Tryz.prog 35 #[.string s, .int .i64 (a : Int)] w (GetOut (Lg.getO s.data.toList a) w) := by
  have h := refget_any s (a : Int) hm w
  rw [if_pos (by omega), Int.toNat_natCast] at h
  exact h
set_option maxRecDepth 100000 in
set_option maxHeartbeats 8000000 in
theorem ropen_any (d : Lg.Dk) (hw : ∀ b ∈ d.sectors, b.size ≤ 128) (hdl : d.sectors.length ≤ 7000) (A : Option Addr) (c : Nat) (f0 n0 : Int) (hf1 : -9223372036854775808 ≤ f0) (hf2 : f0 ≤ 9223372036854775807) (hn : n0 ≤ 1000) (w : World) (h : DiskR w d A c) :
    Calls Tryz.prog 17 #[diskV d A c, .int .i64 f0, .int .i64 n0] w (OpenOut (Lg.openD d f0 n0) w) := by
  have HS := Lib.hid (fun W (hb : Below w.heap.size w W) => rsectors_0 d (fun b hb => Nat.le_trans (hw b hb) (by omega)) A c f0 n0 hf1 hf2 hn W (h.below hb))
  have hlen := @Lg.secs_len d hw n0.toNat f0
  have HO := Lib.hid (fun ps v w' x (hx : Lg.openD d f0 n0 = x) (h1 : ps.map (·.r) = x.2.1) (h2 : OwnL recC 18 42 w.heap.size w' v ps) (h3 : RecsN w.heap.size w' ps) (h4 : Below w.heap.size w w') => show OpenOut (Lg.openD d f0 n0) w (.returned (.tuple #[logV x.1, v, .int .i64 x.2.2])) w' from ⟨ps, v, by rw [hx]; exact h1, by rw [hx], h2, h3, h4⟩)
  have hdef : Lg.openD d f0 n0 = Lg.openD d f0 n0 := rfl
  conv at hdef => rhs; unfold Lg.openD
  have hne := @Lg.secs_fault d n0.toNat f0
  generalize Lg.openD d f0 n0 = o at HO hdef ⊢
  generalize OpenOut o w = Q at HO ⊢
  clear h hw
  cases hs : Lg.secsD d f0 n0.toNat with
  | error e =>
    rw [hs] at HS hdef
    have he := hne hs
    simp only at hdef
    have HDEF := Lib.hid hdef
    have he1 : (e == 0) = false := by simpa using he
    have he2 : (e != 0) = true := by simpa using he
    clear hdef hne hlen hs he hn hf1 hf2 hdl
    go_enter Tryz.func17, Tryz.ntmps17
    go_upto_region 1 with fail
    have H0 := Lib.hid (show BxL w.heap.size w [(#[.slice A d.sectors.length c, .int .i64 d.left, .bool d.down], 26), (#[.int .i64 0, .int .i64 0, .int .i64 0, .int .i64 0, .string ⟨#[]⟩], 31)] ((w.alloc (.cells #[.slice A d.sectors.length c, .int .i64 d.left, .bool d.down] 26)).alloc (.cells #[.int .i64 0, .int .i64 0, .int .i64 0, .int .i64 0, .string ⟨#[]⟩] 31)) from ((BxL.nil (Below.refl w.heap.size w)).new (by simp) #[.slice A d.sectors.length c, .int .i64 d.left, .bool d.down] 26).new (by simp) #[.int .i64 0, .int .i64 0, .int .i64 0, .int .i64 0, .string ⟨#[]⟩] 31)
    obtain ⟨W0, hW0⟩ : ∃ W, W = ((w.alloc (.cells #[.slice A d.sectors.length c, .int .i64 d.left, .bool d.down] 26)).alloc (.cells #[.int .i64 0, .int .i64 0, .int .i64 0, .int .i64 0, .string ⟨#[]⟩] 31)) := ⟨_, rfl⟩
    rw [← hW0] at H0 ⊢
    clear hW0
    dsimp only [diskV] at HS
    go_wp2_with (first
      | (with_reducible refine listLoad (by kernel_rfl) 26 (.tmp 3) rfl w.heap.size rfl #[.slice A d.sectors.length c, .int .i64 d.left, .bool d.down] _ H0.out.get0 _ Tryz.underlying26 (by kernel_rfl) (by kernel_rfl) ?_)
      | (go_at_call 34; (with_reducible refine (HS.out _ H0.out.below).mono ?_); rintro e1 w1 ⟨hb1, rfl⟩; (try dsimp only [secV]); have H1 := Lib.hid (H0.out.step hb1); clear hb1)
      | (with_reducible refine listStore (by kernel_rfl) 31 (.tmp 6) (.tmp 26) rfl (w.heap.size + 1) #[.int .i64 0, .int .i64 0, .int .i64 0, .int .i64 0, .string ⟨#[]⟩] _ _ rfl rfl H1.out.get1 (by kernel_rfl) (by kernel_rfl) (by kernel_rfl) ?_))
    refine bodyPost_ret (v := .tuple #[.agg #[.int .i64 0, .int .i64 0, .int .i64 0, .int .i64 0, .string ⟨#[]⟩], .slice none 0 0, .int .i64 e]) (results_cell3 rfl _ _ rfl (load_whole (setRow_heap _ _ _ _ _ _ H1.out.get1) Tryz.underlying31 (by kernel_rfl) (by kernel_rfl)) rfl rfl) rfl ?_
    exact HO.out [] _ _ (Lg.noLog, [], e) HDEF.out rfl (ownNil _ _ _ _) (RecsN.nil _ _) ((H1.out.row 1 _ _ rfl).below)
  | ok L =>
    rw [hs] at HS hdef
    simp only at hdef
    have hl2 := hlen hs
    have hLl : L.length ≤ 1000000 := by
      rcases hl2.2 with h0 | h0
      · have := hl2.1; rw [h0] at this; omega
      · have := hl2.1
        have h3 : n0.toNat ≤ 7000 := by omega
        omega
    have HDEF := Lib.hid hdef
    clear hdef hne hlen hs hn hf1 hf2 hdl hl2
    obtain ⟨S, hS⟩ : ∃ S : ByteArray, S = ⟨L.toArray⟩ := ⟨_, rfl⟩
    have hSl : S.data.toList = L := by rw [hS]
    have hSs : S.size = L.length := by rw [← hSl]; simp
    have hSm : S.size ≤ 1000000 := by omega
    have HG := Lib.hid (fun a W => refget_rec S a hSm W)
    rw [hSl] at HG
    have HSV : Hid (secV (.ok L) = .tuple #[.string S, .int .i64 0]) := Lib.hid (by rw [hS]; rfl)
    have HSL := Lib.hid hSl
    have HTL := Lib.hid (fun k m (hk : k ≤ S.size) (hm : m ≤ k) => show (⟨((L.take k).drop (k - m)).toArray⟩ : ByteArray) = S.extract (k - m) k from by
      rw [← HSL.out]
      apply ByteArray.ext
      rw [ByteArray.data_extract]
      apply Array.toList_inj.1
      rw [Array.toList_extract, List.extract_eq_take_drop, List.drop_take])
    rw [← hSs] at HDEF
    clear hS hSl hLl hSs
    go_enter Tryz.func17, Tryz.ntmps17
    go_upto_region 1 with fail
    have H0 := Lib.hid (show BxL w.heap.size w [(#[.slice A d.sectors.length c, .int .i64 d.left, .bool d.down], 26), (#[.int .i64 0, .int .i64 0, .int .i64 0, .int .i64 0, .string ⟨#[]⟩], 31)] ((w.alloc (.cells #[.slice A d.sectors.length c, .int .i64 d.left, .bool d.down] 26)).alloc (.cells #[.int .i64 0, .int .i64 0, .int .i64 0, .int .i64 0, .string ⟨#[]⟩] 31)) from ((BxL.nil (Below.refl w.heap.size w)).new (by simp) #[.slice A d.sectors.length c, .int .i64 d.left, .bool d.down] 26).new (by simp) #[.int .i64 0, .int .i64 0, .int .i64 0, .int .i64 0, .string ⟨#[]⟩] 31)
    obtain ⟨W0, hW0⟩ : ∃ W, W = ((w.alloc (.cells #[.slice A d.sectors.length c, .int .i64 d.left, .bool d.down] 26)).alloc (.cells #[.int .i64 0, .int .i64 0, .int .i64 0, .int .i64 0, .string ⟨#[]⟩] 31)) := ⟨_, rfl⟩
    rw [← hW0] at H0 ⊢
    clear hW0
    dsimp only [diskV] at HS
    go_upto_block 0 with (first
      | (with_reducible refine listLoad (by kernel_rfl) 26 (.tmp 3) rfl w.heap.size rfl #[.slice A d.sectors.length c, .int .i64 d.left, .bool d.down] _ H0.out.get0 _ Tryz.underlying26 (by kernel_rfl) (by kernel_rfl) ?_)
      | (go_at_call 34; (with_reducible refine (HS.out _ H0.out.below).mono ?_); rintro e1 w1 ⟨hb1, rfl⟩; rw [HSV.out]; have H1 := Lib.hid (H0.out.step hb1); clear hb1))
    clear H0 HS HSV
    go_cut [11, 12] (fun v a wc => ∃ (ps : List PRec) (k : Nat), a = .int .i64 (k : Int) ∧ k ≤ S.size ∧ Lg.openL L (S.size + 1) 0 = (ps.map (·.r), k) ∧ BxL w.heap.size w [(#[.slice A d.sectors.length c, .int .i64 d.left, .bool d.down], 26), (#[.int .i64 0, .int .i64 0, .int .i64 0, .int .i64 0, .string ⟨#[]⟩], 31)] wc ∧ OwnL recC 18 42 (w.heap.size + 2) wc v ps ∧ RecsN (w.heap.size + 2) wc ps)
    case first =>
      go_wp2_with fail
      go_loopw [11, 12] (fun v a wr => ∃ (ps : List PRec) (k f : Nat), a = .int .i64 (k : Int) ∧ k ≤ S.size ∧ S.size + 1 ≤ f + k ∧ ps.length ≤ k ∧ Lg.openL L (S.size + 1) 0 = (ps.map (·.r) ++ (Lg.openL L f k).1, (Lg.openL L f k).2) ∧ BxL w.heap.size w [(#[.slice A d.sectors.length c, .int .i64 d.left, .bool d.down], 26), (#[.int .i64 0, .int .i64 0, .int .i64 0, .int .i64 0, .string ⟨#[]⟩], 31)] wr ∧ OwnL recC 18 42 (w.heap.size + 2) wr v ps ∧ RecsN (w.heap.size + 2) wr ps) (fun _ a _ => S.size - (intOf a).toNat)
      case atStart => exact ⟨[], 0, S.size + 1, rfl, Nat.zero_le _, Nat.le_refl _, Nat.le_refl _, rfl, H1.out, ownNil _ _ _ _, RecsN.nil _ _⟩
      case round =>
        obtain ⟨ps, k, f, rfl, hk, hf, hpk, hop, hbx, hown, hrs⟩ := hrel
        obtain ⟨f, rfl⟩ : ∃ g, f = g + 1 := ⟨f - 1, by omega⟩
        have HOP := Lib.hid hop
        have HB := Lib.hid hbx
        have HRS := Lib.hid hrs
        obtain ⟨A8, c8, rfl⟩ := ownLen hown
        have HOW := Lib.hid hown
        clear hop hbx hrs hown H1
        have hGk := HG.out k
        have hGN := @Lg.openL_none L f k
        have hGS := @Lg.openL_stop L f k
        have hGG := @Lg.openL_go L f k
        have hGI := @Lg.getO_some L k
        rw [show L.length = S.size by rw [← HSL.out]; simp] at hGI
        by_cases hlt : (k : Int) < (S.size : Int)
        rotate_left
        · have hX := HOP.out
          have hgn : Lg.getO L k = none := by
            cases hg : Lg.getO L k with
            | none => rfl
            | some rb => obtain ⟨r, b⟩ := rb; have := hGI hg; omega
          rw [hGN hgn, List.append_nil] at hX
          have HX := Lib.hid hX
          clear hGk hGN hGS hGG hGI hX hgn
          go_wp2_with fail
          go_meet
          case rel => exact ⟨ps, k, rfl, hk, HX.out, HB.out, HOW.out, HRS.out⟩
        cases hg : Lg.getO L k with
        | none =>
          rw [hg] at hGk
          have HGk := Lib.hid hGk
          have HX := Lib.hid (HOP.out.trans (by rw [hGN hg, List.append_nil]))
          clear hGk hGN hGS hGG hGI hg
          go_wp2_with (first
            | (go_at_call 35; (with_reducible refine (HGk.out _).mono ?_); rintro e w2 ⟨hb2, kk, hkk, rfl⟩; have he1 : (kk == 0) = false := (by simpa using hkk); have he2 : (kk != 0) = true := (by simpa using hkk); clear hkk)
            | (with_reducible refine wpList_store_new rfl 42 (.tmp 13) (.tmp 36) rfl (rcA 0 0 0 0 0 0 0 0 0 ⟨#[]⟩ ⟨#[]⟩ 0 0 ⟨#[]⟩ 0 0 (.slice none 0 0) (.slice none 0 0)) _ _ rfl (by kernel_rfl) (by kernel_rfl) (by kernel_rfl) (by kernel_rfl) ?_))
          go_meet
          case rel => exact ⟨ps, k, rfl, hk, HX.out, HB.out.step (pastAlloc hb2), ownBelow HOW.out (pastAlloc hb2), HRS.out.below (pastAlloc hb2)⟩
        | some rb =>
          obtain ⟨r, b⟩ := rb
          rw [hg] at hGk
          have HGk := Lib.hid hGk
          obtain ⟨_, hb8, hbs⟩ := hGI hg
          by_cases hl : r.lsn = (k : Int) + 1
          · have HX := Lib.hid (HOP.out.trans (by rw [hGG hg hl]))
            clear hGk hGN hGS hGG hGI hg
            obtain ⟨lsn, prev, txn, kind, page, next, nu, ⟨ok, os, oo, on⟩, how, root, ⟨ek, ep, es⟩, ts, ds⟩ := r
            simp only at hl
            subst hl
            have hwk : IntKind.i64.wrap ((k : Int) + 1) = (k : Int) + 1 := IntWalk.i64_in _ (by omega)
            have hself : (((k : Int) + 1) != ((k : Int) + 1)) = false := by simp
            go_upto_region 9 with (first
              | (go_at_call 35; (with_reducible refine (HGk.out _).mono ?_); rintro e w2 ⟨hb2, A1, c1, D1, d1, rfl, hrr⟩; (try dsimp only [recV, recA]); have hx2 := blkCell (heap_alloc_new w2 (.cells (rcA ((k : Int) + 1) prev txn kind page next nu ok os oo on how root ek ep es (.slice A1 ts.length c1) (.slice D1 ds.length d1)) 42)); simp at hx2)
              | (with_reducible refine wpList_store_new rfl 42 (.tmp 13) (.tmp 36) rfl (rcA ((k : Int) + 1) prev txn kind page next nu ok os oo on how root ek ep es (.slice A1 ts.length c1) (.slice D1 ds.length d1)) _ _ rfl (by kernel_rfl) (by kernel_rfl) (by kernel_rfl) (by kernel_rfl) ?_))
            have HX2 := Lib.hid (heap_alloc_new w2 (.cells (rcA ((k : Int) + 1) prev txn kind page next nu ok os oo on how root ek ep es (.slice A1 ts.length c1) (.slice D1 ds.length d1)) 42))
            have HB2 := Lib.hid (HB.out.step (pastAlloc (o := .cells (rcA ((k : Int) + 1) prev txn kind page next nu ok os oo on how root ek ep es (.slice A1 ts.length c1) (.slice D1 ds.length d1)) 42) hb2))
            have HO2 := Lib.hid (ownBelow HOW.out (pastAlloc (o := .cells (rcA ((k : Int) + 1) prev txn kind page next nu ok os oo on how root ek ep es (.slice A1 ts.length c1) (.slice D1 ds.length d1)) 42) hb2))
            have HR2 := Lib.hid ((HRS.out.below (pastAlloc (o := .cells (rcA ((k : Int) + 1) prev txn kind page next nu ok os oo on how root ek ep es (.slice A1 ts.length c1) (.slice D1 ds.length d1)) 42) hb2)).push (p := ⟨⟨(k : Int) + 1, prev, txn, kind, page, next, nu, ⟨ok, os, oo, on⟩, how, root, ⟨ek, ep, es⟩, ts, ds⟩, A1, c1, D1, d1⟩) ((hrr.mono (by have h1 := HB.out.lt (i := 1) (by simp); omega)).below (allocB w2 _)))
            obtain ⟨g, hge⟩ : ∃ g, g = w2.heap.size := ⟨_, rfl⟩
            obtain ⟨w3, hw3⟩ : ∃ W, W = w2.alloc (.cells (rcA ((k : Int) + 1) prev txn kind page next nu ok os oo on how root ek ep es (.slice A1 ts.length c1) (.slice D1 ds.length d1)) 42) := ⟨_, rfl⟩
            rw [← hge, ← hw3] at HX2
            rw [← hw3] at HB2 HO2 HR2
            try rw [← hge]
            try rw [← hw3]
            clear hge hw3 hx2 hb2 hrr HOW HRS HB HGk hself
            have hll : ps.length + 1 ≤ 1048576 := by omega
            go_wp2_with (first
              | (with_reducible refine listLoad (by kernel_rfl) 42 (.tmp 13) rfl g rfl (rcA ((k : Int) + 1) prev txn kind page next nu ok os oo on how root ek ep es (.slice A1 ts.length c1) (.slice D1 ds.length d1)) _ HX2.out _ Tryz.underlying42 (by kernel_rfl) (by kernel_rfl) ?_)
              | (at_builtin; refine wpList_push (by kernel_rfl) (.tmp 48) (.tmp 50) 45 42 Tryz.underlying45 info_rec2 rfl (by omega) (by omega) rfl (w.heap.size + 2) _ ps.length (ps.flatMap recC) rfl (ownBelow HO2.out (allocB _ _)) w3.heap.size (recC ⟨⟨(k : Int) + 1, prev, txn, kind, page, next, nu, ⟨ok, os, oo, on⟩, how, root, ⟨ek, ep, es⟩, ts, ds⟩, A1, c1, D1, d1⟩) 42 rfl (heap_alloc_new w3 _) rfl (recC_one _) hll (by have := HB2.out.lt (i := 1) (by simp); simp; omega) ?_; intro v7 w7 ho hg hb; have hR7 := fun q hq => ((HR2.out.below (allocB w3 (.cells (rcA ((k : Int) + 1) prev txn kind page next nu ok os oo on how root ek ep es (.slice A1 ts.length c1) (.slice D1 ds.length d1)) 42))) q hq).grown (ownBelow HO2.out (allocB w3 (.cells (rcA ((k : Int) + 1) prev txn kind page next nu ok os oo on how root ek ep es (.slice A1 ts.length c1) (.slice D1 ds.length d1)) 42))) (by decide) (by decide) hg; have HB7 := Lib.hid ((HB2.out.step (allocB w3 (.cells (rcA ((k : Int) + 1) prev txn kind page next nu ok os oo on how root ek ep es (.slice A1 ts.length c1) (.slice D1 ds.length d1)) 42))).under (M := w.heap.size + 2) (Nat.le_refl _) hb); have HO7 := Lib.hid (OwnL.push (enc := recC) ho); have HR7 := Lib.hid hR7; clear ho hg hb hR7))
            go_roundw
            case rel => exact ⟨_, b, f, rfl, hbs, by omega, by rw [List.length_append, List.length_singleton]; omega, by rw [HX.out, List.map_append, List.append_assoc]; rfl, HB7.out, HO7.out, HR7.out⟩
            case measure => simp [intOf]; omega
          · have HX := Lib.hid (HOP.out.trans (by rw [hGS hg hl, List.append_nil]))
            clear hGk hGN hGS hGG hGI hg
            obtain ⟨lsn, prev, txn, kind, page, next, nu, ⟨ok, os, oo, on⟩, how, root, ⟨ek, ep, es⟩, ts, ds⟩ := r
            simp only at hl
            have hwk : IntKind.i64.wrap ((k : Int) + 1) = (k : Int) + 1 := IntWalk.i64_in _ (by omega)
            have hl1 : (lsn == ((k : Int) + 1)) = false := by simpa using hl
            have hl2 : (lsn != ((k : Int) + 1)) = true := by simpa using hl
            clear hl
            go_wp2_with (first
              | (go_at_call 35; (with_reducible refine (HGk.out _).mono ?_); rintro e w2 ⟨hb2, A1, c1, D1, d1, rfl, hrr⟩; (try dsimp only [recV, recA]); have hx2 := blkCell (heap_alloc_new w2 (.cells (rcA lsn prev txn kind page next nu ok os oo on how root ek ep es (.slice A1 ts.length c1) (.slice D1 ds.length d1)) 42)); simp at hx2)
              | (with_reducible refine wpList_store_new rfl 42 (.tmp 13) (.tmp 36) rfl (rcA lsn prev txn kind page next nu ok os oo on how root ek ep es (.slice A1 ts.length c1) (.slice D1 ds.length d1)) _ _ rfl (by kernel_rfl) (by kernel_rfl) (by kernel_rfl) (by kernel_rfl) ?_))
            go_meet
            case rel => exact ⟨ps, k, rfl, hk, HX.out, HB.out.step (pastAlloc hb2), ownBelow HOW.out (pastAlloc hb2), HRS.out.below (pastAlloc hb2)⟩
    case rest =>
      obtain ⟨ps, k, rfl, hk, hop, hbx, hown, hrs⟩ := hcut
      obtain ⟨wb, rfl⟩ : ∃ wm : World, wm = wc := ⟨_, rfl⟩
      obtain ⟨A8, c8, rfl⟩ := ownLen hown
      have HB2 := Lib.hid hbx
      have HO2 := Lib.hid hown
      have HR2 := Lib.hid hrs
      obtain ⟨m, hm⟩ : ∃ m : Nat, m = k % 128 := ⟨_, rfl⟩
      have hmI : (k : Int) % 128 = (m : Int) := by omega
      have HFIN := Lib.hid (show o = (⟨f0, n0, (k : Int), (k : Int), S.extract (k - m) k⟩, ps.map (·.r), 0) from by
        rw [HDEF.out, hop]
        simp only
        rw [← hm, HTL.out k m hk (by omega)])
      clear hop hbx hown hrs H1 HDEF HTL HG HSL hm
      obtain ⟨q, hq⟩ : ∃ q : Nat, q = k - m := ⟨_, rfl⟩
      obtain ⟨z, hz⟩ : ∃ z : Int, z = (k : Int) / 128 := ⟨_, rfl⟩
      have hwz : IntKind.i64.wrap (z * 128) = (q : Int) := by
        have e : z * 128 = (q : Int) := by omega
        rw [e]; exact IntWalk.i64_in _ (by omega)
      have hqk : (q : Int) ≤ (k : Int) := by omega
      have hqkn : q ≤ k := by omega
      have hkS : (k : Int) ≤ (S.size : Int) := by omega
      rw [← hq] at HFIN
      have HFI := Lib.hid (fun W => rfirst_any f0 n0 (k : Int) (k : Int) ⟨#[]⟩ (by omega) (by omega) W)
      rw [← hz] at HFI
      clear hq hz hmI
      go_upto_region 12 with (with_reducible refine wpList_store_new rfl 31 (.tmp 16) (.tmp 57) rfl #[.int .i64 f0, .int .i64 n0, .int .i64 (k : Int), .int .i64 (k : Int), .string ⟨#[]⟩] _ _ rfl (by kernel_rfl) (by kernel_rfl) (by kernel_rfl) (by kernel_rfl) ?_)
      have HL5 := Lib.hid (heap_alloc_new wb (.cells #[.int .i64 f0, .int .i64 n0, .int .i64 (k : Int), .int .i64 (k : Int), .string ⟨#[]⟩] 31))
      have HB5 := Lib.hid (HB2.out.step (allocB wb (.cells #[.int .i64 f0, .int .i64 n0, .int .i64 (k : Int), .int .i64 (k : Int), .string ⟨#[]⟩] 31)))
      have HO5 := Lib.hid (ownBelow HO2.out (allocB wb (.cells #[.int .i64 f0, .int .i64 n0, .int .i64 (k : Int), .int .i64 (k : Int), .string ⟨#[]⟩] 31)))
      have HR5 := Lib.hid (HR2.out.below (allocB wb (.cells #[.int .i64 f0, .int .i64 n0, .int .i64 (k : Int), .int .i64 (k : Int), .string ⟨#[]⟩] 31)))
      have hg4 : w.heap.size + 2 ≤ wb.heap.size := HB2.out.lt (i := 1) (by simp)
      obtain ⟨g, hge⟩ : ∃ g, g = wb.heap.size := ⟨_, rfl⟩
      obtain ⟨w5, hw5⟩ : ∃ W, W = wb.alloc (.cells #[.int .i64 f0, .int .i64 n0, .int .i64 (k : Int), .int .i64 (k : Int), .string ⟨#[]⟩] 31) := ⟨_, rfl⟩
      rw [← hge, ← hw5] at HL5
      rw [← hw5] at HB5 HO5 HR5 ⊢
      rw [← hge] at hg4 ⊢
      clear hge hw5 HB2 HO2 HR2
      go_upto_region 13 with (first
        | (with_reducible refine listLoad (by kernel_rfl) 31 (.tmp 16) rfl g rfl #[.int .i64 f0, .int .i64 n0, .int .i64 (k : Int), .int .i64 (k : Int), .string ⟨#[]⟩] _ HL5.out _ Tryz.underlying31 (by kernel_rfl) (by kernel_rfl) ?_)
        | (go_at_call 28; (with_reducible refine (HFI.out _).mono ?_); rintro e w6 ⟨rfl, hb6⟩; have HL6 := Lib.hid (blkOld HL5.out hb6); have hcl6 := blkCell HL6.out; have hzl6 := blkFrozen HL6.out; have HB6 := Lib.hid (HB5.out.step hb6); have HO6 := Lib.hid (ownBelow HO5.out hb6); have HR6 := Lib.hid (HR5.out.below hb6); clear hb6))
      have HL7 := Lib.hid (show (w6.setCell ⟨g, 4, none⟩ (.string (S.extract q k))).heap[g]? = some (.cells #[.int .i64 f0, .int .i64 n0, .int .i64 (k : Int), .int .i64 (k : Int), .string (S.extract q k)] 31 (0, 0)) from by have h := blkSet 4 HL6.out (.string (S.extract q k)); simpa using h)
      have HAP := Lib.hid ((Apart.refl g (g + 1) w6).cell g 4 (.string (S.extract q k)) (Nat.le_refl _) (Nat.lt_succ_self _))
      have HBE := Lib.hid (show Below g w6 (w6.setCell ⟨g, 4, none⟩ (.string (S.extract q k))) from (Below.refl g w6).setCell (p := ⟨g, 4, none⟩) (Nat.le_refl _) _)
      have HB7 := Lib.hid (HB6.out.under (M := g) (by show w.heap.size + 2 ≤ g; exact hg4) HBE.out)
      have HO7 := Lib.hid (ownSetOther HO6.out HL6.out (by decide) HAP.out)
      have HR7 := Lib.hid (show RecsN (w.heap.size + 2) _ ps from fun p hp => (HR6.out p hp).turn HAP.out.size (fun j cs T fr hj hjc hT => HAP.out.block j (heapLt hjc) (by
        rcases Nat.lt_trichotomy j g with h1 | h1 | h1
        · exact .inl h1
        · exfalso
          subst h1
          rw [HL6.out] at hjc
          injection hjc with hjc
          injection hjc with _ hjc
          rcases hT with h3 | h3
          · rw [h3] at hjc; exact absurd hjc (by decide)
          · rw [h3] at hjc; exact absurd hjc (by decide)
        · exact .inr h1)))
      generalize w6.setCell ⟨g, 4, none⟩ (.string (S.extract q k)) = w7 at HL7 HB7 HO7 HR7 ⊢
      clear HL5 HL6 HAP HBE HB5 HO5 HR5 HB6 HO6 HR6 hcl6 hzl6
      go_wp2_with (first
        | (with_reducible refine listLoad (by kernel_rfl) 31 (.tmp 16) rfl g rfl #[.int .i64 f0, .int .i64 n0, .int .i64 (k : Int), .int .i64 (k : Int), .string (S.extract q k)] _ HL7.out _ Tryz.underlying31 (by kernel_rfl) (by kernel_rfl) ?_)
        | (with_reducible refine listStore (by kernel_rfl) 31 (.tmp 6) (.tmp 65) rfl (w.heap.size + 1) #[.int .i64 f0, .int .i64 n0, .int .i64 (k : Int), .int .i64 (k : Int), .string (S.extract q k)] _ _ rfl rfl HB7.out.get1 (by kernel_rfl) (by kernel_rfl) (by kernel_rfl) ?_))
      refine bodyPost_ret (v := .tuple #[.agg #[.int .i64 f0, .int .i64 n0, .int .i64 (k : Int), .int .i64 (k : Int), .string (S.extract q k)], .slice A8 ps.length c8, .int .i64 0]) (results_cell3 rfl _ _ rfl (load_whole (setRow_heap _ _ _ _ _ _ HB7.out.get1) Tryz.underlying31 (by kernel_rfl) (by kernel_rfl)) rfl rfl) rfl ?_
      exact HO.out ps _ _ (⟨f0, n0, (k : Int), (k : Int), S.extract q k⟩, ps.map (·.r), 0) HFIN.out rfl (ownMono (ownRowOff HO7.out _ _ (by omega)) (by omega)) (fun p hp => ((HR7.out p hp).row _ _ (by omega)).mono (by omega)) ((HB7.out.row 1 _ _ rfl).below)
end Go.Proofs.YtojaagnfjenhoaaGreat
/- The walk over the reference of logs: Read. -/
namespace Go.Proofs.YtojaagnfjenhoaaGreat
open Go.RowKit
set_option maxRecDepth 100000 in
set_option maxHeartbeats 8000000 in
theorem rread_any (d : Lg.Dk) (hw : ∀ b ∈ d.sectors, b.size ≤ 128) (_hdl : d.sectors.length ≤ 7000) (A : Option Addr) (c : Nat) (fr n en sf : Int) (tl : ByteArray) (hal : Lg.Al ⟨fr, n, en, sf, tl⟩) (he1 : en ≤ 100000) (hf0 : -1000000000 ≤ fr) (hf1 : fr ≤ 1000000000) (ht : tl.size ≤ 100000) (lsn : Int) (w : World) (h : DiskR w d A c) :
    Calls Tryz.prog 13 #[diskV d A c, .agg #[.int .i64 fr, .int .i64 n, .int .i64 en, .int .i64 sf, .string tl], .int .i64 lsn] w (ReadOut (Lg.readL d ⟨fr, n, en, sf, tl⟩ lsn) w) := by
  have HO := Lib.hid (fun k (hk : Lg.readL d ⟨fr, n, en, sf, tl⟩ lsn = .error k) w' (hb : Below w.heap.size w w') (e : Ending) (he : e = .returned (.tuple #[.agg zeroA, .int .i64 k])) => read_err (e := e) hk hb he)
  have HOK := Lib.hid (fun r (hk : Lg.readL d ⟨fr, n, en, sf, tl⟩ lsn = .ok r) w' (hb : Below w.heap.size w w') A1 c1 D1 d1 (hr : RecN w.heap.size w' r A1 c1 D1 d1) => show ReadOut (Lg.readL d ⟨fr, n, en, sf, tl⟩ lsn) w (.returned (.tuple #[recV r (.slice A1 r.txns.length c1) (.slice D1 r.dirty.length d1), .int .i64 0])) w' from by
    rw [hk]; exact ⟨hb, A1, c1, D1, d1, rfl, hr⟩)
  have hs0 : 0 ≤ sf := hal.s0
  have hse : sf ≤ en := hal.se
  have HDN := Lib.hid (fun (h1 : lsn < 1 ∨ en < lsn) => (Lg.readL_none (d := d) (g := ⟨fr, n, en, sf, tl⟩) (n := lsn) (by show lsn < 1 ∨ en < lsn; exact h1)))
  have HNE := Lib.hid (fun h1 h2 h3 => Pl.read_near (d := d) (l := ⟨fr, n, en, sf, tl⟩) (k := lsn) hal h1 h2 h3)
  have HFA := Lib.hid (fun h1 h2 h3 => Pl.read_far (d := d) (l := ⟨fr, n, en, sf, tl⟩) (k := lsn) hal h1 h2 h3)
  generalize Lg.readL d ⟨fr, n, en, sf, tl⟩ lsn = o at HO HOK HDN HNE HFA ⊢
  simp only at HNE HFA
  generalize ReadOut o w = Q at HO HOK ⊢
  by_cases hin : lsn < 1 ∨ en < lsn
  · have HDEF := Lib.hid (HDN.out hin)
    clear HDN HNE HFA h hw hal
    by_cases h1 : lsn < 1
    · clear hin
      go_enter Tryz.func13, Tryz.ntmps13
      go_upto_region 1 with fail
      have H0 := Lib.hid (show BxL w.heap.size w [(#[.slice A d.sectors.length c, .int .i64 d.left, .bool d.down], 26), (#[.int .i64 fr, .int .i64 n, .int .i64 en, .int .i64 sf, .string tl], 31), ((rcA 0 0 0 0 0 0 0 0 0 ⟨#[]⟩ ⟨#[]⟩ 0 0 ⟨#[]⟩ 0 0 (.slice none 0 0) (.slice none 0 0)), 42)] (((w.alloc (.cells #[.slice A d.sectors.length c, .int .i64 d.left, .bool d.down] 26)).alloc (.cells #[.int .i64 fr, .int .i64 n, .int .i64 en, .int .i64 sf, .string tl] 31)).alloc (.cells (rcA 0 0 0 0 0 0 0 0 0 ⟨#[]⟩ ⟨#[]⟩ 0 0 ⟨#[]⟩ 0 0 (.slice none 0 0) (.slice none 0 0)) 42)) from (((BxL.nil (Below.refl w.heap.size w)).new (by simp) #[.slice A d.sectors.length c, .int .i64 d.left, .bool d.down] 26).new (by simp) #[.int .i64 fr, .int .i64 n, .int .i64 en, .int .i64 sf, .string tl] 31).new (by simp) (rcA 0 0 0 0 0 0 0 0 0 ⟨#[]⟩ ⟨#[]⟩ 0 0 ⟨#[]⟩ 0 0 (.slice none 0 0) (.slice none 0 0)) 42)
      obtain ⟨W0, hW0⟩ : ∃ W, W = (((w.alloc (.cells #[.slice A d.sectors.length c, .int .i64 d.left, .bool d.down] 26)).alloc (.cells #[.int .i64 fr, .int .i64 n, .int .i64 en, .int .i64 sf, .string tl] 31)).alloc (.cells (rcA 0 0 0 0 0 0 0 0 0 ⟨#[]⟩ ⟨#[]⟩ 0 0 ⟨#[]⟩ 0 0 (.slice none 0 0) (.slice none 0 0)) 42)) := ⟨_, rfl⟩
      rw [← hW0] at H0 ⊢
      clear hW0
      have hc0 := blkCell H0.out.get1
      go_wp2_with (first | (with_reducible refine listStore (by kernel_rfl) 42 (.tmp 6) (.tmp 24) rfl (w.heap.size + 2) (rcA 0 0 0 0 0 0 0 0 0 ⟨#[]⟩ ⟨#[]⟩ 0 0 ⟨#[]⟩ 0 0 (.slice none 0 0) (.slice none 0 0)) _ _ rfl rfl H0.out.get2 (by kernel_rfl) (by kernel_rfl) (by kernel_rfl) ?_))
      refine bodyPost_ret (v := .tuple #[.agg (rcA 0 0 0 0 0 0 0 0 0 ⟨#[]⟩ ⟨#[]⟩ 0 0 ⟨#[]⟩ 0 0 (.slice none 0 0) (.slice none 0 0)), .int .i64 21]) (results_cell2 rfl _ _ rfl (load_whole (setRow_heap _ _ _ _ _ _ H0.out.get2) Tryz.underlying42 (by kernel_rfl) (by kernel_rfl)) rfl) rfl ?_
      exact HO.out _ HDEF.out _ ((H0.out.row 2 _ _ rfl).below) _ rfl
    · have h2 : en < lsn := by omega
      clear hin
      go_enter Tryz.func13, Tryz.ntmps13
      go_upto_region 1 with fail
      have H0 := Lib.hid (show BxL w.heap.size w [(#[.slice A d.sectors.length c, .int .i64 d.left, .bool d.down], 26), (#[.int .i64 fr, .int .i64 n, .int .i64 en, .int .i64 sf, .string tl], 31), ((rcA 0 0 0 0 0 0 0 0 0 ⟨#[]⟩ ⟨#[]⟩ 0 0 ⟨#[]⟩ 0 0 (.slice none 0 0) (.slice none 0 0)), 42)] (((w.alloc (.cells #[.slice A d.sectors.length c, .int .i64 d.left, .bool d.down] 26)).alloc (.cells #[.int .i64 fr, .int .i64 n, .int .i64 en, .int .i64 sf, .string tl] 31)).alloc (.cells (rcA 0 0 0 0 0 0 0 0 0 ⟨#[]⟩ ⟨#[]⟩ 0 0 ⟨#[]⟩ 0 0 (.slice none 0 0) (.slice none 0 0)) 42)) from (((BxL.nil (Below.refl w.heap.size w)).new (by simp) #[.slice A d.sectors.length c, .int .i64 d.left, .bool d.down] 26).new (by simp) #[.int .i64 fr, .int .i64 n, .int .i64 en, .int .i64 sf, .string tl] 31).new (by simp) (rcA 0 0 0 0 0 0 0 0 0 ⟨#[]⟩ ⟨#[]⟩ 0 0 ⟨#[]⟩ 0 0 (.slice none 0 0) (.slice none 0 0)) 42)
      obtain ⟨W0, hW0⟩ : ∃ W, W = (((w.alloc (.cells #[.slice A d.sectors.length c, .int .i64 d.left, .bool d.down] 26)).alloc (.cells #[.int .i64 fr, .int .i64 n, .int .i64 en, .int .i64 sf, .string tl] 31)).alloc (.cells (rcA 0 0 0 0 0 0 0 0 0 ⟨#[]⟩ ⟨#[]⟩ 0 0 ⟨#[]⟩ 0 0 (.slice none 0 0) (.slice none 0 0)) 42)) := ⟨_, rfl⟩
      rw [← hW0] at H0 ⊢
      clear hW0
      have hc0 := blkCell H0.out.get1
      go_wp2_with (first | (with_reducible refine listStore (by kernel_rfl) 42 (.tmp 6) (.tmp 24) rfl (w.heap.size + 2) (rcA 0 0 0 0 0 0 0 0 0 ⟨#[]⟩ ⟨#[]⟩ 0 0 ⟨#[]⟩ 0 0 (.slice none 0 0) (.slice none 0 0)) _ _ rfl rfl H0.out.get2 (by kernel_rfl) (by kernel_rfl) (by kernel_rfl) ?_))
      refine bodyPost_ret (v := .tuple #[.agg (rcA 0 0 0 0 0 0 0 0 0 ⟨#[]⟩ ⟨#[]⟩ 0 0 ⟨#[]⟩ 0 0 (.slice none 0 0) (.slice none 0 0)), .int .i64 21]) (results_cell2 rfl _ _ rfl (load_whole (setRow_heap _ _ _ _ _ _ H0.out.get2) Tryz.underlying42 (by kernel_rfl) (by kernel_rfl)) rfl) rfl ?_
      exact HO.out _ HDEF.out _ ((H0.out.row 2 _ _ rfl).below) _ rfl
  · have hn1 : ¬ lsn < 1 := fun h => hin (.inl h)
    have hn2 : ¬ en < lsn := fun h => hin (.inr h)
    have hl1 : 1 ≤ lsn := by omega
    have hl2 : lsn ≤ en := by omega
    have HNE2 := Lib.hid (HNE.out hl1 hl2)
    have HFA2 := Lib.hid (HFA.out hl1 hl2)
    have HFI := Lib.hid (fun W => rfirst_any fr n en sf tl hs0 (by omega) W)
    obtain ⟨Fs, hFs⟩ : ∃ x : Int, x = sf / 128 := ⟨_, rfl⟩
    obtain ⟨bg, hbg⟩ : ∃ x : Int, x = (lsn - 1) / 128 := ⟨_, rfl⟩
    have hF0 : 0 ≤ Fs := by omega
    have hF1 : Fs ≤ 1000 := by omega
    have hb0 : 0 ≤ bg := by omega
    have hb1 : bg * 128 ≤ lsn - 1 := by omega
    have hb2 : lsn - 1 < bg * 128 + 128 := by omega
    rw [← hFs, ← hbg] at HNE2
    rw [← hFs, ← hbg] at HFA2
    rw [← hFs] at HFI
    have HBG := Lib.hid hbg
    have hwq2 : IntKind.i64.wrap (lsn - 1) = lsn - 1 := IntWalk.i64_in _ (by omega)
    have hwq5 : IntKind.i64.wrap (Fs * 128) = Fs * 128 := IntWalk.i64_in _ (by omega)
    have hwq6 : IntKind.i64.wrap (bg * 128) = bg * 128 := IntWalk.i64_in _ (by omega)
    obtain ⟨z, hz⟩ : ∃ z : Int, z = lsn - 1 - Fs * 128 := ⟨_, rfl⟩
    have hwq7 : IntKind.i64.wrap (lsn - 1 - Fs * 128) = z := by rw [hz]; exact IntWalk.i64_in _ (by omega)
    have hp2 : 0 ≤ lsn - 1 := by omega
    rw [← hz] at HNE2
    have HZ := Lib.hid hz
    clear HNE HFA HDN hin hFs hbg hz hal hse
    have hcase : (∃ e, bg < Fs ∧ Lg.secsD d (fr + bg) (Fs - bg).toNat = .error e ∧ o = .error e) ∨ (∃ (St : ByteArray) (q : Nat), St.size ≤ 1000000 ∧ (o = match Lg.getO St.data.toList q with
        | none => .error 21
        | some (r, _) => if r.lsn = lsn then .ok r else .error 21) ∧
        ((¬ bg < Fs ∧ St = tl ∧ (q : Int) = z) ∨ (bg < Fs ∧ (q : Int) = lsn - 1 - bg * 128 ∧ ∃ L : List UInt8, Lg.secsD d (fr + bg) (Fs - bg).toNat = .ok L ∧ L.length ≤ 896000 ∧ St = (⟨L.toArray⟩ : ByteArray) ++ tl))) := by
      by_cases hbf : bg < Fs
      · have hx := HFA2.out hbf
        cases hs : Lg.secsD d (fr + bg) (Fs - bg).toNat with
        | error e => rw [hs] at hx; exact .inl ⟨e, hbf, rfl, hx⟩
        | ok L =>
          rw [hs] at hx
          have hl := Lg.secs_len hw _ hs
          have hLl : L.length ≤ 128000 := by
            have := hl.1
            omega
          refine .inr ⟨(⟨L.toArray⟩ : ByteArray) ++ tl, (lsn - 1 - bg * 128).toNat, ?_, ?_, .inr ⟨hbf, by omega, L, rfl, by omega, rfl⟩⟩
          · rw [ByteArray.size_append]; show L.toArray.size + _ ≤ _; simp; omega
          · have e1 : ((⟨L.toArray⟩ : ByteArray) ++ tl).data.toList = L ++ tl.data.toList := by rw [ByteArray.data_append, Array.toList_append]
            rw [e1]
            exact hx
      · have hx := HNE2.out hbf
        refine .inr ⟨tl, z.toNat, by omega, hx, .inl ⟨hbf, rfl, ?_⟩⟩
        have := HZ.out
        omega
    clear HNE2 HFA2
    rcases hcase with ⟨e, hbf, hs, ho⟩ | ⟨St, q, hStl, ho, hnf⟩
    · have he := Lg.secs_fault _ hs
      have HDEF := Lib.hid ho
      have HS := Lib.hid (fun W (hb : Below w.heap.size w W) => show Calls Tryz.prog 34 #[diskV d A c, .int .i64 fr, .int .i64 bg, .int .i64 Fs] W (SecOut (.error e) W) from by
        obtain ⟨bn, hbn⟩ := Int.eq_ofNat_of_zero_le hb0
        have h9 := rsectors_any d (fun b hb => Nat.le_trans (hw b hb) (by omega)) A c fr bn Fs (by omega) (by omega) (by omega) (by omega) W (h.below hb)
        rw [← hbn, hs] at h9
        exact h9)
      have he1 : (e == 0) = false := by simpa using he
      have he2 : (e != 0) = true := by simpa using he
      clear ho hs he h hw HOK
      dsimp only [diskV] at HS
      go_enter Tryz.func13, Tryz.ntmps13
      go_upto_region 4 with fail
      have H0 := Lib.hid (show BxL w.heap.size w [(#[.slice A d.sectors.length c, .int .i64 d.left, .bool d.down], 26), (#[.int .i64 fr, .int .i64 n, .int .i64 en, .int .i64 sf, .string tl], 31), ((rcA 0 0 0 0 0 0 0 0 0 ⟨#[]⟩ ⟨#[]⟩ 0 0 ⟨#[]⟩ 0 0 (.slice none 0 0) (.slice none 0 0)), 42)] (((w.alloc (.cells #[.slice A d.sectors.length c, .int .i64 d.left, .bool d.down] 26)).alloc (.cells #[.int .i64 fr, .int .i64 n, .int .i64 en, .int .i64 sf, .string tl] 31)).alloc (.cells (rcA 0 0 0 0 0 0 0 0 0 ⟨#[]⟩ ⟨#[]⟩ 0 0 ⟨#[]⟩ 0 0 (.slice none 0 0) (.slice none 0 0)) 42)) from (((BxL.nil (Below.refl w.heap.size w)).new (by simp) #[.slice A d.sectors.length c, .int .i64 d.left, .bool d.down] 26).new (by simp) #[.int .i64 fr, .int .i64 n, .int .i64 en, .int .i64 sf, .string tl] 31).new (by simp) (rcA 0 0 0 0 0 0 0 0 0 ⟨#[]⟩ ⟨#[]⟩ 0 0 ⟨#[]⟩ 0 0 (.slice none 0 0) (.slice none 0 0)) 42)
      obtain ⟨W0, hW0⟩ : ∃ W, W = (((w.alloc (.cells #[.slice A d.sectors.length c, .int .i64 d.left, .bool d.down] 26)).alloc (.cells #[.int .i64 fr, .int .i64 n, .int .i64 en, .int .i64 sf, .string tl] 31)).alloc (.cells (rcA 0 0 0 0 0 0 0 0 0 ⟨#[]⟩ ⟨#[]⟩ 0 0 ⟨#[]⟩ 0 0 (.slice none 0 0) (.slice none 0 0)) 42)) := ⟨_, rfl⟩
      rw [← hW0] at H0 ⊢
      clear hW0
      have hc0 := blkCell H0.out.get1
      rw [← HBG.out]
      have hSn := H0.out.drew
      refine wp_region_held_drew (S := (fun u => BxL w.heap.size w [(#[.slice A d.sectors.length c, .int .i64 d.left, .bool d.down], 26), (#[.int .i64 fr, .int .i64 n, .int .i64 en, .int .i64 sf, .string tl], 31), ((rcA 0 0 0 0 0 0 0 0 0 ⟨#[]⟩ ⟨#[]⟩ 0 0 ⟨#[]⟩ 0 0 (.slice none 0 0) (.slice none 0 0)), 42)] u)) (by kernel_rfl) ?_ (fun hHeld => ?_)
      · exact hSn
      refine tkW 0 (some 28) (v := ?_) rfl ?_ (tkW 1 (some 29) (v := ?_) rfl ?_ (tkW 2 (some 30) (v := ?_) rfl ?_ (tkW 3 (some 31) (v := ?_) rfl ?_ ?_)))
      iterate 4 (rotate_left; focus (intro u hSu; have hSv := blkCell hSu.get1; clear hSu; go_simp; (try with_reducible rfl)))
      try simp only [Act.put, pS]
      refine tkV 4 (some 32) (v := .agg #[.int .i64 fr, .int .i64 n, .int .i64 en, .int .i64 sf, .string tl]) rfl (yieldsIf_load_mid (by rfl) 31 (.tmp 4) rfl (w.heap.size + 1) 0 (by rfl) #[.int .i64 fr, .int .i64 n, .int .i64 en, .int .i64 sf, .string tl].toList _ (fun u hu => (by intro j v hj; rw [Nat.zero_add, blkCell hu.get1]; simpa using hj)) Tryz.underlying31 (by kernel_rfl) (by kernel_rfl)) ?_
      try simp only [Act.put, pS]
      refine rdH 5 (some 33) rfl (fun K hK => ?_)
      go_simp
      (with_reducible refine (HFI.out _).mono ?_); rintro e w3 ⟨rfl, hb3⟩
      have hSm := hSn.step hb3
      clear hSn
      have hSn := hSm
      clear hSm hb3
      refine hK.out _ _ ?_ (fun hHeld => ?_)
      · exact hSn
      clear hK K
      try simp only [Act.put, pS]
      refine tkW 6 (some 34) (v := ?_) rfl ?_ (tkW 7 (some 35) (v := ?_) rfl ?_ (tkW 8 (some 9) (v := ?_) rfl ?_ (tkW 9 (some 10) (v := ?_) rfl ?_ ?_)))
      iterate 4 (rotate_left; focus (intro u hSu; have hSv := blkCell hSu.get1; clear hSu; go_simp; (try with_reducible rfl)))
      try simp only [Act.put, pS]
      refine wpAnyH_done (by kernel_rfl) ?_ _
      clear hHeld
      have H1 := Lib.hid hSn
      clear hSn hc0 H0
      have hc0 := blkCell H1.out.get1
      go_upto_region 6 with (first | (go_at_call 28; (with_reducible refine (HFI.out _).mono ?_); rintro e4 w4 ⟨rfl, hb4⟩; have H2 := Lib.hid (H1.out.step hb4); have hc1 := blkCell H2.out.get1; clear hb4) | (with_reducible refine listLoad (by kernel_rfl) 31 (.tmp 4) rfl (w.heap.size + 1) rfl #[.int .i64 fr, .int .i64 n, .int .i64 en, .int .i64 sf, .string tl] _ H1.out.get1 _ Tryz.underlying31 (by kernel_rfl) (by kernel_rfl) ?_))
      have hSn := H2.out.drew
      refine wp_region_held_drew (S := (fun u => BxL w.heap.size w [(#[.slice A d.sectors.length c, .int .i64 d.left, .bool d.down], 26), (#[.int .i64 fr, .int .i64 n, .int .i64 en, .int .i64 sf, .string tl], 31), ((rcA 0 0 0 0 0 0 0 0 0 ⟨#[]⟩ ⟨#[]⟩ 0 0 ⟨#[]⟩ 0 0 (.slice none 0 0) (.slice none 0 0)), 42)] u)) (by kernel_rfl) ?_ (fun hHeld => ?_)
      · exact hSn
      refine tkV 0 (some 41) (v := .agg #[.slice A d.sectors.length c, .int .i64 d.left, .bool d.down]) rfl (yieldsIf_load_mid (by rfl) 26 (.tmp 3) rfl (w.heap.size) 0 (by rfl) #[.slice A d.sectors.length c, .int .i64 d.left, .bool d.down].toList _ (fun u hu => (by intro j v hj; rw [Nat.zero_add, blkCell hu.get0]; simpa using hj)) Tryz.underlying26 (by kernel_rfl) (by kernel_rfl)) ?_
      try simp only [Act.put, pS]
      refine tkW 1 (some 42) (v := ?_) rfl ?_ (tkW 2 (some 43) (v := ?_) rfl ?_ (tkW 3 (some 44) (v := ?_) rfl ?_ ?_))
      iterate 3 (rotate_left; focus (intro u hSu; have hSv := blkCell hSu.get1; clear hSu; go_simp; (try with_reducible rfl)))
      try simp only [Act.put, pS]
      refine tkV 4 (some 45) (v := .agg #[.int .i64 fr, .int .i64 n, .int .i64 en, .int .i64 sf, .string tl]) rfl (yieldsIf_load_mid (by rfl) 31 (.tmp 4) rfl (w.heap.size + 1) 0 (by rfl) #[.int .i64 fr, .int .i64 n, .int .i64 en, .int .i64 sf, .string tl].toList _ (fun u hu => (by intro j v hj; rw [Nat.zero_add, blkCell hu.get1]; simpa using hj)) Tryz.underlying31 (by kernel_rfl) (by kernel_rfl)) ?_
      try simp only [Act.put, pS]
      refine rdH 5 (some 46) rfl (fun K hK => ?_)
      go_simp
      (with_reducible refine (HFI.out _).mono ?_); rintro e w5 ⟨rfl, hb5⟩
      have hSm := hSn.step hb5
      clear hSn
      have hSn := hSm
      clear hSm hb5
      refine hK.out _ _ ?_ (fun hHeld => ?_)
      · exact hSn
      clear hK K
      try simp only [Act.put, pS]
      refine rdH 6 (some 47) rfl (fun K hK => ?_)
      go_simp
      (with_reducible refine (HS.out _ hSn.below).mono ?_); rintro e1 w6 ⟨hb6, rfl⟩
      have hSm := hSn.step hb6
      clear hSn
      have hSn := hSm
      clear hSm hb6
      (try dsimp only [secV])
      refine hK.out _ _ ?_ (fun hHeld => ?_)
      · exact hSn
      clear hK K
      try simp only [Act.put, pS]
      refine tkW 7 (some 40) (v := ?_) rfl ?_ (tkW 8 (some 48) (v := ?_) rfl ?_ (tkW 9 (some 49) (v := ?_) rfl ?_ (tkW 10 (some 11) (v := ?_) rfl ?_ (tkW 11 (some 12) (v := ?_) rfl ?_ ?_))))
      iterate 5 (rotate_left; focus (intro u hSu; have hSv := blkCell hSu.get1; clear hSu; go_simp; (try with_reducible rfl)))
      try simp only [Act.put, pS]
      refine wpAnyH_done (by kernel_rfl) ?_ _
      clear hHeld
      have H3 := Lib.hid hSn
      clear hSn hc0 H2
      have hc0 := blkCell H3.out.get1
      go_wp2_with (first | (with_reducible refine listStore (by kernel_rfl) 42 (.tmp 6) (.tmp 52) rfl (w.heap.size + 2) (rcA 0 0 0 0 0 0 0 0 0 ⟨#[]⟩ ⟨#[]⟩ 0 0 ⟨#[]⟩ 0 0 (.slice none 0 0) (.slice none 0 0)) _ _ rfl rfl H3.out.get2 (by kernel_rfl) (by kernel_rfl) (by kernel_rfl) ?_))
      refine bodyPost_ret (v := .tuple #[.agg (rcA 0 0 0 0 0 0 0 0 0 ⟨#[]⟩ ⟨#[]⟩ 0 0 ⟨#[]⟩ 0 0 (.slice none 0 0) (.slice none 0 0)), .int .i64 e]) (results_cell2 rfl _ _ rfl (load_whole (setRow_heap _ _ _ _ _ _ H3.out.get2) Tryz.underlying42 (by kernel_rfl) (by kernel_rfl)) rfl) rfl ?_
      exact HO.out _ HDEF.out _ ((H3.out.row 2 _ _ rfl).below) _ rfl
    · have hHS : Hid (bg < Fs → ∀ W, Below w.heap.size w W → Calls Tryz.prog 34 #[diskV d A c, .int .i64 fr, .int .i64 bg, .int .i64 Fs] W (SecOut (Lg.secsD d (fr + bg) (Fs - bg).toNat) W)) := Lib.hid (fun hbf W hb => by
        obtain ⟨bn, hbn⟩ := Int.eq_ofNat_of_zero_le hb0
        have h9 := rsectors_any d (fun b hb => Nat.le_trans (hw b hb) (by omega)) A c fr bn Fs (by omega) (by omega) (by omega) (by omega) W (h.below hb)
        rw [← hbn] at h9
        exact h9)
      have HG := Lib.hid (fun W => refget_rec St q hStl W)
      have HDEF := Lib.hid ho
      clear ho h hw
      go_enter Tryz.func13, Tryz.ntmps13
      go_upto_region 4 with fail
      have H0 := Lib.hid (show BxL w.heap.size w [(#[.slice A d.sectors.length c, .int .i64 d.left, .bool d.down], 26), (#[.int .i64 fr, .int .i64 n, .int .i64 en, .int .i64 sf, .string tl], 31), ((rcA 0 0 0 0 0 0 0 0 0 ⟨#[]⟩ ⟨#[]⟩ 0 0 ⟨#[]⟩ 0 0 (.slice none 0 0) (.slice none 0 0)), 42)] (((w.alloc (.cells #[.slice A d.sectors.length c, .int .i64 d.left, .bool d.down] 26)).alloc (.cells #[.int .i64 fr, .int .i64 n, .int .i64 en, .int .i64 sf, .string tl] 31)).alloc (.cells (rcA 0 0 0 0 0 0 0 0 0 ⟨#[]⟩ ⟨#[]⟩ 0 0 ⟨#[]⟩ 0 0 (.slice none 0 0) (.slice none 0 0)) 42)) from (((BxL.nil (Below.refl w.heap.size w)).new (by simp) #[.slice A d.sectors.length c, .int .i64 d.left, .bool d.down] 26).new (by simp) #[.int .i64 fr, .int .i64 n, .int .i64 en, .int .i64 sf, .string tl] 31).new (by simp) (rcA 0 0 0 0 0 0 0 0 0 ⟨#[]⟩ ⟨#[]⟩ 0 0 ⟨#[]⟩ 0 0 (.slice none 0 0) (.slice none 0 0)) 42)
      obtain ⟨W0, hW0⟩ : ∃ W, W = (((w.alloc (.cells #[.slice A d.sectors.length c, .int .i64 d.left, .bool d.down] 26)).alloc (.cells #[.int .i64 fr, .int .i64 n, .int .i64 en, .int .i64 sf, .string tl] 31)).alloc (.cells (rcA 0 0 0 0 0 0 0 0 0 ⟨#[]⟩ ⟨#[]⟩ 0 0 ⟨#[]⟩ 0 0 (.slice none 0 0) (.slice none 0 0)) 42)) := ⟨_, rfl⟩
      rw [← hW0] at H0 ⊢
      clear hW0
      have hc0 := blkCell H0.out.get1
      rw [← HBG.out]
      have hSn := H0.out.drew
      refine wp_region_held_drew (S := (fun u => BxL w.heap.size w [(#[.slice A d.sectors.length c, .int .i64 d.left, .bool d.down], 26), (#[.int .i64 fr, .int .i64 n, .int .i64 en, .int .i64 sf, .string tl], 31), ((rcA 0 0 0 0 0 0 0 0 0 ⟨#[]⟩ ⟨#[]⟩ 0 0 ⟨#[]⟩ 0 0 (.slice none 0 0) (.slice none 0 0)), 42)] u)) (by kernel_rfl) ?_ (fun hHeld => ?_)
      · exact hSn
      refine tkW 0 (some 28) (v := ?_) rfl ?_ (tkW 1 (some 29) (v := ?_) rfl ?_ (tkW 2 (some 30) (v := ?_) rfl ?_ (tkW 3 (some 31) (v := ?_) rfl ?_ ?_)))
      iterate 4 (rotate_left; focus (intro u hSu; have hSv := blkCell hSu.get1; clear hSu; go_simp; (try with_reducible rfl)))
      try simp only [Act.put, pS]
      refine tkV 4 (some 32) (v := .agg #[.int .i64 fr, .int .i64 n, .int .i64 en, .int .i64 sf, .string tl]) rfl (yieldsIf_load_mid (by rfl) 31 (.tmp 4) rfl (w.heap.size + 1) 0 (by rfl) #[.int .i64 fr, .int .i64 n, .int .i64 en, .int .i64 sf, .string tl].toList _ (fun u hu => (by intro j v hj; rw [Nat.zero_add, blkCell hu.get1]; simpa using hj)) Tryz.underlying31 (by kernel_rfl) (by kernel_rfl)) ?_
      try simp only [Act.put, pS]
      refine rdH 5 (some 33) rfl (fun K hK => ?_)
      go_simp
      (with_reducible refine (HFI.out _).mono ?_); rintro e w3 ⟨rfl, hb3⟩
      have hSm := hSn.step hb3
      clear hSn
      have hSn := hSm
      clear hSm hb3
      refine hK.out _ _ ?_ (fun hHeld => ?_)
      · exact hSn
      clear hK K
      try simp only [Act.put, pS]
      refine tkW 6 (some 34) (v := ?_) rfl ?_ (tkW 7 (some 35) (v := ?_) rfl ?_ (tkW 8 (some 9) (v := ?_) rfl ?_ (tkW 9 (some 10) (v := ?_) rfl ?_ ?_)))
      iterate 4 (rotate_left; focus (intro u hSu; have hSv := blkCell hSu.get1; clear hSu; go_simp; (try with_reducible rfl)))
      try simp only [Act.put, pS]
      refine wpAnyH_done (by kernel_rfl) ?_ _
      clear hHeld
      have H1 := Lib.hid hSn
      clear hSn hc0 H0
      have hc0 := blkCell H1.out.get1
      go_upto_if 39 with (first | (go_at_call 28; (with_reducible refine (HFI.out _).mono ?_); rintro e4 w4 ⟨rfl, hb4⟩; have H2 := Lib.hid (H1.out.step hb4); have hc1 := blkCell H2.out.get1; clear hb4) | (with_reducible refine listLoad (by kernel_rfl) 31 (.tmp 4) rfl (w.heap.size + 1) rfl #[.int .i64 fr, .int .i64 n, .int .i64 en, .int .i64 sf, .string tl] _ H1.out.get1 _ Tryz.underlying31 (by kernel_rfl) (by kernel_rfl) ?_))
      go_cut [9, 10] (fun s a wc => s = .string St ∧ a = .int .i64 (q : Int) ∧ BxL w.heap.size w [(#[.slice A d.sectors.length c, .int .i64 d.left, .bool d.down], 26), (#[.int .i64 fr, .int .i64 n, .int .i64 en, .int .i64 sf, .string tl], 31), ((rcA 0 0 0 0 0 0 0 0 0 ⟨#[]⟩ ⟨#[]⟩ 0 0 ⟨#[]⟩ 0 0 (.slice none 0 0) (.slice none 0 0)), 42)] wc)
      case first =>
        clear HO HOK HDEF HG
        rcases hnf with ⟨hbf, rfl, hq⟩ | ⟨hbf, hq, L, hs, hLl, hSt⟩
        · go_wp2_with fail
          go_meet
          case rel => exact ⟨rfl, by rw [hq], H2.out⟩
        · have HS := Lib.hid (hHS.out hbf)
          rw [hs] at HS
          dsimp only [diskV] at HS
          have hwq8 : IntKind.i64.wrap (lsn - 1 - bg * 128) = (q : Int) := by rw [hq]; exact IntWalk.i64_in _ (by omega)
          obtain ⟨Sx, hSx⟩ : ∃ S : ByteArray, S = ⟨L.toArray⟩ := ⟨_, rfl⟩
          have hadd : ∀ W : World, (Op.stringOp .add Sx tl).run Tryz.prog W = .ok (.string St) W := fun W => (show St = Sx ++ tl from by rw [hSx]; exact hSt) ▸ run_string_add_sum W _ _ (by rw [hSx]; show L.toArray.size + _ ≤ _; simp; omega)
          have HSV : Hid (secV (.ok L) = .tuple #[.string Sx, .int .i64 0]) := Lib.hid (by rw [hSx]; rfl)
          clear hs hSx hq hSt
          go_upto_region 6 with fail
          have hSn := H2.out.drew
          refine wp_region_held_drew (S := (fun u => BxL w.heap.size w [(#[.slice A d.sectors.length c, .int .i64 d.left, .bool d.down], 26), (#[.int .i64 fr, .int .i64 n, .int .i64 en, .int .i64 sf, .string tl], 31), ((rcA 0 0 0 0 0 0 0 0 0 ⟨#[]⟩ ⟨#[]⟩ 0 0 ⟨#[]⟩ 0 0 (.slice none 0 0) (.slice none 0 0)), 42)] u)) (by kernel_rfl) ?_ (fun hHeld => ?_)
          · exact hSn
          refine tkV 0 (some 41) (v := .agg #[.slice A d.sectors.length c, .int .i64 d.left, .bool d.down]) rfl (yieldsIf_load_mid (by rfl) 26 (.tmp 3) rfl (w.heap.size) 0 (by rfl) #[.slice A d.sectors.length c, .int .i64 d.left, .bool d.down].toList _ (fun u hu => (by intro j v hj; rw [Nat.zero_add, blkCell hu.get0]; simpa using hj)) Tryz.underlying26 (by kernel_rfl) (by kernel_rfl)) ?_
          try simp only [Act.put, pS]
          refine tkW 1 (some 42) (v := ?_) rfl ?_ (tkW 2 (some 43) (v := ?_) rfl ?_ (tkW 3 (some 44) (v := ?_) rfl ?_ ?_))
          iterate 3 (rotate_left; focus (intro u hSu; have hSv := blkCell hSu.get1; clear hSu; go_simp; (try with_reducible rfl)))
          try simp only [Act.put, pS]
          refine tkV 4 (some 45) (v := .agg #[.int .i64 fr, .int .i64 n, .int .i64 en, .int .i64 sf, .string tl]) rfl (yieldsIf_load_mid (by rfl) 31 (.tmp 4) rfl (w.heap.size + 1) 0 (by rfl) #[.int .i64 fr, .int .i64 n, .int .i64 en, .int .i64 sf, .string tl].toList _ (fun u hu => (by intro j v hj; rw [Nat.zero_add, blkCell hu.get1]; simpa using hj)) Tryz.underlying31 (by kernel_rfl) (by kernel_rfl)) ?_
          try simp only [Act.put, pS]
          refine rdH 5 (some 46) rfl (fun K hK => ?_)
          go_simp
          (with_reducible refine (HFI.out _).mono ?_); rintro e w5 ⟨rfl, hb5⟩
          have hSm := hSn.step hb5
          clear hSn
          have hSn := hSm
          clear hSm hb5
          refine hK.out _ _ ?_ (fun hHeld => ?_)
          · exact hSn
          clear hK K
          try simp only [Act.put, pS]
          refine rdH 6 (some 47) rfl (fun K hK => ?_)
          go_simp
          (with_reducible refine (HS.out _ hSn.below).mono ?_); rintro e1 w6 ⟨hb6, rfl⟩
          have hSm := hSn.step hb6
          clear hSn
          have hSn := hSm
          clear hSm hb6
          rw [HSV.out]
          refine hK.out _ _ ?_ (fun hHeld => ?_)
          · exact hSn
          clear hK K
          try simp only [Act.put, pS]
          refine tkW 7 (some 40) (v := ?_) rfl ?_ (tkW 8 (some 48) (v := ?_) rfl ?_ (tkW 9 (some 49) (v := ?_) rfl ?_ (tkW 10 (some 11) (v := ?_) rfl ?_ (tkW 11 (some 12) (v := ?_) rfl ?_ ?_))))
          iterate 5 (rotate_left; focus (intro u hSu; have hSv := blkCell hSu.get1; clear hSu; go_simp; (try with_reducible rfl)))
          try simp only [Act.put, pS]
          refine wpAnyH_done (by kernel_rfl) ?_ _
          clear hHeld
          have H3 := Lib.hid hSn
          clear hSn hc0 H2
          have hc0 := blkCell H3.out.get1
          go_wp2_with fail
          go_meet
          case rel => exact ⟨rfl, rfl, H3.out⟩
      case rest =>
        obtain ⟨rfl, rfl, hbx⟩ := hcut
        obtain ⟨wb, rfl⟩ : ∃ wm : World, wm = wc := ⟨_, rfl⟩
        have H4 := Lib.hid hbx
        clear hbx H1 H2 hnf hHS HFI
        have hdef := HDEF.out
        cases hg : Lg.getO St.data.toList q with
        | none =>
          rw [hg] at HG hdef
          have HDEF2 := Lib.hid hdef
          clear hdef hg HOK HDEF
          go_wp2_with (first
            | (go_at_call 35; (with_reducible refine (HG.out _).mono ?_); rintro e w2 ⟨hb2, kk, hkk, rfl⟩; have he1 : (kk == 0) = false := (by simpa using hkk); have he2 : (kk != 0) = true := (by simpa using hkk); have H5 := Lib.hid (H4.out.step (pastAlloc (o := .cells (rcA 0 0 0 0 0 0 0 0 0 ⟨#[]⟩ ⟨#[]⟩ 0 0 ⟨#[]⟩ 0 0 (.slice none 0 0) (.slice none 0 0)) 42) hb2)); clear hkk hb2)
            | (with_reducible refine wpList_store_new rfl 42 (.tmp 13) (.tmp 67) rfl (rcA 0 0 0 0 0 0 0 0 0 ⟨#[]⟩ ⟨#[]⟩ 0 0 ⟨#[]⟩ 0 0 (.slice none 0 0) (.slice none 0 0)) _ _ rfl (by kernel_rfl) (by kernel_rfl) (by kernel_rfl) (by kernel_rfl) ?_)
            | (with_reducible refine listStore (by kernel_rfl) 42 (.tmp 6) (.tmp 78) rfl (w.heap.size + 2) (rcA 0 0 0 0 0 0 0 0 0 ⟨#[]⟩ ⟨#[]⟩ 0 0 ⟨#[]⟩ 0 0 (.slice none 0 0) (.slice none 0 0)) _ _ rfl rfl H5.out.get2 (by kernel_rfl) (by kernel_rfl) (by kernel_rfl) ?_))
          refine bodyPost_ret (v := .tuple #[.agg (rcA 0 0 0 0 0 0 0 0 0 ⟨#[]⟩ ⟨#[]⟩ 0 0 ⟨#[]⟩ 0 0 (.slice none 0 0) (.slice none 0 0)), .int .i64 21]) (results_cell2 rfl _ _ rfl (load_whole (setRow_heap _ _ _ _ _ _ H5.out.get2) Tryz.underlying42 (by kernel_rfl) (by kernel_rfl)) rfl) rfl ?_
          exact HO.out _ HDEF2.out _ ((H5.out.row 2 _ _ rfl).below) _ rfl
        | some rb =>
          obtain ⟨r, b⟩ := rb
          rw [hg] at HG hdef
          simp only at hdef
          clear hg HDEF
          by_cases hl : r.lsn = lsn
          · rw [if_pos hl] at hdef
            have HF := Lib.hid (fun w' hb A1 c1 D1 d1 hr => HOK.out r hdef w' hb A1 c1 D1 d1 hr)
            clear hdef HOK HO
            obtain ⟨lsn0, prev, txn, kind, page, next, nu, ⟨ok, os, oo, on⟩, how, root, ⟨ek, ep, es⟩, ts, ds⟩ := r
            simp only at hl
            subst hl
            have hself : (lsn0 != lsn0) = false := by simp
            dsimp only [recV, recA] at HF
            go_wp2_with (first
              | (go_at_call 35; (with_reducible refine (HG.out _).mono ?_); rintro e w2 ⟨hb2, A1, c1, D1, d1, rfl, hrr⟩; (try dsimp only [recV, recA]); have H5 := Lib.hid (H4.out.step (pastAlloc (o := .cells (rcA lsn0 prev txn kind page next nu ok os oo on how root ek ep es (.slice A1 ts.length c1) (.slice D1 ds.length d1)) 42) hb2)); have HR2 := Lib.hid (((hrr.mono (show w.heap.size + 3 ≤ wb.heap.size from (by have h9 := H4.out.lt (i := 2) (by simp); omega)))).below (allocB w2 (.cells (rcA lsn0 prev txn kind page next nu ok os oo on how root ek ep es (.slice A1 ts.length c1) (.slice D1 ds.length d1)) 42))); have hx2 := blkCell (heap_alloc_new w2 (.cells (rcA lsn0 prev txn kind page next nu ok os oo on how root ek ep es (.slice A1 ts.length c1) (.slice D1 ds.length d1)) 42)); simp at hx2; clear hb2 hrr)
              | (with_reducible refine wpList_store_new rfl 42 (.tmp 13) (.tmp 67) rfl (rcA lsn0 prev txn kind page next nu ok os oo on how root ek ep es (.slice A1 ts.length c1) (.slice D1 ds.length d1)) _ _ rfl (by kernel_rfl) (by kernel_rfl) (by kernel_rfl) (by kernel_rfl) ?_)
              | (with_reducible refine listLoad (by kernel_rfl) 42 (.tmp 13) rfl w2.heap.size rfl (rcA lsn0 prev txn kind page next nu ok os oo on how root ek ep es (.slice A1 ts.length c1) (.slice D1 ds.length d1)) _ (heap_alloc_new w2 _) _ Tryz.underlying42 (by kernel_rfl) (by kernel_rfl) ?_)
              | (with_reducible refine listStore (by kernel_rfl) 42 (.tmp 6) (.tmp 79) rfl (w.heap.size + 2) (rcA lsn0 prev txn kind page next nu ok os oo on how root ek ep es (.slice A1 ts.length c1) (.slice D1 ds.length d1)) _ _ rfl rfl H5.out.get2 (by kernel_rfl) (by kernel_rfl) (by kernel_rfl) ?_))
            refine bodyPost_ret (v := .tuple #[.agg (rcA lsn0 prev txn kind page next nu ok os oo on how root ek ep es (.slice A1 ts.length c1) (.slice D1 ds.length d1)), .int .i64 0]) (results_cell2 rfl _ _ rfl (load_whole (setRow_heap _ _ _ _ _ _ H5.out.get2) Tryz.underlying42 (by kernel_rfl) (by kernel_rfl)) rfl) rfl ?_
            exact HF.out _ ((H5.out.row 2 _ _ rfl).below) A1 c1 D1 d1 ((HR2.out.row _ _ (by omega)).mono (by omega))
          · rw [if_neg hl] at hdef
            have HDEF2 := Lib.hid hdef
            clear hdef HOK
            obtain ⟨lsn0, prev, txn, kind, page, next, nu, ⟨ok, os, oo, on⟩, how, root, ⟨ek, ep, es⟩, ts, ds⟩ := r
            simp only at hl
            have hl1' : (lsn0 == lsn) = false := by simpa using hl
            have hl2' : (lsn0 != lsn) = true := by simpa using hl
            clear hl
            go_wp2_with (first
              | (go_at_call 35; (with_reducible refine (HG.out _).mono ?_); rintro e w2 ⟨hb2, A1, c1, D1, d1, rfl, hrr⟩; (try dsimp only [recV, recA]); have H5 := Lib.hid (H4.out.step (pastAlloc (o := .cells (rcA lsn0 prev txn kind page next nu ok os oo on how root ek ep es (.slice A1 ts.length c1) (.slice D1 ds.length d1)) 42) hb2)); have hx2 := blkCell (heap_alloc_new w2 (.cells (rcA lsn0 prev txn kind page next nu ok os oo on how root ek ep es (.slice A1 ts.length c1) (.slice D1 ds.length d1)) 42)); simp at hx2; clear hb2 hrr)
              | (with_reducible refine wpList_store_new rfl 42 (.tmp 13) (.tmp 67) rfl (rcA lsn0 prev txn kind page next nu ok os oo on how root ek ep es (.slice A1 ts.length c1) (.slice D1 ds.length d1)) _ _ rfl (by kernel_rfl) (by kernel_rfl) (by kernel_rfl) (by kernel_rfl) ?_)
              | (with_reducible refine listStore (by kernel_rfl) 42 (.tmp 6) (.tmp 78) rfl (w.heap.size + 2) (rcA 0 0 0 0 0 0 0 0 0 ⟨#[]⟩ ⟨#[]⟩ 0 0 ⟨#[]⟩ 0 0 (.slice none 0 0) (.slice none 0 0)) _ _ rfl rfl H5.out.get2 (by kernel_rfl) (by kernel_rfl) (by kernel_rfl) ?_))
            refine bodyPost_ret (v := .tuple #[.agg (rcA 0 0 0 0 0 0 0 0 0 ⟨#[]⟩ ⟨#[]⟩ 0 0 ⟨#[]⟩ 0 0 (.slice none 0 0) (.slice none 0 0)), .int .i64 21]) (results_cell2 rfl _ _ rfl (load_whole (setRow_heap _ _ _ _ _ _ H5.out.get2) Tryz.underlying42 (by kernel_rfl) (by kernel_rfl)) rfl) rfl ?_
            exact HO.out _ HDEF2.out _ ((H5.out.row 2 _ _ rfl).below) _ rfl
end Go.Proofs.YtojaagnfjenhoaaGreat
/- The walks over the references of records and of the log: Put, New, room, filled, piece. -/
namespace Go.Proofs.YtojaagnfjenhoaaGreat
open Go.RowKit
set_option maxRecDepth 100000 in
set_option maxHeartbeats 4000000 in
theorem refput_no (r : Rc.Rec) (hR : ¬ Rc.Right r) (A D : Option Addr) (c d : Nat) (w : World) (hr : RecR w r A c D d) :
    Calls Tryz.prog 23 #[recV r (.slice A r.txns.length c) (.slice D r.dirty.length d)] w fun e w' => e = .returned (.tuple #[.string ⟨#[]⟩, .int .i64 1]) ∧ Below w.heap.size w w' := by
  have HR := Lib.hid (fun W (h : Below w.heap.size w W) => rright_any r A D c d W (hr.below h))
  have hb : Rc.rightB r = false := by
    cases h : Rc.rightB r with
    | false => rfl
    | true => exact absurd (Rc.rightB_iff.1 h) hR
  rw [hb] at HR
  have HA := Lib.hid (heap_alloc_new w (.cells (recA r (.slice A r.txns.length c) (.slice D r.dirty.length d)) 42))
  clear hR hb hr
  obtain ⟨lsn, prev, txn, kind, page, next, nu, ⟨ok, os, oo, on⟩, how, root, ⟨ek, ep, es⟩, ts, ds⟩ := r
  dsimp only [recV, recA] at HR HA ⊢
  go_enter Tryz.func23, Tryz.ntmps23
  go_wp2_with (first
    | (with_reducible refine listLoad (by kernel_rfl) 42 (.tmp 1) rfl w.heap.size rfl (rcA lsn prev txn kind page next nu ok os oo on how root ek ep es (.slice A ts.length c) (.slice D ds.length d)) _ HA.out _ Tryz.underlying42 (by kernel_rfl) (by kernel_rfl) ?_)
    | (go_at_call 42; (with_reducible refine (HR.out _ (allocB _ _)).mono ?_); rintro e w1 ⟨rfl, hb1⟩))
  go_ret2
  exact ⟨rfl, joinB (allocB _ _) hb1⟩
set_option maxRecDepth 100000 in
set_option maxHeartbeats 4000000 in
theorem refput_yes (r : Rc.Rec) (hR : Rc.Right r) (A D : Option Addr) (c d : Nat) (w : World) (hr : RecR w r A c D d) :
    Calls Tryz.prog 23 #[recV r (.slice A r.txns.length c) (.slice D r.dirty.length d)] w fun e w' => e = .returned (.tuple #[.string ⟨(Lg.putR r).toArray⟩, .int .i64 0]) ∧ Below w.heap.size w w' := by
  have HR := Lib.hid (fun W (h : Below w.heap.size w W) => rright_any r A D c d W (hr.below h))
  rw [Rc.rightB_yes hR] at HR
  have HB := Lib.hid (fun W (h : Below w.heap.size w W) => rbody_any r hR A D c d W (hr.below h))
  have hlen := Rc.bodyB_len hR
  obtain ⟨L, hL⟩ : ∃ L, L = Rc.bodyB r := ⟨_, rfl⟩
  have hfin : (⟨(Lg.putR r).toArray⟩ : ByteArray) = Rc.mk (Rc.p (L.length : Int) 4 ++ Rc.p ((Oct.sumN L : Nat) : Int) 4 ++ L) := by
    have h9 : L.length ≤ 40000 := by rw [hL]; exact hlen.2
    have e1 : Oct.word (L.length : Int) = L.length := Oct.word_nat _ (by omega)
    have e2 : Oct.word ((Oct.sumN L : Nat) : Int) = Oct.sumN L := Oct.word_nat _ (by have := Oct.sumN_lt L; omega)
    unfold Lg.putR Rc.mk Rc.p
    rw [e1, e2, ← hL, List.append_assoc]
  rw [hfin]
  rw [← hL] at HB hlen
  clear hfin
  have hll : L.length ≤ 40000 := by omega
  have HS := Lib.hid (fun W => rsum_any (Rc.mk L) (by rw [Rc.mk_size]; omega) W)
  rw [show (Rc.mk L).data.toList = L from rfl] at HS
  have HP1 := Lib.hid (fun W => show Calls Tryz.prog 44 #[.int .i64 (L.length : Int), .int .i64 4] W fun e w' => e = .returned (.string (Rc.mk (Rc.p (L.length : Int) 4))) ∧ Below W.heap.size W w' from rput_mk (L.length : Int) 4 (by omega) W)
  have HP2 := Lib.hid (fun W => show Calls Tryz.prog 44 #[.int .i64 ((Oct.sumN L : Nat) : Int), .int .i64 4] W fun e w' => e = .returned (.string (Rc.mk (Rc.p ((Oct.sumN L : Nat) : Int) 4))) ∧ Below W.heap.size W w' from rput_mk ((Oct.sumN L : Nat) : Int) 4 (by omega) W)
  have h4 : ∀ n, (Rc.p n 4).length = 4 := fun n => Oct.putL_length _ _
  have HA1 := fun W => add_mk (Rc.p (L.length : Int) 4) (Rc.p ((Oct.sumN L : Nat) : Int) 4) (by rw [h4, h4]; omega) W
  have HA2 := fun W => add_mk (Rc.p (L.length : Int) 4 ++ Rc.p ((Oct.sumN L : Nat) : Int) 4) L (by rw [List.length_append, h4, h4]; omega) W
  have hys : (Rc.mk L).size = L.length := Rc.mk_size L
  generalize ((Oct.sumN L : Nat) : Int) = q at HS HP2 HA1 HA2 ⊢
  obtain ⟨z3, hz3⟩ : ∃ z, z = Rc.mk (Rc.p (L.length : Int) 4 ++ Rc.p q 4 ++ L) := ⟨_, rfl⟩
  rw [← hz3] at HA2 ⊢
  obtain ⟨z2, hz2⟩ : ∃ z, z = Rc.mk (Rc.p (L.length : Int) 4 ++ Rc.p q 4) := ⟨_, rfl⟩
  rw [← hz2] at HA1 HA2
  clear hz2 hz3
  generalize Rc.mk (Rc.p (L.length : Int) 4) = x1 at HP1 HA1
  generalize Rc.mk (Rc.p q 4) = x2 at HP2 HA1
  generalize Rc.mk L = y at HB HS HA2 hys
  rw [← hys] at HP1
  clear hL hR hlen hll hys h4
  have HA := Lib.hid (heap_alloc_new w (.cells (recA r (.slice A r.txns.length c) (.slice D r.dirty.length d)) 42))
  clear hr
  obtain ⟨lsn, prev, txn, kind, page, next, nu, ⟨ok, os, oo, on⟩, how, root, ⟨ek, ep, es⟩, ts, ds⟩ := r
  dsimp only [recV, recA] at HR HA HB ⊢
  go_enter Tryz.func23, Tryz.ntmps23
  go_upto_region 3 with (first
    | (with_reducible refine listLoad (by kernel_rfl) 42 (.tmp 1) rfl w.heap.size rfl (rcA lsn prev txn kind page next nu ok os oo on how root ek ep es (.slice A ts.length c) (.slice D ds.length d)) _ HA.out _ Tryz.underlying42 (by kernel_rfl) (by kernel_rfl) ?_)
    | (go_at_call 42; (with_reducible refine (HR.out _ (allocB _ _)).mono ?_); rintro e w1 ⟨rfl, hb1⟩))
  have HB1 := Lib.hid (joinB (allocB w _) hb1)
  have HX1 := Lib.hid (blkOld HA.out hb1)
  clear hb1 HA HR
  go_wp2_with (first
    | (with_reducible refine listLoad (by kernel_rfl) 42 (.tmp 1) rfl w.heap.size rfl (rcA lsn prev txn kind page next nu ok os oo on how root ek ep es (.slice A ts.length c) (.slice D ds.length d)) _ HX1.out _ Tryz.underlying42 (by kernel_rfl) (by kernel_rfl) ?_)
    | (go_at_call 43; (with_reducible refine (HB.out _ HB1.out).mono ?_); rintro e w2 ⟨rfl, hb2⟩)
    | (go_at_call 44; (with_reducible refine (HP1.out _).mono ?_); rintro e w3 ⟨rfl, hb3⟩)
    | (go_at_call 45; (with_reducible refine (HS.out _).mono ?_); rintro e w4 ⟨rfl, rfl⟩)
    | (go_at_call 44; (with_reducible refine (HP2.out _).mono ?_); rintro e w5 ⟨rfl, hb5⟩))
  go_ret2
  exact ⟨rfl, joinB (joinB (joinB HB1.out hb2) hb3) hb5⟩
set_option maxRecDepth 100000 in
theorem rlnew_any (a n : Int) (w : World) :
    Calls Tryz.prog 7 #[.int .i64 a, .int .i64 n] w fun e w' => e = .returned (logV ⟨a, n, 0, 0, ⟨#[]⟩⟩) ∧ Below w.heap.size w w' := by
  have HZ := Lib.hid (heap_alloc_new w (.cells #[.int .i64 0, .int .i64 0, .int .i64 0, .int .i64 0, .string ⟨#[]⟩] 31))
  go_enter Tryz.func7, Tryz.ntmps7
  go_wp2_with (with_reducible refine listStore (by kernel_rfl) 31 (.tmp 4) (.tmp 7) rfl w.heap.size #[.int .i64 a, .int .i64 n, .int .i64 0, .int .i64 0, .string ⟨#[]⟩] _ _ rfl rfl HZ.out (by kernel_rfl) (by kernel_rfl) (by kernel_rfl) ?_)
  refine bodyPost_ret (v := .agg #[.int .i64 a, .int .i64 n, .int .i64 0, .int .i64 0, .string ⟨#[]⟩]) (results_cell rfl _ _ rfl (load_whole (setRow_heap _ _ _ _ _ _ HZ.out) Tryz.underlying31 (by kernel_rfl) (by kernel_rfl))) rfl ?_
  exact ⟨rfl, ((BxL.nil (Below.refl w.heap.size w)).new (by simp) #[.int .i64 0, .int .i64 0, .int .i64 0, .int .i64 0, .string ⟨#[]⟩] 31).row 0 _ _ rfl |>.below⟩
/-- How many bytes a log can have, by the reference. -/
def Lg.roomR (n : Int) : Int := if n < 0 ∨ 1099511627776 < n then 0 else n * 128
set_option maxRecDepth 100000 in
theorem rroom_any (f n e s : Int) (t : ByteArray) (w : World) :
    Calls Tryz.prog 24 #[.agg #[.int .i64 f, .int .i64 n, .int .i64 e, .int .i64 s, .string t]] w fun x w' => x = .returned (.int .i64 (Lg.roomR n)) ∧ Below w.heap.size w w' := by
  by_cases h1 : n < 0
  · rw [show Lg.roomR n = 0 by unfold Lg.roomR; rw [if_pos (.inl h1)]]
    go_enter Tryz.func24, Tryz.ntmps24
    go_wp2_with fail
    go_ret
    exact ⟨by simp, allocB _ _⟩
  · by_cases h2 : 1099511627776 < n
    · rw [show Lg.roomR n = 0 by unfold Lg.roomR; rw [if_pos (.inr h2)]]
      go_enter Tryz.func24, Tryz.ntmps24
      go_wp2_with fail
      go_ret
      exact ⟨by simp, allocB _ _⟩
    · rw [show Lg.roomR n = n * 128 by unfold Lg.roomR; rw [if_neg (by omega)]]
      have hw : IntKind.i64.wrap (n * 128) = n * 128 := IntWalk.i64_in _ (by omega)
      go_enter Tryz.func24, Tryz.ntmps24
      go_wp2_with fail
      go_ret
      exact ⟨by simp, allocB _ _⟩
end Go.Proofs.YtojaagnfjenhoaaGreat
/- The walk over the reference of the log: Append. -/
namespace Go.Proofs.YtojaagnfjenhoaaGreat
open Go.RowKit
set_option maxRecDepth 100000 in
set_option maxHeartbeats 8000000 in
theorem rappend_any (l : Lg.Lo) (he0 : 0 ≤ l.end_) (he1 : l.end_ ≤ 1000000000) (hn0 : 0 ≤ l.n) (hn1 : l.n ≤ 1000000000) (ht : l.tail.size ≤ 1000000000) (r : Rc.Rec) (A D : Option Addr) (c d : Nat) (w : World) (hr : RecR w r A c D d) :
    Calls Tryz.prog 9 #[logV l, recV r (.slice A r.txns.length c) (.slice D r.dirty.length d)] w (AppOut (Lg.appendD l r) w) := by
  have HPY := Lib.hid (fun hR W (hb : Below w.heap.size w W) => refput_yes { r with lsn := l.end_ + 1 } hR A D c d W ⟨hr.txns.below hb, hr.dirty.below hb, hr.small⟩)
  have HPN := Lib.hid (fun hR W (hb : Below w.heap.size w W) => refput_no { r with lsn := l.end_ + 1 } hR A D c d W ⟨hr.txns.below hb, hr.dirty.below hb, hr.small⟩)
  have HN := Lib.hid (@Lg.append_wrong l r)
  have HFU := Lib.hid (@Lg.append_full l r)
  have HOK := Lib.hid (@Lg.append_ok l r)
  generalize Lg.appendD l r = o at HN HFU HOK ⊢
  clear hr
  obtain ⟨fr, n, en, sf, tl⟩ := l
  obtain ⟨lsn, prev, txn, kind, page, next, nu, ⟨ok, os, oo, on⟩, how, root, ⟨ek, ep, es⟩, ts, ds⟩ := r
  dsimp only [recV, recA, logV] at HPY HPN HN HFU HOK he0 he1 hn0 hn1 ht ⊢
  have hw1 : IntKind.i64.wrap (en + 1) = en + 1 := IntWalk.i64_in _ (by omega)
  by_cases hR : Rc.Right ⟨en + 1, prev, txn, kind, page, next, nu, ⟨ok, os, oo, on⟩, how, root, ⟨ek, ep, es⟩, ts, ds⟩
  · have HP := Lib.hid (HPY.out hR)
    have HFU2 := Lib.hid (HFU.out hR)
    have HOK2 := Lib.hid (HOK.out hR)
    have hpl0 : (Lg.putR ⟨en + 1, prev, txn, kind, page, next, nu, ⟨ok, os, oo, on⟩, how, root, ⟨ek, ep, es⟩, ts, ds⟩).length ≤ 40008 := by rw [Lg.putR_len]; have := (Rc.bodyB_len hR).2; omega
    obtain ⟨x, hx⟩ : ∃ x : ByteArray, x = ⟨(Lg.putR ⟨en + 1, prev, txn, kind, page, next, nu, ⟨ok, os, oo, on⟩, how, root, ⟨ek, ep, es⟩, ts, ds⟩).toArray⟩ := ⟨_, rfl⟩
    have hxs : (Lg.putR ⟨en + 1, prev, txn, kind, page, next, nu, ⟨ok, os, oo, on⟩, how, root, ⟨ek, ep, es⟩, ts, ds⟩).length = x.size := by rw [hx]; show _ = ((Lg.putR ⟨en + 1, prev, txn, kind, page, next, nu, ⟨ok, os, oo, on⟩, how, root, ⟨ek, ep, es⟩, ts, ds⟩).toArray).size; simp
    rw [hxs] at HFU2 HOK2 hpl0
    rw [← hx] at HP HOK2
    have hpl := hpl0
    clear HPY HPN HN HFU HOK hR hx hxs hpl0
    go_enter Tryz.func9, Tryz.ntmps9
    go_upto_region 1 with fail
    have H0 := Lib.hid (show BxL w.heap.size w [(#[.int .i64 fr, .int .i64 n, .int .i64 en, .int .i64 sf, .string tl], 31), ((rcA lsn prev txn kind page next nu ok os oo on how root ek ep es (.slice A ts.length c) (.slice D ds.length d)), 42), (#[.int .i64 0, .int .i64 0, .int .i64 0, .int .i64 0, .string ⟨#[]⟩], 31)] (((w.alloc (.cells #[.int .i64 fr, .int .i64 n, .int .i64 en, .int .i64 sf, .string tl] 31)).alloc (.cells (rcA lsn prev txn kind page next nu ok os oo on how root ek ep es (.slice A ts.length c) (.slice D ds.length d)) 42)).alloc (.cells #[.int .i64 0, .int .i64 0, .int .i64 0, .int .i64 0, .string ⟨#[]⟩] 31)) from (((BxL.nil (Below.refl w.heap.size w)).new (by simp) #[.int .i64 fr, .int .i64 n, .int .i64 en, .int .i64 sf, .string tl] 31).new (by simp) (rcA lsn prev txn kind page next nu ok os oo on how root ek ep es (.slice A ts.length c) (.slice D ds.length d)) 42).new (by simp) #[.int .i64 0, .int .i64 0, .int .i64 0, .int .i64 0, .string ⟨#[]⟩] 31)
    obtain ⟨W0, hW0⟩ : ∃ W, W = (((w.alloc (.cells #[.int .i64 fr, .int .i64 n, .int .i64 en, .int .i64 sf, .string tl] 31)).alloc (.cells (rcA lsn prev txn kind page next nu ok os oo on how root ek ep es (.slice A ts.length c) (.slice D ds.length d)) 42)).alloc (.cells #[.int .i64 0, .int .i64 0, .int .i64 0, .int .i64 0, .string ⟨#[]⟩] 31)) := ⟨_, rfl⟩
    have hs0 : W0.heap.size = w.heap.size + 3 := by rw [hW0]; simp
    rw [← hW0] at H0 ⊢
    have hc0 := blkCell (H0.out.get 0 _ rfl)
    have hc1 := blkCell (H0.out.get 1 _ rfl)
    have hz1 := blkFrozen (H0.out.get 1 _ rfl)
    simp only [Nat.add_zero] at hc0
    clear hW0
    go_upto_region 2 with fail
    have H1 := Lib.hid (show BxL w.heap.size w [(#[.int .i64 fr, .int .i64 n, .int .i64 en, .int .i64 sf, .string tl], 31), ((rcA (en + 1) prev txn kind page next nu ok os oo on how root ek ep es (.slice A ts.length c) (.slice D ds.length d)), 42), (#[.int .i64 0, .int .i64 0, .int .i64 0, .int .i64 0, .string ⟨#[]⟩], 31)] (W0.setCell ⟨w.heap.size + 1, 0, none⟩ (.int .i64 (en + 1))) from by have h := H0.out.set 1 0 (.int .i64 (en + 1)) _ rfl; simpa using h)
    obtain ⟨W1, hW1⟩ : ∃ W, W = W0.setCell ⟨w.heap.size + 1, 0, none⟩ (.int .i64 (en + 1)) := ⟨_, rfl⟩
    rw [← hW1] at H1 ⊢
    clear hW1 hc0 hc1 hz1 H0 hs0
    have HX1 := Lib.hid (H1.out.get 1 _ rfl)
    go_upto_region 3 with (first
      | (with_reducible refine listLoad (by kernel_rfl) 42 (.tmp 3) rfl (w.heap.size + 1) rfl (rcA (en + 1) prev txn kind page next nu ok os oo on how root ek ep es (.slice A ts.length c) (.slice D ds.length d)) _ HX1.out _ Tryz.underlying42 (by kernel_rfl) (by kernel_rfl) ?_)
      | (go_at_call 23; (with_reducible refine (HP.out _ H1.out.below).mono ?_); rintro e w2 ⟨rfl, hb2⟩))
    have H2 := Lib.hid (H1.out.step hb2)
    clear hb2 H1 HX1 HP
    have HXA := Lib.hid (show w2.drew.heap[w.heap.size]? = some (.cells #[.int .i64 fr, .int .i64 n, .int .i64 en, .int .i64 sf, .string tl] 31 (0, 0)) from by have h := H2.out.drew.get 0 _ rfl; simpa using h)
    have HRM := Lib.hid (fun W => show Calls Tryz.prog 24 #[.agg #[.int .i64 fr, .int .i64 n, .int .i64 en, .int .i64 sf, .string tl]] W fun e w' => e = .returned (.int .i64 (n * 128)) ∧ Below W.heap.size W w' from by
      have h9 := rroom_any fr n en sf tl W
      rw [show Lg.roomR n = n * 128 from by unfold Lg.roomR; rw [if_neg (by omega)]] at h9
      exact h9)
    go_upto_region 5 with fail
    refine wp_region_held_drew (S := (fun u => u.heap[w.heap.size]? = some (.cells #[.int .i64 fr, .int .i64 n, .int .i64 en, .int .i64 sf, .string tl] 31 (0, 0)))) (by kernel_rfl) ?_ (fun hHeld => ?_)
    · first | exact hSn | exact HXA.out
    refine tkW 0 (some 22) (v := ?_) rfl ?_ (tkW 1 (some 23) (v := ?_) rfl ?_ ?_)
    iterate 2 (rotate_left; focus (intro u hSu; have hSv := blkCell hSu; clear hSu; go_simp; (try with_reducible rfl)))
    try simp only [Act.put, pS]
    refine tkV 2 (some 24) (v := .agg #[.int .i64 fr, .int .i64 n, .int .i64 en, .int .i64 sf, .string tl]) rfl (yieldsIf_load_mid (by rfl) 31 (.tmp 2) rfl w.heap.size 0 (by rfl) #[.int .i64 fr, .int .i64 n, .int .i64 en, .int .i64 sf, .string tl].toList _ (fun u hu => (by intro j v hj; rw [Nat.zero_add, blkCell hu]; simpa using hj)) Tryz.underlying31 (by kernel_rfl) (by kernel_rfl)) ?_
    try simp only [Act.put, pS]
    refine tkW 4 (some 26) (v := ?_) rfl ?_ (tkW 5 (some 27) (v := ?_) rfl ?_ ?_)
    iterate 2 (rotate_left; focus (intro u hSu; have hSv := blkCell hSu; clear hSu; go_simp; (try with_reducible rfl)))
    try simp only [Act.put, pS]
    refine rdH 3 (some 25) rfl (fun K hK => ?_)
    go_simp
    refine (HRM.out _).mono ?_; rintro e w3 ⟨rfl, hb3⟩
    have hSn := blkOld HXA.out hb3
    refine hK.out _ _ ?_ (fun hHeld => ?_)
    · first | exact hSn | exact HXA.out
    clear hK K
    try simp only [Act.put, pS]
    refine tkW 6 (some 28) (v := ?_) rfl ?_ (tkW 7 (some 29) (v := ?_) rfl ?_ ?_)
    iterate 2 (rotate_left; focus (intro u hSu; have hSv := blkCell hSu; clear hSu; go_simp; (try with_reducible rfl)))
    try simp only [Act.put, pS]
    refine wpAnyH_done (by kernel_rfl) ?_ _
    clear hHeld hSn HRM HXA
    have H2' := Lib.hid (H2.out.drew.step hb3)
    clear hb3 H2
    have H2 := H2'
    clear H2'
    have hm : IntKind.i64.wrap (n * 128) = n * 128 := IntWalk.i64_in _ (by omega)
    have hm2 : IntKind.i64.wrap (n * 128 - en) = n * 128 - en := IntWalk.i64_in _ (by omega)
    have hm3 : IntKind.i64.wrap (en + (x.size : Int)) = en + (x.size : Int) := IntWalk.i64_in _ (by omega)
    have hfq : n * 128 - en < (x.size : Int) ↔ n * 128 - (x.size : Int) < en := by omega
    by_cases hfull : n * 128 - en < (x.size : Int)
    · have HO := Lib.hid (HFU2.out (by omega))
      have HX2 := Lib.hid (show w3.heap[w.heap.size]? = some (.cells #[.int .i64 fr, .int .i64 n, .int .i64 en, .int .i64 sf, .string tl] 31 (0, 0)) from by have h := H2.out.get 0 _ rfl; simpa using h)
      have hc2 := blkCell HX2.out
      clear HFU2 HOK2
      go_wp2_with (first
        | (with_reducible refine listLoad (by kernel_rfl) 31 (.tmp 2) rfl w.heap.size rfl #[.int .i64 fr, .int .i64 n, .int .i64 en, .int .i64 sf, .string tl] _ HX2.out _ Tryz.underlying31 (by kernel_rfl) (by kernel_rfl) ?_)
        | (with_reducible refine listStore (by kernel_rfl) 31 (.tmp 4) (.tmp 30) rfl (w.heap.size + 2) #[.int .i64 fr, .int .i64 n, .int .i64 en, .int .i64 sf, .string tl] _ _ rfl rfl (H2.out.get 2 _ rfl) (by kernel_rfl) (by kernel_rfl) (by kernel_rfl) ?_))
      refine bodyPost_ret (v := .tuple #[.agg #[.int .i64 fr, .int .i64 n, .int .i64 en, .int .i64 sf, .string tl], .int .i64 0, .int .i64 18]) (results_cell3 rfl _ _ rfl (load_whole (setRow_heap _ _ _ _ _ _ (H2.out.get 2 _ rfl)) Tryz.underlying31 (by kernel_rfl) (by kernel_rfl)) rfl rfl) rfl ?_
      rw [HO.out]
      exact ⟨rfl, (H2.out.row 2 _ _ rfl).below⟩
    · have HO := Lib.hid (HOK2.out (by omega))
      have hadd : ∀ W : World, (Op.stringOp .add tl x).run Tryz.prog W = .ok (.string (tl ++ x)) W := fun W => run_string_add_sum W _ _ (by omega)
      have HX2 := Lib.hid (show w3.heap[w.heap.size]? = some (.cells #[.int .i64 fr, .int .i64 n, .int .i64 en, .int .i64 sf, .string tl] 31 (0, 0)) from by have h := H2.out.get 0 _ rfl; simpa using h)
      have hc2 := blkCell HX2.out
      have hz2 := blkFrozen HX2.out
      clear HFU2 HOK2
      go_upto_region 8 with fail
      have H3 := Lib.hid (show BxL w.heap.size w [(#[.int .i64 fr, .int .i64 n, .int .i64 en, .int .i64 sf, .string (tl ++ x)], 31), ((rcA (en + 1) prev txn kind page next nu ok os oo on how root ek ep es (.slice A ts.length c) (.slice D ds.length d)), 42), (#[.int .i64 0, .int .i64 0, .int .i64 0, .int .i64 0, .string ⟨#[]⟩], 31)] (w3.setCell ⟨w.heap.size, 4, none⟩ (.string (tl ++ x))) from by have h := H2.out.set 0 4 (.string (tl ++ x)) _ rfl; simpa using h)
      obtain ⟨W3, hW3⟩ : ∃ W, W = w3.setCell ⟨w.heap.size, 4, none⟩ (.string (tl ++ x)) := ⟨_, rfl⟩
      rw [← hW3] at H3 ⊢
      clear hW3 hc2 hz2 HX2 H2
      have hc3 := blkCell (H3.out.get 0 _ rfl)
      have hz3 := blkFrozen (H3.out.get 0 _ rfl)
      simp only [Nat.add_zero] at hc3 hz3
      go_upto_region 9 with fail
      have H4 := Lib.hid (show BxL w.heap.size w [(#[.int .i64 fr, .int .i64 n, .int .i64 (en + (x.size : Int)), .int .i64 sf, .string (tl ++ x)], 31), ((rcA (en + 1) prev txn kind page next nu ok os oo on how root ek ep es (.slice A ts.length c) (.slice D ds.length d)), 42), (#[.int .i64 0, .int .i64 0, .int .i64 0, .int .i64 0, .string ⟨#[]⟩], 31)] (W3.setCell ⟨w.heap.size, 2, none⟩ (.int .i64 (en + (x.size : Int)))) from by have h := H3.out.set 0 2 (.int .i64 (en + (x.size : Int))) _ rfl; simpa using h)
      obtain ⟨W4, hW4⟩ : ∃ W, W = W3.setCell ⟨w.heap.size, 2, none⟩ (.int .i64 (en + (x.size : Int))) := ⟨_, rfl⟩
      rw [← hW4] at H4 ⊢
      clear hW4 hc3 hz3 H3 hadd
      have HD4 := Lib.hid H4.out.drew
      refine wp_region_held_drew (S := (fun u => u.heap[w.heap.size]? = some (.cells #[.int .i64 fr, .int .i64 n, .int .i64 (en + (x.size : Int)), .int .i64 sf, .string (tl ++ x)] 31 (0, 0)) ∧ u.heap[w.heap.size + 1]? = some (.cells (rcA (en + 1) prev txn kind page next nu ok os oo on how root ek ep es (.slice A ts.length c) (.slice D ds.length d)) 42 (0, 0)))) (by kernel_rfl) ?_ (fun hHeld => ?_)
      · first | exact hSn | exact ⟨(by have h := HD4.out.get 0 _ rfl; simpa using h), HD4.out.get 1 _ rfl⟩
      refine tkW 0 (some 42) (v := ?_) rfl ?_ (tkW 1 (some 43) (v := ?_) rfl ?_ (tkW 2 (some 44) (v := ?_) rfl ?_ ?_))
      iterate 3 (rotate_left; focus (intro u hSu; have hSa := blkCell hSu.1; have hSb := blkCell hSu.2; clear hSu; go_simp; (try with_reducible rfl)))
      try simp only [Act.put, pS]
      refine rdH 3 none rfl (fun K hK => ?_)
      refine wantedIf (by rfl) ?_
      refine wp_store_whole 31 (.tmp 4) (.tmp 42) rfl (w.heap.size + 2) #[.int .i64 fr, .int .i64 n, .int .i64 (en + (x.size : Int)), .int .i64 sf, .string (tl ++ x)] _ _ rfl rfl (HD4.out.get 2 _ rfl) (by kernel_rfl) (by kernel_rfl) (by kernel_rfl) ?_
      have hB5 := HD4.out.row 2 #[.int .i64 fr, .int .i64 n, .int .i64 (en + (x.size : Int)), .int .i64 sf, .string (tl ++ x)] _ rfl
      have hSn := And.intro (show _ = some (Obj.cells #[.int .i64 fr, .int .i64 n, .int .i64 (en + (x.size : Int)), .int .i64 sf, .string (tl ++ x)] 31 (0, 0)) from by have h := hB5.get 0 _ rfl; simpa using h) (hB5.get 1 _ rfl)
      refine hK.out _ _ ?_ (fun hHeld => ?_)
      · first | exact hSn | exact ⟨(by have h := HD4.out.get 0 _ rfl; simpa using h), HD4.out.get 1 _ rfl⟩
      clear hK K
      try simp only [Act.put]
      refine tkW 4 (some 5) (v := ?_) rfl ?_ (tkW 5 (some 6) (v := ?_) rfl ?_ ?_)
      iterate 2 (rotate_left; focus (intro u hSu; have hSa := blkCell hSu.1; have hSb := blkCell hSu.2; clear hSu; go_simp; (try with_reducible rfl)))
      try simp only [Act.put, pS]
      refine wpAnyH_done (by kernel_rfl) ?_ _
      clear hHeld
      go_wp2_with fail
      refine bodyPost_ret (v := .tuple #[.agg #[.int .i64 fr, .int .i64 n, .int .i64 (en + (x.size : Int)), .int .i64 sf, .string (tl ++ x)], .int .i64 (en + 1), .int .i64 0]) (results_cell3 rfl _ _ rfl (load_whole (setRow_heap _ _ _ _ _ _ (HD4.out.get 2 _ rfl)) Tryz.underlying31 (by kernel_rfl) (by kernel_rfl)) rfl rfl) rfl ?_
      rw [HO.out]
      exact ⟨rfl, hB5.below⟩
  · have HO := Lib.hid (HN.out hR)
    have HP := Lib.hid (HPN.out hR)
    clear HPY HPN HN HFU HOK hR
    go_enter Tryz.func9, Tryz.ntmps9
    go_upto_region 1 with fail
    have H0 := Lib.hid (show BxL w.heap.size w [(#[.int .i64 fr, .int .i64 n, .int .i64 en, .int .i64 sf, .string tl], 31), ((rcA lsn prev txn kind page next nu ok os oo on how root ek ep es (.slice A ts.length c) (.slice D ds.length d)), 42), (#[.int .i64 0, .int .i64 0, .int .i64 0, .int .i64 0, .string ⟨#[]⟩], 31)] (((w.alloc (.cells #[.int .i64 fr, .int .i64 n, .int .i64 en, .int .i64 sf, .string tl] 31)).alloc (.cells (rcA lsn prev txn kind page next nu ok os oo on how root ek ep es (.slice A ts.length c) (.slice D ds.length d)) 42)).alloc (.cells #[.int .i64 0, .int .i64 0, .int .i64 0, .int .i64 0, .string ⟨#[]⟩] 31)) from (((BxL.nil (Below.refl w.heap.size w)).new (by simp) #[.int .i64 fr, .int .i64 n, .int .i64 en, .int .i64 sf, .string tl] 31).new (by simp) (rcA lsn prev txn kind page next nu ok os oo on how root ek ep es (.slice A ts.length c) (.slice D ds.length d)) 42).new (by simp) #[.int .i64 0, .int .i64 0, .int .i64 0, .int .i64 0, .string ⟨#[]⟩] 31)
    obtain ⟨W0, hW0⟩ : ∃ W, W = (((w.alloc (.cells #[.int .i64 fr, .int .i64 n, .int .i64 en, .int .i64 sf, .string tl] 31)).alloc (.cells (rcA lsn prev txn kind page next nu ok os oo on how root ek ep es (.slice A ts.length c) (.slice D ds.length d)) 42)).alloc (.cells #[.int .i64 0, .int .i64 0, .int .i64 0, .int .i64 0, .string ⟨#[]⟩] 31)) := ⟨_, rfl⟩
    have hs0 : W0.heap.size = w.heap.size + 3 := by rw [hW0]; simp
    rw [← hW0] at H0 ⊢
    have hc0 := blkCell (H0.out.get 0 _ rfl)
    have hc1 := blkCell (H0.out.get 1 _ rfl)
    have hz1 := blkFrozen (H0.out.get 1 _ rfl)
    simp only [Nat.add_zero] at hc0
    clear hW0
    go_upto_region 2 with fail
    have H1 := Lib.hid (show BxL w.heap.size w [(#[.int .i64 fr, .int .i64 n, .int .i64 en, .int .i64 sf, .string tl], 31), ((rcA (en + 1) prev txn kind page next nu ok os oo on how root ek ep es (.slice A ts.length c) (.slice D ds.length d)), 42), (#[.int .i64 0, .int .i64 0, .int .i64 0, .int .i64 0, .string ⟨#[]⟩], 31)] (W0.setCell ⟨w.heap.size + 1, 0, none⟩ (.int .i64 (en + 1))) from by have h := H0.out.set 1 0 (.int .i64 (en + 1)) _ rfl; simpa using h)
    obtain ⟨W1, hW1⟩ : ∃ W, W = W0.setCell ⟨w.heap.size + 1, 0, none⟩ (.int .i64 (en + 1)) := ⟨_, rfl⟩
    rw [← hW1] at H1 ⊢
    clear hW1 hc0 hc1 hz1 H0 hs0
    have HX1 := Lib.hid (H1.out.get 1 _ rfl)
    go_upto_region 3 with (first
      | (with_reducible refine listLoad (by kernel_rfl) 42 (.tmp 3) rfl (w.heap.size + 1) rfl (rcA (en + 1) prev txn kind page next nu ok os oo on how root ek ep es (.slice A ts.length c) (.slice D ds.length d)) _ HX1.out _ Tryz.underlying42 (by kernel_rfl) (by kernel_rfl) ?_)
      | (go_at_call 23; (with_reducible refine (HP.out _ H1.out.below).mono ?_); rintro e w3 ⟨rfl, hb2⟩))
    have H2 := Lib.hid (H1.out.step hb2)
    clear hb2 H1 HX1 HP
    have HX2 := Lib.hid (show w3.heap[w.heap.size]? = some (.cells #[.int .i64 fr, .int .i64 n, .int .i64 en, .int .i64 sf, .string tl] 31 (0, 0)) from by have h := H2.out.get 0 _ rfl; simpa using h)
    go_wp2_with (first
      | (with_reducible refine listLoad (by kernel_rfl) 31 (.tmp 2) rfl w.heap.size rfl #[.int .i64 fr, .int .i64 n, .int .i64 en, .int .i64 sf, .string tl] _ HX2.out _ Tryz.underlying31 (by kernel_rfl) (by kernel_rfl) ?_)
      | (with_reducible refine listStore (by kernel_rfl) 31 (.tmp 4) (.tmp 20) rfl (w.heap.size + 2) #[.int .i64 fr, .int .i64 n, .int .i64 en, .int .i64 sf, .string tl] _ _ rfl rfl (H2.out.get 2 _ rfl) (by kernel_rfl) (by kernel_rfl) (by kernel_rfl) ?_))
    refine bodyPost_ret (v := .tuple #[.agg #[.int .i64 fr, .int .i64 n, .int .i64 en, .int .i64 sf, .string tl], .int .i64 0, .int .i64 1]) (results_cell3 rfl _ _ rfl (load_whole (setRow_heap _ _ _ _ _ _ (H2.out.get 2 _ rfl)) Tryz.underlying31 (by kernel_rfl) (by kernel_rfl)) rfl rfl) rfl ?_
    rw [HO.out]
    exact ⟨rfl, (H2.out.row 2 _ _ rfl).below⟩
end Go.Proofs.YtojaagnfjenhoaaGreat
