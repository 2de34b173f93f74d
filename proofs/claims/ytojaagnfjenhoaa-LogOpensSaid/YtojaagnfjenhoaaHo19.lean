/- The walk over the reference of logs: Open. -/
import Derived.Test.YtojaagnfjenhoaaHo12
import Derived.Test.YtojaagnfjenhoaaHo18
import Derived.Test.YtojaagnfjenhoaaHo10
import Derived.Test.YtojaagnfjenhoaaHo03
namespace Go.Proofs.Ytojaagnfjenhoaa
open Go.RowKit
theorem rsectors_0 (d : Lg.Dk) (hw : ∀ b ∈ d.sectors, b.size ≤ 1000) (A : Option Addr) (c : Nat) (f : Int) (n : Int) (hf1 : -9223372036854775808 ≤ f) (hf2 : f ≤ 9223372036854775807) (hn : n ≤ 1000) (w : World) (h : DiskR w d A c) :
    Calls Try.prog 21 #[diskV d A c, .int .i64 f, .int .i64 0, .int .i64 n] w (SecOut (Lg.secsD d f n.toNat) w) := by
  have e := rsectors_any d hw A c f 0 n (by omega) (by omega) (by omega) hn w h
  rw [show f + ((0 : Nat) : Int) = f by omega, show n - ((0 : Nat) : Int) = n by omega] at e
  exact e
theorem refget_rec (s : ByteArray) (a : Nat) (hm : s.size ≤ 1000000) (w : World) :
    Calls Try.prog 22 #[.string s, .int .i64 (a : Int)] w (GetOut (Lg.getO s.data.toList a) w) := by
  have h := refget_any s (a : Int) hm w
  rw [if_pos (by omega), Int.toNat_natCast] at h
  exact h
set_option maxRecDepth 100000 in
set_option maxHeartbeats 8000000 in
theorem ropen_any (d : Lg.Dk) (hw : ∀ b ∈ d.sectors, b.size ≤ 128) (hdl : d.sectors.length ≤ 7000) (A : Option Addr) (c : Nat) (f0 n0 : Int) (hf1 : -9223372036854775808 ≤ f0) (hf2 : f0 ≤ 9223372036854775807) (hn : n0 ≤ 1000) (w : World) (h : DiskR w d A c) :
    Calls Try.prog 9 #[diskV d A c, .int .i64 f0, .int .i64 n0] w (OpenOut (Lg.openD d f0 n0) w) := by
  have HS := Lib.hid (fun W (hb : Below w.heap.size w W) => rsectors_0 d (fun b hb => Nat.le_trans (hw b hb) (by omega)) A c f0 n0 hf1 hf2 hn W (h.below hb))
  have hlen := @Lg.secs_len d hw n0.toNat f0
  have HO := Lib.hid (fun ps v w' x (hx : Lg.openD d f0 n0 = x) (h1 : ps.map (·.r) = x.2.1) (h2 : OwnL recC 18 49 w.heap.size w' v ps) (h3 : RecsN w.heap.size w' ps) (h4 : Below w.heap.size w w') => show OpenOut (Lg.openD d f0 n0) w (.returned (.tuple #[logV x.1, v, .int .i64 x.2.2])) w' from ⟨ps, v, by rw [hx]; exact h1, by rw [hx], h2, h3, h4⟩)
  have hdef : Lg.openD d f0 n0 = Lg.openD d f0 n0 := rfl
  conv at hdef => rhs; unfold Lg.openD
  have hne := @Lg.secs_fault d n0.toNat f0
  generalize Lg.openD d f0 n0 = o at HO hdef ⊢
  generalize OpenOut o w = Q at HO ⊢
  clear h hw
  cases hs : Lg.secsD d f0 n0.toNat with
  | error e =>
    rw [hs] at HS hdef
    have he := hne hs
    simp only at hdef
    have HDEF := Lib.hid hdef
    have he1 : (e == 0) = false := by simpa using he
    have he2 : (e != 0) = true := by simpa using he
    clear hdef hne hlen hs he hn hf1 hf2 hdl
    go_enter Try.func9, Try.ntmps9
    go_upto_region 1 with fail
    have H0 := Lib.hid (show BxL w.heap.size w [(#[.slice A d.sectors.length c, .int .i64 d.left, .bool d.down], 24), (#[.int .i64 0, .int .i64 0, .int .i64 0, .int .i64 0, .string ⟨#[]⟩], 28)] ((w.alloc (.cells #[.slice A d.sectors.length c, .int .i64 d.left, .bool d.down] 24)).alloc (.cells #[.int .i64 0, .int .i64 0, .int .i64 0, .int .i64 0, .string ⟨#[]⟩] 28)) from ((BxL.nil (Below.refl w.heap.size w)).new (by simp) #[.slice A d.sectors.length c, .int .i64 d.left, .bool d.down] 24).new (by simp) #[.int .i64 0, .int .i64 0, .int .i64 0, .int .i64 0, .string ⟨#[]⟩] 28)
    obtain ⟨W0, hW0⟩ : ∃ W, W = ((w.alloc (.cells #[.slice A d.sectors.length c, .int .i64 d.left, .bool d.down] 24)).alloc (.cells #[.int .i64 0, .int .i64 0, .int .i64 0, .int .i64 0, .string ⟨#[]⟩] 28)) := ⟨_, rfl⟩
    rw [← hW0] at H0 ⊢
    clear hW0
    dsimp only [diskV] at HS
    go_wp2_with (first
      | (with_reducible refine listLoad (by kernel_rfl) 24 (.tmp 3) rfl w.heap.size rfl #[.slice A d.sectors.length c, .int .i64 d.left, .bool d.down] _ H0.out.get0 _ Try.underlying24 (by kernel_rfl) (by kernel_rfl) ?_)
      | (go_at_call 21; (with_reducible refine (HS.out _ H0.out.below).mono ?_); rintro e1 w1 ⟨hb1, rfl⟩; (try dsimp only [secV]); have H1 := Lib.hid (H0.out.step hb1); clear hb1)
      | (with_reducible refine listStore (by kernel_rfl) 28 (.tmp 6) (.tmp 26) rfl (w.heap.size + 1) #[.int .i64 0, .int .i64 0, .int .i64 0, .int .i64 0, .string ⟨#[]⟩] _ _ rfl rfl H1.out.get1 (by kernel_rfl) (by kernel_rfl) (by kernel_rfl) ?_))
    refine bodyPost_ret (v := .tuple #[.agg #[.int .i64 0, .int .i64 0, .int .i64 0, .int .i64 0, .string ⟨#[]⟩], .slice none 0 0, .int .i64 e]) (results_cell3 rfl _ _ rfl (load_whole (setRow_heap _ _ _ _ _ _ H1.out.get1) Try.underlying28 (by kernel_rfl) (by kernel_rfl)) rfl rfl) rfl ?_
    exact HO.out [] _ _ (Lg.noLog, [], e) HDEF.out rfl (ownNil _ _ _ _) (RecsN.nil _ _) ((H1.out.row 1 _ _ rfl).below)
  | ok L =>
    rw [hs] at HS hdef
    simp only at hdef
    have hl2 := hlen hs
    have hLl : L.length ≤ 1000000 := by
      rcases hl2.2 with h0 | h0
      · have := hl2.1; rw [h0] at this; omega
      · have := hl2.1
        have h3 : n0.toNat ≤ 7000 := by omega
        omega
    have HDEF := Lib.hid hdef
    clear hdef hne hlen hs hn hf1 hf2 hdl hl2
    obtain ⟨S, hS⟩ : ∃ S : ByteArray, S = ⟨L.toArray⟩ := ⟨_, rfl⟩
    have hSl : S.data.toList = L := by rw [hS]
    have hSs : S.size = L.length := by rw [← hSl]; simp
    have hSm : S.size ≤ 1000000 := by omega
    have HG := Lib.hid (fun a W => refget_rec S a hSm W)
    rw [hSl] at HG
    have HSV : Hid (secV (.ok L) = .tuple #[.string S, .int .i64 0]) := Lib.hid (by rw [hS]; rfl)
    have HSL := Lib.hid hSl
    have HTL := Lib.hid (fun k m (hk : k ≤ S.size) (hm : m ≤ k) => show (⟨((L.take k).drop (k - m)).toArray⟩ : ByteArray) = S.extract (k - m) k from by
      rw [← HSL.out]
      apply ByteArray.ext
      rw [ByteArray.data_extract]
      apply Array.toList_inj.1
      rw [Array.toList_extract, List.extract_eq_take_drop, List.drop_take])
    rw [← hSs] at HDEF
    clear hS hSl hLl hSs
    go_enter Try.func9, Try.ntmps9
    go_upto_region 1 with fail
    have H0 := Lib.hid (show BxL w.heap.size w [(#[.slice A d.sectors.length c, .int .i64 d.left, .bool d.down], 24), (#[.int .i64 0, .int .i64 0, .int .i64 0, .int .i64 0, .string ⟨#[]⟩], 28)] ((w.alloc (.cells #[.slice A d.sectors.length c, .int .i64 d.left, .bool d.down] 24)).alloc (.cells #[.int .i64 0, .int .i64 0, .int .i64 0, .int .i64 0, .string ⟨#[]⟩] 28)) from ((BxL.nil (Below.refl w.heap.size w)).new (by simp) #[.slice A d.sectors.length c, .int .i64 d.left, .bool d.down] 24).new (by simp) #[.int .i64 0, .int .i64 0, .int .i64 0, .int .i64 0, .string ⟨#[]⟩] 28)
    obtain ⟨W0, hW0⟩ : ∃ W, W = ((w.alloc (.cells #[.slice A d.sectors.length c, .int .i64 d.left, .bool d.down] 24)).alloc (.cells #[.int .i64 0, .int .i64 0, .int .i64 0, .int .i64 0, .string ⟨#[]⟩] 28)) := ⟨_, rfl⟩
    rw [← hW0] at H0 ⊢
    clear hW0
    dsimp only [diskV] at HS
    go_upto_block 0 with (first
      | (with_reducible refine listLoad (by kernel_rfl) 24 (.tmp 3) rfl w.heap.size rfl #[.slice A d.sectors.length c, .int .i64 d.left, .bool d.down] _ H0.out.get0 _ Try.underlying24 (by kernel_rfl) (by kernel_rfl) ?_)
      | (go_at_call 21; (with_reducible refine (HS.out _ H0.out.below).mono ?_); rintro e1 w1 ⟨hb1, rfl⟩; rw [HSV.out]; have H1 := Lib.hid (H0.out.step hb1); clear hb1))
    clear H0 HS HSV
    go_cut [11, 12] (fun v a wc => ∃ (ps : List PRec) (k : Nat), a = .int .i64 (k : Int) ∧ k ≤ S.size ∧ Lg.openL L (S.size + 1) 0 = (ps.map (·.r), k) ∧ BxL w.heap.size w [(#[.slice A d.sectors.length c, .int .i64 d.left, .bool d.down], 24), (#[.int .i64 0, .int .i64 0, .int .i64 0, .int .i64 0, .string ⟨#[]⟩], 28)] wc ∧ OwnL recC 18 49 (w.heap.size + 2) wc v ps ∧ RecsN (w.heap.size + 2) wc ps)
    case first =>
      go_wp2_with fail
      go_loopw [11, 12] (fun v a wr => ∃ (ps : List PRec) (k f : Nat), a = .int .i64 (k : Int) ∧ k ≤ S.size ∧ S.size + 1 ≤ f + k ∧ ps.length ≤ k ∧ Lg.openL L (S.size + 1) 0 = (ps.map (·.r) ++ (Lg.openL L f k).1, (Lg.openL L f k).2) ∧ BxL w.heap.size w [(#[.slice A d.sectors.length c, .int .i64 d.left, .bool d.down], 24), (#[.int .i64 0, .int .i64 0, .int .i64 0, .int .i64 0, .string ⟨#[]⟩], 28)] wr ∧ OwnL recC 18 49 (w.heap.size + 2) wr v ps ∧ RecsN (w.heap.size + 2) wr ps) (fun _ a _ => S.size - (intOf a).toNat)
      case atStart => exact ⟨[], 0, S.size + 1, rfl, Nat.zero_le _, Nat.le_refl _, Nat.le_refl _, rfl, H1.out, ownNil _ _ _ _, RecsN.nil _ _⟩
      case round =>
        obtain ⟨ps, k, f, rfl, hk, hf, hpk, hop, hbx, hown, hrs⟩ := hrel
        obtain ⟨f, rfl⟩ : ∃ g, f = g + 1 := ⟨f - 1, by omega⟩
        have HOP := Lib.hid hop
        have HB := Lib.hid hbx
        have HRS := Lib.hid hrs
        obtain ⟨A8, c8, rfl⟩ := ownLen hown
        have HOW := Lib.hid hown
        clear hop hbx hrs hown H1
        have hGk := HG.out k
        have hGN := @Lg.openL_none L f k
        have hGS := @Lg.openL_stop L f k
        have hGG := @Lg.openL_go L f k
        have hGI := @Lg.getO_some L k
        rw [show L.length = S.size by rw [← HSL.out]; simp] at hGI
        by_cases hlt : (k : Int) < (S.size : Int)
        rotate_left
        · have hX := HOP.out
          have hgn : Lg.getO L k = none := by
            cases hg : Lg.getO L k with
            | none => rfl
            | some rb => obtain ⟨r, b⟩ := rb; have := hGI hg; omega
          rw [hGN hgn, List.append_nil] at hX
          have HX := Lib.hid hX
          clear hGk hGN hGS hGG hGI hX hgn
          go_wp2_with fail
          go_meet
          case rel => exact ⟨ps, k, rfl, hk, HX.out, HB.out, HOW.out, HRS.out⟩
        cases hg : Lg.getO L k with
        | none =>
          rw [hg] at hGk
          have HGk := Lib.hid hGk
          have HX := Lib.hid (HOP.out.trans (by rw [hGN hg, List.append_nil]))
          clear hGk hGN hGS hGG hGI hg
          go_wp2_with (first
            | (go_at_call 22; (with_reducible refine (HGk.out _).mono ?_); rintro e w2 ⟨hb2, kk, hkk, rfl⟩; have he1 : (kk == 0) = false := (by simpa using hkk); have he2 : (kk != 0) = true := (by simpa using hkk); clear hkk)
            | (with_reducible refine wpList_store_new rfl 49 (.tmp 13) (.tmp 36) rfl #[.int .i64 0, .int .i64 0, .int .i64 0, .int .i64 0, .int .i64 0, .int .i64 0, .int .i64 0, .int .i64 0, .int .i64 0, .string ⟨#[]⟩, .string ⟨#[]⟩, .int .i64 0, .int .i64 0, .string ⟨#[]⟩, .int .i64 0, .int .i64 0, .slice none 0 0, .slice none 0 0] _ _ rfl (by kernel_rfl) (by kernel_rfl) (by kernel_rfl) (by kernel_rfl) ?_))
          go_meet
          case rel => exact ⟨ps, k, rfl, hk, HX.out, HB.out.step (pastAlloc hb2), ownBelow HOW.out (pastAlloc hb2), HRS.out.below (pastAlloc hb2)⟩
        | some rb =>
          obtain ⟨r, b⟩ := rb
          rw [hg] at hGk
          have HGk := Lib.hid hGk
          obtain ⟨_, hb8, hbs⟩ := hGI hg
          by_cases hl : r.lsn = (k : Int) + 1
          · have HX := Lib.hid (HOP.out.trans (by rw [hGG hg hl]))
            clear hGk hGN hGS hGG hGI hg
            obtain ⟨lsn, prev, txn, kind, page, next, nu, ⟨ok, os, oo, on⟩, how, root, ⟨ek, ep, es⟩, ts, ds⟩ := r
            simp only at hl
            subst hl
            have hwk : IntKind.i64.wrap ((k : Int) + 1) = (k : Int) + 1 := IntWalk.i64_in _ (by omega)
            have hself : (((k : Int) + 1) != ((k : Int) + 1)) = false := by simp
            go_upto_region 9 with (first
              | (go_at_call 22; (with_reducible refine (HGk.out _).mono ?_); rintro e w2 ⟨hb2, A1, c1, D1, d1, rfl, hrr⟩; (try dsimp only [recV, recA]); have hx2 := blkCell (heap_alloc_new w2 (.cells #[.int .i64 ((k : Int) + 1), .int .i64 prev, .int .i64 txn, .int .i64 kind, .int .i64 page, .int .i64 next, .int .i64 nu, .int .i64 ok, .int .i64 os, .string oo, .string on, .int .i64 how, .int .i64 root, .string ek, .int .i64 ep, .int .i64 es, .slice A1 ts.length c1, .slice D1 ds.length d1] 49)); simp at hx2)
              | (with_reducible refine wpList_store_new rfl 49 (.tmp 13) (.tmp 36) rfl #[.int .i64 ((k : Int) + 1), .int .i64 prev, .int .i64 txn, .int .i64 kind, .int .i64 page, .int .i64 next, .int .i64 nu, .int .i64 ok, .int .i64 os, .string oo, .string on, .int .i64 how, .int .i64 root, .string ek, .int .i64 ep, .int .i64 es, .slice A1 ts.length c1, .slice D1 ds.length d1] _ _ rfl (by kernel_rfl) (by kernel_rfl) (by kernel_rfl) (by kernel_rfl) ?_))
            have HX2 := Lib.hid (heap_alloc_new w2 (.cells #[.int .i64 ((k : Int) + 1), .int .i64 prev, .int .i64 txn, .int .i64 kind, .int .i64 page, .int .i64 next, .int .i64 nu, .int .i64 ok, .int .i64 os, .string oo, .string on, .int .i64 how, .int .i64 root, .string ek, .int .i64 ep, .int .i64 es, .slice A1 ts.length c1, .slice D1 ds.length d1] 49))
            have HB2 := Lib.hid (HB.out.step (pastAlloc (o := .cells #[.int .i64 ((k : Int) + 1), .int .i64 prev, .int .i64 txn, .int .i64 kind, .int .i64 page, .int .i64 next, .int .i64 nu, .int .i64 ok, .int .i64 os, .string oo, .string on, .int .i64 how, .int .i64 root, .string ek, .int .i64 ep, .int .i64 es, .slice A1 ts.length c1, .slice D1 ds.length d1] 49) hb2))
            have HO2 := Lib.hid (ownBelow HOW.out (pastAlloc (o := .cells #[.int .i64 ((k : Int) + 1), .int .i64 prev, .int .i64 txn, .int .i64 kind, .int .i64 page, .int .i64 next, .int .i64 nu, .int .i64 ok, .int .i64 os, .string oo, .string on, .int .i64 how, .int .i64 root, .string ek, .int .i64 ep, .int .i64 es, .slice A1 ts.length c1, .slice D1 ds.length d1] 49) hb2))
            have HR2 := Lib.hid ((HRS.out.below (pastAlloc (o := .cells #[.int .i64 ((k : Int) + 1), .int .i64 prev, .int .i64 txn, .int .i64 kind, .int .i64 page, .int .i64 next, .int .i64 nu, .int .i64 ok, .int .i64 os, .string oo, .string on, .int .i64 how, .int .i64 root, .string ek, .int .i64 ep, .int .i64 es, .slice A1 ts.length c1, .slice D1 ds.length d1] 49) hb2)).push (p := ⟨⟨(k : Int) + 1, prev, txn, kind, page, next, nu, ⟨ok, os, oo, on⟩, how, root, ⟨ek, ep, es⟩, ts, ds⟩, A1, c1, D1, d1⟩) ((hrr.mono (by have h1 := HB.out.lt (i := 1) (by simp); omega)).below (allocB w2 _)))
            obtain ⟨g, hge⟩ : ∃ g, g = w2.heap.size := ⟨_, rfl⟩
            obtain ⟨w3, hw3⟩ : ∃ W, W = w2.alloc (.cells #[.int .i64 ((k : Int) + 1), .int .i64 prev, .int .i64 txn, .int .i64 kind, .int .i64 page, .int .i64 next, .int .i64 nu, .int .i64 ok, .int .i64 os, .string oo, .string on, .int .i64 how, .int .i64 root, .string ek, .int .i64 ep, .int .i64 es, .slice A1 ts.length c1, .slice D1 ds.length d1] 49) := ⟨_, rfl⟩
            rw [← hge, ← hw3] at HX2
            rw [← hw3] at HB2 HO2 HR2
            try rw [← hge]
            try rw [← hw3]
            clear hge hw3 hx2 hb2 hrr HOW HRS HB HGk hself
            have hll : ps.length + 1 ≤ 1048576 := by omega
            go_wp2_with (first
              | (with_reducible refine listLoad (by kernel_rfl) 49 (.tmp 13) rfl g rfl #[.int .i64 ((k : Int) + 1), .int .i64 prev, .int .i64 txn, .int .i64 kind, .int .i64 page, .int .i64 next, .int .i64 nu, .int .i64 ok, .int .i64 os, .string oo, .string on, .int .i64 how, .int .i64 root, .string ek, .int .i64 ep, .int .i64 es, .slice A1 ts.length c1, .slice D1 ds.length d1] _ HX2.out _ Try.underlying49 (by kernel_rfl) (by kernel_rfl) ?_)
              | (at_builtin; refine wpList_push (by kernel_rfl) (.tmp 48) (.tmp 50) 29 49 Try.underlying29 info_rec2 rfl (by omega) (by omega) rfl (w.heap.size + 2) _ ps.length (ps.flatMap recC) rfl (ownBelow HO2.out (allocB _ _)) w3.heap.size (recC ⟨⟨(k : Int) + 1, prev, txn, kind, page, next, nu, ⟨ok, os, oo, on⟩, how, root, ⟨ek, ep, es⟩, ts, ds⟩, A1, c1, D1, d1⟩) 49 rfl (heap_alloc_new w3 _) rfl (recC_one _) hll (by have := HB2.out.lt (i := 1) (by simp); simp; omega) ?_; intro v7 w7 ho hg hb; have hR7 := fun q hq => ((HR2.out.below (allocB w3 (.cells #[.int .i64 ((k : Int) + 1), .int .i64 prev, .int .i64 txn, .int .i64 kind, .int .i64 page, .int .i64 next, .int .i64 nu, .int .i64 ok, .int .i64 os, .string oo, .string on, .int .i64 how, .int .i64 root, .string ek, .int .i64 ep, .int .i64 es, .slice A1 ts.length c1, .slice D1 ds.length d1] 49))) q hq).grown (ownBelow HO2.out (allocB w3 (.cells #[.int .i64 ((k : Int) + 1), .int .i64 prev, .int .i64 txn, .int .i64 kind, .int .i64 page, .int .i64 next, .int .i64 nu, .int .i64 ok, .int .i64 os, .string oo, .string on, .int .i64 how, .int .i64 root, .string ek, .int .i64 ep, .int .i64 es, .slice A1 ts.length c1, .slice D1 ds.length d1] 49))) (by decide) (by decide) hg; have HB7 := Lib.hid ((HB2.out.step (allocB w3 (.cells #[.int .i64 ((k : Int) + 1), .int .i64 prev, .int .i64 txn, .int .i64 kind, .int .i64 page, .int .i64 next, .int .i64 nu, .int .i64 ok, .int .i64 os, .string oo, .string on, .int .i64 how, .int .i64 root, .string ek, .int .i64 ep, .int .i64 es, .slice A1 ts.length c1, .slice D1 ds.length d1] 49))).under (M := w.heap.size + 2) (Nat.le_refl _) hb); have HO7 := Lib.hid (OwnL.push (enc := recC) ho); have HR7 := Lib.hid hR7; clear ho hg hb hR7))
            go_roundw
            case rel => exact ⟨_, b, f, rfl, hbs, by omega, by rw [List.length_append, List.length_singleton]; omega, by rw [HX.out, List.map_append, List.append_assoc]; rfl, HB7.out, HO7.out, HR7.out⟩
            case measure => simp [intOf]; omega
          · have HX := Lib.hid (HOP.out.trans (by rw [hGS hg hl, List.append_nil]))
            clear hGk hGN hGS hGG hGI hg
            obtain ⟨lsn, prev, txn, kind, page, next, nu, ⟨ok, os, oo, on⟩, how, root, ⟨ek, ep, es⟩, ts, ds⟩ := r
            simp only at hl
            have hwk : IntKind.i64.wrap ((k : Int) + 1) = (k : Int) + 1 := IntWalk.i64_in _ (by omega)
            have hl1 : (lsn == ((k : Int) + 1)) = false := by simpa using hl
            have hl2 : (lsn != ((k : Int) + 1)) = true := by simpa using hl
            clear hl
            go_wp2_with (first
              | (go_at_call 22; (with_reducible refine (HGk.out _).mono ?_); rintro e w2 ⟨hb2, A1, c1, D1, d1, rfl, hrr⟩; (try dsimp only [recV, recA]); have hx2 := blkCell (heap_alloc_new w2 (.cells #[.int .i64 lsn, .int .i64 prev, .int .i64 txn, .int .i64 kind, .int .i64 page, .int .i64 next, .int .i64 nu, .int .i64 ok, .int .i64 os, .string oo, .string on, .int .i64 how, .int .i64 root, .string ek, .int .i64 ep, .int .i64 es, .slice A1 ts.length c1, .slice D1 ds.length d1] 49)); simp at hx2)
              | (with_reducible refine wpList_store_new rfl 49 (.tmp 13) (.tmp 36) rfl #[.int .i64 lsn, .int .i64 prev, .int .i64 txn, .int .i64 kind, .int .i64 page, .int .i64 next, .int .i64 nu, .int .i64 ok, .int .i64 os, .string oo, .string on, .int .i64 how, .int .i64 root, .string ek, .int .i64 ep, .int .i64 es, .slice A1 ts.length c1, .slice D1 ds.length d1] _ _ rfl (by kernel_rfl) (by kernel_rfl) (by kernel_rfl) (by kernel_rfl) ?_))
            go_meet
            case rel => exact ⟨ps, k, rfl, hk, HX.out, HB.out.step (pastAlloc hb2), ownBelow HOW.out (pastAlloc hb2), HRS.out.below (pastAlloc hb2)⟩
    case rest =>
      obtain ⟨ps, k, rfl, hk, hop, hbx, hown, hrs⟩ := hcut
      obtain ⟨wb, rfl⟩ : ∃ wm : World, wm = wc := ⟨_, rfl⟩
      obtain ⟨A8, c8, rfl⟩ := ownLen hown
      have HB2 := Lib.hid hbx
      have HO2 := Lib.hid hown
      have HR2 := Lib.hid hrs
      obtain ⟨m, hm⟩ : ∃ m : Nat, m = k % 128 := ⟨_, rfl⟩
      have hmI : (k : Int) % 128 = (m : Int) := by omega
      have HFIN := Lib.hid (show o = (⟨f0, n0, (k : Int), (k : Int), S.extract (k - m) k⟩, ps.map (·.r), 0) from by
        rw [HDEF.out, hop]
        simp only
        rw [← hm, HTL.out k m hk (by omega)])
      clear hop hbx hown hrs H1 HDEF HTL HG HSL hm
      obtain ⟨q, hq⟩ : ∃ q : Nat, q = k - m := ⟨_, rfl⟩
      obtain ⟨z, hz⟩ : ∃ z : Int, z = (k : Int) / 128 := ⟨_, rfl⟩
      have hwz : IntKind.i64.wrap (z * 128) = (q : Int) := by
        have e : z * 128 = (q : Int) := by omega
        rw [e]; exact IntWalk.i64_in _ (by omega)
      have hqk : (q : Int) ≤ (k : Int) := by omega
      have hqkn : q ≤ k := by omega
      have hkS : (k : Int) ≤ (S.size : Int) := by omega
      rw [← hq] at HFIN
      have HFI := Lib.hid (fun W => rfirst_any f0 n0 (k : Int) (k : Int) ⟨#[]⟩ (by omega) (by omega) W)
      rw [← hz] at HFI
      clear hq hz hmI
      go_upto_region 12 with (with_reducible refine wpList_store_new rfl 28 (.tmp 16) (.tmp 57) rfl #[.int .i64 f0, .int .i64 n0, .int .i64 (k : Int), .int .i64 (k : Int), .string ⟨#[]⟩] _ _ rfl (by kernel_rfl) (by kernel_rfl) (by kernel_rfl) (by kernel_rfl) ?_)
      have HL5 := Lib.hid (heap_alloc_new wb (.cells #[.int .i64 f0, .int .i64 n0, .int .i64 (k : Int), .int .i64 (k : Int), .string ⟨#[]⟩] 28))
      have HB5 := Lib.hid (HB2.out.step (allocB wb (.cells #[.int .i64 f0, .int .i64 n0, .int .i64 (k : Int), .int .i64 (k : Int), .string ⟨#[]⟩] 28)))
      have HO5 := Lib.hid (ownBelow HO2.out (allocB wb (.cells #[.int .i64 f0, .int .i64 n0, .int .i64 (k : Int), .int .i64 (k : Int), .string ⟨#[]⟩] 28)))
      have HR5 := Lib.hid (HR2.out.below (allocB wb (.cells #[.int .i64 f0, .int .i64 n0, .int .i64 (k : Int), .int .i64 (k : Int), .string ⟨#[]⟩] 28)))
      have hg4 : w.heap.size + 2 ≤ wb.heap.size := HB2.out.lt (i := 1) (by simp)
      obtain ⟨g, hge⟩ : ∃ g, g = wb.heap.size := ⟨_, rfl⟩
      obtain ⟨w5, hw5⟩ : ∃ W, W = wb.alloc (.cells #[.int .i64 f0, .int .i64 n0, .int .i64 (k : Int), .int .i64 (k : Int), .string ⟨#[]⟩] 28) := ⟨_, rfl⟩
      rw [← hge, ← hw5] at HL5
      rw [← hw5] at HB5 HO5 HR5 ⊢
      rw [← hge] at hg4 ⊢
      clear hge hw5 HB2 HO2 HR2
      go_upto_region 13 with (first
        | (with_reducible refine listLoad (by kernel_rfl) 28 (.tmp 16) rfl g rfl #[.int .i64 f0, .int .i64 n0, .int .i64 (k : Int), .int .i64 (k : Int), .string ⟨#[]⟩] _ HL5.out _ Try.underlying28 (by kernel_rfl) (by kernel_rfl) ?_)
        | (go_at_call 23; (with_reducible refine (HFI.out _).mono ?_); rintro e w6 ⟨rfl, hb6⟩; have HL6 := Lib.hid (blkOld HL5.out hb6); have hcl6 := blkCell HL6.out; have hzl6 := blkFrozen HL6.out; have HB6 := Lib.hid (HB5.out.step hb6); have HO6 := Lib.hid (ownBelow HO5.out hb6); have HR6 := Lib.hid (HR5.out.below hb6); clear hb6))
      have HL7 := Lib.hid (show (w6.setCell ⟨g, 4, none⟩ (.string (S.extract q k))).heap[g]? = some (.cells #[.int .i64 f0, .int .i64 n0, .int .i64 (k : Int), .int .i64 (k : Int), .string (S.extract q k)] 28 (0, 0)) from by have h := blkSet 4 HL6.out (.string (S.extract q k)); simpa using h)
      have HAP := Lib.hid ((Apart.refl g (g + 1) w6).cell g 4 (.string (S.extract q k)) (Nat.le_refl _) (Nat.lt_succ_self _))
      have HBE := Lib.hid (show Below g w6 (w6.setCell ⟨g, 4, none⟩ (.string (S.extract q k))) from (Below.refl g w6).setCell (p := ⟨g, 4, none⟩) (Nat.le_refl _) _)
      have HB7 := Lib.hid (HB6.out.under (M := g) (by show w.heap.size + 2 ≤ g; exact hg4) HBE.out)
      have HO7 := Lib.hid (ownSetOther HO6.out HL6.out (by decide) HAP.out)
      have HR7 := Lib.hid (show RecsN (w.heap.size + 2) _ ps from fun p hp => (HR6.out p hp).turn HAP.out.size (fun j cs T fr hj hjc hT => HAP.out.block j (heapLt hjc) (by
        rcases Nat.lt_trichotomy j g with h1 | h1 | h1
        · exact .inl h1
        · exfalso
          subst h1
          rw [HL6.out] at hjc
          injection hjc with hjc
          injection hjc with _ hjc
          rcases hT with h3 | h3
          · rw [h3] at hjc; exact absurd hjc (by decide)
          · rw [h3] at hjc; exact absurd hjc (by decide)
        · exact .inr h1)))
      generalize w6.setCell ⟨g, 4, none⟩ (.string (S.extract q k)) = w7 at HL7 HB7 HO7 HR7 ⊢
      clear HL5 HL6 HAP HBE HB5 HO5 HR5 HB6 HO6 HR6 hcl6 hzl6
      go_wp2_with (first
        | (with_reducible refine listLoad (by kernel_rfl) 28 (.tmp 16) rfl g rfl #[.int .i64 f0, .int .i64 n0, .int .i64 (k : Int), .int .i64 (k : Int), .string (S.extract q k)] _ HL7.out _ Try.underlying28 (by kernel_rfl) (by kernel_rfl) ?_)
        | (with_reducible refine listStore (by kernel_rfl) 28 (.tmp 6) (.tmp 65) rfl (w.heap.size + 1) #[.int .i64 f0, .int .i64 n0, .int .i64 (k : Int), .int .i64 (k : Int), .string (S.extract q k)] _ _ rfl rfl HB7.out.get1 (by kernel_rfl) (by kernel_rfl) (by kernel_rfl) ?_))
      refine bodyPost_ret (v := .tuple #[.agg #[.int .i64 f0, .int .i64 n0, .int .i64 (k : Int), .int .i64 (k : Int), .string (S.extract q k)], .slice A8 ps.length c8, .int .i64 0]) (results_cell3 rfl _ _ rfl (load_whole (setRow_heap _ _ _ _ _ _ HB7.out.get1) Try.underlying28 (by kernel_rfl) (by kernel_rfl)) rfl rfl) rfl ?_
      exact HO.out ps _ _ (⟨f0, n0, (k : Int), (k : Int), S.extract q k⟩, ps.map (·.r), 0) HFIN.out rfl (ownMono (ownRowOff HO7.out _ _ (by omega)) (by omega)) (fun p hp => ((HR7.out p hp).row _ _ (by omega)).mono (by omega)) ((HB7.out.row 1 _ _ rfl).below)
end Go.Proofs.Ytojaagnfjenhoaa
/- The walk over package log: Read. -/
namespace Go.Proofs.Ytojaagnfjenhoaa
open Go.RowKit
end Go.Proofs.Ytojaagnfjenhoaa
/- The plain law of the log: what is appended, forced, cut off by the power, opened again and read. -/
namespace Lg
open Rc
/-- The bytes of a log's sectors. -/
def logS (F N : Nat) (d : Dk) : List UInt8 := flat ((d.sectors.drop F).take N)
theorem logS_len {F N : Nat} {d : Dk} (hw : Whole d.sectors) (hr : F + N ≤ d.sectors.length) : (logS F N d).length = N * 128 := by
  unfold logS
  rw [flat_len ((hw.drop F).take N), List.length_take, List.length_drop]
  congr 1; omega
/-- The log as calls leave it: r1 is safe, r2 is behind it, in memory. -/
structure LInv (F N : Nat) (d : Dk) (g : Lo) (r1 r2 : List Rec) : Prop where
  whole : Whole d.sectors
  room : F + N ≤ d.sectors.length
  hf : g.from_ = (F : Int)
  hn : g.n = (N : Int)
  row : Row 0 (r1 ++ r2)
  pre : (logS F N d).take (bytes r1).length = bytes r1
  safe : g.safe = ((bytes r1).length : Int)
  end_ : g.end_ = ((bytes (r1 ++ r2)).length : Int)
  tail : g.tail = ⟨((bytes (r1 ++ r2)).drop ((bytes r1).length - (bytes r1).length % 128)).toArray⟩
  fit : (bytes (r1 ++ r2)).length ≤ N * 128
theorem bytes_le (r1 r2 : List Rec) : (bytes (r1 ++ r2)).length = (bytes r1).length + (bytes r2).length := by rw [bytes_append, List.length_append]
theorem bytes_one (r : Rec) : bytes [r] = putR r := by unfold bytes; simp
theorem LInv.tail_size {F N : Nat} {d : Dk} {g : Lo} {r1 r2 : List Rec} (h : LInv F N d g r1 r2) : (g.tail.size : Int) = g.end_ - (((bytes r1).length / 128 * 128 : Nat) : Int) := by
  have h1 := bytes_le r1 r2
  rw [h.tail, h.end_]
  show ((((bytes (r1 ++ r2)).drop ((bytes r1).length - (bytes r1).length % 128)).toArray.size : Nat) : Int) = _
  rw [List.size_toArray, List.length_drop]
  omega
/-- A log without bytes. -/
theorem LInv.new {F N : Nat} {d : Dk} (hw : Whole d.sectors) (hr : F + N ≤ d.sectors.length) : LInv F N d ⟨F, N, 0, 0, ⟨#[]⟩⟩ [] [] :=
  ⟨hw, hr, rfl, rfl, trivial, rfl, rfl, rfl, rfl, Nat.zero_le _⟩
/-- What Append does to it. -/
theorem LInv.append {F N : Nat} {d : Dk} {g : Lo} {r1 r2 : List Rec} (h : LInv F N d g r1 r2) (r : Rec) :
    (appendD g r = (g, 0, 1)) ∨ (appendD g r = (g, 0, 18)) ∨
    ((appendD g r).2 = (g.end_ + 1, 0) ∧ LInv F N d (appendD g r).1 r1 (r2 ++ [{ r with lsn := g.end_ + 1 }])) := by
  by_cases h1 : Right { r with lsn := g.end_ + 1 }
  · by_cases h2 : g.n * 128 - ((putR { r with lsn := g.end_ + 1 }).length : Int) < g.end_
    · refine .inr (.inl ?_)
      unfold appendD; simp only; rw [if_neg (fun hn => hn h1), if_pos h2]
    · refine .inr (.inr ?_)
      have e : appendD g r = ({ g with end_ := g.end_ + ((putR { r with lsn := g.end_ + 1 }).length : Int), tail := g.tail ++ ⟨(putR { r with lsn := g.end_ + 1 }).toArray⟩ }, g.end_ + 1, 0) := by
        unfold appendD; simp only; rw [if_neg (fun hn => hn h1), if_neg h2]
      rw [e]
      refine ⟨rfl, ?_⟩
      have hb : bytes (r1 ++ (r2 ++ [{ r with lsn := g.end_ + 1 }])) = bytes (r1 ++ r2) ++ putR { r with lsn := g.end_ + 1 } := by
        rw [← List.append_assoc, bytes_append (r1 ++ r2), bytes_one]
      refine ⟨h.whole, h.room, h.hf, h.hn, ?_, h.pre, h.safe, ?_, ?_, ?_⟩
      · rw [← List.append_assoc, row_append]
        refine ⟨h.row, h1, ?_, trivial⟩
        show g.end_ + 1 = _
        rw [h.end_]; simp
      · show g.end_ + _ = _
        rw [hb, List.length_append, h.end_]; omega
      · show g.tail ++ _ = _
        have h3 := bytes_le r1 r2
        rw [hb, h.tail, List.drop_append_of_le_length (by omega)]
        apply ByteArray.ext
        rw [ByteArray.data_append]
        simp
      · rw [hb, List.length_append]
        have h4 := h.hn
        have h5 := h.end_
        omega
  · refine .inl ?_
    unfold appendD; simp only; rw [if_pos h1]
/-! ### Force -/
/-- What all sectors of a Force are together. -/
structure Sects (F N f : Nat) (s n t : List UInt8) (all : List ByteArray) : Prop where
  whole : Whole all
  fits : f + all.length ≤ N
  some_ : 0 < all.length
  flat_ : n = s.take (f * 128) ++ (flat all ++ s.drop ((f + all.length) * 128))
  len : s.length = N * 128
theorem Sects.start {F N f : Nat} {s n t : List UInt8} {all : List ByteArray} (h : Sects F N f s n t all) : mix s n ((f + all.length) * 128) = s := by
  have h3 := h.fits
  have h4 := h.len
  have h5 := flat_len h.whole
  unfold mix
  rw [h.flat_, ← List.append_assoc, List.drop_left' (by rw [List.length_append, List.length_take]; omega), List.take_append_drop]
end Lg
/- The plain law of the log: what is opened and read. -/
namespace Lg
open Rc
theorem secs_ok {d : Dk} (hd : d.down = false) : ∀ (k a : Nat), a + k ≤ d.sectors.length → secsD d (a : Int) k = .ok (flat ((d.sectors.drop a).take k)) := by
  intro k
  induction k with
  | zero => intro a _; unfold secsD; rw [List.take_zero]; rfl
  | succ k ih =>
    intro a ha
    have h1 : readD d (a : Int) = (d.sectors[a]'(by omega), 0) := by
      unfold readD
      rw [hd, if_neg (by simp), if_pos (show hasD d (a : Int) from ⟨by omega, by omega⟩)]
      unfold secAt
      rw [Int.toNat_natCast, List.getElem?_eq_getElem (by omega), Option.getD_some]
    have h2 := ih (a + 1) (by omega)
    unfold secsD
    rw [h1, if_pos rfl, show ((a : Int) + 1) = ((a + 1 : Nat) : Int) by omega, h2, List.drop_eq_getElem_cons (l := d.sectors) (i := a) (by omega), List.take_succ_cons, flat_cons]
theorem part_part (L : List ByteArray) (F N a k : Nat) (h : a + k ≤ N) : (L.drop (F + a)).take k = (((L.drop F).take N).drop a).take k := by
  refine List.ext_getElem? fun i => ?_
  simp only [List.getElem?_take, List.getElem?_drop]
  by_cases h1 : i < k
  · rw [if_pos h1, if_pos h1, if_pos (by omega)]
    congr 1; omega
  · rw [if_neg h1, if_neg h1]
/-- What Open finds is a row, whatever the bytes are. -/
theorem openL_is (s : List UInt8) : ∀ (f a : Nat), a ≤ s.length → Row a (openL s f a).1 ∧ (openL s f a).2 = a + (bytes (openL s f a).1).length ∧ (openL s f a).2 ≤ s.length ∧ s.take (openL s f a).2 = s.take a ++ bytes (openL s f a).1 := by
  intro f
  induction f with
  | zero => intro a ha; unfold openL; exact ⟨trivial, rfl, ha, by simp [bytes]⟩
  | succ f ih =>
    intro a ha
    have hnone : Row a [] ∧ a = a + (bytes []).length ∧ a ≤ s.length ∧ s.take a = s.take a ++ bytes [] := ⟨trivial, rfl, ha, by simp [bytes]⟩
    by_cases hI : Is s a
    · have hg := getO_yes hI
      by_cases hn : (readM true (bodyAt s a)).lsn = (a : Int) + 1
      · have e : openL s (f + 1) a = (readM true (bodyAt s a) :: (openL s f (a + 8 + Oct.getN s a 4)).1, (openL s f (a + 8 + Oct.getN s a 4)).2) := by
          conv => lhs; unfold openL
          rw [hg]; simp only; rw [if_pos hn]
        have hlen : (putR (readM true (bodyAt s a))).length = 8 + Oct.getN s a 4 := by
          rw [putR_len, hI.2.2.2]
          unfold bodyAt
          rw [List.length_take, List.length_drop]
          have := hI.1
          omega
        obtain ⟨h1, h2, h3, h4⟩ := ih (a + 8 + Oct.getN s a 4) hI.1
        rw [e]
        have hb := is_bytes hI
        refine ⟨⟨hI.2.2.1, hn, by rw [hlen, ← Nat.add_assoc]; exact h1⟩, ?_, h3, ?_⟩
        · rw [bytes_cons, List.length_append, hlen, h2]; omega
        · rw [bytes_cons, h4, ← List.append_assoc]
          congr 1
          have h5 := congrArg (List.take (a + 8 + Oct.getN s a 4)) hb
          rw [← List.append_assoc, List.take_left' (by rw [List.length_append, List.length_take, hlen]; omega)] at h5
          exact h5
      · have e : openL s (f + 1) a = ([], a) := by
          conv => lhs; unfold openL
          rw [hg]; simp only; rw [if_neg hn]
        rw [e]; exact hnone
    · have e : openL s (f + 1) a = ([], a) := by
        conv => lhs; unfold openL
        rw [getO_no hI]
      rw [e]; exact hnone
/-- Any log that is opened is one that calls leave. -/
theorem LInv.opened {F N : Nat} {d : Dk} (hd : d.down = false) (hw : Whole d.sectors) (hr : F + N ≤ d.sectors.length) :
    (openD d F N).2 = ((openL (logS F N d) (N * 128 + 1) 0).1, 0) ∧ LInv F N d (openD d F N).1 (openL (logS F N d) (N * 128 + 1) 0).1 [] := by
  have hl := logS_len (N := N) hw hr
  have hs : secsD d (F : Int) (N : Int).toNat = .ok (logS F N d) := by rw [Int.toNat_natCast]; exact secs_ok hd N F hr
  obtain ⟨h1, h2, h3, h4⟩ := openL_is (logS F N d) (N * 128 + 1) 0 (Nat.zero_le _)
  have e : openD d F N = (⟨F, N, ((openL (logS F N d) (N * 128 + 1) 0).2 : Int), ((openL (logS F N d) (N * 128 + 1) 0).2 : Int), ⟨(((logS F N d).take (openL (logS F N d) (N * 128 + 1) 0).2).drop ((openL (logS F N d) (N * 128 + 1) 0).2 - (openL (logS F N d) (N * 128 + 1) 0).2 % 128)).toArray⟩⟩, (openL (logS F N d) (N * 128 + 1) 0).1, 0) := by
    unfold openD
    rw [hs]
    simp only
    rw [hl]
  rw [e]
  rw [Nat.zero_add] at h2
  rw [List.take_zero, List.nil_append] at h4
  refine ⟨rfl, hw, hr, rfl, rfl, by rw [List.append_nil]; exact h1, by rw [← h2]; exact h4, by rw [h2], by rw [List.append_nil, h2], ?_, by rw [List.append_nil]; omega⟩
  rw [List.append_nil, ← h2, h4]
/-- Logs that are left alike are the same. -/
theorem LInv.same {F N : Nat} {d d' : Dk} {g g' : Lo} {r1 r2 : List Rec} (h : LInv F N d g r1 r2) (h' : LInv F N d' g' r1 r2) : g = g' := by
  obtain ⟨a1, a2, a3, a4, a5⟩ := g
  obtain ⟨b1, b2, b3, b4, b5⟩ := g'
  have e1 := h.hf.trans h'.hf.symm
  have e2 := h.hn.trans h'.hn.symm
  have e3 := h.end_.trans h'.end_.symm
  have e4 := h.safe.trans h'.safe.symm
  have e5 := h.tail.trans h'.tail.symm
  simp only at e1 e2 e3 e4 e5
  subst e1 e2 e3 e4 e5
  rfl
theorem LInv.disk {F N : Nat} {d d' : Dk} {g : Lo} {r1 r2 : List Rec} (h : LInv F N d g r1 r2) (he : d'.sectors = d.sectors) : LInv F N d' g r1 r2 :=
  ⟨by rw [he]; exact h.whole, by rw [he]; exact h.room, h.hf, h.hn, h.row, by unfold logS; rw [he]; exact h.pre, h.safe, h.end_, h.tail, h.fit⟩
/-- Each record of the log is read. -/
theorem LInv.read {F N : Nat} {d : Dk} {g : Lo} {r1 r2 : List Rec} (h : LInv F N d g r1 r2) (hd : d.down = false) (x y : List Rec) (r : Rec) (hxy : r1 ++ r2 = x ++ r :: y) :
    r.lsn = ((bytes x).length : Int) + 1 ∧ readL d g (((bytes x).length : Int) + 1) = .ok r := by
  have hrow := h.row
  rw [hxy, row_append] at hrow
  obtain ⟨_, hR, hlsn, _⟩ := hrow
  rw [Nat.zero_add] at hlsn
  refine ⟨hlsn, ?_⟩
  obtain ⟨X, hX⟩ : ∃ X, X = (bytes r1).length := ⟨_, rfl⟩
  obtain ⟨A, hA⟩ : ∃ A, A = (bytes x).length := ⟨_, rfl⟩
  obtain ⟨all, hall⟩ : ∃ all, all = bytes (r1 ++ r2) := ⟨_, rfl⟩
  have hb : all = bytes x ++ (putR r ++ bytes y) := by rw [hall, hxy, bytes_append, bytes_cons]
  have hlen : all.length = A + ((putR r).length + (bytes y).length) := by rw [hb, List.length_append, List.length_append, hA]
  have hpl := putR_len r
  have hle := bytes_le r1 r2
  have hend := h.end_
  have hts := h.tail_size
  have hfit := h.fit
  have hbase : (g.end_ - (g.tail.size : Int)) / 128 = ((X / 128 : Nat) : Int) := by rw [hts, hX]; omega
  rw [← hall] at hend hle hfit
  rw [← hX] at hle
  unfold readL
  rw [if_neg (by omega)]
  simp only
  rw [hbase]
  obtain ⟨a, ha⟩ : ∃ a : Nat, a = min (A / 128) (X / 128) := ⟨_, rfl⟩
  have hmin : min ((((bytes x).length : Int) + 1 - 1) / 128) ((X / 128 : Nat) : Int) = (a : Int) := by rw [← hA]; omega
  rw [hmin]
  have h1 : g.from_ + (a : Int) = ((F + a : Nat) : Int) := by rw [h.hf]; omega
  have h2 : (((X / 128 : Nat) : Int) - (a : Int)).toNat = X / 128 - a := by omega
  have hX128 : X / 128 * 128 ≤ X := by omega
  have hroom := h.room
  rw [h1, h2, secs_ok hd _ _ (by omega), part_part _ F N a _ (by omega)]
  have hpart : flat ((((d.sectors.drop F).take N).drop a).take (X / 128 - a)) = (all.take (X / 128 * 128)).drop (a * 128) := by
    rw [flat_take (((h.whole.drop F).take N).drop a), flat_drop ((h.whole.drop F).take N)]
    show ((logS F N d).drop (a * 128)).take ((X / 128 - a) * 128) = _
    have e1 : all.take (X / 128 * 128) = (logS F N d).take (X / 128 * 128) := by
      have h3 := congrArg (List.take (X / 128 * 128)) h.pre
      rw [List.take_take, Nat.min_eq_left (by omega)] at h3
      rw [h3, hall, bytes_append, List.take_append_of_le_length (by omega)]
    rw [e1, List.drop_take]
    congr 1
    omega
  have htl : g.tail.data.toList = all.drop (X / 128 * 128) := by
    rw [h.tail, ← hall, ← hX, show X - X % 128 = X / 128 * 128 by omega]
  rw [hpart, htl]
  have hjoin : (all.take (X / 128 * 128)).drop (a * 128) ++ all.drop (X / 128 * 128) = all.drop (a * 128) := by
    conv => rhs; rw [← List.take_append_drop (X / 128 * 128) all]
    rw [List.drop_append_of_le_length (by rw [List.length_take]; omega)]
  simp only
  rw [hjoin, getO_drop _ _ _ (by omega)]
  have hpos : a * 128 + (((bytes x).length : Int) + 1 - 1 - (a : Int) * 128).toNat = (bytes x).length := by omega
  rw [hpos, hb, getO_put _ _ hR]
  simp only [Option.map_some]
  rw [if_pos hlsn]
end Lg
/- The walk over the statements of the log: the page's own answers. -/
namespace Lg
open Rc
theorem append_small (l : Lo) (kind prev txn : Int) (hk : kind = 1 ∨ kind = 5 ∨ kind = 6 ∨ kind = 7) (h1 : num (l.end_ + 1)) (h2 : num prev) (h3 : num txn) (hf : l.end_ + 27 ≤ l.n * 128) :
    ∃ t : ByteArray, t.size = 27 ∧ appendD l (bare kind 0 prev txn) = ({ l with end_ := l.end_ + 27, tail := l.tail ++ t }, l.end_ + 1, 0) := by
  have hR : Right (bare kind (l.end_ + 1) prev txn) := .small kind _ prev txn hk h1 h2 h3
  have hl : (putR (bare kind (l.end_ + 1) prev txn)).length = 27 := by
    rw [putR_len]
    unfold bodyB
    rw [List.length_append, headB_len]
    have hr : restB (bare kind (l.end_ + 1) prev txn) = [] := by
      unfold restB bare
      simp only
      rw [if_neg (by omega), if_neg (by omega), if_neg (by omega), if_neg (by omega), if_neg (by omega)]
    rw [hr]; rfl
  refine ⟨⟨(putR (bare kind (l.end_ + 1) prev txn)).toArray⟩, by show (putR (bare kind (l.end_ + 1) prev txn)).toArray.size = 27; simpa using hl, ?_⟩
  have e : ({ bare kind 0 prev txn with lsn := l.end_ + 1 } : Rec) = bare kind (l.end_ + 1) prev txn := rfl
  have h := append_ok (l := l) (r := bare kind 0 prev txn) (by rw [e]; exact hR) (by rw [e, hl]; omega)
  rw [h, e, hl]
  rfl
theorem awake_log : ∃ t1 t2 : ByteArray, t1.size = 27 ∧ t2.size = 54 ∧ appendD ⟨1, 2, 0, 0, ⟨#[]⟩⟩ (bare 1 0 0 1) = (⟨1, 2, 27, 0, t1⟩, 1, 0) ∧ appendD ⟨1, 2, 27, 0, t1⟩ (bare 7 0 1 1) = (⟨1, 2, 54, 0, t2⟩, 28, 0) := by
  obtain ⟨a, ha, h1⟩ := append_small ⟨1, 2, 0, 0, ⟨#[]⟩⟩ 1 0 1 (.inl rfl) ⟨by decide, by decide⟩ ⟨by decide, by decide⟩ ⟨by decide, by decide⟩ (by decide)
  obtain ⟨b, hb, h2⟩ := append_small ⟨1, 2, 27, 0, ⟨#[]⟩ ++ a⟩ 7 1 1 (.inr (.inr (.inr rfl))) ⟨by show (0 : Int) ≤ 27 + 1; decide, by show (27 : Int) + 1 < _; decide⟩ ⟨by decide, by decide⟩ ⟨by decide, by decide⟩ (by show (27 : Int) + 27 ≤ 2 * 128; decide)
  have e1 : (27 : Int) + 27 = 54 := rfl
  have e2 : (27 : Int) + 1 = 28 := rfl
  simp only [e1, e2] at h2
  refine ⟨⟨#[]⟩ ++ a, ⟨#[]⟩ ++ a ++ b, ?_, ?_, h1, h2⟩
  · rw [ByteArray.size_append, ha]; rfl
  · rw [ByteArray.size_append, ByteArray.size_append, ha, hb]; rfl
end Lg
namespace Go.Proofs.Ytojaagnfjenhoaa
open Go.RowKit
theorem recR_none (r : Rc.Rec) (w : World) (h1 : r.txns = []) (h2 : r.dirty = []) : RecR w r none 0 none 0 := by
  refine ⟨?_, ?_, by rw [h1, h2]; exact ⟨Nat.zero_le _, Nat.zero_le _⟩⟩
  · rw [h1]; exact Reads.none_ _ _ _ _
  · rw [h2]; exact Reads.none_ _ _ _ _
set_option maxRecDepth 100000 in
set_option maxHeartbeats 4000000 in
theorem awake_any (w : World) :
    Calls Try.prog 7 #[] w fun e w' => e = .returned (.bool true) ∧ Below w.heap.size w w' := by
  obtain ⟨t1, t2, z1, z2, a1, a2⟩ := Lg.awake_log
  have HN := Lib.hid (fun W => lnew_any 1 2 W)
  have HA1 := Lib.hid (fun W => append_any ⟨1, 2, 0, 0, ⟨#[]⟩⟩ (by decide) (by decide) (by decide) (by decide) (by decide) (Rc.bare 1 0 0 1) none none 0 0 W (recR_none _ _ rfl rfl))
  have HA2 := Lib.hid (fun W => append_any ⟨1, 2, 27, 0, t1⟩ (by show (0 : Int) ≤ 27; decide) (by show (27 : Int) ≤ _; decide) (by show _ ≤ (2 : Int); decide) (by show (2 : Int) ≤ _; decide) (by show t1.size ≤ _; omega) (Rc.bare 7 0 1 1) none none 0 0 W (recR_none _ _ rfl rfl))
  rw [a1] at HA1
  rw [a2] at HA2
  dsimp only [AppOut, logV, recV, recA, Rc.bare, Rc.noOp, Rc.noKey, List.length_nil] at HN HA1 HA2
  clear a1 a2
  go_enter Try.func7, Try.ntmps7
  go_upto_region 2 with (first
    | (go_at_call 12; (with_reducible refine (HN.out _).mono ?_); rintro e w1 ⟨rfl, hb1⟩)
    | (go_at_call 13; (with_reducible refine (HA1.out _).mono ?_); rintro e w2 ⟨he, hb2⟩; dsimp only [logV] at he; subst he)
    | (with_reducible refine wpList_store_new rfl 28 (.tmp 1) (.tmp 11) rfl #[.int .i64 1, .int .i64 2, .int .i64 27, .int .i64 0, .string t1] _ _ rfl (by kernel_rfl) (by kernel_rfl) (by kernel_rfl) (by kernel_rfl) ?_))
  have HX := Lib.hid (heap_alloc_new w2 (.cells #[.int .i64 1, .int .i64 2, .int .i64 27, .int .i64 0, .string t1] 28))
  have hb3 := joinB hb1 (pastAlloc (o := .cells #[.int .i64 1, .int .i64 2, .int .i64 27, .int .i64 0, .string t1] 28) hb2)
  obtain ⟨g, hg⟩ : ∃ g, g = w2.heap.size := ⟨_, rfl⟩
  obtain ⟨w3, hw3⟩ : ∃ W, W = w2.alloc (.cells #[.int .i64 1, .int .i64 2, .int .i64 27, .int .i64 0, .string t1] 28) := ⟨_, rfl⟩
  rw [← hg, ← hw3] at HX
  rw [← hw3] at hb3
  rw [← hw3, ← hg]
  clear hg hw3 hb1 hb2 HA1 HN
  go_upto_region 3 with (first
    | (with_reducible refine listLoad (by kernel_rfl) 28 (.tmp 1) rfl g rfl #[.int .i64 1, .int .i64 2, .int .i64 27, .int .i64 0, .string t1] _ HX.out _ Try.underlying28 (by kernel_rfl) (by kernel_rfl) ?_)
    | (go_at_call 13; (with_reducible refine (HA2.out _).mono ?_); rintro e w4 ⟨he, hb4⟩; dsimp only [logV] at he; subst he)
    | (with_reducible refine wpList_store_new rfl 28 (.tmp 4) (.tmp 19) rfl #[.int .i64 1, .int .i64 2, .int .i64 54, .int .i64 0, .string t2] _ _ rfl (by kernel_rfl) (by kernel_rfl) (by kernel_rfl) (by kernel_rfl) ?_))
  have hb5 := joinB hb3 (pastAlloc (o := .cells #[.int .i64 1, .int .i64 2, .int .i64 54, .int .i64 0, .string t2] 28) hb4)
  have hc1 := blkCell (blkOld HX.out (pastAlloc (o := .cells #[.int .i64 1, .int .i64 2, .int .i64 54, .int .i64 0, .string t2] 28) hb4))
  have hc2 := blkCell (heap_alloc_new w4 (.cells #[.int .i64 1, .int .i64 2, .int .i64 54, .int .i64 0, .string t2] 28))
  have hz2 : (t2.size : Int) = 54 := by omega
  have hw : IntKind.i64.wrap ((27 : Int) + 1) = 28 := IntWalk.i64_in _ (by omega)
  go_wp2_with fail
  go_ret
  exact ⟨by simp, hb5⟩
end Go.Proofs.Ytojaagnfjenhoaa
/- The walk over the statement LogOpens. -/
namespace Go.Proofs.Ytojaagnfjenhoaa
open Go.RowKit
theorem openL_len (s : List UInt8) : ∀ f a, (Lg.openL s f a).1.length ≤ f := by
  intro f
  induction f with
  | zero => intro a; unfold Lg.openL; simp
  | succ f ih =>
    intro a
    cases h : Lg.getO s a with
    | none => rw [Lg.openL_none h]; simp
    | some rb =>
      obtain ⟨r, b⟩ := rb
      by_cases hl : r.lsn = (a : Int) + 1
      · rw [Lg.openL_go h hl]; simpa using ih b
      · rw [Lg.openL_stop h hl]; simp
theorem openD_len {d : Lg.Dk} (hw : ∀ x ∈ d.sectors, x.size ≤ 128) (a n : Int) (hn : n ≤ 1000) : (Lg.openD d a n).2.1.length ≤ 140737488355328 := by
  unfold Lg.openD
  cases h : Lg.secsD d a n.toNat with
  | error e => simp
  | ok l =>
    have h1 := (Lg.secs_len hw n.toNat h).1
    have h2 := openL_len l (l.length + 1) 0
    simp only
    omega
theorem recsN_recs {n : Nat} {w : World} {ps : List PRec} (h : RecsN n w ps) : ∀ p ∈ ps, PRecR w p := fun p hp => (h p hp).rr
set_option maxRecDepth 100000 in
set_option maxHeartbeats 8000000 in
theorem logopens_any (d : Lg.Dk) (A : Option Addr) (c : Nat) (a n : Int) (ha : -9223372036854775808 ≤ a ∧ a ≤ 9223372036854775807) (_hn : -9223372036854775808 ≤ n ∧ n ≤ 9223372036854775807) (hlen : d.sectors.length ≤ 140737488355328) (w : World) (hr : Reads w A c d.sectors.length (d.sectors.flatMap strC)) :
    Calls Try.prog 3 #[diskV d A c, .int .i64 a, .int .i64 n] w fun e w' => e = .returned (.bool true) ∧ Below w.heap.size w w' := by
  have HAW := Lib.hid (fun W => awake_any W)
  have HM := Lib.hid (fun W (hb : Below w.heap.size w W) => rmay_any d A c W (hr.below hb) hlen)
  by_cases hm : Lg.mayD d
  · have HS8 := Lib.hid (show ∀ x ∈ d.sectors, x.size ≤ 128 from fun x hx => Nat.le_of_eq (hm.1 x hx))
    rw [show MayOut d = fun w e w' => e = .returned (.bool true) ∧ Below w.heap.size w w' from by unfold MayOut; rw [decide_eq_true hm]] at HM
    clear hm
    by_cases h60 : 60 < (d.sectors.length : Int)
    · clear HS8 ha hr
      dsimp only [diskV]
      go_enter Try.func3, Try.ntmps3
      go_upto_region 1 with fail
      have H0 := Lib.hid (heap_alloc_new w (.cells #[.slice A d.sectors.length c, .int .i64 d.left, .bool d.down] 24))
      have B0 := Lib.hid (allocB w (.cells #[.slice A d.sectors.length c, .int .i64 d.left, .bool d.down] 24))
      obtain ⟨w0, hw0⟩ : ∃ W, W = w.alloc (.cells #[.slice A d.sectors.length c, .int .i64 d.left, .bool d.down] 24) := ⟨_, rfl⟩
      rw [← hw0] at H0 B0
      rw [← hw0]
      clear hw0
      dsimp only [diskV] at HM
      have hc0 := blkCell H0.out
      go_wp2_with (first
        | (with_reducible refine listLoad (by kernel_rfl) 24 (.tmp 3) rfl w.heap.size rfl #[.slice A d.sectors.length c, .int .i64 d.left, .bool d.down] _ H0.out _ Try.underlying24 (by kernel_rfl) (by kernel_rfl) ?_)
        | (go_at_call 6; (with_reducible refine (HM.out _ B0.out).mono ?_); rintro e w1 ⟨rfl, hb1⟩; have hc1 := blkCell (blkOld H0.out hb1))
        | (go_at_call 7; (with_reducible refine (HAW.out _).mono ?_); rintro e w2 ⟨rfl, hb2⟩))
      go_ret
      exact ⟨rfl, joinB (joinB B0.out hb1) hb2⟩
    · by_cases h100 : 100 < n
      · clear HS8 ha hr
        dsimp only [diskV]
        go_enter Try.func3, Try.ntmps3
        go_upto_region 1 with fail
        have H0 := Lib.hid (heap_alloc_new w (.cells #[.slice A d.sectors.length c, .int .i64 d.left, .bool d.down] 24))
        have B0 := Lib.hid (allocB w (.cells #[.slice A d.sectors.length c, .int .i64 d.left, .bool d.down] 24))
        obtain ⟨w0, hw0⟩ : ∃ W, W = w.alloc (.cells #[.slice A d.sectors.length c, .int .i64 d.left, .bool d.down] 24) := ⟨_, rfl⟩
        rw [← hw0] at H0 B0
        rw [← hw0]
        clear hw0
        dsimp only [diskV] at HM
        have hc0 := blkCell H0.out
        go_wp2_with (first
          | (with_reducible refine listLoad (by kernel_rfl) 24 (.tmp 3) rfl w.heap.size rfl #[.slice A d.sectors.length c, .int .i64 d.left, .bool d.down] _ H0.out _ Try.underlying24 (by kernel_rfl) (by kernel_rfl) ?_)
          | (go_at_call 6; (with_reducible refine (HM.out _ B0.out).mono ?_); rintro e w1 ⟨rfl, hb1⟩; have hc1 := blkCell (blkOld H0.out hb1))
          | (go_at_call 7; (with_reducible refine (HAW.out _).mono ?_); rintro e w2 ⟨rfl, hb2⟩))
        go_ret
        exact ⟨rfl, joinB (joinB B0.out hb1) hb2⟩
      · have HO := Lib.hid (fun W (hb : Below w.heap.size w W) => open_any d HS8.out (by omega) A c a n ha.1 ha.2 (by omega) W ⟨hr.below hb, by omega⟩)
        have HP := Lib.hid (fun W (hb : Below w.heap.size w W) => ropen_any d HS8.out (by omega) A c a n ha.1 ha.2 (by omega) W ⟨hr.below hb, by omega⟩)
        have hq : (Lg.openD d a n).2.1.length ≤ 140737488355328 := openD_len HS8.out a n (by omega)
        generalize Lg.openD d a n = x at HO HP hq
        obtain ⟨g, rs, e⟩ := x
        simp only at hq
        have HQ := Lib.hid hq
        clear HS8 ha hr hq
        dsimp only [diskV] at HO HP ⊢
        go_enter Try.func3, Try.ntmps3
        go_upto_region 1 with fail
        have H0 := Lib.hid (heap_alloc_new w (.cells #[.slice A d.sectors.length c, .int .i64 d.left, .bool d.down] 24))
        have B0 := Lib.hid (allocB w (.cells #[.slice A d.sectors.length c, .int .i64 d.left, .bool d.down] 24))
        obtain ⟨w0, hw0⟩ : ∃ W, W = w.alloc (.cells #[.slice A d.sectors.length c, .int .i64 d.left, .bool d.down] 24) := ⟨_, rfl⟩
        rw [← hw0] at H0 B0
        rw [← hw0]
        clear hw0
        dsimp only [diskV] at HM
        have hc0 := blkCell H0.out
        go_upto_region 3 with (first
          | (with_reducible refine listLoad (by kernel_rfl) 24 (.tmp 3) rfl w.heap.size rfl #[.slice A d.sectors.length c, .int .i64 d.left, .bool d.down] _ H0.out _ Try.underlying24 (by kernel_rfl) (by kernel_rfl) ?_)
          | (go_at_call 6; (with_reducible refine (HM.out _ B0.out).mono ?_); rintro e w1 ⟨rfl, hb1⟩; have hc1 := blkCell (blkOld H0.out hb1)))
        have H1 := Lib.hid (blkOld H0.out hb1)
        have B1 := Lib.hid (joinB B0.out hb1)
        clear H0 B0 hb1 hc0 hc1 HM
        go_upto_region 4 with (first
          | (with_reducible refine listLoad (by kernel_rfl) 24 (.tmp 3) rfl w.heap.size rfl #[.slice A d.sectors.length c, .int .i64 d.left, .bool d.down] _ H1.out _ Try.underlying24 (by kernel_rfl) (by kernel_rfl) ?_)
          | (go_at_call 8; (with_reducible refine (HO.out _ B1.out).mono ?_); rintro e w2 ⟨ps, v, h1, rfl, h2, h3, hb2⟩; (try dsimp only [logV]))
          | (with_reducible refine wpList_store_new rfl 28 (.tmp 7) (.tmp 32) rfl #[.int .i64 g.from_, .int .i64 g.n, .int .i64 g.end_, .int .i64 g.safe, .string g.tail] _ _ rfl (by kernel_rfl) (by kernel_rfl) (by kernel_rfl) (by kernel_rfl) ?_))
        obtain ⟨A8, c8, rfl⟩ := ownLen h2
        have H3 := Lib.hid (blkOld H1.out (pastAlloc (o := .cells #[.int .i64 g.from_, .int .i64 g.n, .int .i64 g.end_, .int .i64 g.safe, .string g.tail] 28) hb2))
        have B3 := Lib.hid (joinB B1.out (pastAlloc (o := .cells #[.int .i64 g.from_, .int .i64 g.n, .int .i64 g.end_, .int .i64 g.safe, .string g.tail] 28) hb2))
        have L3 := Lib.hid (heap_alloc_new w2 (.cells #[.int .i64 g.from_, .int .i64 g.n, .int .i64 g.end_, .int .i64 g.safe, .string g.tail] 28))
        have P3 := Lib.hid (own_reads (ownBelow h2 (allocB w2 (.cells #[.int .i64 g.from_, .int .i64 g.n, .int .i64 g.end_, .int .i64 g.safe, .string g.tail] 28))))
        have R3 := Lib.hid (recsN_recs (h3.below (allocB w2 (.cells #[.int .i64 g.from_, .int .i64 g.n, .int .i64 g.end_, .int .i64 g.safe, .string g.tail] 28))))
        have E3 := Lib.hid h1
        obtain ⟨gl, hgl⟩ : ∃ b, b = w2.heap.size := ⟨_, rfl⟩
        obtain ⟨w3, hw3⟩ : ∃ W, W = w2.alloc (.cells #[.int .i64 g.from_, .int .i64 g.n, .int .i64 g.end_, .int .i64 g.safe, .string g.tail] 28) := ⟨_, rfl⟩
        rw [← hgl, ← hw3] at L3
        rw [← hw3] at H3 B3 P3 R3
        rw [← hgl, ← hw3]
        clear hgl hw3 h1 h2 h3 hb2 H1 B1 HO
        go_upto_region 5 with (first
          | (with_reducible refine listLoad (by kernel_rfl) 24 (.tmp 3) rfl w.heap.size rfl #[.slice A d.sectors.length c, .int .i64 d.left, .bool d.down] _ H3.out _ Try.underlying24 (by kernel_rfl) (by kernel_rfl) ?_)
          | (go_at_call 9; (with_reducible refine (HP.out _ B3.out).mono ?_); rintro e w4 ⟨qs, v2, h1, rfl, h2, h3, hb2⟩; (try dsimp only [logV]))
          | (with_reducible refine wpList_store_new rfl 28 (.tmp 10) (.tmp 40) rfl #[.int .i64 g.from_, .int .i64 g.n, .int .i64 g.end_, .int .i64 g.safe, .string g.tail] _ _ rfl (by kernel_rfl) (by kernel_rfl) (by kernel_rfl) (by kernel_rfl) ?_))
        obtain ⟨A9, c9, rfl⟩ := ownLen h2
        have B5 := Lib.hid (joinB B3.out (pastAlloc (o := .cells #[.int .i64 g.from_, .int .i64 g.n, .int .i64 g.end_, .int .i64 g.safe, .string g.tail] 28) hb2))
        have L5 := Lib.hid (blkOld L3.out (pastAlloc (o := .cells #[.int .i64 g.from_, .int .i64 g.n, .int .i64 g.end_, .int .i64 g.safe, .string g.tail] 28) hb2))
        have M5 := Lib.hid (heap_alloc_new w4 (.cells #[.int .i64 g.from_, .int .i64 g.n, .int .i64 g.end_, .int .i64 g.safe, .string g.tail] 28))
        have P5 := Lib.hid (P3.out.below (pastAlloc (o := .cells #[.int .i64 g.from_, .int .i64 g.n, .int .i64 g.end_, .int .i64 g.safe, .string g.tail] 28) hb2))
        have R5 := Lib.hid (fun p hp => (R3.out p hp).below (pastAlloc (o := .cells #[.int .i64 g.from_, .int .i64 g.n, .int .i64 g.end_, .int .i64 g.safe, .string g.tail] 28) hb2))
        have P6 := Lib.hid (own_reads (ownBelow h2 (allocB w4 (.cells #[.int .i64 g.from_, .int .i64 g.n, .int .i64 g.end_, .int .i64 g.safe, .string g.tail] 28))))
        have R6 := Lib.hid (recsN_recs (h3.below (allocB w4 (.cells #[.int .i64 g.from_, .int .i64 g.n, .int .i64 g.end_, .int .i64 g.safe, .string g.tail] 28))))
        have E6 := Lib.hid h1
        obtain ⟨gm, hgm⟩ : ∃ b, b = w4.heap.size := ⟨_, rfl⟩
        obtain ⟨w5, hw5⟩ : ∃ W, W = w4.alloc (.cells #[.int .i64 g.from_, .int .i64 g.n, .int .i64 g.end_, .int .i64 g.safe, .string g.tail] 28) := ⟨_, rfl⟩
        rw [← hgm, ← hw5] at M5
        rw [← hw5] at B5 L5 P5 R5 P6 R6
        rw [← hgm, ← hw5]
        clear hgm hw5 h1 h2 h3 hb2 H3 B3 P3 R3 L3 HP
        have HRS := Lib.hid (fun W (hb : Below w5.heap.size w5 W) => recs_any ps qs (by have := congrArg List.length E3.out; rw [List.length_map] at this; have := HQ.out; simp only at *; omega) (by have := congrArg List.length E6.out; rw [List.length_map] at this; have := HQ.out; simp only at *; omega) A8 A9 c8 c9 W (P5.out.below hb) (P6.out.below hb) (fun p hp => (R5.out p hp).below hb) (fun p hp => (R6.out p hp).below hb))
        have hdt : decide (ps.map (·.r) = qs.map (·.r)) = true := decide_eq_true (E3.out.trans E6.out.symm)
        rw [hdt] at HRS
        clear hdt P5 P6 R5 R6 E3 E6 HQ
        go_wp2_with (first
          | (go_at_call 7; (with_reducible refine (HAW.out _).mono ?_); rintro e w6 ⟨rfl, hb6⟩; have L6 := Lib.hid (blkOld L5.out hb6); have M6 := Lib.hid (blkOld M5.out hb6); have B6 := Lib.hid hb6; clear hb6)
          | (with_reducible refine listLoad (by kernel_rfl) 28 (.tmp 7) rfl gl rfl #[.int .i64 g.from_, .int .i64 g.n, .int .i64 g.end_, .int .i64 g.safe, .string g.tail] _ L6.out _ Try.underlying28 (by kernel_rfl) (by kernel_rfl) ?_)
          | (with_reducible refine listLoad (by kernel_rfl) 28 (.tmp 10) rfl gm rfl #[.int .i64 g.from_, .int .i64 g.n, .int .i64 g.end_, .int .i64 g.safe, .string g.tail] _ M6.out _ Try.underlying28 (by kernel_rfl) (by kernel_rfl) ?_)
          | (go_at_call 10; (with_reducible refine (HRS.out _ B6.out).mono ?_); rintro e w7 ⟨rfl, hb7⟩))
        go_ret
        exact ⟨by simp, joinB B5.out (joinB B6.out hb7)⟩
  · rw [show MayOut d = fun w e w' => e = .returned (.bool false) ∧ Below w.heap.size w w' from by unfold MayOut; rw [decide_eq_false hm]] at HM
    clear hm ha hr
    dsimp only [diskV]
    go_enter Try.func3, Try.ntmps3
    go_upto_region 1 with fail
    have H0 := Lib.hid (heap_alloc_new w (.cells #[.slice A d.sectors.length c, .int .i64 d.left, .bool d.down] 24))
    have B0 := Lib.hid (allocB w (.cells #[.slice A d.sectors.length c, .int .i64 d.left, .bool d.down] 24))
    obtain ⟨w0, hw0⟩ : ∃ W, W = w.alloc (.cells #[.slice A d.sectors.length c, .int .i64 d.left, .bool d.down] 24) := ⟨_, rfl⟩
    rw [← hw0] at H0 B0
    rw [← hw0]
    clear hw0
    dsimp only [diskV] at HM
    have hc0 := blkCell H0.out
    go_wp2_with (first
      | (with_reducible refine listLoad (by kernel_rfl) 24 (.tmp 3) rfl w.heap.size rfl #[.slice A d.sectors.length c, .int .i64 d.left, .bool d.down] _ H0.out _ Try.underlying24 (by kernel_rfl) (by kernel_rfl) ?_)
      | (go_at_call 6; (with_reducible refine (HM.out _ B0.out).mono ?_); rintro e w1 ⟨rfl, hb1⟩; have hc1 := blkCell (blkOld H0.out hb1))
      | (go_at_call 7; (with_reducible refine (HAW.out _).mono ?_); rintro e w2 ⟨rfl, hb2⟩))
    go_ret
    exact ⟨rfl, joinB (joinB B0.out hb1) hb2⟩
end Go.Proofs.Ytojaagnfjenhoaa
