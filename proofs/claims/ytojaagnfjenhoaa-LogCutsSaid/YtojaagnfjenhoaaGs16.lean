/- The walk over package log: Read. -/
import Derived.Test.YtojaagnfjenhoaaGs15
import Derived.Test.YtojaagnfjenhoaaGs04
namespace Go.Proofs.Ytojaagnfjenhoaa
open Go.RowKit
/-- What Read answers. -/
def ReadOut (x : Except Int Rc.Rec) (w : World) (e : Ending) (w' : World) : Prop :=
  Below w.heap.size w w' ∧ match x with
  | .ok r => ∃ A c B d, e = .returned (.tuple #[recV r (.slice A r.txns.length c) (.slice B r.dirty.length d), .int .i64 0]) ∧ RecN w.heap.size w' r A c B d
  | .error k => e = .returned (.tuple #[.agg zeroA, .int .i64 k])
theorem read_err {x : Except Int Rc.Rec} {k : Int} (h : x = .error k) {w w' : World} (hb : Below w.heap.size w w') {e : Ending} (he : e = .returned (.tuple #[.agg zeroA, .int .i64 k])) : ReadOut x w e w' := by
  subst h; exact ⟨hb, he⟩
set_option maxRecDepth 100000 in
set_option maxHeartbeats 8000000 in
theorem logread_any (d : Lg.Dk) (hw : ∀ b ∈ d.sectors, b.size ≤ 128) (hdl : d.sectors.length ≤ 7000) (A : Option Addr) (c : Nat) (fr n en sf : Int) (tl : ByteArray) (he0 : 0 ≤ en) (he1 : en ≤ 10000000) (hf0 : -1000000000 ≤ fr) (hf1 : fr ≤ 1000000000) (ht : tl.size ≤ 100000) (hte : (tl.size : Int) ≤ en) (lsn : Int) (w : World) (h : DiskR w d A c) :
    Calls Try.prog 15 #[diskV d A c, .agg #[.int .i64 fr, .int .i64 n, .int .i64 en, .int .i64 sf, .string tl], .int .i64 lsn] w (ReadOut (Lg.readL d ⟨fr, n, en, sf, tl⟩ lsn) w) := by
  have HO := Lib.hid (fun k (hk : Lg.readL d ⟨fr, n, en, sf, tl⟩ lsn = .error k) w' (hb : Below w.heap.size w w') (e : Ending) (he : e = .returned (.tuple #[.agg zeroA, .int .i64 k])) => read_err (e := e) hk hb he)
  have HOK := Lib.hid (fun r (hk : Lg.readL d ⟨fr, n, en, sf, tl⟩ lsn = .ok r) w' (hb : Below w.heap.size w w') A1 c1 D1 d1 (hr : RecN w.heap.size w' r A1 c1 D1 d1) => show ReadOut (Lg.readL d ⟨fr, n, en, sf, tl⟩ lsn) w (.returned (.tuple #[recV r (.slice A1 r.txns.length c1) (.slice D1 r.dirty.length d1), .int .i64 0])) w' from by
    rw [hk]; exact ⟨hb, A1, c1, D1, d1, rfl, hr⟩)
  have hdef : Lg.readL d ⟨fr, n, en, sf, tl⟩ lsn = Lg.readL d ⟨fr, n, en, sf, tl⟩ lsn := rfl
  conv at hdef => rhs; unfold Lg.readL
  generalize Lg.readL d ⟨fr, n, en, sf, tl⟩ lsn = o at HO HOK hdef ⊢
  generalize ReadOut o w = Q at HO HOK ⊢
  by_cases hin : lsn < 1 ∨ en < lsn
  · rw [if_pos hin] at hdef
    have HDEF := Lib.hid hdef
    clear hdef h hw
    by_cases h1 : lsn < 1
    · clear hin
      go_enter Try.func15, Try.ntmps15
      go_upto_region 1 with fail
      have H0 := Lib.hid (show BxL w.heap.size w [(#[.slice A d.sectors.length c, .int .i64 d.left, .bool d.down], 24), (#[.int .i64 fr, .int .i64 n, .int .i64 en, .int .i64 sf, .string tl], 28), (#[.int .i64 0, .int .i64 0, .int .i64 0, .int .i64 0, .int .i64 0, .int .i64 0, .int .i64 0, .int .i64 0, .int .i64 0, .string ⟨#[]⟩, .string ⟨#[]⟩, .int .i64 0, .int .i64 0, .string ⟨#[]⟩, .int .i64 0, .int .i64 0, .slice none 0 0, .slice none 0 0], 49)] (((w.alloc (.cells #[.slice A d.sectors.length c, .int .i64 d.left, .bool d.down] 24)).alloc (.cells #[.int .i64 fr, .int .i64 n, .int .i64 en, .int .i64 sf, .string tl] 28)).alloc (.cells #[.int .i64 0, .int .i64 0, .int .i64 0, .int .i64 0, .int .i64 0, .int .i64 0, .int .i64 0, .int .i64 0, .int .i64 0, .string ⟨#[]⟩, .string ⟨#[]⟩, .int .i64 0, .int .i64 0, .string ⟨#[]⟩, .int .i64 0, .int .i64 0, .slice none 0 0, .slice none 0 0] 49)) from (((BxL.nil (Below.refl w.heap.size w)).new (by simp) #[.slice A d.sectors.length c, .int .i64 d.left, .bool d.down] 24).new (by simp) #[.int .i64 fr, .int .i64 n, .int .i64 en, .int .i64 sf, .string tl] 28).new (by simp) #[.int .i64 0, .int .i64 0, .int .i64 0, .int .i64 0, .int .i64 0, .int .i64 0, .int .i64 0, .int .i64 0, .int .i64 0, .string ⟨#[]⟩, .string ⟨#[]⟩, .int .i64 0, .int .i64 0, .string ⟨#[]⟩, .int .i64 0, .int .i64 0, .slice none 0 0, .slice none 0 0] 49)
      obtain ⟨W0, hW0⟩ : ∃ W, W = (((w.alloc (.cells #[.slice A d.sectors.length c, .int .i64 d.left, .bool d.down] 24)).alloc (.cells #[.int .i64 fr, .int .i64 n, .int .i64 en, .int .i64 sf, .string tl] 28)).alloc (.cells #[.int .i64 0, .int .i64 0, .int .i64 0, .int .i64 0, .int .i64 0, .int .i64 0, .int .i64 0, .int .i64 0, .int .i64 0, .string ⟨#[]⟩, .string ⟨#[]⟩, .int .i64 0, .int .i64 0, .string ⟨#[]⟩, .int .i64 0, .int .i64 0, .slice none 0 0, .slice none 0 0] 49)) := ⟨_, rfl⟩
      rw [← hW0] at H0 ⊢
      clear hW0
      have hc0 := blkCell H0.out.get1
      go_wp2_with (first | (with_reducible refine listStore (by kernel_rfl) 49 (.tmp 6) (.tmp 23) rfl (w.heap.size + 2) #[.int .i64 0, .int .i64 0, .int .i64 0, .int .i64 0, .int .i64 0, .int .i64 0, .int .i64 0, .int .i64 0, .int .i64 0, .string ⟨#[]⟩, .string ⟨#[]⟩, .int .i64 0, .int .i64 0, .string ⟨#[]⟩, .int .i64 0, .int .i64 0, .slice none 0 0, .slice none 0 0] _ _ rfl rfl H0.out.get2 (by kernel_rfl) (by kernel_rfl) (by kernel_rfl) ?_))
      refine bodyPost_ret (v := .tuple #[.agg #[.int .i64 0, .int .i64 0, .int .i64 0, .int .i64 0, .int .i64 0, .int .i64 0, .int .i64 0, .int .i64 0, .int .i64 0, .string ⟨#[]⟩, .string ⟨#[]⟩, .int .i64 0, .int .i64 0, .string ⟨#[]⟩, .int .i64 0, .int .i64 0, .slice none 0 0, .slice none 0 0], .int .i64 21]) (results_cell2 rfl _ _ rfl (load_whole (setRow_heap _ _ _ _ _ _ H0.out.get2) Try.underlying49 (by kernel_rfl) (by kernel_rfl)) rfl) rfl ?_
      exact HO.out _ HDEF.out _ ((H0.out.row 2 _ _ rfl).below) _ rfl
    · have h2 : en < lsn := by omega
      clear hin
      go_enter Try.func15, Try.ntmps15
      go_upto_region 1 with fail
      have H0 := Lib.hid (show BxL w.heap.size w [(#[.slice A d.sectors.length c, .int .i64 d.left, .bool d.down], 24), (#[.int .i64 fr, .int .i64 n, .int .i64 en, .int .i64 sf, .string tl], 28), (#[.int .i64 0, .int .i64 0, .int .i64 0, .int .i64 0, .int .i64 0, .int .i64 0, .int .i64 0, .int .i64 0, .int .i64 0, .string ⟨#[]⟩, .string ⟨#[]⟩, .int .i64 0, .int .i64 0, .string ⟨#[]⟩, .int .i64 0, .int .i64 0, .slice none 0 0, .slice none 0 0], 49)] (((w.alloc (.cells #[.slice A d.sectors.length c, .int .i64 d.left, .bool d.down] 24)).alloc (.cells #[.int .i64 fr, .int .i64 n, .int .i64 en, .int .i64 sf, .string tl] 28)).alloc (.cells #[.int .i64 0, .int .i64 0, .int .i64 0, .int .i64 0, .int .i64 0, .int .i64 0, .int .i64 0, .int .i64 0, .int .i64 0, .string ⟨#[]⟩, .string ⟨#[]⟩, .int .i64 0, .int .i64 0, .string ⟨#[]⟩, .int .i64 0, .int .i64 0, .slice none 0 0, .slice none 0 0] 49)) from (((BxL.nil (Below.refl w.heap.size w)).new (by simp) #[.slice A d.sectors.length c, .int .i64 d.left, .bool d.down] 24).new (by simp) #[.int .i64 fr, .int .i64 n, .int .i64 en, .int .i64 sf, .string tl] 28).new (by simp) #[.int .i64 0, .int .i64 0, .int .i64 0, .int .i64 0, .int .i64 0, .int .i64 0, .int .i64 0, .int .i64 0, .int .i64 0, .string ⟨#[]⟩, .string ⟨#[]⟩, .int .i64 0, .int .i64 0, .string ⟨#[]⟩, .int .i64 0, .int .i64 0, .slice none 0 0, .slice none 0 0] 49)
      obtain ⟨W0, hW0⟩ : ∃ W, W = (((w.alloc (.cells #[.slice A d.sectors.length c, .int .i64 d.left, .bool d.down] 24)).alloc (.cells #[.int .i64 fr, .int .i64 n, .int .i64 en, .int .i64 sf, .string tl] 28)).alloc (.cells #[.int .i64 0, .int .i64 0, .int .i64 0, .int .i64 0, .int .i64 0, .int .i64 0, .int .i64 0, .int .i64 0, .int .i64 0, .string ⟨#[]⟩, .string ⟨#[]⟩, .int .i64 0, .int .i64 0, .string ⟨#[]⟩, .int .i64 0, .int .i64 0, .slice none 0 0, .slice none 0 0] 49)) := ⟨_, rfl⟩
      rw [← hW0] at H0 ⊢
      clear hW0
      have hc0 := blkCell H0.out.get1
      go_wp2_with (first | (with_reducible refine listStore (by kernel_rfl) 49 (.tmp 6) (.tmp 23) rfl (w.heap.size + 2) #[.int .i64 0, .int .i64 0, .int .i64 0, .int .i64 0, .int .i64 0, .int .i64 0, .int .i64 0, .int .i64 0, .int .i64 0, .string ⟨#[]⟩, .string ⟨#[]⟩, .int .i64 0, .int .i64 0, .string ⟨#[]⟩, .int .i64 0, .int .i64 0, .slice none 0 0, .slice none 0 0] _ _ rfl rfl H0.out.get2 (by kernel_rfl) (by kernel_rfl) (by kernel_rfl) ?_))
      refine bodyPost_ret (v := .tuple #[.agg #[.int .i64 0, .int .i64 0, .int .i64 0, .int .i64 0, .int .i64 0, .int .i64 0, .int .i64 0, .int .i64 0, .int .i64 0, .string ⟨#[]⟩, .string ⟨#[]⟩, .int .i64 0, .int .i64 0, .string ⟨#[]⟩, .int .i64 0, .int .i64 0, .slice none 0 0, .slice none 0 0], .int .i64 21]) (results_cell2 rfl _ _ rfl (load_whole (setRow_heap _ _ _ _ _ _ H0.out.get2) Try.underlying49 (by kernel_rfl) (by kernel_rfl)) rfl) rfl ?_
      exact HO.out _ HDEF.out _ ((H0.out.row 2 _ _ rfl).below) _ rfl
  · rw [if_neg hin] at hdef
    have hn1 : ¬ lsn < 1 := fun h => hin (.inl h)
    have hn2 : ¬ en < lsn := fun h => hin (.inr h)
    have hl1 : 1 ≤ lsn := by omega
    have hl2 : lsn ≤ en := by omega
    obtain ⟨Bs, hBs⟩ : ∃ x : Int, x = (en - (tl.size : Int)) / 128 := ⟨_, rfl⟩
    obtain ⟨Fi, hFi⟩ : ∃ x : Int, x = min ((lsn - 1) / 128) Bs := ⟨_, rfl⟩
    simp only [← hBs, ← hFi] at hdef
    have hB0 : 0 ≤ Bs := by omega
    have hB1 : Bs ≤ 100000 := by omega
    have hF0 : 0 ≤ Fi := by omega
    have hF1 : Fi ≤ Bs := by omega
    have hF2 : Fi * 128 ≤ lsn - 1 := by omega
    have HS := Lib.hid (fun W (hb : Below w.heap.size w W) => sectors_any d (fun b hb => Nat.le_trans (hw b hb) (by omega)) A c (fr + Fi) (Bs - Fi) (by omega) (by omega) (by omega) W (h.below hb))
    have hlen := @Lg.secs_len d hw (Bs - Fi).toNat (fr + Fi)
    have hne := @Lg.secs_fault d (Bs - Fi).toNat (fr + Fi)
    obtain ⟨q, hq⟩ := Int.eq_ofNat_of_zero_le (show 0 ≤ lsn - 1 - Fi * 128 by omega)
    have hq2 : (lsn - 1 - Fi * 128).toNat = q := by omega
    rw [hq2] at hdef
    have hwq1 : IntKind.i64.wrap (en - (tl.size : Int)) = en - (tl.size : Int) := IntWalk.i64_in _ (by omega)
    have hwq2 : IntKind.i64.wrap (lsn - 1) = lsn - 1 := IntWalk.i64_in _ (by omega)
    have hwq3 : IntKind.i64.wrap (fr + Fi) = fr + Fi := IntWalk.i64_in _ (by omega)
    have hwq4 : IntKind.i64.wrap (Bs - Fi) = Bs - Fi := IntWalk.i64_in _ (by omega)
    have hwq5 : IntKind.i64.wrap (Fi * 128) = Fi * 128 := IntWalk.i64_in _ (by omega)
    have hwq6 : IntKind.i64.wrap (lsn - 1 - Fi * 128) = (q : Int) := by rw [hq]; exact IntWalk.i64_in _ (by omega)
    have hp1 : 0 ≤ en - (tl.size : Int) := by omega
    have hp2 : 0 ≤ lsn - 1 := by omega
    have HBS := Lib.hid hBs
    have HFI := Lib.hid hFi
    have HQ := Lib.hid hq
    clear h hw hq2 hBs hFi hin
    cases hs : Lg.secsD d (fr + Fi) (Bs - Fi).toNat with
    | error e =>
      rw [hs] at HS hdef
      simp only at hdef
      have he := hne hs
      have HDEF := Lib.hid hdef
      have he1 : (e == 0) = false := by simpa using he
      have he2 : (e != 0) = true := by simpa using he
      clear hdef hne hlen hs he hq
      go_enter Try.func15, Try.ntmps15
      go_upto_region 1 with fail
      have H0 := Lib.hid (show BxL w.heap.size w [(#[.slice A d.sectors.length c, .int .i64 d.left, .bool d.down], 24), (#[.int .i64 fr, .int .i64 n, .int .i64 en, .int .i64 sf, .string tl], 28), (#[.int .i64 0, .int .i64 0, .int .i64 0, .int .i64 0, .int .i64 0, .int .i64 0, .int .i64 0, .int .i64 0, .int .i64 0, .string ⟨#[]⟩, .string ⟨#[]⟩, .int .i64 0, .int .i64 0, .string ⟨#[]⟩, .int .i64 0, .int .i64 0, .slice none 0 0, .slice none 0 0], 49)] (((w.alloc (.cells #[.slice A d.sectors.length c, .int .i64 d.left, .bool d.down] 24)).alloc (.cells #[.int .i64 fr, .int .i64 n, .int .i64 en, .int .i64 sf, .string tl] 28)).alloc (.cells #[.int .i64 0, .int .i64 0, .int .i64 0, .int .i64 0, .int .i64 0, .int .i64 0, .int .i64 0, .int .i64 0, .int .i64 0, .string ⟨#[]⟩, .string ⟨#[]⟩, .int .i64 0, .int .i64 0, .string ⟨#[]⟩, .int .i64 0, .int .i64 0, .slice none 0 0, .slice none 0 0] 49)) from (((BxL.nil (Below.refl w.heap.size w)).new (by simp) #[.slice A d.sectors.length c, .int .i64 d.left, .bool d.down] 24).new (by simp) #[.int .i64 fr, .int .i64 n, .int .i64 en, .int .i64 sf, .string tl] 28).new (by simp) #[.int .i64 0, .int .i64 0, .int .i64 0, .int .i64 0, .int .i64 0, .int .i64 0, .int .i64 0, .int .i64 0, .int .i64 0, .string ⟨#[]⟩, .string ⟨#[]⟩, .int .i64 0, .int .i64 0, .string ⟨#[]⟩, .int .i64 0, .int .i64 0, .slice none 0 0, .slice none 0 0] 49)
      obtain ⟨W0, hW0⟩ : ∃ W, W = (((w.alloc (.cells #[.slice A d.sectors.length c, .int .i64 d.left, .bool d.down] 24)).alloc (.cells #[.int .i64 fr, .int .i64 n, .int .i64 en, .int .i64 sf, .string tl] 28)).alloc (.cells #[.int .i64 0, .int .i64 0, .int .i64 0, .int .i64 0, .int .i64 0, .int .i64 0, .int .i64 0, .int .i64 0, .int .i64 0, .string ⟨#[]⟩, .string ⟨#[]⟩, .int .i64 0, .int .i64 0, .string ⟨#[]⟩, .int .i64 0, .int .i64 0, .slice none 0 0, .slice none 0 0] 49)) := ⟨_, rfl⟩
      rw [← hW0] at H0 ⊢
      clear hW0
      have hc0 := blkCell H0.out.get1
      go_upto_region 4 with fail
      go_upto_region 5 with fail
      rw [← HBS.out, ← HFI.out]
      dsimp only [diskV] at HS
      go_wp2_with (first
        | (with_reducible refine listLoad (by kernel_rfl) 24 (.tmp 3) rfl w.heap.size rfl #[.slice A d.sectors.length c, .int .i64 d.left, .bool d.down] _ H0.out.get0 _ Try.underlying24 (by kernel_rfl) (by kernel_rfl) ?_)
        | (go_at_call 19; (try rw [← HBS.out]); (with_reducible refine (HS.out _ H0.out.below).mono ?_); rintro e1 w1 ⟨hb1, rfl⟩; (try dsimp only [secV]); have H1 := Lib.hid (H0.out.step hb1); clear hb1)
        | (with_reducible refine listStore (by kernel_rfl) 49 (.tmp 6) (.tmp 51) rfl (w.heap.size + 2) #[.int .i64 0, .int .i64 0, .int .i64 0, .int .i64 0, .int .i64 0, .int .i64 0, .int .i64 0, .int .i64 0, .int .i64 0, .string ⟨#[]⟩, .string ⟨#[]⟩, .int .i64 0, .int .i64 0, .string ⟨#[]⟩, .int .i64 0, .int .i64 0, .slice none 0 0, .slice none 0 0] _ _ rfl rfl H1.out.get2 (by kernel_rfl) (by kernel_rfl) (by kernel_rfl) ?_))
      refine bodyPost_ret (v := .tuple #[.agg #[.int .i64 0, .int .i64 0, .int .i64 0, .int .i64 0, .int .i64 0, .int .i64 0, .int .i64 0, .int .i64 0, .int .i64 0, .string ⟨#[]⟩, .string ⟨#[]⟩, .int .i64 0, .int .i64 0, .string ⟨#[]⟩, .int .i64 0, .int .i64 0, .slice none 0 0, .slice none 0 0], .int .i64 e]) (results_cell2 rfl _ _ rfl (load_whole (setRow_heap _ _ _ _ _ _ H1.out.get2) Try.underlying49 (by kernel_rfl) (by kernel_rfl)) rfl) rfl ?_
      exact HO.out _ HDEF.out _ ((H1.out.row 2 _ _ rfl).below) _ rfl
    | ok L =>
      rw [hs] at HS hdef
      simp only at hdef
      have hl2' := hlen hs
      have hLl : L.length ≤ 896000 := by
        rcases hl2'.2 with h0 | h0
        · have := hl2'.1; rw [h0] at this; omega
        · have := hl2'.1
          have h3 : (Bs - Fi).toNat ≤ 7000 := by omega
          omega
      obtain ⟨S, hS⟩ : ∃ S : ByteArray, S = ⟨L.toArray⟩ := ⟨_, rfl⟩
      have hSl : S.data.toList = L := by rw [hS]
      have hSs : S.size = L.length := by rw [← hSl]; simp
      have hSm : S.size ≤ 896000 := by omega
      have hadd : ∀ W : World, (Op.stringOp .add S tl).run Try.prog W = .ok (.string (S ++ tl)) W := fun W => run_string_add_sum W _ _ (by omega)
      have hTl : (S ++ tl).data.toList = L ++ tl.data.toList := by rw [ByteArray.data_append, Array.toList_append, hSl]
      have hTs : (S ++ tl).size ≤ 1000000 := by rw [ByteArray.size_append]; omega
      have HG := Lib.hid (fun W => get_rec (S ++ tl) q hTs W)
      rw [hTl] at HG
      have HSV : Hid (secV (.ok L) = .tuple #[.string S, .int .i64 0]) := Lib.hid (by rw [hS]; rfl)
      generalize S ++ tl = St at HG hadd
      clear hS hSl hLl hSs hTl hTs hl2' hlen hne hs hq
      cases hg : Lg.getO (L ++ tl.data.toList) q with
      | none =>
        rw [hg] at HG hdef
        have HDEF := Lib.hid hdef
        clear hdef hg
        go_enter Try.func15, Try.ntmps15
        go_upto_region 1 with fail
        have H0 := Lib.hid (show BxL w.heap.size w [(#[.slice A d.sectors.length c, .int .i64 d.left, .bool d.down], 24), (#[.int .i64 fr, .int .i64 n, .int .i64 en, .int .i64 sf, .string tl], 28), (#[.int .i64 0, .int .i64 0, .int .i64 0, .int .i64 0, .int .i64 0, .int .i64 0, .int .i64 0, .int .i64 0, .int .i64 0, .string ⟨#[]⟩, .string ⟨#[]⟩, .int .i64 0, .int .i64 0, .string ⟨#[]⟩, .int .i64 0, .int .i64 0, .slice none 0 0, .slice none 0 0], 49)] (((w.alloc (.cells #[.slice A d.sectors.length c, .int .i64 d.left, .bool d.down] 24)).alloc (.cells #[.int .i64 fr, .int .i64 n, .int .i64 en, .int .i64 sf, .string tl] 28)).alloc (.cells #[.int .i64 0, .int .i64 0, .int .i64 0, .int .i64 0, .int .i64 0, .int .i64 0, .int .i64 0, .int .i64 0, .int .i64 0, .string ⟨#[]⟩, .string ⟨#[]⟩, .int .i64 0, .int .i64 0, .string ⟨#[]⟩, .int .i64 0, .int .i64 0, .slice none 0 0, .slice none 0 0] 49)) from (((BxL.nil (Below.refl w.heap.size w)).new (by simp) #[.slice A d.sectors.length c, .int .i64 d.left, .bool d.down] 24).new (by simp) #[.int .i64 fr, .int .i64 n, .int .i64 en, .int .i64 sf, .string tl] 28).new (by simp) #[.int .i64 0, .int .i64 0, .int .i64 0, .int .i64 0, .int .i64 0, .int .i64 0, .int .i64 0, .int .i64 0, .int .i64 0, .string ⟨#[]⟩, .string ⟨#[]⟩, .int .i64 0, .int .i64 0, .string ⟨#[]⟩, .int .i64 0, .int .i64 0, .slice none 0 0, .slice none 0 0] 49)
        obtain ⟨W0, hW0⟩ : ∃ W, W = (((w.alloc (.cells #[.slice A d.sectors.length c, .int .i64 d.left, .bool d.down] 24)).alloc (.cells #[.int .i64 fr, .int .i64 n, .int .i64 en, .int .i64 sf, .string tl] 28)).alloc (.cells #[.int .i64 0, .int .i64 0, .int .i64 0, .int .i64 0, .int .i64 0, .int .i64 0, .int .i64 0, .int .i64 0, .int .i64 0, .string ⟨#[]⟩, .string ⟨#[]⟩, .int .i64 0, .int .i64 0, .string ⟨#[]⟩, .int .i64 0, .int .i64 0, .slice none 0 0, .slice none 0 0] 49)) := ⟨_, rfl⟩
        rw [← hW0] at H0 ⊢
        clear hW0
        have hc0 := blkCell H0.out.get1
        go_upto_region 4 with fail
        go_upto_region 5 with fail
        rw [← HBS.out, ← HFI.out]
        dsimp only [diskV] at HS
        go_wp2_with (first
          | (with_reducible refine listLoad (by kernel_rfl) 24 (.tmp 3) rfl w.heap.size rfl #[.slice A d.sectors.length c, .int .i64 d.left, .bool d.down] _ H0.out.get0 _ Try.underlying24 (by kernel_rfl) (by kernel_rfl) ?_)
          | (go_at_call 19; (try rw [← HBS.out]); (with_reducible refine (HS.out _ H0.out.below).mono ?_); rintro e1 w1 ⟨hb1, rfl⟩; rw [HSV.out]; have H1 := Lib.hid (H0.out.step hb1); have hc1 := blkCell H1.out.get1; clear hb1)
          | (go_at_call 20; (with_reducible refine (HG.out _).mono ?_); rintro e w2 ⟨hb2, kk, hkk, rfl⟩; have he1 : (kk == 0) = false := (by simpa using hkk); have he2 : (kk != 0) = true := (by simpa using hkk); have H2 := Lib.hid (H1.out.step (pastAlloc (o := .cells #[.int .i64 0, .int .i64 0, .int .i64 0, .int .i64 0, .int .i64 0, .int .i64 0, .int .i64 0, .int .i64 0, .int .i64 0, .string ⟨#[]⟩, .string ⟨#[]⟩, .int .i64 0, .int .i64 0, .string ⟨#[]⟩, .int .i64 0, .int .i64 0, .slice none 0 0, .slice none 0 0] 49) hb2)); clear hkk hb2)
          | (with_reducible refine wpList_store_new rfl 49 (.tmp 12) (.tmp 64) rfl #[.int .i64 0, .int .i64 0, .int .i64 0, .int .i64 0, .int .i64 0, .int .i64 0, .int .i64 0, .int .i64 0, .int .i64 0, .string ⟨#[]⟩, .string ⟨#[]⟩, .int .i64 0, .int .i64 0, .string ⟨#[]⟩, .int .i64 0, .int .i64 0, .slice none 0 0, .slice none 0 0] _ _ rfl (by kernel_rfl) (by kernel_rfl) (by kernel_rfl) (by kernel_rfl) ?_)
          | (with_reducible refine listStore (by kernel_rfl) 49 (.tmp 6) (.tmp 75) rfl (w.heap.size + 2) #[.int .i64 0, .int .i64 0, .int .i64 0, .int .i64 0, .int .i64 0, .int .i64 0, .int .i64 0, .int .i64 0, .int .i64 0, .string ⟨#[]⟩, .string ⟨#[]⟩, .int .i64 0, .int .i64 0, .string ⟨#[]⟩, .int .i64 0, .int .i64 0, .slice none 0 0, .slice none 0 0] _ _ rfl rfl H2.out.get2 (by kernel_rfl) (by kernel_rfl) (by kernel_rfl) ?_))
        refine bodyPost_ret (v := .tuple #[.agg #[.int .i64 0, .int .i64 0, .int .i64 0, .int .i64 0, .int .i64 0, .int .i64 0, .int .i64 0, .int .i64 0, .int .i64 0, .string ⟨#[]⟩, .string ⟨#[]⟩, .int .i64 0, .int .i64 0, .string ⟨#[]⟩, .int .i64 0, .int .i64 0, .slice none 0 0, .slice none 0 0], .int .i64 21]) (results_cell2 rfl _ _ rfl (load_whole (setRow_heap _ _ _ _ _ _ H2.out.get2) Try.underlying49 (by kernel_rfl) (by kernel_rfl)) rfl) rfl ?_
        exact HO.out _ HDEF.out _ ((H2.out.row 2 _ _ rfl).below) _ rfl
      | some rb =>
        obtain ⟨r, b⟩ := rb
        rw [hg] at HG hdef
        simp only at hdef
        clear hg
        by_cases hl : r.lsn = lsn
        · rw [if_pos hl] at hdef
          have HF := Lib.hid (fun w' hb A1 c1 D1 d1 hr => HOK.out r hdef w' hb A1 c1 D1 d1 hr)
          clear hdef HOK
          obtain ⟨lsn0, prev, txn, kind, page, next, nu, ⟨ok, os, oo, on⟩, how, root, ⟨ek, ep, es⟩, ts, ds⟩ := r
          simp only at hl
          subst hl
          have hself : (lsn0 != lsn0) = false := by simp
          dsimp only [recV, recA] at HF
          go_enter Try.func15, Try.ntmps15
          go_upto_region 1 with fail
          have H0 := Lib.hid (show BxL w.heap.size w [(#[.slice A d.sectors.length c, .int .i64 d.left, .bool d.down], 24), (#[.int .i64 fr, .int .i64 n, .int .i64 en, .int .i64 sf, .string tl], 28), (#[.int .i64 0, .int .i64 0, .int .i64 0, .int .i64 0, .int .i64 0, .int .i64 0, .int .i64 0, .int .i64 0, .int .i64 0, .string ⟨#[]⟩, .string ⟨#[]⟩, .int .i64 0, .int .i64 0, .string ⟨#[]⟩, .int .i64 0, .int .i64 0, .slice none 0 0, .slice none 0 0], 49)] (((w.alloc (.cells #[.slice A d.sectors.length c, .int .i64 d.left, .bool d.down] 24)).alloc (.cells #[.int .i64 fr, .int .i64 n, .int .i64 en, .int .i64 sf, .string tl] 28)).alloc (.cells #[.int .i64 0, .int .i64 0, .int .i64 0, .int .i64 0, .int .i64 0, .int .i64 0, .int .i64 0, .int .i64 0, .int .i64 0, .string ⟨#[]⟩, .string ⟨#[]⟩, .int .i64 0, .int .i64 0, .string ⟨#[]⟩, .int .i64 0, .int .i64 0, .slice none 0 0, .slice none 0 0] 49)) from (((BxL.nil (Below.refl w.heap.size w)).new (by simp) #[.slice A d.sectors.length c, .int .i64 d.left, .bool d.down] 24).new (by simp) #[.int .i64 fr, .int .i64 n, .int .i64 en, .int .i64 sf, .string tl] 28).new (by simp) #[.int .i64 0, .int .i64 0, .int .i64 0, .int .i64 0, .int .i64 0, .int .i64 0, .int .i64 0, .int .i64 0, .int .i64 0, .string ⟨#[]⟩, .string ⟨#[]⟩, .int .i64 0, .int .i64 0, .string ⟨#[]⟩, .int .i64 0, .int .i64 0, .slice none 0 0, .slice none 0 0] 49)
          obtain ⟨W0, hW0⟩ : ∃ W, W = (((w.alloc (.cells #[.slice A d.sectors.length c, .int .i64 d.left, .bool d.down] 24)).alloc (.cells #[.int .i64 fr, .int .i64 n, .int .i64 en, .int .i64 sf, .string tl] 28)).alloc (.cells #[.int .i64 0, .int .i64 0, .int .i64 0, .int .i64 0, .int .i64 0, .int .i64 0, .int .i64 0, .int .i64 0, .int .i64 0, .string ⟨#[]⟩, .string ⟨#[]⟩, .int .i64 0, .int .i64 0, .string ⟨#[]⟩, .int .i64 0, .int .i64 0, .slice none 0 0, .slice none 0 0] 49)) := ⟨_, rfl⟩
          rw [← hW0] at H0 ⊢
          clear hW0
          have hc0 := blkCell H0.out.get1
          go_upto_region 4 with fail
          go_upto_region 5 with fail
          rw [← HBS.out, ← HFI.out]
          dsimp only [diskV] at HS
          go_wp2_with (first
            | (with_reducible refine listLoad (by kernel_rfl) 24 (.tmp 3) rfl w.heap.size rfl #[.slice A d.sectors.length c, .int .i64 d.left, .bool d.down] _ H0.out.get0 _ Try.underlying24 (by kernel_rfl) (by kernel_rfl) ?_)
            | (go_at_call 19; (try rw [← HBS.out]); (with_reducible refine (HS.out _ H0.out.below).mono ?_); rintro e1 w1 ⟨hb1, rfl⟩; rw [HSV.out]; have H1 := Lib.hid (H0.out.step hb1); have hc1 := blkCell H1.out.get1; clear hb1)
            | (go_at_call 20; (with_reducible refine (HG.out _).mono ?_); rintro e w2 ⟨hb2, A1, c1, D1, d1, rfl, hrr⟩; (try dsimp only [recV, recA]); have H2 := Lib.hid (H1.out.step (pastAlloc (o := .cells #[.int .i64 lsn0, .int .i64 prev, .int .i64 txn, .int .i64 kind, .int .i64 page, .int .i64 next, .int .i64 nu, .int .i64 ok, .int .i64 os, .string oo, .string on, .int .i64 how, .int .i64 root, .string ek, .int .i64 ep, .int .i64 es, .slice A1 ts.length c1, .slice D1 ds.length d1] 49) hb2)); have HR2 := Lib.hid (((hrr.mono (show w.heap.size + 3 ≤ w1.heap.size from (by have h9 := H1.out.lt (i := 2) (by simp); omega)))).below (allocB w2 (.cells #[.int .i64 lsn0, .int .i64 prev, .int .i64 txn, .int .i64 kind, .int .i64 page, .int .i64 next, .int .i64 nu, .int .i64 ok, .int .i64 os, .string oo, .string on, .int .i64 how, .int .i64 root, .string ek, .int .i64 ep, .int .i64 es, .slice A1 ts.length c1, .slice D1 ds.length d1] 49))); have hx2 := blkCell (heap_alloc_new w2 (.cells #[.int .i64 lsn0, .int .i64 prev, .int .i64 txn, .int .i64 kind, .int .i64 page, .int .i64 next, .int .i64 nu, .int .i64 ok, .int .i64 os, .string oo, .string on, .int .i64 how, .int .i64 root, .string ek, .int .i64 ep, .int .i64 es, .slice A1 ts.length c1, .slice D1 ds.length d1] 49)); simp at hx2; clear hb2 hrr)
            | (with_reducible refine wpList_store_new rfl 49 (.tmp 12) (.tmp 64) rfl #[.int .i64 lsn0, .int .i64 prev, .int .i64 txn, .int .i64 kind, .int .i64 page, .int .i64 next, .int .i64 nu, .int .i64 ok, .int .i64 os, .string oo, .string on, .int .i64 how, .int .i64 root, .string ek, .int .i64 ep, .int .i64 es, .slice A1 ts.length c1, .slice D1 ds.length d1] _ _ rfl (by kernel_rfl) (by kernel_rfl) (by kernel_rfl) (by kernel_rfl) ?_)
            | (with_reducible refine listLoad (by kernel_rfl) 49 (.tmp 12) rfl w2.heap.size rfl #[.int .i64 lsn0, .int .i64 prev, .int .i64 txn, .int .i64 kind, .int .i64 page, .int .i64 next, .int .i64 nu, .int .i64 ok, .int .i64 os, .string oo, .string on, .int .i64 how, .int .i64 root, .string ek, .int .i64 ep, .int .i64 es, .slice A1 ts.length c1, .slice D1 ds.length d1] _ (heap_alloc_new w2 _) _ Try.underlying49 (by kernel_rfl) (by kernel_rfl) ?_)
            | (with_reducible refine listStore (by kernel_rfl) 49 (.tmp 6) (.tmp 76) rfl (w.heap.size + 2) #[.int .i64 lsn0, .int .i64 prev, .int .i64 txn, .int .i64 kind, .int .i64 page, .int .i64 next, .int .i64 nu, .int .i64 ok, .int .i64 os, .string oo, .string on, .int .i64 how, .int .i64 root, .string ek, .int .i64 ep, .int .i64 es, .slice A1 ts.length c1, .slice D1 ds.length d1] _ _ rfl rfl H2.out.get2 (by kernel_rfl) (by kernel_rfl) (by kernel_rfl) ?_))
          refine bodyPost_ret (v := .tuple #[.agg #[.int .i64 lsn0, .int .i64 prev, .int .i64 txn, .int .i64 kind, .int .i64 page, .int .i64 next, .int .i64 nu, .int .i64 ok, .int .i64 os, .string oo, .string on, .int .i64 how, .int .i64 root, .string ek, .int .i64 ep, .int .i64 es, .slice A1 ts.length c1, .slice D1 ds.length d1], .int .i64 0]) (results_cell2 rfl _ _ rfl (load_whole (setRow_heap _ _ _ _ _ _ H2.out.get2) Try.underlying49 (by kernel_rfl) (by kernel_rfl)) rfl) rfl ?_
          exact HF.out _ ((H2.out.row 2 _ _ rfl).below) A1 c1 D1 d1 ((HR2.out.row _ _ (by omega)).mono (by omega))
        · rw [if_neg hl] at hdef
          have HDEF := Lib.hid hdef
          clear hdef HOK
          obtain ⟨lsn0, prev, txn, kind, page, next, nu, ⟨ok, os, oo, on⟩, how, root, ⟨ek, ep, es⟩, ts, ds⟩ := r
          simp only at hl
          have hl1' : (lsn0 == lsn) = false := by simpa using hl
          have hl2' : (lsn0 != lsn) = true := by simpa using hl
          clear hl
          go_enter Try.func15, Try.ntmps15
          go_upto_region 1 with fail
          have H0 := Lib.hid (show BxL w.heap.size w [(#[.slice A d.sectors.length c, .int .i64 d.left, .bool d.down], 24), (#[.int .i64 fr, .int .i64 n, .int .i64 en, .int .i64 sf, .string tl], 28), (#[.int .i64 0, .int .i64 0, .int .i64 0, .int .i64 0, .int .i64 0, .int .i64 0, .int .i64 0, .int .i64 0, .int .i64 0, .string ⟨#[]⟩, .string ⟨#[]⟩, .int .i64 0, .int .i64 0, .string ⟨#[]⟩, .int .i64 0, .int .i64 0, .slice none 0 0, .slice none 0 0], 49)] (((w.alloc (.cells #[.slice A d.sectors.length c, .int .i64 d.left, .bool d.down] 24)).alloc (.cells #[.int .i64 fr, .int .i64 n, .int .i64 en, .int .i64 sf, .string tl] 28)).alloc (.cells #[.int .i64 0, .int .i64 0, .int .i64 0, .int .i64 0, .int .i64 0, .int .i64 0, .int .i64 0, .int .i64 0, .int .i64 0, .string ⟨#[]⟩, .string ⟨#[]⟩, .int .i64 0, .int .i64 0, .string ⟨#[]⟩, .int .i64 0, .int .i64 0, .slice none 0 0, .slice none 0 0] 49)) from (((BxL.nil (Below.refl w.heap.size w)).new (by simp) #[.slice A d.sectors.length c, .int .i64 d.left, .bool d.down] 24).new (by simp) #[.int .i64 fr, .int .i64 n, .int .i64 en, .int .i64 sf, .string tl] 28).new (by simp) #[.int .i64 0, .int .i64 0, .int .i64 0, .int .i64 0, .int .i64 0, .int .i64 0, .int .i64 0, .int .i64 0, .int .i64 0, .string ⟨#[]⟩, .string ⟨#[]⟩, .int .i64 0, .int .i64 0, .string ⟨#[]⟩, .int .i64 0, .int .i64 0, .slice none 0 0, .slice none 0 0] 49)
          obtain ⟨W0, hW0⟩ : ∃ W, W = (((w.alloc (.cells #[.slice A d.sectors.length c, .int .i64 d.left, .bool d.down] 24)).alloc (.cells #[.int .i64 fr, .int .i64 n, .int .i64 en, .int .i64 sf, .string tl] 28)).alloc (.cells #[.int .i64 0, .int .i64 0, .int .i64 0, .int .i64 0, .int .i64 0, .int .i64 0, .int .i64 0, .int .i64 0, .int .i64 0, .string ⟨#[]⟩, .string ⟨#[]⟩, .int .i64 0, .int .i64 0, .string ⟨#[]⟩, .int .i64 0, .int .i64 0, .slice none 0 0, .slice none 0 0] 49)) := ⟨_, rfl⟩
          rw [← hW0] at H0 ⊢
          clear hW0
          have hc0 := blkCell H0.out.get1
          go_upto_region 4 with fail
          go_upto_region 5 with fail
          rw [← HBS.out, ← HFI.out]
          dsimp only [diskV] at HS
          go_wp2_with (first
            | (with_reducible refine listLoad (by kernel_rfl) 24 (.tmp 3) rfl w.heap.size rfl #[.slice A d.sectors.length c, .int .i64 d.left, .bool d.down] _ H0.out.get0 _ Try.underlying24 (by kernel_rfl) (by kernel_rfl) ?_)
            | (go_at_call 19; (try rw [← HBS.out]); (with_reducible refine (HS.out _ H0.out.below).mono ?_); rintro e1 w1 ⟨hb1, rfl⟩; rw [HSV.out]; have H1 := Lib.hid (H0.out.step hb1); have hc1 := blkCell H1.out.get1; clear hb1)
            | (go_at_call 20; (with_reducible refine (HG.out _).mono ?_); rintro e w2 ⟨hb2, A1, c1, D1, d1, rfl, hrr⟩; (try dsimp only [recV, recA]); have H2 := Lib.hid (H1.out.step (pastAlloc (o := .cells #[.int .i64 lsn0, .int .i64 prev, .int .i64 txn, .int .i64 kind, .int .i64 page, .int .i64 next, .int .i64 nu, .int .i64 ok, .int .i64 os, .string oo, .string on, .int .i64 how, .int .i64 root, .string ek, .int .i64 ep, .int .i64 es, .slice A1 ts.length c1, .slice D1 ds.length d1] 49) hb2)); have hx2 := blkCell (heap_alloc_new w2 (.cells #[.int .i64 lsn0, .int .i64 prev, .int .i64 txn, .int .i64 kind, .int .i64 page, .int .i64 next, .int .i64 nu, .int .i64 ok, .int .i64 os, .string oo, .string on, .int .i64 how, .int .i64 root, .string ek, .int .i64 ep, .int .i64 es, .slice A1 ts.length c1, .slice D1 ds.length d1] 49)); simp at hx2; clear hb2 hrr)
            | (with_reducible refine wpList_store_new rfl 49 (.tmp 12) (.tmp 64) rfl #[.int .i64 lsn0, .int .i64 prev, .int .i64 txn, .int .i64 kind, .int .i64 page, .int .i64 next, .int .i64 nu, .int .i64 ok, .int .i64 os, .string oo, .string on, .int .i64 how, .int .i64 root, .string ek, .int .i64 ep, .int .i64 es, .slice A1 ts.length c1, .slice D1 ds.length d1] _ _ rfl (by kernel_rfl) (by kernel_rfl) (by kernel_rfl) (by kernel_rfl) ?_)
            | (with_reducible refine listStore (by kernel_rfl) 49 (.tmp 6) (.tmp 75) rfl (w.heap.size + 2) #[.int .i64 0, .int .i64 0, .int .i64 0, .int .i64 0, .int .i64 0, .int .i64 0, .int .i64 0, .int .i64 0, .int .i64 0, .string ⟨#[]⟩, .string ⟨#[]⟩, .int .i64 0, .int .i64 0, .string ⟨#[]⟩, .int .i64 0, .int .i64 0, .slice none 0 0, .slice none 0 0] _ _ rfl rfl H2.out.get2 (by kernel_rfl) (by kernel_rfl) (by kernel_rfl) ?_))
          refine bodyPost_ret (v := .tuple #[.agg #[.int .i64 0, .int .i64 0, .int .i64 0, .int .i64 0, .int .i64 0, .int .i64 0, .int .i64 0, .int .i64 0, .int .i64 0, .string ⟨#[]⟩, .string ⟨#[]⟩, .int .i64 0, .int .i64 0, .string ⟨#[]⟩, .int .i64 0, .int .i64 0, .slice none 0 0, .slice none 0 0], .int .i64 21]) (results_cell2 rfl _ _ rfl (load_whole (setRow_heap _ _ _ _ _ _ H2.out.get2) Try.underlying49 (by kernel_rfl) (by kernel_rfl)) rfl) rfl ?_
          exact HO.out _ HDEF.out _ ((H2.out.row 2 _ _ rfl).below) _ rfl
end Go.Proofs.Ytojaagnfjenhoaa
/- The plain law of the log: what is appended, forced, cut off by the power, opened again and read. -/
namespace Lg
open Rc
/-- The bytes of a log's sectors. -/
def logS (F N : Nat) (d : Dk) : List UInt8 := flat ((d.sectors.drop F).take N)
theorem logS_len {F N : Nat} {d : Dk} (hw : Whole d.sectors) (hr : F + N ≤ d.sectors.length) : (logS F N d).length = N * 128 := by
  unfold logS
  rw [flat_len ((hw.drop F).take N), List.length_take, List.length_drop]
  congr 1; omega
theorem set_part {L : List ByteArray} {F N j : Nat} {b : ByteArray} (hj : j < N) : ((L.set (F + j) b).drop F).take N = ((L.drop F).take N).set j b := by
  refine List.ext_getElem? fun i => ?_
  simp only [List.getElem?_take, List.getElem?_drop, List.getElem?_set, List.length_take, List.length_drop]
  by_cases h1 : i < N
  · by_cases h2 : i = j
    · subst h2
      simp only [if_pos h1, if_pos]
      by_cases h3 : F + i < L.length
      · rw [if_pos h3, if_pos (by omega)]
      · rw [if_neg h3, if_neg (by omega)]
    · simp only [if_pos h1]
      rw [if_neg (by omega), if_neg (by omega)]
  · rw [if_neg h1]
    rw [if_neg (by omega), if_neg h1]
/-- The sectors of a text, together. -/
theorem flat_cutW (n : Nat) : ∀ l : List UInt8, l.length ≤ n → flat (cutW l) = l ++ List.replicate ((cutW l).length * 128 - l.length) 0 := by
  induction n with
  | zero =>
    intro l hl
    rw [List.eq_nil_of_length_eq_zero (l := l) (by omega), cutW_nil]; rfl
  | succ n ih =>
    intro l hl
    by_cases h : l = []
    · rw [h, cutW_nil]; rfl
    · have h0 : 0 < l.length := by cases l with
        | nil => contradiction
        | cons a l => simp
      have hd : (pad128 (l.take 128)).data.toList = l.take 128 ++ List.replicate (128 - (l.take 128).length) 0 := by unfold pad128; rfl
      rw [cutW_cons h, flat_cons, hd, ih _ (by rw [List.length_drop]; omega), List.length_cons]
      have hcl := cutW_length _ (l.drop 128) (Nat.le_refl _)
      by_cases hs : l.length ≤ 128
      · have e1 : l.drop 128 = [] := List.drop_eq_nil_of_le hs
        rw [e1, cutW_nil, List.take_of_length_le hs]
        simp
      · have e1 : (l.take 128).length = 128 := by rw [List.length_take]; omega
        rw [e1, Nat.sub_self, List.replicate_zero, List.append_nil, ← List.append_assoc, List.take_append_drop, List.length_drop]
        rw [List.length_drop] at hcl
        have e2 : (cutW (l.drop 128)).length * 128 - (l.length - 128) = ((cutW (l.drop 128)).length + 1) * 128 - l.length := by omega
        rw [e2]
theorem flat_one : flat [zero128] = List.replicate 128 0 := by
  have h : ∀ l : List UInt8, flat [⟨l.toArray⟩] = l := fun l => by unfold flat; simp
  exact h _
theorem piece_of {L : List ByteArray} (h : Whole L) (i : Nat) (hi : i < L.length) : (L[i]?.getD ⟨#[]⟩).data.toList = ((flat L).drop (i * 128)).take 128 ∧ (L[i]?.getD ⟨#[]⟩).size = 128 := by
  rw [List.getElem?_eq_getElem hi, Option.getD_some]
  refine ⟨?_, h _ (List.getElem_mem hi)⟩
  rw [← flat_drop h, List.drop_eq_getElem_cons hi, flat_cons, List.take_left' (by have := h _ (List.getElem_mem hi); simpa using this)]
/-- The log as calls leave it: r1 is safe, r2 is behind it, in memory. -/
structure LInv (F N : Nat) (d : Dk) (g : Lo) (r1 r2 : List Rec) : Prop where
  whole : Whole d.sectors
  room : F + N ≤ d.sectors.length
  hf : g.from_ = (F : Int)
  hn : g.n = (N : Int)
  row : Row 0 (r1 ++ r2)
  pre : (logS F N d).take (bytes r1).length = bytes r1
  safe : g.safe = ((bytes r1).length : Int)
  end_ : g.end_ = ((bytes (r1 ++ r2)).length : Int)
  tail : g.tail = ⟨((bytes (r1 ++ r2)).drop ((bytes r1).length - (bytes r1).length % 128)).toArray⟩
  fit : (bytes (r1 ++ r2)).length ≤ N * 128
theorem bytes_le (r1 r2 : List Rec) : (bytes (r1 ++ r2)).length = (bytes r1).length + (bytes r2).length := by rw [bytes_append, List.length_append]
theorem bytes_one (r : Rec) : bytes [r] = putR r := by unfold bytes; simp
theorem bytes_nil {l : List Rec} (h : (bytes l).length = 0) : l = [] := by
  cases l with
  | nil => rfl
  | cons r l => rw [bytes_cons, List.length_append, putR_len] at h; omega
theorem LInv.tail_size {F N : Nat} {d : Dk} {g : Lo} {r1 r2 : List Rec} (h : LInv F N d g r1 r2) : (g.tail.size : Int) = g.end_ - (((bytes r1).length / 128 * 128 : Nat) : Int) := by
  have h1 := bytes_le r1 r2
  rw [h.tail, h.end_]
  show ((((bytes (r1 ++ r2)).drop ((bytes r1).length - (bytes r1).length % 128)).toArray.size : Nat) : Int) = _
  rw [List.size_toArray, List.length_drop]
  omega
/-- A log without bytes. -/
theorem LInv.new {F N : Nat} {d : Dk} (hw : Whole d.sectors) (hr : F + N ≤ d.sectors.length) : LInv F N d ⟨F, N, 0, 0, ⟨#[]⟩⟩ [] [] :=
  ⟨hw, hr, rfl, rfl, trivial, rfl, rfl, rfl, rfl, Nat.zero_le _⟩
/-- What Append does to it. -/
theorem LInv.append {F N : Nat} {d : Dk} {g : Lo} {r1 r2 : List Rec} (h : LInv F N d g r1 r2) (r : Rec) :
    (appendD g r = (g, 0, 1)) ∨ (appendD g r = (g, 0, 18)) ∨
    ((appendD g r).2 = (g.end_ + 1, 0) ∧ LInv F N d (appendD g r).1 r1 (r2 ++ [{ r with lsn := g.end_ + 1 }])) := by
  by_cases h1 : Right { r with lsn := g.end_ + 1 }
  · by_cases h2 : g.n * 128 - ((putR { r with lsn := g.end_ + 1 }).length : Int) < g.end_
    · refine .inr (.inl ?_)
      unfold appendD; simp only; rw [if_neg (fun hn => hn h1), if_pos h2]
    · refine .inr (.inr ?_)
      have e : appendD g r = ({ g with end_ := g.end_ + ((putR { r with lsn := g.end_ + 1 }).length : Int), tail := g.tail ++ ⟨(putR { r with lsn := g.end_ + 1 }).toArray⟩ }, g.end_ + 1, 0) := by
        unfold appendD; simp only; rw [if_neg (fun hn => hn h1), if_neg h2]
      rw [e]
      refine ⟨rfl, ?_⟩
      have hb : bytes (r1 ++ (r2 ++ [{ r with lsn := g.end_ + 1 }])) = bytes (r1 ++ r2) ++ putR { r with lsn := g.end_ + 1 } := by
        rw [← List.append_assoc, bytes_append (r1 ++ r2), bytes_one]
      refine ⟨h.whole, h.room, h.hf, h.hn, ?_, h.pre, h.safe, ?_, ?_, ?_⟩
      · rw [← List.append_assoc, row_append]
        refine ⟨h.row, h1, ?_, trivial⟩
        show g.end_ + 1 = _
        rw [h.end_]; simp
      · show g.end_ + _ = _
        rw [hb, List.length_append, h.end_]; omega
      · show g.tail ++ _ = _
        have h3 := bytes_le r1 r2
        rw [hb, h.tail, List.drop_append_of_le_length (by omega)]
        apply ByteArray.ext
        rw [ByteArray.data_append]
        simp
      · rw [hb, List.length_append]
        have h4 := h.hn
        have h5 := h.end_
        omega
  · refine .inl ?_
    unfold appendD; simp only; rw [if_pos h1]
/-! ### Force -/
theorem whole_cut (s : ByteArray) : Whole (cutB s) := cutB_size s
/-- What all sectors of a Force are together. -/
structure Sects (F N f : Nat) (s n t : List UInt8) (all : List ByteArray) : Prop where
  whole : Whole all
  fits : f + all.length ≤ N
  some_ : 0 < all.length
  flat_ : n = s.take (f * 128) ++ (flat all ++ s.drop ((f + all.length) * 128))
  len : s.length = N * 128
theorem Sects.nlen {F N f : Nat} {s n t : List UInt8} {all : List ByteArray} (h : Sects F N f s n t all) : n.length = N * 128 := by
  have h1 := h.fits
  have h2 := h.len
  rw [h.flat_, List.length_append, List.length_append, flat_len h.whole, List.length_take, List.length_drop]
  omega
theorem Sects.piece {F N f : Nat} {s n t : List UInt8} {all : List ByteArray} (h : Sects F N f s n t all) (i : Nat) (hi : i < all.length) : (all[i]?.getD ⟨#[]⟩).data.toList = (n.drop ((f + i) * 128)).take 128 ∧ (all[i]?.getD ⟨#[]⟩).size = 128 := by
  obtain ⟨h1, h2⟩ := piece_of h.whole i hi
  refine ⟨?_, h2⟩
  have h3 := h.fits
  have h4 := h.len
  have h5 := flat_len h.whole
  rw [h1, h.flat_, show (f + i) * 128 = f * 128 + i * 128 by omega, ← List.drop_drop, List.drop_left' (by rw [List.length_take]; omega), List.drop_append_of_le_length (by omega), List.take_append_of_le_length (by rw [List.length_drop]; omega)]
theorem Sects.start {F N f : Nat} {s n t : List UInt8} {all : List ByteArray} (h : Sects F N f s n t all) : mix s n ((f + all.length) * 128) = s := by
  have h3 := h.fits
  have h4 := h.len
  have h5 := flat_len h.whole
  unfold mix
  rw [h.flat_, ← List.append_assoc, List.drop_left' (by rw [List.length_append, List.length_take]; omega), List.take_append_drop]
theorem Sects.all_ {F N f : Nat} {s n t : List UInt8} {all : List ByteArray} (h : Sects F N f s n t all) : mix s n (f * 128) = n := by
  refine mix_eq (by rw [h.len, h.nlen]) fun i hi => ?_
  have h3 := h.fits
  have h4 := h.len
  rw [h.flat_, List.getElem?_append_left (by rw [List.length_take]; omega), List.getElem?_take, if_pos hi]
/-- All sectors are written, or the power goes. -/
theorem putAll_mix {F N f : Nat} {s n t : List UInt8} {all : List ByteArray} (hS : Sects F N f s n t all) : ∀ (i : Nat), i ≤ all.length → ∀ d : Dk, Whole d.sectors → F + N ≤ d.sectors.length → d.down = false → -1 ≤ d.left → logS F N d = mix s n ((f + i) * 128) →
    ((putAll ((F : Int) + f) all i d).2 = 0 ∧ (putAll ((F : Int) + f) all i d).1.down = false ∧ -1 ≤ (putAll ((F : Int) + f) all i d).1.left ∧ (d.left = -1 → (putAll ((F : Int) + f) all i d).1.left = -1) ∧ logS F N (putAll ((F : Int) + f) all i d).1 = mix s n (f * 128) ∧ Whole (putAll ((F : Int) + f) all i d).1.sectors ∧ (putAll ((F : Int) + f) all i d).1.sectors.length = d.sectors.length) ∨
    ((putAll ((F : Int) + f) all i d).2 = 20 ∧ d.left ≠ -1 ∧ (∃ q, logS F N (putAll ((F : Int) + f) all i d).1 = mix s n q) ∧ Whole (putAll ((F : Int) + f) all i d).1.sectors ∧ (putAll ((F : Int) + f) all i d).1.sectors.length = d.sectors.length) := by
  intro i
  induction i with
  | zero =>
    intro _ d hw hr hd hl hs
    exact .inl ⟨rfl, hd, hl, fun h => h, by unfold putAll; exact hs, hw, rfl⟩
  | succ i ih =>
    intro hi d hw hr hd hl hs
    obtain ⟨hp1, hp2⟩ := hS.piece i (by omega)
    have hfit := hS.fits
    have hhas : hasD d ((F : Int) + f + (i : Int)) := ⟨by omega, by omega⟩
    by_cases h0 : d.left = 0
    · have e : writeD d ((F : Int) + f + (i : Int)) (all[i]?.getD ⟨#[]⟩) = ({ d with down := true }, 20) := by
        unfold writeD
        rw [hd, if_neg (by simp), if_neg (fun hn => hn ⟨hhas, hp2⟩), if_pos h0]
      have e2 : putAll ((F : Int) + f) all (i + 1) d = ({ d with down := true }, 20) := by
        unfold putAll
        rw [e, if_neg (show ¬ (20 : Int) = 0 by decide)]
      rw [e2]
      exact .inr ⟨rfl, by omega, ⟨_, hs⟩, hw, rfl⟩
    · obtain ⟨d2, hd2⟩ : ∃ d2 : Dk, d2 = { d with sectors := d.sectors.set ((F : Int) + f + (i : Int)).toNat (all[i]?.getD ⟨#[]⟩), left := if 0 < d.left then d.left - 1 else d.left } := ⟨_, rfl⟩
      have e : writeD d ((F : Int) + f + (i : Int)) (all[i]?.getD ⟨#[]⟩) = (d2, 0) := by
        unfold writeD
        rw [hd, if_neg (by simp), if_neg (fun hn => hn ⟨hhas, hp2⟩), if_neg h0, hd2, ← hd]
      have e2 : putAll ((F : Int) + f) all (i + 1) d = putAll ((F : Int) + f) all i d2 := by
        conv => lhs; unfold putAll
        rw [e, if_pos rfl]
      rw [e2]
      have hidx : ((F : Int) + f + (i : Int)).toNat = F + (f + i) := by omega
      have hsec : d2.sectors = d.sectors.set (F + (f + i)) (all[i]?.getD ⟨#[]⟩) := by rw [hd2, ← hidx]
      have hleft : d2.left = if 0 < d.left then d.left - 1 else d.left := by rw [hd2]
      have hlen : d2.sectors.length = d.sectors.length := by rw [hsec, List.length_set]
      have hlog : logS F N d2 = mix s n ((f + i) * 128) := by
        unfold logS
        rw [hsec, set_part (by omega)]
        refine mix_step ((hw.drop F).take N) hp2 (by rw [List.length_take, List.length_drop]; omega) (by rw [hS.len, hS.nlen]) ?_ hp1
        have : (f + i + 1) * 128 = (f + (i + 1)) * 128 := by omega
        rw [this]; exact hs
      have hw2 : Whole d2.sectors := by rw [hsec]; exact hw.set _ hp2
      have h6 := ih (by omega) d2 hw2 (by omega) (by rw [hd2]; exact hd) (by rw [hleft]; split <;> omega) hlog
      have hm1 : d.left = -1 → d2.left = -1 := fun hx => by rw [hleft, if_neg (by omega)]; exact hx
      rcases h6 with ⟨a1, a2, a3, a4, a5, a6, a7⟩ | ⟨a1, a2, a3, a4, a5⟩
      · exact .inl ⟨a1, a2, a3, fun hx => a4 (hm1 hx), a5, a6, by omega⟩
      · exact .inr ⟨a1, fun hx => a2 (hm1 hx), a3, a4, by omega⟩
theorem LInv.firstS {F N : Nat} {d : Dk} {g : Lo} {r1 r2 : List Rec} (h : LInv F N d g r1 r2) : firstS g = (((bytes r1).length / 128 : Nat) : Int) := by
  unfold Lg.firstS
  have := h.tail_size
  rw [this]
  omega
/-- What Force is about to write. -/
theorem LInv.sects {F N : Nat} {d : Dk} {g : Lo} {r1 r2 : List Rec} (h : LInv F N d g r1 r2) (h2 : r2 ≠ []) :
    ∃ n, Sects F N ((bytes r1).length / 128) (logS F N d) n [] (allS g) ∧ Lies n (r1 ++ r2) := by
  obtain ⟨X, hX⟩ : ∃ X, X = (bytes r1).length := ⟨_, rfl⟩
  obtain ⟨Y, hY⟩ : ∃ Y, Y = (bytes (r1 ++ r2)).length := ⟨_, rfl⟩
  have hXY := bytes_le r1 r2
  have hpos : 0 < (bytes r2).length := Nat.pos_of_ne_zero fun hz => h2 (bytes_nil hz)
  have hfit := h.fit
  have hsl := logS_len (N := N) h.whole h.room
  have htl : g.tail.data.toList = (bytes (r1 ++ r2)).drop (X - X % 128) := by rw [h.tail, hX]
  have hts : g.tail.size = Y - (X - X % 128) := by
    have : g.tail.data.toList.length = g.tail.size := by simp
    rw [← this, htl, List.length_drop, hY]
  have hcl := cutB_length g.tail
  have hcf : flat (cutB g.tail) = (bytes (r1 ++ r2)).drop (X - X % 128) ++ List.replicate ((cutB g.tail).length * 128 - g.tail.size) 0 := by
    unfold cutB
    rw [flat_cutW _ _ (Nat.le_refl _), htl, List.length_drop, ← htl, hts, ← hY]
  obtain ⟨z, hz, hzl, hzb⟩ : ∃ z, flat (allS g) = (bytes (r1 ++ r2)).drop (X - X % 128) ++ List.replicate z 0 ∧ (X / 128 + (allS g).length ≤ N) ∧ (128 ≤ z ∨ Y + z = N * 128) := by
    unfold allS
    rw [h.firstS, h.hn, ← hX]
    by_cases hc : (((X / 128 : Nat) : Int) + ((cutB g.tail).length : Int)) < (N : Int)
    · rw [if_pos hc]
      refine ⟨(cutB g.tail).length * 128 - g.tail.size + 128, ?_, ?_, .inl (by omega)⟩
      · rw [flat_append, hcf, flat_one, List.append_assoc, List.replicate_append_replicate]
      · rw [List.length_append]; simp; omega
    · rw [if_neg hc]
      refine ⟨(cutB g.tail).length * 128 - g.tail.size, hcf, ?_, .inr ?_⟩
      · omega
      · omega
  have hwa : Whole (allS g) := by
    unfold allS
    split
    · intro b hb
      rcases List.mem_append.1 hb with h3 | h3
      · exact cutB_size _ b h3
      · rw [List.mem_singleton.1 h3]; exact zero128_size
    · exact cutB_size _
  have hal : 0 < (allS g).length := by
    have : (cutB g.tail).length ≤ (allS g).length := by unfold allS; split <;> simp
    omega
  have hfl := flat_len hwa
  rw [hz, List.length_append, List.length_drop, List.length_replicate, ← hY] at hfl
  obtain ⟨n, hn⟩ : ∃ n, n = (logS F N d).take (X / 128 * 128) ++ (flat (allS g) ++ (logS F N d).drop ((X / 128 + (allS g).length) * 128)) := ⟨_, rfl⟩
  have hS : Sects F N (X / 128) (logS F N d) n [] (allS g) := ⟨hwa, hzl, hal, hn, hsl⟩
  have hall : n = bytes (r1 ++ r2) ++ (List.replicate z 0 ++ (logS F N d).drop ((X / 128 + (allS g).length) * 128)) := by
    have e1 : (logS F N d).take (X / 128 * 128) = (bytes (r1 ++ r2)).take (X / 128 * 128) := by
      have h3 := congrArg (List.take (X / 128 * 128)) h.pre
      rw [List.take_take, Nat.min_eq_left (by omega)] at h3
      rw [h3, bytes_append, List.take_append_of_le_length (by omega)]
    rw [hn, hz, e1, show X - X % 128 = X / 128 * 128 by omega, List.append_assoc, ← List.append_assoc, List.take_append_drop]
  refine ⟨n, by rw [← hX]; exact hS, h.row, ?_, ?_, ?_⟩
  · rw [hall, List.take_left' rfl]
  · rw [hS.nlen]; exact hfit
  · intro i h3 h4 h5
    rw [hS.nlen] at h5
    rw [hall, List.getElem?_append_right h3, List.getElem?_append_left (by rw [List.length_replicate]; omega), List.getElem?_replicate, if_pos (by omega)]
/-- What Force does to it. -/
theorem LInv.force {F N : Nat} {d : Dk} {g : Lo} {r1 r2 : List Rec} (h : LInv F N d g r1 r2) (hd : d.down = false) (hl : -1 ≤ d.left) :
    ((forceD d g).2.2 = 0 ∧ LInv F N (forceD d g).1 (forceD d g).2.1 (r1 ++ r2) [] ∧ (forceD d g).1.down = false ∧ -1 ≤ (forceD d g).1.left ∧ (d.left = -1 → (forceD d g).1.left = -1) ∧ (forceD d g).1.sectors.length = d.sectors.length ∧ (forceD d g).2.1.safe = (forceD d g).2.1.end_ ∧ (Lies (logS F N d) r1 ∨ r2 ≠ [] → Lies (logS F N (forceD d g).1) (r1 ++ r2))) ∨
    ((forceD d g).2.2 = 20 ∧ r2 ≠ [] ∧ (forceD d g).2.1 = g ∧ d.left ≠ -1 ∧ Whole (forceD d g).1.sectors ∧ (forceD d g).1.sectors.length = d.sectors.length ∧ ∃ n q, Lies n (r1 ++ r2) ∧ n.length = N * 128 ∧ logS F N (forceD d g).1 = mix (logS F N d) n q) := by
  by_cases h2 : r2 = []
  · subst h2
    have hse : g.safe = g.end_ := by rw [h.safe, h.end_, List.append_nil]
    have e : forceD d g = (d, g, 0) := by unfold forceD; rw [if_pos hse]
    rw [e]
    refine .inl ⟨rfl, ?_, hd, hl, fun hx => hx, rfl, hse, fun hx => ?_⟩
    · have h3 := h
      rw [← List.append_nil r1] at h3
      simpa using h3
    · rcases hx with hx | hx
      · simpa using hx
      · exact absurd rfl hx
  · have hse : ¬ g.safe = g.end_ := by
      have hpos : 0 < (bytes r2).length := Nat.pos_of_ne_zero fun hz => h2 (bytes_nil hz)
      have hXY := bytes_le r1 r2
      rw [h.safe, h.end_]; omega
    obtain ⟨n, hS, hL⟩ := h.sects h2
    have hbase : g.from_ + Lg.firstS g = (F : Int) + (((bytes r1).length / 128 : Nat) : Int) := by rw [h.hf, h.firstS]
    have hp := putAll_mix hS (allS g).length (Nat.le_refl _) d h.whole h.room hd hl hS.start.symm
    rw [← hbase] at hp
    rcases hp with ⟨a1, a2, a3, a4, a5, a6, a7⟩ | ⟨a1, a2, a3, a4, a5⟩
    · have e : forceD d g = ((putAll (g.from_ + Lg.firstS g) (allS g) (allS g).length d).1, forcedL g, 0) := by
        unfold forceD
        rw [if_neg hse]
        simp only
        rw [if_pos a1]
      rw [e]
      refine .inl ⟨rfl, ?_, a2, a3, a4, a7, rfl, fun _ => by show Lies (logS F N _) _; rw [a5, hS.all_]; exact hL⟩
      have hlog : logS F N (putAll (g.from_ + Lg.firstS g) (allS g) (allS g).length d).1 = n := by rw [a5, hS.all_]
      have hts := h.tail_size
      have hend := h.end_
      refine ⟨a6, by rw [a7]; exact h.room, h.hf, h.hn, by rw [List.append_nil]; exact h.row, ?_, ?_, ?_, ?_, by rw [List.append_nil]; exact h.fit⟩
      · show (logS F N (putAll (g.from_ + Lg.firstS g) (allS g) (allS g).length d).1).take _ = _
        rw [hlog]; exact hL.pre
      · show g.end_ = _
        exact hend
      · show g.end_ = _
        rw [List.append_nil]; exact hend
      · show g.tail.extract (g.tail.size - (g.end_ % 128).toNat) g.tail.size = _
        have hXY := bytes_le r1 r2
        have hts2 : g.tail.size = (bytes (r1 ++ r2)).length - (bytes r1).length / 128 * 128 := by omega
        rw [List.append_nil, hend]
        apply ByteArray.ext
        rw [ByteArray.data_extract, h.tail]
        apply Array.toList_inj.1
        rw [Array.toList_extract]
        simp only [List.extract_eq_drop_take']
        rw [← h.tail, hts2]
        have e1 : (((((bytes (r1 ++ r2)).length : Nat) : Int) % 128).toNat) = (bytes (r1 ++ r2)).length % 128 := by omega
        rw [e1]
        rw [List.drop_take, List.drop_drop, List.take_of_length_le (by rw [List.length_drop]; omega)]
        congr 1; omega
    · have e : forceD d g = ((putAll (g.from_ + Lg.firstS g) (allS g) (allS g).length d).1, g, 20) := by
        unfold forceD
        rw [if_neg hse]
        simp only
        rw [if_neg (show ¬ _ by rw [a1]; decide), a1]
      rw [e]
      obtain ⟨q, hq⟩ := a3
      exact .inr ⟨rfl, h2, rfl, a2, a4, a5, n, q, hL, hS.nlen, hq⟩
end Lg
/- The plain law of the log: what is opened and read. -/
namespace Lg
open Rc
theorem secs_ok {d : Dk} (hd : d.down = false) : ∀ (k a : Nat), a + k ≤ d.sectors.length → secsD d (a : Int) k = .ok (flat ((d.sectors.drop a).take k)) := by
  intro k
  induction k with
  | zero => intro a _; unfold secsD; rw [List.take_zero]; rfl
  | succ k ih =>
    intro a ha
    have h1 : readD d (a : Int) = (d.sectors[a]'(by omega), 0) := by
      unfold readD
      rw [hd, if_neg (by simp), if_pos (show hasD d (a : Int) from ⟨by omega, by omega⟩)]
      unfold secAt
      rw [Int.toNat_natCast, List.getElem?_eq_getElem (by omega), Option.getD_some]
    have h2 := ih (a + 1) (by omega)
    unfold secsD
    rw [h1, if_pos rfl, show ((a : Int) + 1) = ((a + 1 : Nat) : Int) by omega, h2, List.drop_eq_getElem_cons (l := d.sectors) (i := a) (by omega), List.take_succ_cons, flat_cons]
theorem part_part (L : List ByteArray) (F N a k : Nat) (h : a + k ≤ N) : (L.drop (F + a)).take k = (((L.drop F).take N).drop a).take k := by
  refine List.ext_getElem? fun i => ?_
  simp only [List.getElem?_take, List.getElem?_drop]
  by_cases h1 : i < k
  · rw [if_pos h1, if_pos h1, if_pos (by omega)]
    congr 1; omega
  · rw [if_neg h1, if_neg h1]
/-- What Open finds is a row, whatever the bytes are. -/
theorem openL_is (s : List UInt8) : ∀ (f a : Nat), a ≤ s.length → Row a (openL s f a).1 ∧ (openL s f a).2 = a + (bytes (openL s f a).1).length ∧ (openL s f a).2 ≤ s.length ∧ s.take (openL s f a).2 = s.take a ++ bytes (openL s f a).1 := by
  intro f
  induction f with
  | zero => intro a ha; unfold openL; exact ⟨trivial, rfl, ha, by simp [bytes]⟩
  | succ f ih =>
    intro a ha
    have hnone : Row a [] ∧ a = a + (bytes []).length ∧ a ≤ s.length ∧ s.take a = s.take a ++ bytes [] := ⟨trivial, rfl, ha, by simp [bytes]⟩
    by_cases hI : Is s a
    · have hg := getO_yes hI
      by_cases hn : (readM true (bodyAt s a)).lsn = (a : Int) + 1
      · have e : openL s (f + 1) a = (readM true (bodyAt s a) :: (openL s f (a + 8 + Oct.getN s a 4)).1, (openL s f (a + 8 + Oct.getN s a 4)).2) := by
          conv => lhs; unfold openL
          rw [hg]; simp only; rw [if_pos hn]
        have hlen : (putR (readM true (bodyAt s a))).length = 8 + Oct.getN s a 4 := by
          rw [putR_len, hI.2.2.2]
          unfold bodyAt
          rw [List.length_take, List.length_drop]
          have := hI.1
          omega
        obtain ⟨h1, h2, h3, h4⟩ := ih (a + 8 + Oct.getN s a 4) hI.1
        rw [e]
        have hb := is_bytes hI
        refine ⟨⟨hI.2.2.1, hn, by rw [hlen, ← Nat.add_assoc]; exact h1⟩, ?_, h3, ?_⟩
        · rw [bytes_cons, List.length_append, hlen, h2]; omega
        · rw [bytes_cons, h4, ← List.append_assoc]
          congr 1
          have h5 := congrArg (List.take (a + 8 + Oct.getN s a 4)) hb
          rw [← List.append_assoc, List.take_left' (by rw [List.length_append, List.length_take, hlen]; omega)] at h5
          exact h5
      · have e : openL s (f + 1) a = ([], a) := by
          conv => lhs; unfold openL
          rw [hg]; simp only; rw [if_neg hn]
        rw [e]; exact hnone
    · have e : openL s (f + 1) a = ([], a) := by
        conv => lhs; unfold openL
        rw [getO_no hI]
      rw [e]; exact hnone
/-- Any log that is opened is one that calls leave. -/
theorem LInv.opened {F N : Nat} {d : Dk} (hd : d.down = false) (hw : Whole d.sectors) (hr : F + N ≤ d.sectors.length) :
    (openD d F N).2 = ((openL (logS F N d) (N * 128 + 1) 0).1, 0) ∧ LInv F N d (openD d F N).1 (openL (logS F N d) (N * 128 + 1) 0).1 [] := by
  have hl := logS_len (N := N) hw hr
  have hs : secsD d (F : Int) (N : Int).toNat = .ok (logS F N d) := by rw [Int.toNat_natCast]; exact secs_ok hd N F hr
  obtain ⟨h1, h2, h3, h4⟩ := openL_is (logS F N d) (N * 128 + 1) 0 (Nat.zero_le _)
  have e : openD d F N = (⟨F, N, ((openL (logS F N d) (N * 128 + 1) 0).2 : Int), ((openL (logS F N d) (N * 128 + 1) 0).2 : Int), ⟨(((logS F N d).take (openL (logS F N d) (N * 128 + 1) 0).2).drop ((openL (logS F N d) (N * 128 + 1) 0).2 - (openL (logS F N d) (N * 128 + 1) 0).2 % 128)).toArray⟩⟩, (openL (logS F N d) (N * 128 + 1) 0).1, 0) := by
    unfold openD
    rw [hs]
    simp only
    rw [hl]
  rw [e]
  rw [Nat.zero_add] at h2
  rw [List.take_zero, List.nil_append] at h4
  refine ⟨rfl, hw, hr, rfl, rfl, by rw [List.append_nil]; exact h1, by rw [← h2]; exact h4, by rw [h2], by rw [List.append_nil, h2], ?_, by rw [List.append_nil]; omega⟩
  rw [List.append_nil, ← h2, h4]
/-- Logs that are left alike are the same. -/
theorem LInv.same {F N : Nat} {d d' : Dk} {g g' : Lo} {r1 r2 : List Rec} (h : LInv F N d g r1 r2) (h' : LInv F N d' g' r1 r2) : g = g' := by
  obtain ⟨a1, a2, a3, a4, a5⟩ := g
  obtain ⟨b1, b2, b3, b4, b5⟩ := g'
  have e1 := h.hf.trans h'.hf.symm
  have e2 := h.hn.trans h'.hn.symm
  have e3 := h.end_.trans h'.end_.symm
  have e4 := h.safe.trans h'.safe.symm
  have e5 := h.tail.trans h'.tail.symm
  simp only at e1 e2 e3 e4 e5
  subst e1 e2 e3 e4 e5
  rfl
theorem LInv.disk {F N : Nat} {d d' : Dk} {g : Lo} {r1 r2 : List Rec} (h : LInv F N d g r1 r2) (he : d'.sectors = d.sectors) : LInv F N d' g r1 r2 :=
  ⟨by rw [he]; exact h.whole, by rw [he]; exact h.room, h.hf, h.hn, h.row, by unfold logS; rw [he]; exact h.pre, h.safe, h.end_, h.tail, h.fit⟩
/-- Each record of the log is read. -/
theorem LInv.read {F N : Nat} {d : Dk} {g : Lo} {r1 r2 : List Rec} (h : LInv F N d g r1 r2) (hd : d.down = false) (x y : List Rec) (r : Rec) (hxy : r1 ++ r2 = x ++ r :: y) :
    r.lsn = ((bytes x).length : Int) + 1 ∧ readL d g (((bytes x).length : Int) + 1) = .ok r := by
  have hrow := h.row
  rw [hxy, row_append] at hrow
  obtain ⟨_, hR, hlsn, _⟩ := hrow
  rw [Nat.zero_add] at hlsn
  refine ⟨hlsn, ?_⟩
  obtain ⟨X, hX⟩ : ∃ X, X = (bytes r1).length := ⟨_, rfl⟩
  obtain ⟨A, hA⟩ : ∃ A, A = (bytes x).length := ⟨_, rfl⟩
  obtain ⟨all, hall⟩ : ∃ all, all = bytes (r1 ++ r2) := ⟨_, rfl⟩
  have hb : all = bytes x ++ (putR r ++ bytes y) := by rw [hall, hxy, bytes_append, bytes_cons]
  have hlen : all.length = A + ((putR r).length + (bytes y).length) := by rw [hb, List.length_append, List.length_append, hA]
  have hpl := putR_len r
  have hle := bytes_le r1 r2
  have hend := h.end_
  have hts := h.tail_size
  have hfit := h.fit
  have hbase : (g.end_ - (g.tail.size : Int)) / 128 = ((X / 128 : Nat) : Int) := by rw [hts, hX]; omega
  rw [← hall] at hend hle hfit
  rw [← hX] at hle
  unfold readL
  rw [if_neg (by omega)]
  simp only
  rw [hbase]
  obtain ⟨a, ha⟩ : ∃ a : Nat, a = min (A / 128) (X / 128) := ⟨_, rfl⟩
  have hmin : min ((((bytes x).length : Int) + 1 - 1) / 128) ((X / 128 : Nat) : Int) = (a : Int) := by rw [← hA]; omega
  rw [hmin]
  have h1 : g.from_ + (a : Int) = ((F + a : Nat) : Int) := by rw [h.hf]; omega
  have h2 : (((X / 128 : Nat) : Int) - (a : Int)).toNat = X / 128 - a := by omega
  have hX128 : X / 128 * 128 ≤ X := by omega
  have hroom := h.room
  rw [h1, h2, secs_ok hd _ _ (by omega), part_part _ F N a _ (by omega)]
  have hpart : flat ((((d.sectors.drop F).take N).drop a).take (X / 128 - a)) = (all.take (X / 128 * 128)).drop (a * 128) := by
    rw [flat_take (((h.whole.drop F).take N).drop a), flat_drop ((h.whole.drop F).take N)]
    show ((logS F N d).drop (a * 128)).take ((X / 128 - a) * 128) = _
    have e1 : all.take (X / 128 * 128) = (logS F N d).take (X / 128 * 128) := by
      have h3 := congrArg (List.take (X / 128 * 128)) h.pre
      rw [List.take_take, Nat.min_eq_left (by omega)] at h3
      rw [h3, hall, bytes_append, List.take_append_of_le_length (by omega)]
    rw [e1, List.drop_take]
    congr 1
    omega
  have htl : g.tail.data.toList = all.drop (X / 128 * 128) := by
    rw [h.tail, ← hall, ← hX, show X - X % 128 = X / 128 * 128 by omega]
  rw [hpart, htl]
  have hjoin : (all.take (X / 128 * 128)).drop (a * 128) ++ all.drop (X / 128 * 128) = all.drop (a * 128) := by
    conv => rhs; rw [← List.take_append_drop (X / 128 * 128) all]
    rw [List.drop_append_of_le_length (by rw [List.length_take]; omega)]
  simp only
  rw [hjoin, getO_drop _ _ _ (by omega)]
  have hpos : a * 128 + (((bytes x).length : Int) + 1 - 1 - (a : Int) * 128).toNat = (bytes x).length := by omega
  rw [hpos, hb, getO_put _ _ hR]
  simp only [Option.map_some]
  rw [if_pos hlsn]
theorem readL_none {d : Dk} {g : Lo} {n : Int} (h : n < 1 ∨ g.end_ < n) : readL d g n = .error 21 := by unfold readL; rw [if_pos h]
end Lg
/- The walk over the statements of the log: the page's own answers. -/
namespace Lg
open Rc
theorem append_small (l : Lo) (kind prev txn : Int) (hk : kind = 1 ∨ kind = 5 ∨ kind = 6 ∨ kind = 7) (h1 : num (l.end_ + 1)) (h2 : num prev) (h3 : num txn) (hf : l.end_ + 27 ≤ l.n * 128) :
    ∃ t : ByteArray, t.size = 27 ∧ appendD l (bare kind 0 prev txn) = ({ l with end_ := l.end_ + 27, tail := l.tail ++ t }, l.end_ + 1, 0) := by
  have hR : Right (bare kind (l.end_ + 1) prev txn) := .small kind _ prev txn hk h1 h2 h3
  have hl : (putR (bare kind (l.end_ + 1) prev txn)).length = 27 := by
    rw [putR_len]
    unfold bodyB
    rw [List.length_append, headB_len]
    have hr : restB (bare kind (l.end_ + 1) prev txn) = [] := by
      unfold restB bare
      simp only
      rw [if_neg (by omega), if_neg (by omega), if_neg (by omega), if_neg (by omega), if_neg (by omega)]
    rw [hr]; rfl
  refine ⟨⟨(putR (bare kind (l.end_ + 1) prev txn)).toArray⟩, by show (putR (bare kind (l.end_ + 1) prev txn)).toArray.size = 27; simpa using hl, ?_⟩
  have e : ({ bare kind 0 prev txn with lsn := l.end_ + 1 } : Rec) = bare kind (l.end_ + 1) prev txn := rfl
  have h := append_ok (l := l) (r := bare kind 0 prev txn) (by rw [e]; exact hR) (by rw [e, hl]; omega)
  rw [h, e, hl]
  rfl
theorem awake_log : ∃ t1 t2 : ByteArray, t1.size = 27 ∧ t2.size = 54 ∧ appendD ⟨1, 2, 0, 0, ⟨#[]⟩⟩ (bare 1 0 0 1) = (⟨1, 2, 27, 0, t1⟩, 1, 0) ∧ appendD ⟨1, 2, 27, 0, t1⟩ (bare 7 0 1 1) = (⟨1, 2, 54, 0, t2⟩, 28, 0) := by
  obtain ⟨a, ha, h1⟩ := append_small ⟨1, 2, 0, 0, ⟨#[]⟩⟩ 1 0 1 (.inl rfl) ⟨by decide, by decide⟩ ⟨by decide, by decide⟩ ⟨by decide, by decide⟩ (by decide)
  obtain ⟨b, hb, h2⟩ := append_small ⟨1, 2, 27, 0, ⟨#[]⟩ ++ a⟩ 7 1 1 (.inr (.inr (.inr rfl))) ⟨by show (0 : Int) ≤ 27 + 1; decide, by show (27 : Int) + 1 < _; decide⟩ ⟨by decide, by decide⟩ ⟨by decide, by decide⟩ (by show (27 : Int) + 27 ≤ 2 * 128; decide)
  have e1 : (27 : Int) + 27 = 54 := rfl
  have e2 : (27 : Int) + 1 = 28 := rfl
  simp only [e1, e2] at h2
  refine ⟨⟨#[]⟩ ++ a, ⟨#[]⟩ ++ a ++ b, ?_, ?_, h1, h2⟩
  · rw [ByteArray.size_append, ha]; rfl
  · rw [ByteArray.size_append, ByteArray.size_append, ha, hb]; rfl
end Lg
namespace Go.Proofs.Ytojaagnfjenhoaa
open Go.RowKit
theorem recR_none (r : Rc.Rec) (w : World) (h1 : r.txns = []) (h2 : r.dirty = []) : RecR w r none 0 none 0 := by
  refine ⟨?_, ?_, by rw [h1, h2]; exact ⟨Nat.zero_le _, Nat.zero_le _⟩⟩
  · rw [h1]; exact Reads.none_ _ _ _ _
  · rw [h2]; exact Reads.none_ _ _ _ _
set_option maxRecDepth 100000 in
set_option maxHeartbeats 4000000 in
theorem awake_any (w : World) :
    Calls Try.prog 7 #[] w fun e w' => e = .returned (.bool true) ∧ Below w.heap.size w w' := by
  obtain ⟨t1, t2, z1, z2, a1, a2⟩ := Lg.awake_log
  have HN := Lib.hid (fun W => lnew_any 1 2 W)
  have HA1 := Lib.hid (fun W => append_any ⟨1, 2, 0, 0, ⟨#[]⟩⟩ (by decide) (by decide) (by decide) (by decide) (by decide) (Rc.bare 1 0 0 1) none none 0 0 W (recR_none _ _ rfl rfl))
  have HA2 := Lib.hid (fun W => append_any ⟨1, 2, 27, 0, t1⟩ (by show (0 : Int) ≤ 27; decide) (by show (27 : Int) ≤ _; decide) (by show _ ≤ (2 : Int); decide) (by show (2 : Int) ≤ _; decide) (by show t1.size ≤ _; omega) (Rc.bare 7 0 1 1) none none 0 0 W (recR_none _ _ rfl rfl))
  rw [a1] at HA1
  rw [a2] at HA2
  dsimp only [AppOut, logV, recV, recA, Rc.bare, Rc.noOp, Rc.noKey, List.length_nil] at HN HA1 HA2
  clear a1 a2
  go_enter Try.func7, Try.ntmps7
  go_upto_region 2 with (first
    | (go_at_call 12; (with_reducible refine (HN.out _).mono ?_); rintro e w1 ⟨rfl, hb1⟩)
    | (go_at_call 13; (with_reducible refine (HA1.out _).mono ?_); rintro e w2 ⟨he, hb2⟩; dsimp only [logV] at he; subst he)
    | (with_reducible refine wpList_store_new rfl 28 (.tmp 1) (.tmp 11) rfl #[.int .i64 1, .int .i64 2, .int .i64 27, .int .i64 0, .string t1] _ _ rfl (by kernel_rfl) (by kernel_rfl) (by kernel_rfl) (by kernel_rfl) ?_))
  have HX := Lib.hid (heap_alloc_new w2 (.cells #[.int .i64 1, .int .i64 2, .int .i64 27, .int .i64 0, .string t1] 28))
  have hb3 := joinB hb1 (pastAlloc (o := .cells #[.int .i64 1, .int .i64 2, .int .i64 27, .int .i64 0, .string t1] 28) hb2)
  obtain ⟨g, hg⟩ : ∃ g, g = w2.heap.size := ⟨_, rfl⟩
  obtain ⟨w3, hw3⟩ : ∃ W, W = w2.alloc (.cells #[.int .i64 1, .int .i64 2, .int .i64 27, .int .i64 0, .string t1] 28) := ⟨_, rfl⟩
  rw [← hg, ← hw3] at HX
  rw [← hw3] at hb3
  rw [← hw3, ← hg]
  clear hg hw3 hb1 hb2 HA1 HN
  go_upto_region 3 with (first
    | (with_reducible refine listLoad (by kernel_rfl) 28 (.tmp 1) rfl g rfl #[.int .i64 1, .int .i64 2, .int .i64 27, .int .i64 0, .string t1] _ HX.out _ Try.underlying28 (by kernel_rfl) (by kernel_rfl) ?_)
    | (go_at_call 13; (with_reducible refine (HA2.out _).mono ?_); rintro e w4 ⟨he, hb4⟩; dsimp only [logV] at he; subst he)
    | (with_reducible refine wpList_store_new rfl 28 (.tmp 4) (.tmp 19) rfl #[.int .i64 1, .int .i64 2, .int .i64 54, .int .i64 0, .string t2] _ _ rfl (by kernel_rfl) (by kernel_rfl) (by kernel_rfl) (by kernel_rfl) ?_))
  have hb5 := joinB hb3 (pastAlloc (o := .cells #[.int .i64 1, .int .i64 2, .int .i64 54, .int .i64 0, .string t2] 28) hb4)
  have hc1 := blkCell (blkOld HX.out (pastAlloc (o := .cells #[.int .i64 1, .int .i64 2, .int .i64 54, .int .i64 0, .string t2] 28) hb4))
  have hc2 := blkCell (heap_alloc_new w4 (.cells #[.int .i64 1, .int .i64 2, .int .i64 54, .int .i64 0, .string t2] 28))
  have hz2 : (t2.size : Int) = 54 := by omega
  have hw : IntKind.i64.wrap ((27 : Int) + 1) = 28 := IntWalk.i64_in _ (by omega)
  go_wp2_with fail
  go_ret
  exact ⟨by simp, hb5⟩
end Go.Proofs.Ytojaagnfjenhoaa
