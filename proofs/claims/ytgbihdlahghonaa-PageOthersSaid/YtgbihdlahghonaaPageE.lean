/- The walks over package page and its reference: the reference's Parts. -/
import Derived.Test.YtgbihdlahghonaaPageD
import Derived.BigRegion
namespace Go.Proofs.Ytgbihdlahghonaa
open Go.RowKit

/-- What comes back of the reference's parts. -/
def GivesR (r : Option Pg.Leaf) (w : World) (e : Ending) (w' : World) : Prop :=
  (match r with
    | some x => ∃ A c, e = .returned (.tuple #[leafV x A c, .bool true]) ∧ OwnCells w.heap.size w' A c x.recs
    | none => ∃ (x : Pg.Leaf) (A : Option Addr) (c : Nat), e = .returned (.tuple #[leafV x A c, .bool false])) ∧ Below w.heap.size w w'

set_option maxRecDepth 100000 in
set_option maxHeartbeats 2000000 in
theorem rparts_any (p : ByteArray) (hm : p.size ≤ 1048576) (w : World) :
    Calls Try.prog 78 #[.string p] w (GivesR (Pg.right p.data.toList) w) := by
  by_cases h512 : p.size = 512
  · have HL := Lib.hid (show p.data.toList.length = 512 by have h9 : p.data.toList.length = p.size := (by simp); omega)
    obtain ⟨lsn, hlsn⟩ : ∃ n, n = Oct.getN p.data.toList 4 6 := ⟨_, rfl⟩
    obtain ⟨kind, hkind⟩ : ∃ n, n = Oct.getN p.data.toList 10 1 := ⟨_, rfl⟩
    obtain ⟨link, hlink⟩ : ∃ n, n = Oct.getN p.data.toList 12 3 := ⟨_, rfl⟩
    obtain ⟨n, hn⟩ : ∃ n, n = Oct.getN p.data.toList 15 2 := ⟨_, rfl⟩
    have HN1 := Lib.hid (fun W => rnum_any p 4 6 (by omega) (by omega) (by omega) (by omega) hm W)
    have HN2 := Lib.hid (fun W => rnum_any p 10 1 (by omega) (by omega) (by omega) (by omega) hm W)
    have HN3 := Lib.hid (fun W => rnum_any p 12 3 (by omega) (by omega) (by omega) (by omega) hm W)
    have HN4 := Lib.hid (fun W => rnum_any p 15 2 (by omega) (by omega) (by omega) (by omega) hm W)
    have hn16 : n < 65536 := by have := Pg.getN_pow p.data.toList 15 2; omega
    rw [show ((4 : Int).toNat) = 4 from rfl, show ((6 : Int).toNat) = 6 from rfl, ← hlsn] at HN1
    rw [show ((10 : Int).toNat) = 10 from rfl, show ((1 : Int).toNat) = 1 from rfl, ← hkind] at HN2
    rw [show ((12 : Int).toNat) = 12 from rfl, show ((3 : Int).toNat) = 3 from rfl, ← hlink] at HN3
    rw [show ((15 : Int).toNat) = 15 from rfl, show ((2 : Int).toNat) = 2 from rfl, ← hn] at HN4
    have HQ1 := Lib.hid hlsn
    have HQ2 := Lib.hid hkind
    have HQ3 := Lib.hid hlink
    have HQ4 := Lib.hid hn
    clear hlsn hkind hlink hn
    by_cases hbad : 4 < kind ∨ 123 < n
    · have HR := Lib.hid (show Pg.right p.data.toList = none from Pg.right_none_of (by rw [Pg.rd, if_pos (by rw [← HQ2.out, ← HQ4.out]; exact .inr hbad)]))
      have hb1 : 4 < kind ∨ (kind ≤ 4 ∧ 512 < 19 + 4 * (n : Int)) := by omega
      clear hbad
      rcases hb1 with h1 | ⟨h1, h2⟩
      all_goals
        go_enter Try.func78, Try.ntmps78
        go_wp2_with (first | (go_at_call 109; (with_reducible refine (HN1.out _).mono ?_); rintro e w1 ⟨rfl, rfl⟩) | (go_at_call 109; (with_reducible refine (HN2.out _).mono ?_); rintro e w2 ⟨rfl, rfl⟩) | (go_at_call 109; (with_reducible refine (HN3.out _).mono ?_); rintro e w3 ⟨rfl, rfl⟩) | (go_at_call 109; (with_reducible refine (HN4.out _).mono ?_); rintro e w4 ⟨rfl, rfl⟩))
        refine bodyPost_ret (v := .tuple #[zeroV, .bool false]) (by simp [results, Try.results78, go_sem]) rfl ?_
        unfold GivesR
        rw [HR.out]
        refine ⟨⟨Pg.zero, none, 0, rfl⟩, ?_⟩
        repeat (first | exact Below.refl _ _ | refine Below.setCell ?_ (by simp) _ | refine Below.alloc ?_ (by simp) _)
    · obtain ⟨hk4, hn123⟩ : kind ≤ 4 ∧ n ≤ 123 := by omega
      have HRD := Lib.hid (show Pg.rd p.data.toList = (Pg.recsOf p.data.toList n).map fun rs => ⟨lsn, kind, link, rs⟩ by
        rw [Pg.rd, if_neg (by rw [← HQ2.out, ← HQ4.out]; have := HL.out; omega), ← HQ1.out, ← HQ2.out, ← HQ3.out, ← HQ4.out])
      clear hbad
      have hn512 : 19 + 4 * (n : Int) ≤ 512 := by omega
      go_enter Try.func78, Try.ntmps78
      go_upto_block 0 with (first | (go_at_call 109; (with_reducible refine (HN1.out _).mono ?_); rintro e w1 ⟨rfl, rfl⟩) | (go_at_call 109; (with_reducible refine (HN2.out _).mono ?_); rintro e w2 ⟨rfl, rfl⟩) | (go_at_call 109; (with_reducible refine (HN3.out _).mono ?_); rintro e w3 ⟨rfl, rfl⟩) | (go_at_call 109; (with_reducible refine (HN4.out _).mono ?_); rintro e w4 ⟨rfl, rfl⟩))
      have hX := heap_alloc_new (w.alloc (.cells #[.int .i64 0, .int .i64 0, .int .i64 0, .slice none 0 0] 71)) (.cells #[.int .i64 lsn, .int .i64 kind, .int .i64 link, .slice none 0 0] 71)
      have hZ := (Below.heap_alloc (w.alloc (.cells #[.int .i64 0, .int .i64 0, .int .i64 0, .slice none 0 0] 71)) (.cells #[.int .i64 lsn, .int .i64 kind, .int .i64 link, .slice none 0 0] 71) w.heap.size (by simp)).trans (heap_alloc_new w _)
      rw [show (w.alloc (.cells #[.int .i64 0, .int .i64 0, .int .i64 0, .slice none 0 0] 71)).heap.size = w.heap.size + 1 by simp] at hX
      have hbw : Below w.heap.size w ((w.alloc (.cells #[.int .i64 0, .int .i64 0, .int .i64 0, .slice none 0 0] 71)).alloc (.cells #[.int .i64 lsn, .int .i64 kind, .int .i64 link, .slice none 0 0] 71)) := ((Below.refl _ _).alloc (Nat.le_refl _) _).alloc (by simp) _
      generalize hXe : w.heap.size + 1 = X at hX ⊢
      have HX := Lib.hid hX
      have HZ := Lib.hid hZ
      have HW := Lib.hid hbw
      clear hX hZ hbw
      go_wp2_with fail
      go_loopw [6] (fun i wr => ∃ (k : Nat) (rs : List ByteArray) (A : Option Addr) (c : Nat), k ≤ n ∧ i = .int .i64 k ∧ Pg.recsOf p.data.toList k = some rs ∧ wr.heap[X]? = some (.cells #[.int .i64 lsn, .int .i64 kind, .int .i64 link, .slice A k c] 71 (0, 0)) ∧ wr.heap[w.heap.size]? = some (.cells #[.int .i64 0, .int .i64 0, .int .i64 0, .slice none 0 0] 71 (0, 0)) ∧ wr.ownsRow (w.heap.size + 2) 9 1 (.slice A k c) k (rs.map Value.string) ∧ Below w.heap.size w wr ∧ w.heap.size + 2 ≤ wr.heap.size) (fun i _ => n - (intOf i).toNat)
      case atStart => exact ⟨0, [], none, 0, Nat.zero_le _, rfl, rfl, HX.out, HZ.out, ⟨rfl, .inl ⟨rfl, rfl⟩⟩, HW.out, by simp⟩
      case round =>
        obtain ⟨k, rs, A, c, hk, rfl, hrs, hX, hZ, hown, hbw, hge⟩ := hrel
        have hrl := Pg.recsOf_length _ _ _ hrs
        have HRS := Lib.hid hrs
        have HX2 := Lib.hid hX
        have HZ2 := Lib.hid hZ
        have HO := Lib.hid hown
        have HW2 := Lib.hid hbw
        have HRL := Lib.hid hrl
        clear hrs hX hZ hown hbw hrl
        by_cases hkn : k < n
        · obtain ⟨at_, hat⟩ : ∃ a, a = Oct.getN p.data.toList (19 + 4 * k) 2 := ⟨_, rfl⟩
          obtain ⟨long, hlong⟩ : ∃ a, a = Oct.getN p.data.toList (21 + 4 * k) 2 := ⟨_, rfl⟩
          have hal : at_ < 65536 := by
            have h1 := Oct.getL_lt ((p.data.toList.drop (19 + 4 * k)).take 2)
            have h2 : 256 ^ ((p.data.toList.drop (19 + 4 * k)).take 2).length ≤ 256 ^ 2 := Nat.pow_le_pow_right (by omega) (by rw [List.length_take]; omega)
            rw [hat]; unfold Oct.getN; omega
          have hll : long < 65536 := by
            have h1 := Oct.getL_lt ((p.data.toList.drop (21 + 4 * k)).take 2)
            have h2 : 256 ^ ((p.data.toList.drop (21 + 4 * k)).take 2).length ≤ 256 ^ 2 := Nat.pow_le_pow_right (by omega) (by rw [List.length_take]; omega)
            rw [hlong]; unfold Oct.getN; omega
          have HA := Lib.hid (fun W => rnum_any p (19 + 4 * (k : Int)) 2 (by omega) (by omega) (by omega) (by omega) hm W)
          have HB := Lib.hid (fun W => rnum_any p (19 + 4 * (k : Int) + 2) 2 (by omega) (by omega) (by omega) (by omega) hm W)
          rw [show (19 + 4 * (k : Int)).toNat = 19 + 4 * k by omega, show ((2 : Int).toNat) = 2 from rfl, ← hat] at HA
          rw [show (19 + 4 * (k : Int) + 2).toNat = 21 + 4 * k by omega, show ((2 : Int).toNat) = 2 from rfl, ← hlong] at HB
          have HAT := Lib.hid hat
          have HLO := Lib.hid hlong
          clear hat hlong
          by_cases hbad : 400 < long ∨ 512 < at_ + long
          · have HN := Lib.hid (show Pg.right p.data.toList = none from Pg.right_none_of (by
              have h1 : Pg.recsOf p.data.toList (k + 1) = none := by
                simp only [Pg.recsOf, HRS.out]
                rw [if_pos (by rw [← HAT.out, ← HLO.out]; exact hbad)]
              have h2 := Pg.recsOf_none _ h1 (n - (k + 1))
              rw [show k + 1 + (n - (k + 1)) = n by omega] at h2
              rw [HRD.out, h2]; rfl))
            have hb1 : 512 < (at_ : Int) + (long : Int) ∨ ((at_ : Int) + (long : Int) ≤ 512 ∧ 400 < long) := by omega
            clear hbad
            rcases hb1 with h1 | ⟨h1, h2⟩
            all_goals
              obtain ⟨c0, c1, c2, c3, f0, f1, f2, f3⟩ := blk4 HZ2.out
              go_wp2_with (first | (go_at_call 109; (with_reducible refine (HA.out _).mono ?_); rintro e w5 ⟨rfl, rfl⟩) | (go_at_call 109; (with_reducible refine (HB.out _).mono ?_); rintro e wr ⟨rfl, rfl⟩))
              refine bodyPost_ret (v := .tuple #[zeroV, .bool false]) (by simp [results, Try.results78, go_sem, c0, c1, c2, c3]) rfl ?_
              unfold GivesR
              rw [HN.out]
              refine ⟨⟨Pg.zero, none, 0, rfl⟩, ?_⟩
              repeat (first | exact HW2.out | refine Below.setCell ?_ (by simp) _)
          · obtain ⟨hl4, hal5⟩ : long ≤ 400 ∧ at_ + long ≤ 512 := by omega
            clear hbad
            go_upto_region 13 with (first | (go_at_call 109; (with_reducible refine (HA.out _).mono ?_); rintro e w5 ⟨rfl, rfl⟩) | (go_at_call 109; (with_reducible refine (HB.out _).mono ?_); rintro e wr ⟨rfl, rfl⟩))
            obtain ⟨i0, hi0, hz0, hz1, hz2⟩ := info_parts info_string
            have hX6 := HX2.out
            have hZ6 := HZ2.out
            have hown6 : wr.ownsRow (w.heap.size + 2) 9 1 (.slice A k c) k (rs.map Value.string) := HO.out
            have hW6 : Below w.heap.size w wr := HW2.out
            obtain ⟨x0, x1, x2, x3, g0, g1, g2, g3⟩ := blk4 hX6
            have hp1 : (0 : Int) ≤ (at_ : Int) := by omega
            have hp2 : (at_ : Int) ≤ (at_ : Int) + (long : Int) := by omega
            have hp3 : (at_ : Int) + (long : Int) ≤ 512 := by omega
            have hp4 : IntKind.i64.wrap ((at_ : Int) + (long : Int)) = (at_ : Int) + (long : Int) := IntWalk.i64_in _ (by omega)
            have hp5 : ((at_ : Int) + (long : Int)).toNat = at_ + long := by omega
            have hp6 : 0 ≤ (at_ : Int) + (long : Int) := by omega
            have hp7 : at_ ≤ at_ + long := by omega
            have hp8 : at_ + long ≤ p.size := by omega
            have HF := Lib.hid (show ∀ w7 : World, ((wr.alloc (.cells #[.string (p.extract at_ (at_ + long))] 9)).drew).grownBy w7 (Value.slice A k c).ownBlock → ∀ (b : Nat) (o : Obj), b < (w.heap.size + 2) → wr.heap[b]? = some o → w7.heap[b]? = some o by
              intro w7 hg b o hb ho
              rw [hg.block b (by simp; omega) (fun e9 => absurd (hown6.lt b e9.symm).1 (by omega))]
              exact (Below.heap_alloc wr _ b (by omega)).trans ho)
            obtain ⟨-, -, -, z3, -⟩ := blk4 ((Below.heap_alloc wr (.cells #[.string (p.extract at_ (at_ + long))] 9) X (by omega)).trans hX6)
            go_region_law? (refine step_append_lies _ (by rfl) _ _ _ (by rfl) (w.heap.size + 2) 9 i0 (.string ⟨#[]⟩) 1 16 Try.underlying40 hi0 hz0 hz1 hz2 rfl (by omega) (.slice A k c) k (rs.map Value.string) (by rfl) (own_alloc_drew hown6 _) ⟨wr.heap.size, 0, none⟩ 1 1 [.string (p.extract at_ (at_ + long))] (by rfl) (by rfl) (World.news_of_block (cs := #[.string (p.extract at_ (at_ + long))]) (t := 9) (fr := (0, 0)) (heap_alloc_new wr _)) (by simp [Value.oneCell']) (by omega) (by simp [maxLen]; omega) (by omega) (by simp; omega) (wr.heap.size + 1) (by simp) ?_; intro gg cap w7 hown7 hgrow hat7 hlt7; obtain ⟨y0, y1, y2, y3, k0, k1, k2, k3⟩ := blk4 (HF.out w7 hgrow X _ (show X < w.heap.size + 2 by omega) hX6))
            all_goals
              have hX7 := HF.out w7 hgrow X _ (show X < w.heap.size + 2 by omega) hX6
              have hZ7 := HF.out w7 hgrow w.heap.size _ (by omega) hZ6
              have hb7 : Below w.heap.size w w7 := ((hW6.alloc (by omega) _).drew).grown hgrow (by simp; omega) (fun k9 e9 => by have := (hown6.lt k9 e9).1; omega)
              have hs7 : wr.heap.size + 1 ≤ w7.heap.size := by have := hgrow.size; simp at this; omega
              go_wp2_with fail
              go_roundw
              case rel =>
                refine ⟨k + 1, rs ++ [p.extract at_ (at_ + long)], some ⟨gg, 0, none⟩, cap, by omega, by go_num, ?_, ?_, ?_, ?_, ?_, ?_⟩
                · simp only [Pg.recsOf, HRS.out]
                  rw [if_neg (by rw [← HAT.out, ← HLO.out]; omega), ← HAT.out, ← HLO.out]
                  rw [extract_eq]
                · have := blk_set 3 hX7 (.slice (some ⟨gg, 0, none⟩) (k + 1) cap)
                  simpa using this
                · rw [Below.heap_setCell _ _ _ _ (by simp; omega)]; exact hZ7
                · have := ownsRow_set hown7 ⟨X, 3, none⟩ (.slice (some ⟨gg, 0, none⟩) (k + 1) cap) (show X < w.heap.size + 2 by omega)
                  simpa using this
                · exact hb7.setCell (by simp; omega) _
                · simp; omega
              case measure => simp [intOf]; omega
        · obtain rfl : k = n := by omega
          have hlen := HRL.out
          subst hlen
          obtain ⟨x0, x1, x2, x3, -⟩ := blk4 HX2.out
          obtain ⟨c0, c1, c2, c3, f0, f1, f2, f3⟩ := blk4 HZ2.out
          have hne : X ≠ w.heap.size := by omega
          have HRX := Lib.hid (show Pg.rd p.data.toList = some ⟨lsn, kind, link, rs⟩ by rw [HRD.out, HRS.out]; rfl)
          have HF := Lib.hid (Pg.rd_fine HRX.out).1
          have hcl := own_cells HO.out rfl
          have HLAY := Lib.hid (fun W hW => rlay_any ⟨lsn, kind, link, rs⟩ A c HF.out.small (by have := HF.out.sizeN; omega) W hW)
          go_upto_region 15 with (first | (go_at_call 88; (with_reducible refine (HLAY.out _ hcl.cells).mono ?_); rintro e w5 ⟨rfl, hb5⟩))
          obtain ⟨x0, x1, x2, x3, -⟩ := blk4 (blk_old HX2.out hb5)
          obtain ⟨c0, c1, c2, c3, f0, f1, f2, f3⟩ := blk4 (blk_old HZ2.out hb5)
          have hbw6 := andThen HW2.out hb5
          have hcl6 := hcl.below hb5
          clear hcl hb5
          have HC2 := Lib.hid hcl6
          have hqs : (⟨(Pg.layL ⟨lsn, kind, link, rs⟩).toArray⟩ : ByteArray).size = (Pg.layL ⟨lsn, kind, link, rs⟩).length := by simp [ByteArray.size]
          have hql : (⟨(Pg.layL ⟨lsn, kind, link, rs⟩).toArray⟩ : ByteArray).data.toList = Pg.layL ⟨lsn, kind, link, rs⟩ := rfl
          generalize (⟨(Pg.layL ⟨lsn, kind, link, rs⟩).toArray⟩ : ByteArray) = q at hqs hql ⊢
          rcases Pg.layL_cases ⟨lsn, kind, link, rs⟩ with h0 | ⟨h0, h1⟩
          · have hq0 : q.size = 0 := by rw [hqs, h0]; rfl
            have HR := Lib.hid (show Pg.right p.data.toList = none by
              rw [Pg.right_of HRX.out, if_neg]
              rw [decide_eq_true_iff, h0]
              intro h9
              have := congrArg List.length h9
              rw [List.length_append, Oct.putL_length] at this
              simp at this
              omega)
            clear hqs hql h0
            go_region
            all_goals
              go_wp2_with fail
              refine bodyPost_ret (v := .tuple #[leafV ⟨lsn, kind, link, rs⟩ A c, .bool false]) (by simp [results, Try.results78, go_sem, c0, c1, c2, c3]) rfl ?_
              unfold GivesR
              rw [HR.out]
              refine ⟨⟨⟨lsn, kind, link, rs⟩, A, c, rfl⟩, ?_⟩
              repeat (first | exact hbw6 | refine Below.drew ?_ | refine Below.setCell ?_ (by simp) _)
          · have hq0 : q.size = 512 := by rw [hqs, h0]
            have hcmp : ((q.extract 4 512).toList == (p.extract 4 512).toList) = decide (Pg.layL ⟨lsn, kind, link, rs⟩ = Oct.putL 0 4 ++ p.data.toList.drop 4) := by
              rw [ByteArray.toList_eq, ByteArray.toList_eq, show 512 = 4 + 508 from rfl, extract_eq, extract_eq]
              have e1 : (q.data.toList.drop 4).take 508 = q.data.toList.drop 4 := List.take_of_length_le (by rw [hql, List.length_drop, h0]; omega)
              have e2 : (p.data.toList.drop 4).take 508 = p.data.toList.drop 4 := List.take_of_length_le (by rw [List.length_drop, HL.out]; omega)
              rw [e1, e2, hql, Bool.beq_eq_decide_eq]
              exact decide_eq_decide.2 (h1 _).symm
            have HR := Lib.hid (Pg.right_of HRX.out)
            generalize decide (Pg.layL ⟨lsn, kind, link, rs⟩ = Oct.putL 0 4 ++ p.data.toList.drop 4) = b at HR hcmp
            have hq4 : 4 ≤ q.size := by omega
            have hp4 : 4 ≤ p.size := by omega
            clear hqs hql h0 h1
            go_region
            all_goals
              go_wp2_with fail
              refine bodyPost_ret (v := .tuple #[leafV ⟨lsn, kind, link, rs⟩ A c, .bool b]) (by simp [results, Try.results78, go_sem, c0, c1, c2, c3]) rfl ?_
              unfold GivesR
              rw [HR.out]
              refine ⟨?_, ?_⟩
              · cases b
                · exact ⟨⟨lsn, kind, link, rs⟩, A, c, rfl⟩
                · refine ⟨A, c, rfl, ?_⟩
                  refine OwnCells.mono (B := w.heap.size + 2) ?_ (by omega)
                  repeat (first | exact HC2.out | exact HC2.out.below (Below.refl _ _).drew | refine OwnCells.set ?_ _ (by simp) _)
              repeat (first | exact hbw6 | refine Below.drew ?_ | refine Below.setCell ?_ (by simp) _)
  · have hne : ((p.size : Int) == 512) = false := by simp; omega
    have HR := Lib.hid (show Pg.right p.data.toList = none from Pg.right_none_of (by
      rw [Pg.rd, if_pos (.inl (by have h9 : p.data.toList.length = p.size := (by simp); omega))]))
    clear h512
    go_enter Try.func78, Try.ntmps78
    go_wp2_with fail
    refine bodyPost_ret (v := .tuple #[zeroV, .bool false]) (by simp [results, Try.results78, go_sem]) rfl ?_
    unfold GivesR
    rw [HR.out]
    exact ⟨⟨Pg.zero, none, 0, rfl⟩, (Below.refl _ _).alloc (Nat.le_refl _) _⟩
end Go.Proofs.Ytgbihdlahghonaa
