/- The walks over the reference's place, noted, Note. -/
import Derived.Test.YthfglhafphfhiaaGreatGp11
import Derived.Test.YthfglhafphfhiaaGreatGp03
import Derived.Test.YthfglhafphfhiaaGreatGp01
namespace Go.Proofs.YthfglhafphfhiaaGreat
open Go.RowKit
theorem ownTake {w : World} {B size g n c : Nat} {e : TypeId} {xs : List Value} (h : w.ownsRow B e size (.slice (some ⟨g, 0, none⟩) n c) n xs) {i : Nat} (hi : i ≤ n) : w.ownsRow B e size (.slice (some ⟨g, 0, none⟩) i c) i (xs.take (i * size)) := by
  obtain ⟨hl, h2⟩ := h
  refine ⟨by rw [List.length_take, hl]; exact Nat.min_eq_left (Nat.mul_le_mul_right _ hi), ?_⟩
  rcases h2 with ⟨h0, _⟩ | ⟨g', cap, cur, hv, hg, hh, hn, hcap, hsz, ht⟩
  · cases h0
  · injection hv with hv1 hv2 hv3
    injection hv1 with hv1
    injection hv1 with hv1 _ _
    subst hv1 hv3
    refine .inr ⟨g, c, cur, rfl, hg, hh, Nat.le_trans hi hn, hcap, hsz, ?_⟩
    rw [← ht, List.take_take, Nat.min_eq_left (Nat.mul_le_mul_right _ hi)]
set_option maxRecDepth 100000 in
theorem rplace_any (l : List Rc.TxnAt) (n : Int) (hl : l.length ≤ 4398046510976) (A : Option Addr) (c : Nat) (w : World) (hr : TxR w A c l) :
    Calls Tryz.prog 36 #[.slice A l.length c, .int .i64 n] w (PlaceOut (Tx.placeT l n) w) := by
  have HR := Lib.hid hr
  have HY := Lib.hid (fun k w' (hk : k < l.length) (h1 : l[k].txn = n) (h2 : ∀ j (hj : j < k), l[j].txn ≠ n) (hb : Below w.heap.size w w') => show PlaceOut (Tx.placeT l n) w (.returned (.int .i64 (k : Int))) w' from by rw [Tx.placeT_at hk h1 h2]; exact ⟨rfl, hb⟩)
  have HZ := Lib.hid (fun w' (h : ∀ j (hj : j < l.length), l[j].txn ≠ n) (hb : Below w.heap.size w w') => show PlaceOut (Tx.placeT l n) w (.returned (.int .i64 (-1))) w' from by
    rw [Tx.placeT_no (fun t ht => by obtain ⟨j, hj, rfl⟩ := List.mem_iff_getElem.1 ht; exact h j hj)]; exact ⟨rfl, hb⟩)
  generalize PlaceOut (Tx.placeT l n) w = Q at HY HZ ⊢
  clear hr
  go_enter Tryz.func36, Tryz.ntmps36
  go_wp2_with fail
  go_loopw [5] (fun v wr => ∃ k : Nat, v = .int .i64 (k : Int) ∧ k ≤ l.length ∧ (∀ j (hj : j < k) (h : j < l.length), l[j].txn ≠ n) ∧ Below w.heap.size w wr) (fun v _ => l.length - (intOf v).toNat)
  case atStart => exact ⟨0, rfl, Nat.zero_le _, fun j hj => absurd hj (Nat.not_lt_zero _), Below.refl _ _⟩
  case round =>
    obtain ⟨k, rfl, hk, hno, hbw⟩ := hrel
    have HBW := Lib.hid hbw
    have HNO := Lib.hid hno
    clear hbw hno
    by_cases hlt : k < l.length
    · have hk0 : (0 : Int) ≤ (k : Int) := by omega
      have hk1 : (k : Int) < (l.length : Int) := by omega
      have hwk : IntKind.i64.wrap ((k : Int) + 1) = (k : Int) + 1 := IntWalk.i64_in _ (by omega)
      obtain ⟨b, o, rfl, hc, hbl, hcell⟩ := read_at txC_len (HR.out.below HBW.out) hlt
      have q := hcell 0 _ rfl
      simp only [Nat.add_zero] at q
      clear hcell
      by_cases he : l[k].txn = n
      · rw [he] at q
        have HE := Lib.hid (HY.out k wr hlt he (fun j hj => HNO.out j hj (by omega)) HBW.out)
        clear he
        go_wp2_with fail
        exact HE.out
      · have HNO2 := Lib.hid (show ∀ j (hj : j < k + 1) (h : j < l.length), l[j].txn ≠ n from fun j hj h => by
          rcases Nat.lt_or_ge j k with h1 | h1
          · exact HNO.out j h1 h
          · obtain rfl : j = k := by omega
            exact he)
        generalize l[k].txn = y at q he
        have he2 : (y == n) = false := by simpa using he
        clear he
        go_wp2_with fail
        go_roundw
        case rel => exact ⟨k + 1, by go_num, by omega, HNO2.out, HBW.out⟩
        case measure => simp [intOf]; omega
    · have hk1 : ¬ (k : Int) < (l.length : Int) := by omega
      have HE := Lib.hid (HZ.out wr (fun j hj => HNO.out j (by omega) hj) HBW.out)
      go_wp2_with fail
      exact HE.out
theorem rnoted_any (k : Int) (w : World) : Calls Tryz.prog 89 #[.int .i64 k] w fun e w' => e = .returned (.bool (decide (1 ≤ k ∧ k ≤ 7))) ∧ Below w.heap.size w w' := by
  by_cases h1 : 1 ≤ k
  · by_cases h2 : k ≤ 7
    · rw [decide_eq_true ⟨h1, h2⟩]
      go_enter Tryz.func89, Tryz.ntmps89
      go_wp2_with fail
      go_ret
      exact ⟨by simp, Below.refl _ _⟩
    · rw [decide_eq_false (fun h => h2 h.2)]
      go_enter Tryz.func89, Tryz.ntmps89
      go_wp2_with fail
      go_ret
      exact ⟨by simp, Below.refl _ _⟩
  · rw [decide_eq_false (fun h => h1 h.1)]
    go_enter Tryz.func89, Tryz.ntmps89
    go_wp2_with fail
    go_ret
    exact ⟨by simp, Below.refl _ _⟩
/-- What the reference's Note answers: a list. -/
def RNoteOut (l : List Rc.TxnAt) (w : World) (e : Ending) (w' : World) : Prop :=
  ∃ A' c', e = .returned (.slice A' l.length c') ∧ TxR w' A' c' l ∧ NewT 0 w' 45 A' ∧ Below w.heap.size w w'
set_option maxRecDepth 100000 in
set_option maxHeartbeats 4000000 in
theorem rnote_any (l : List Rc.TxnAt) (hl : l.length ≤ 4398046510976) (A : Option Addr) (c : Nat) (r : Rc.Rec) (AT AD : Option Addr) (n1 c1 m1 d1 : Nat) (w : World) (hr : TxR w A c l) :
    Calls Tryz.prog 59 #[.slice A l.length c, recV r (.slice AT n1 c1) (.slice AD m1 d1)] w (RNoteOut (Tx.noteT l r) w) := by
  obtain ⟨i0, hi0, hz0, hz1, hz2⟩ := info_parts info_tx
  have HR := Lib.hid hr
  have HOUT := Lib.hid (fun (M : List Rc.TxnAt) (v : Value) (B : Nat) w' (h : Tx.noteT l r = M) (ho : w'.ownsRow B 45 4 v M.length (M.flatMap txC)) (hb : Below w.heap.size w w') => show RNoteOut (Tx.noteT l r) w (.returned v) w' from by
    rw [h]
    obtain ⟨A2, c2, rfl⟩ := ownLen ho
    exact ⟨_, _, rfl, own_reads ho, (NewT.own ho).mono (Nat.zero_le _), hb⟩)
  have HOWN := Lib.hid (fun (M : List Rc.TxnAt) (g N c B : Nat) w' (h : Tx.noteT l r = M) (ho : w'.ownsRow B 45 4 (.slice (some ⟨g, 0, none⟩) N c) N (M.flatMap txC)) (hN : M.length = N) (_ : w.heap.size ≤ B) (hb : Below w.heap.size w w') => show RNoteOut (Tx.noteT l r) w (.returned (.slice (some ⟨g, 0, none⟩) N c)) w' from by
    rw [h]
    subst hN
    exact ⟨_, _, rfl, own_reads ho, (NewT.own ho).mono (Nat.zero_le _), hb⟩)
  have N0 := Lib.hid (@Tx.noteT_no l r)
  have N1 := Lib.hid (@Tx.noteT_gone l r)
  have N2 := Lib.hid (@Tx.noteT_new l r)
  have N3 := Lib.hid (fun i => @Tx.noteT_end l r i)
  have N4 := Lib.hid (fun i => @Tx.noteT_old l r i)
  have HPL := Lib.hid (fun n W (hb : Below w.heap.size w W) => rplace_any l n hl A c W (hr.below hb))
  have HND := Lib.hid (fun k W => rnoted_any k W)
  generalize Tx.noteT l r = R at *
  generalize RNoteOut R w = Q at HOUT HOWN ⊢
  clear hr
  obtain ⟨lsn, prev, txn, kind, page, next, nu, ⟨ok, os, oo, on⟩, how, root, ⟨ek, ep, es⟩, ts, ds⟩ := r
  dsimp only [recV, recA]
  obtain ⟨W0, hW0⟩ : ∃ W, W = w.alloc (.cells #[.int .i64 lsn, .int .i64 prev, .int .i64 txn, .int .i64 kind, .int .i64 page, .int .i64 next, .int .i64 nu, .int .i64 ok, .int .i64 os, .string oo, .string on, .int .i64 how, .int .i64 root, .string ek, .int .i64 ep, .int .i64 es, .slice AT n1 c1, .slice AD m1 d1] 85) := ⟨_, rfl⟩
  have H0 := Lib.hid (show W0.heap[w.heap.size]? = some (.cells #[.int .i64 lsn, .int .i64 prev, .int .i64 txn, .int .i64 kind, .int .i64 page, .int .i64 next, .int .i64 nu, .int .i64 ok, .int .i64 os, .string oo, .string on, .int .i64 how, .int .i64 root, .string ek, .int .i64 ep, .int .i64 es, .slice AT n1 c1, .slice AD m1 d1] 85 (0, 0)) from by rw [hW0]; exact heap_alloc_new _ _)
  have B0 := Lib.hid (show Below w.heap.size w W0 from by rw [hW0]; exact allocB _ _)
  have HSZ := Lib.hid (show W0.heap.size = w.heap.size + 1 from by rw [hW0]; simp)
  have HRD := Lib.hid ((HR.out.below B0.out).below (allocB W0 (.cells #[] 45)))
  have HPL0 := Lib.hid (HPL.out txn)
  clear HPL
  by_cases hno : Tx.noted ⟨lsn, prev, txn, kind, page, next, nu, ⟨ok, os, oo, on⟩, how, root, ⟨ek, ep, es⟩, ts, ds⟩
  rotate_left
  · have HS := Lib.hid (N0.out hno)
    unfold Tx.noted at hno
    simp only at hno
    clear N0 N1 N2 N3 N4 HOWN
    by_cases h1 : txn < 1
    · generalize Tx.placeI (Tx.placeT l txn) = pk at HPL0
      clear hno
      go_enter Tryz.func59, Tryz.ntmps59
      go_upto_region 1 with fail
      rw [← hW0]
      clear hW0
      go_upto_region 2 with (at_builtin; refine listWants (by kernel_rfl) fun K hK => wp_appRw (W0.alloc (.cells #[] 45)) (.tmp 7) (.tmp 8) 35 45 i0 (.agg #[.int .i64 0, .int .i64 0, .int .i64 0, .bool false]) 4 32 Tryz.underlying35 hi0 hz0 hz1 hz2 rfl (by omega) rfl W0.heap.size _ 0 [] rfl (ownEmpty W0 45 4) A l.length c (l.flatMap txC) rfl HRD.out (by rw [flat_len txC_len]) (txC_all l) (by omega) (by omega) (by simp) ?_; intro v1 w1 ho1 hg1 hb1; refine hK _ _ ?_)
      rw [List.nil_append, Nat.zero_add] at ho1
      have hsz0 := HSZ.out
      have HO1 := Lib.hid ho1
      have H1 := Lib.hid (show w1.heap[w.heap.size]? = some (.cells #[.int .i64 lsn, .int .i64 prev, .int .i64 txn, .int .i64 kind, .int .i64 page, .int .i64 next, .int .i64 nu, .int .i64 ok, .int .i64 os, .string oo, .string on, .int .i64 how, .int .i64 root, .string ek, .int .i64 ep, .int .i64 es, .slice AT n1 c1, .slice AD m1 d1] 85 (0, 0)) from (hb1.block _ (by omega)).trans (blkOld H0.out (allocB W0 _)))
      have B1 := Lib.hid (show Below w.heap.size w w1 from (joinB B0.out (allocB W0 (.cells #[] 45))).trans (hb1.mono (by omega)))
      have hc1 := blkCell H1.out
      have HP1 := HPL0.out w1 B1.out
      unfold PlaceOut at HP1
      clear HPL0 ho1 hg1 hb1
      go_upto_region 3 with (go_at_call 36; (with_reducible refine HP1.mono ?_); rintro e w2 ⟨rfl, hb2⟩; have hc2 := blkCell (blkOld H1.out hb2))
      have H2 := Lib.hid (blkOld H1.out hb2)
      have B2 := Lib.hid (joinB B1.out hb2)
      have HO2 := Lib.hid (ownBelow HO1.out hb2)
      have HR2 := Lib.hid (HR.out.below B2.out)
      clear hb2 hc1 HO1 H1 B1 HP1
      go_wp2_with fail
      exact HOUT.out l _ _ _ HS.out HO2.out B2.out
    · have hkd : decide (1 ≤ kind ∧ kind ≤ 7) = false := decide_eq_false (fun h => hno ⟨by omega, h.1, h.2⟩)
      have HNDK := Lib.hid (fun W => HND.out kind W)
      rw [hkd] at HNDK
      clear hno hkd HND
      go_enter Tryz.func59, Tryz.ntmps59
      go_upto_region 1 with fail
      rw [← hW0]
      clear hW0
      go_upto_region 2 with (at_builtin; refine listWants (by kernel_rfl) fun K hK => wp_appRw (W0.alloc (.cells #[] 45)) (.tmp 7) (.tmp 8) 35 45 i0 (.agg #[.int .i64 0, .int .i64 0, .int .i64 0, .bool false]) 4 32 Tryz.underlying35 hi0 hz0 hz1 hz2 rfl (by omega) rfl W0.heap.size _ 0 [] rfl (ownEmpty W0 45 4) A l.length c (l.flatMap txC) rfl HRD.out (by rw [flat_len txC_len]) (txC_all l) (by omega) (by omega) (by simp) ?_; intro v1 w1 ho1 hg1 hb1; refine hK _ _ ?_)
      rw [List.nil_append, Nat.zero_add] at ho1
      have hsz0 := HSZ.out
      have HO1 := Lib.hid ho1
      have H1 := Lib.hid (show w1.heap[w.heap.size]? = some (.cells #[.int .i64 lsn, .int .i64 prev, .int .i64 txn, .int .i64 kind, .int .i64 page, .int .i64 next, .int .i64 nu, .int .i64 ok, .int .i64 os, .string oo, .string on, .int .i64 how, .int .i64 root, .string ek, .int .i64 ep, .int .i64 es, .slice AT n1 c1, .slice AD m1 d1] 85 (0, 0)) from (hb1.block _ (by omega)).trans (blkOld H0.out (allocB W0 _)))
      have B1 := Lib.hid (show Below w.heap.size w w1 from (joinB B0.out (allocB W0 (.cells #[] 45))).trans (hb1.mono (by omega)))
      have hc1 := blkCell H1.out
      have HP1 := HPL0.out w1 B1.out
      unfold PlaceOut at HP1
      clear HPL0 ho1 hg1 hb1
      go_upto_region 3 with (go_at_call 36; (with_reducible refine HP1.mono ?_); rintro e w2 ⟨rfl, hb2⟩; have hc2 := blkCell (blkOld H1.out hb2))
      have H2 := Lib.hid (blkOld H1.out hb2)
      have B2 := Lib.hid (joinB B1.out hb2)
      have HO2 := Lib.hid (ownBelow HO1.out hb2)
      have HR2 := Lib.hid (HR.out.below B2.out)
      clear hb2 hc1 HO1 H1 B1 HP1
      go_wp2_with (go_at_call 89; (with_reducible refine (HNDK.out _).mono ?_); rintro e w3 ⟨rfl, hb3⟩; have hc3 := blkCell (blkOld H2.out hb3))
      exact HOUT.out l _ _ _ HS.out (ownBelow HO2.out hb3) (joinB B2.out hb3)
  have HNO := Lib.hid hno
  unfold Tx.noted at hno
  simp only at hno
  have h1 : ¬ txn < 1 := by omega
  have hkd : decide (1 ≤ kind ∧ kind ≤ 7) = true := decide_eq_true hno.2
  have HKR := Lib.hid (show 1 ≤ kind ∧ kind ≤ 7 from hno.2)
  have HNDK := Lib.hid (fun W => HND.out kind W)
  rw [hkd] at HNDK
  clear N0 hno hkd HND
  cases hp : Tx.placeT l txn with
  | none =>
    rw [hp] at HPL0
    by_cases hk7 : kind = 7
    · have HS := Lib.hid (N1.out HNO.out hp hk7)
      have hk7' : (kind == 7) = true := by simpa using hk7
      clear N1 N2 N3 N4 HOWN hp hk7
      go_enter Tryz.func59, Tryz.ntmps59
      go_upto_region 1 with fail
      rw [← hW0]
      clear hW0
      go_upto_region 2 with (at_builtin; refine listWants (by kernel_rfl) fun K hK => wp_appRw (W0.alloc (.cells #[] 45)) (.tmp 7) (.tmp 8) 35 45 i0 (.agg #[.int .i64 0, .int .i64 0, .int .i64 0, .bool false]) 4 32 Tryz.underlying35 hi0 hz0 hz1 hz2 rfl (by omega) rfl W0.heap.size _ 0 [] rfl (ownEmpty W0 45 4) A l.length c (l.flatMap txC) rfl HRD.out (by rw [flat_len txC_len]) (txC_all l) (by omega) (by omega) (by simp) ?_; intro v1 w1 ho1 hg1 hb1; refine hK _ _ ?_)
      rw [List.nil_append, Nat.zero_add] at ho1
      have hsz0 := HSZ.out
      have HO1 := Lib.hid ho1
      have H1 := Lib.hid (show w1.heap[w.heap.size]? = some (.cells #[.int .i64 lsn, .int .i64 prev, .int .i64 txn, .int .i64 kind, .int .i64 page, .int .i64 next, .int .i64 nu, .int .i64 ok, .int .i64 os, .string oo, .string on, .int .i64 how, .int .i64 root, .string ek, .int .i64 ep, .int .i64 es, .slice AT n1 c1, .slice AD m1 d1] 85 (0, 0)) from (hb1.block _ (by omega)).trans (blkOld H0.out (allocB W0 _)))
      have B1 := Lib.hid (show Below w.heap.size w w1 from (joinB B0.out (allocB W0 (.cells #[] 45))).trans (hb1.mono (by omega)))
      have hc1 := blkCell H1.out
      have HP1 := HPL0.out w1 B1.out
      unfold PlaceOut at HP1
      simp only [Tx.placeI] at HP1
      clear HPL0 ho1 hg1 hb1
      go_upto_region 3 with (go_at_call 36; (with_reducible refine HP1.mono ?_); rintro e w2 ⟨rfl, hb2⟩; have hc2 := blkCell (blkOld H1.out hb2))
      have H2 := Lib.hid (blkOld H1.out hb2)
      have B2 := Lib.hid (joinB B1.out hb2)
      have HO2 := Lib.hid (ownBelow HO1.out hb2)
      have HR2 := Lib.hid (HR.out.below B2.out)
      clear hb2 hc1 HO1 H1 B1 HP1
      go_wp2_with (go_at_call 89; (with_reducible refine (HNDK.out _).mono ?_); rintro e w3 ⟨rfl, hb3⟩; have hc3 := blkCell (blkOld H2.out hb3))
      exact HOUT.out l _ _ _ HS.out (ownBelow HO2.out hb3) (joinB B2.out hb3)
    · have HRES := Lib.hid (N2.out HNO.out hp hk7)
      have hk7' : (kind == 7) = false := by simpa using hk7
      clear N1 N2 N3 N4 HOUT hp
      go_enter Tryz.func59, Tryz.ntmps59
      go_upto_region 1 with fail
      rw [← hW0]
      clear hW0
      go_upto_region 2 with (at_builtin; refine listWants (by kernel_rfl) fun K hK => wp_appRw (W0.alloc (.cells #[] 45)) (.tmp 7) (.tmp 8) 35 45 i0 (.agg #[.int .i64 0, .int .i64 0, .int .i64 0, .bool false]) 4 32 Tryz.underlying35 hi0 hz0 hz1 hz2 rfl (by omega) rfl W0.heap.size _ 0 [] rfl (ownEmpty W0 45 4) A l.length c (l.flatMap txC) rfl HRD.out (by rw [flat_len txC_len]) (txC_all l) (by omega) (by omega) (by simp) ?_; intro v1 w1 ho1 hg1 hb1; refine hK _ _ ?_)
      rw [List.nil_append, Nat.zero_add] at ho1
      have hsz0 := HSZ.out
      have HO1 := Lib.hid ho1
      have H1 := Lib.hid (show w1.heap[w.heap.size]? = some (.cells #[.int .i64 lsn, .int .i64 prev, .int .i64 txn, .int .i64 kind, .int .i64 page, .int .i64 next, .int .i64 nu, .int .i64 ok, .int .i64 os, .string oo, .string on, .int .i64 how, .int .i64 root, .string ek, .int .i64 ep, .int .i64 es, .slice AT n1 c1, .slice AD m1 d1] 85 (0, 0)) from (hb1.block _ (by omega)).trans (blkOld H0.out (allocB W0 _)))
      have B1 := Lib.hid (show Below w.heap.size w w1 from (joinB B0.out (allocB W0 (.cells #[] 45))).trans (hb1.mono (by omega)))
      have hc1 := blkCell H1.out
      have HP1 := HPL0.out w1 B1.out
      unfold PlaceOut at HP1
      simp only [Tx.placeI] at HP1
      clear HPL0 ho1 hg1 hb1
      go_upto_region 3 with (go_at_call 36; (with_reducible refine HP1.mono ?_); rintro e w2 ⟨rfl, hb2⟩; have hc2 := blkCell (blkOld H1.out hb2))
      have H2 := Lib.hid (blkOld H1.out hb2)
      have B2 := Lib.hid (joinB B1.out hb2)
      have HO2 := Lib.hid (ownBelow HO1.out hb2)
      have HR2 := Lib.hid (HR.out.below B2.out)
      clear hb2 hc1 HO1 H1 B1 HP1
      obtain ⟨A2, c2, rfl⟩ := ownLen HO2.out
      have hs2 := heapLt H2.out
      have hs1 := B2.out.size
      have hlN : (l.length : Int) < ((l.length + 1 : Nat) : Int) := by omega
      go_upto_region 10 with (first
        | (go_at_call 89; (with_reducible refine (HNDK.out _).mono ?_); rintro e w3 ⟨rfl, hb3⟩; have hc3 := blkCell (blkOld H2.out hb3))
        | (at_builtin; refine wpList_pushW (by kernel_rfl) (.tmp 48) (.tmp 52) 35 45 Tryz.underlying35 info_tx rfl (by omega) (by omega) rfl W0.heap.size _ l.length (l.flatMap txC) rfl (ownBelow (ownBelow HO2.out hb3) (allocB w3 _)) w3.heap.size (txC ⟨txn, 0, 0, false⟩) 45 rfl (heap_alloc_new w3 _) rfl (txC_one _) (by omega) (by have := hb3.size; simp; omega) ?_; intro v4 w4 ho4 hg4 hb4))
      have HX := Lib.hid (show w4.heap[w.heap.size]? = some (.cells #[.int .i64 lsn, .int .i64 prev, .int .i64 txn, .int .i64 kind, .int .i64 page, .int .i64 next, .int .i64 nu, .int .i64 ok, .int .i64 os, .string oo, .string on, .int .i64 how, .int .i64 root, .string ek, .int .i64 ep, .int .i64 es, .slice AT n1 c1, .slice AD m1 d1] 85 (0, 0)) from (hb4.block _ (by omega)).trans (blkOld (blkOld H2.out hb3) (allocB w3 _)))
      have HB := Lib.hid (show Below w.heap.size w w4 from (joinB (joinB B2.out hb3) (allocB w3 _)).trans (hb4.mono (by omega)))
      obtain ⟨g, cap, rfl, hgB0⟩ := ownSome ho4 (by omega)
      have hgB : w.heap.size + 1 ≤ g := by omega
      obtain ⟨L, hL⟩ : ∃ L : List Rc.TxnAt, L = l ++ [⟨txn, 0, 0, false⟩] := ⟨_, rfl⟩
      have hLf : l.flatMap txC ++ txC ⟨txn, 0, 0, false⟩ = L.flatMap txC := by rw [hL, List.flatMap_append]; simp
      rw [hLf] at ho4
      obtain ⟨N, hN⟩ : ∃ N, N = l.length + 1 := ⟨_, rfl⟩
      rw [← hN] at ho4
      rw [← hN]
      obtain ⟨k, hk⟩ : ∃ k, k = l.length := ⟨_, rfl⟩
      rw [← hk]
      have HO := Lib.hid (ownMono ho4 (show w.heap.size + 1 ≤ W0.heap.size from by omega))
      have HLN := Lib.hid (show L.length = N from by rw [hL, hN, List.length_append, List.length_singleton])
      have hkL : k < L.length := by rw [hL, hk, List.length_append, List.length_singleton]; omega
      have HRES2 := Lib.hid (show R = L.set k (Tx.tuneT ⟨lsn, prev, txn, kind, page, next, nu, ⟨ok, os, oo, on⟩, how, root, ⟨ek, ep, es⟩, ts, ds⟩ L[k]) from by
        have e : L[k] = ⟨txn, 0, 0, false⟩ := by subst hL hk; simp
        rw [e, hL, hk]; exact HRES.out)
      clear HRES
      have HRES := HRES2
      clear HRES2 hL hLf hN hk ho4 hg4 hb4 hb3 hs2 hs1 hlN hgB0 B0 H0 hc3 hc2 H2 B2 HO2 HR2 HNDK
      obtain ⟨W, hWW⟩ : ∃ W, W = w4 := ⟨_, rfl⟩
      rw [← hWW] at HX HB HO
      rw [← hWW]
      clear hWW
      obtain ⟨t, ht⟩ : ∃ t, t = L[k] := ⟨_, rfl⟩
      obtain ⟨tn, tl, tx, td⟩ := t
      obtain ⟨s1, s2, s3⟩ := rowSet HO.out HLN.out k hkL 1 (by omega) (.int .i64 lsn) ⟨tn, lsn, tx, td⟩ (by rw [← ht]; rfl)
      rw [← ht] at s1
      simp only [txC] at s1
      have HT := Lib.hid ht
      have HO2 := Lib.hid s3
      have hcw := blkCell HX.out
      have hgne : w.heap.size ≠ g := by omega
      have hkN := HLN.out
      rw [hkN] at hkL
      have hkI : (k : Int) < (N : Int) := by omega
      have hk0 : (0 : Int) ≤ (k : Int) := by omega
      clear ht s3 hkN
      go_upto_region 11 with fail
      have HX2 := Lib.hid (show (W.setCell ⟨g, k * 4 + 1, none⟩ (.int .i64 lsn)).heap[w.heap.size]? = some (.cells #[.int .i64 lsn, .int .i64 prev, .int .i64 txn, .int .i64 kind, .int .i64 page, .int .i64 next, .int .i64 nu, .int .i64 ok, .int .i64 os, .string oo, .string on, .int .i64 how, .int .i64 root, .string ek, .int .i64 ep, .int .i64 es, .slice AT n1 c1, .slice AD m1 d1] 85 (0, 0)) from (Below.heap_setCell _ _ _ _ hgne).trans HX.out)
      have HB2 := Lib.hid (HB.out.trans ((Below.refl w.heap.size W).setCell (p := ⟨g, k * 4 + 1, none⟩) (by show w.heap.size ≤ g; omega) (.int .i64 lsn)))
      obtain ⟨W2, hW2⟩ : ∃ W2, W2 = W.setCell ⟨g, k * 4 + 1, none⟩ (.int .i64 lsn) := ⟨_, rfl⟩
      rw [← hW2] at HX2 HB2 HO2
      rw [← hW2]
      clear hW2 HX HB HO hcw s1 s2
      have hcw2 := blkCell HX2.out
      have HLN2 := Lib.hid (show (L.set k ⟨tn, lsn, tx, td⟩).length = N from by rw [List.length_set]; exact HLN.out)
      have HK2 := Lib.hid (show k < (L.set k ⟨tn, lsn, tx, td⟩).length from by have := HLN2.out; omega)
      have hsk : ∀ y, (L.set k ⟨tn, lsn, tx, td⟩).set k y = L.set k y := fun y => List.set_set ..
      have HGE := Lib.hid (show (L.set k ⟨tn, lsn, tx, td⟩)[k]'HK2.out = ⟨tn, lsn, tx, td⟩ from by simp)
      have HFIN := Lib.hid (fun y w' (hy : y = Tx.tuneT ⟨lsn, prev, txn, kind, page, next, nu, ⟨ok, os, oo, on⟩, how, root, ⟨ek, ep, es⟩, ts, ds⟩ ⟨tn, tl, tx, td⟩) (ho : w'.ownsRow (w.heap.size + 1) 45 4 (.slice (some ⟨g, 0, none⟩) N cap) N ((L.set k y).flatMap txC)) (hb : Below w.heap.size w w') => HOWN.out (L.set k y) g N cap (w.heap.size + 1) w' (by rw [hy, HT.out]; exact HRES.out) ho (by rw [List.length_set]; exact HLN.out) (by omega) hb)
      clear HRES HOWN HT
      have hkk : kind = 1 ∨ kind = 2 ∨ kind = 3 ∨ kind = 4 ∨ kind = 5 ∨ kind = 6 := by have := HKR.out; omega
      clear HKR hk7 HNO
      rcases hkk with rfl | rfl | rfl | rfl | rfl | rfl
      · obtain ⟨u1, u2, u3⟩ := rowSet HO2.out HLN2.out k HK2.out 2 (by omega) (.int .i64 lsn) ⟨tn, lsn, lsn, td⟩ (by rw [HGE.out]; rfl)
        rw [HGE.out] at u1
        simp only [txC] at u1
        rw [hsk] at u3
        have HO3 := Lib.hid (HFIN.out ⟨tn, lsn, lsn, td⟩ _ rfl u3 (HB2.out.trans ((Below.refl w.heap.size W2).setCell (p := ⟨g, k * 4 + 2, none⟩) (by show w.heap.size ≤ g; omega) (.int .i64 lsn))))
        clear u3 hsk
        go_wp2_with fail
        exact HO3.out
      · obtain ⟨u1, u2, u3⟩ := rowSet HO2.out HLN2.out k HK2.out 2 (by omega) (.int .i64 lsn) ⟨tn, lsn, lsn, td⟩ (by rw [HGE.out]; rfl)
        rw [HGE.out] at u1
        simp only [txC] at u1
        rw [hsk] at u3
        have HO3 := Lib.hid (HFIN.out ⟨tn, lsn, lsn, td⟩ _ rfl u3 (HB2.out.trans ((Below.refl w.heap.size W2).setCell (p := ⟨g, k * 4 + 2, none⟩) (by show w.heap.size ≤ g; omega) (.int .i64 lsn))))
        clear u3 hsk
        go_wp2_with fail
        exact HO3.out
      · obtain ⟨u1, u2, u3⟩ := rowSet HO2.out HLN2.out k HK2.out 2 (by omega) (.int .i64 next) ⟨tn, lsn, next, td⟩ (by rw [HGE.out]; rfl)
        rw [HGE.out] at u1
        simp only [txC] at u1
        rw [hsk] at u3
        have HO3 := Lib.hid (HFIN.out ⟨tn, lsn, next, td⟩ _ rfl u3 (HB2.out.trans ((Below.refl w.heap.size W2).setCell (p := ⟨g, k * 4 + 2, none⟩) (by show w.heap.size ≤ g; omega) (.int .i64 next))))
        clear u3 hsk
        go_wp2_with fail
        exact HO3.out
      · obtain ⟨u1, u2, u3⟩ := rowSet HO2.out HLN2.out k HK2.out 2 (by omega) (.int .i64 next) ⟨tn, lsn, next, td⟩ (by rw [HGE.out]; rfl)
        rw [HGE.out] at u1
        simp only [txC] at u1
        rw [hsk] at u3
        have HO3 := Lib.hid (HFIN.out ⟨tn, lsn, next, td⟩ _ rfl u3 (HB2.out.trans ((Below.refl w.heap.size W2).setCell (p := ⟨g, k * 4 + 2, none⟩) (by show w.heap.size ≤ g; omega) (.int .i64 next))))
        clear u3 hsk
        go_wp2_with fail
        exact HO3.out
      · obtain ⟨u1, u2, u3⟩ := rowSet HO2.out HLN2.out k HK2.out 3 (by omega) (.bool true) ⟨tn, lsn, tx, true⟩ (by rw [HGE.out]; rfl)
        rw [HGE.out] at u1
        simp only [txC] at u1
        rw [hsk] at u3
        have HO3 := Lib.hid (HFIN.out ⟨tn, lsn, tx, true⟩ _ rfl u3 (HB2.out.trans ((Below.refl w.heap.size W2).setCell (p := ⟨g, k * 4 + 3, none⟩) (by show w.heap.size ≤ g; omega) (.bool true))))
        clear u3 hsk
        go_wp2_with fail
        exact HO3.out
      · have HO3 := Lib.hid (HFIN.out ⟨tn, lsn, tx, td⟩ _ rfl HO2.out HB2.out)
        clear hsk
        go_wp2_with fail
        exact HO3.out
  | some i =>
    rw [hp] at HPL0
    obtain ⟨hi, -⟩ := Tx.placeT_some hp
    have hin0 : ¬ (i : Int) < 0 := by omega
    by_cases hk7 : kind = 7
    · have HS := Lib.hid (N3.out i HNO.out hp hk7)
      have hk7' : (kind == 7) = true := by simpa using hk7
      clear N1 N2 N3 N4 HOWN hp hk7
      go_enter Tryz.func59, Tryz.ntmps59
      go_upto_region 1 with fail
      rw [← hW0]
      clear hW0
      go_upto_region 2 with (at_builtin; refine listWants (by kernel_rfl) fun K hK => wp_appRw (W0.alloc (.cells #[] 45)) (.tmp 7) (.tmp 8) 35 45 i0 (.agg #[.int .i64 0, .int .i64 0, .int .i64 0, .bool false]) 4 32 Tryz.underlying35 hi0 hz0 hz1 hz2 rfl (by omega) rfl W0.heap.size _ 0 [] rfl (ownEmpty W0 45 4) A l.length c (l.flatMap txC) rfl HRD.out (by rw [flat_len txC_len]) (txC_all l) (by omega) (by omega) (by simp) ?_; intro v1 w1 ho1 hg1 hb1; refine hK _ _ ?_)
      rw [List.nil_append, Nat.zero_add] at ho1
      have hsz0 := HSZ.out
      have HO1 := Lib.hid ho1
      have H1 := Lib.hid (show w1.heap[w.heap.size]? = some (.cells #[.int .i64 lsn, .int .i64 prev, .int .i64 txn, .int .i64 kind, .int .i64 page, .int .i64 next, .int .i64 nu, .int .i64 ok, .int .i64 os, .string oo, .string on, .int .i64 how, .int .i64 root, .string ek, .int .i64 ep, .int .i64 es, .slice AT n1 c1, .slice AD m1 d1] 85 (0, 0)) from (hb1.block _ (by omega)).trans (blkOld H0.out (allocB W0 _)))
      have B1 := Lib.hid (show Below w.heap.size w w1 from (joinB B0.out (allocB W0 (.cells #[] 45))).trans (hb1.mono (by omega)))
      have hc1 := blkCell H1.out
      have HP1 := HPL0.out w1 B1.out
      unfold PlaceOut at HP1
      simp only [Tx.placeI] at HP1
      clear HPL0 ho1 hg1 hb1
      go_upto_region 3 with (go_at_call 36; (with_reducible refine HP1.mono ?_); rintro e w2 ⟨rfl, hb2⟩; have hc2 := blkCell (blkOld H1.out hb2))
      have H2 := Lib.hid (blkOld H1.out hb2)
      have B2 := Lib.hid (joinB B1.out hb2)
      have HO2 := Lib.hid (ownBelow HO1.out hb2)
      have HR2 := Lib.hid (HR.out.below B2.out)
      clear hb2 hc1 HO1 H1 B1 HP1
      have hwi : IntKind.i64.wrap ((i : Int) + 1) = (i : Int) + 1 := IntWalk.i64_in _ (by omega)
      obtain ⟨g, cap, hv1, hgB⟩ := ownSome HO2.out (by omega)
      subst hv1
      go_upto_region 6 with (go_at_call 89; (with_reducible refine (HNDK.out _).mono ?_); rintro e w3 ⟨rfl, hb3⟩; have hc3 := blkCell (blkOld H2.out hb3))
      obtain ⟨w6, hw6⟩ : ∃ w6, w6 = w3.drew := ⟨_, rfl⟩
      have HO3 := Lib.hid (show w6.ownsRow W0.heap.size 45 4 (.slice (some ⟨g, 0, none⟩) i cap) i ((l.flatMap txC).take (i * 4)) from by rw [hw6]; exact ownTake (ownBelow (ownBelow HO2.out hb3) (Below.refl _ w3).drew) (by omega))
      have B3 := Lib.hid (show Below w.heap.size w w6 from by rw [hw6]; exact (joinB B2.out hb3).drew)
      have HR3 := HR.out.below B3.out
      obtain ⟨hcap, hcapm⟩ : l.length ≤ cap ∧ cap ≤ maxLen := by
        rcases HO2.out.2 with ⟨h0, _⟩ | ⟨g', cap', cur, hv, _, _, h3, h4, _⟩
        · cases h0
        · injection hv with _ _ hv3; subst hv3; exact ⟨h3, h4⟩
      obtain ⟨b, off, rfl, hc0, hbl, hcell⟩ := Reads.at_ HR3 (by omega)
      obtain ⟨j, hj⟩ : ∃ j, j = i + 1 := ⟨_, rfl⟩
      have hjI : ((i : Int) + 1) = (j : Int) := by omega
      rw [hjI] at hwi
      obtain ⟨AD, hAD, hsrc⟩ : ∃ AD : Option Addr, (if c = j then (some ⟨b, off, none⟩ : Option Addr) else some ⟨b, off + j * 4, none⟩) = AD ∧ Reads w6 AD (c - j) (l.length - j) ((l.drop j).flatMap txC) := by
        refine ⟨_, rfl, fun h0 => ?_⟩
        rw [if_neg (by omega)]
        refine ⟨b, off + j * 4, rfl, by omega, hbl, fun t u hu => ?_⟩
        rw [Nat.add_assoc]
        refine hcell (j * 4 + t) u ?_
        rw [← hu]
        have h6 : l.flatMap txC = (l.take j).flatMap txC ++ (l.drop j).flatMap txC := by rw [← List.flatMap_append, List.take_append_drop]
        have h7 : ((l.take j).flatMap txC).length = j * 4 := by rw [flat_len txC_len, List.length_take]; omega
        rw [h6, List.getElem?_append_right (by omega), h7, Nat.add_sub_cancel_left]
      have HSRC := Lib.hid hsrc
      have HRES := Lib.hid (show (l.flatMap txC).take (i * 4) ++ (l.drop j).flatMap txC = (l.take i ++ l.drop (i + 1)).flatMap txC ∧ i + (l.length - j) = (l.take i ++ l.drop (i + 1)).length from by
        constructor
        · have h6 : l.flatMap txC = (l.take i).flatMap txC ++ (l.drop i).flatMap txC := by rw [← List.flatMap_append, List.take_append_drop]
          have h7 : ((l.take i).flatMap txC).length = i * 4 := by rw [flat_len txC_len, List.length_take]; omega
          rw [List.flatMap_append, h6, ← h7, List.take_left, hj]
        · rw [List.length_append, List.length_take, List.length_drop, hj]; omega)
      have hijc : (i : Int) ≤ (cap : Int) := by omega
      have hjc : (j : Int) ≤ (c : Int) := by omega
      have hjl : (j : Int) ≤ (l.length : Int) := by omega
      have hbz := B3.out.size
      have hbz2 : g < w6.heap.size := (HO3.out.lt g rfl).2
      clear hsrc hcell HR3 hj HO2 H2 hc2 hc3 HNDK HKR HNO B2
      refine wp_region_held_drew (S := (fun _ => True)) (by kernel_rfl) ?_ (fun hHeld => ?_)
      · trivial
      refine tkW 0 (some 36) (v := ?_) rfl ?_ ?_
      rotate_left
      · intro u hSu; clear hSu; go_simp; (try with_reducible rfl)
      try simp only [Act.put, List.setIfInBounds_toArray, List.set_cons_zero, List.set_cons_succ]
      refine tkW 1 (some 37) (v := ?_) rfl ?_ ?_
      rotate_left
      · intro u hSu; clear hSu; go_simp; (try with_reducible rfl)
      try simp only [Act.put, List.setIfInBounds_toArray, List.set_cons_zero, List.set_cons_succ]
      refine tkW 2 (some 38) (v := ?_) rfl ?_ ?_
      rotate_left
      · intro u hSu; clear hSu; go_simp; (try with_reducible rfl)
      try simp only [Act.put, List.setIfInBounds_toArray, List.set_cons_zero, List.set_cons_succ]
      refine tkW 3 (some 39) (v := ?_) rfl ?_ ?_
      rotate_left
      · intro u hSu; clear hSu; go_simp; (try with_reducible rfl)
      try simp only [Act.put, List.setIfInBounds_toArray, List.set_cons_zero, List.set_cons_succ]
      refine tkW 4 (some 40) (v := ?_) rfl ?_ ?_
      rotate_left
      · intro u hSu; clear hSu; go_simp; (try with_reducible rfl)
      try simp only [Act.put, List.setIfInBounds_toArray, List.set_cons_zero, List.set_cons_succ]
      refine tkW 5 (some 41) (v := ?_) rfl ?_ ?_
      rotate_left
      · intro u hSu; clear hSu; go_simp; (try with_reducible rfl)
      try simp only [Act.put, List.setIfInBounds_toArray, List.set_cons_zero, List.set_cons_succ]
      refine tkW 6 (some 42) (v := ?_) rfl ?_ ?_
      rotate_left
      · intro u hSu; clear hSu; go_simp; (try with_reducible rfl)
      try simp only [Act.put, List.setIfInBounds_toArray, List.set_cons_zero, List.set_cons_succ]
      refine rdH 7 (some 43) rfl (fun K hK => ?_)
      try rw [hAD]
      refine wantedIf (by rfl) ?_
      rw [← hw6]
      refine wp_appRw w6 (.tmp 38) (.tmp 42) 35 45 i0 (.agg #[.int .i64 0, .int .i64 0, .int .i64 0, .bool false]) 4 32 Tryz.underlying35 hi0 hz0 hz1 hz2 rfl (by omega) rfl W0.heap.size _ i ((l.flatMap txC).take (i * 4)) rfl HO3.out AD (l.length - j) (c - j) ((l.drop j).flatMap txC) rfl HSRC.out (by rw [flat_len txC_len, List.length_drop]) (txC_all _) (by omega) (by omega) (by omega) ?_
      intro v7 w7 ho7 hg7 hb7
      refine hK.out _ _ ?_ (fun hHeld => ?_)
      · trivial
      clear hK K
      try simp only [Act.put, List.setIfInBounds_toArray, List.set_cons_zero, List.set_cons_succ]
      refine tkW 8 (some 4) (v := ?_) rfl ?_ ?_
      rotate_left
      · intro u hSu; clear hSu; go_simp; (try with_reducible rfl)
      try simp only [Act.put, List.setIfInBounds_toArray, List.set_cons_zero, List.set_cons_succ]
      refine wpAnyH_done (by kernel_rfl) ?_ _
      clear hHeld
      rw [HRES.out.1, HRES.out.2] at ho7
      have HFI := Lib.hid (HOUT.out _ v7 _ w7 HS.out ho7 (B3.out.trans (hb7.mono (by omega))))
      go_wp2_with fail
      exact HFI.out
    · have HRES := Lib.hid (N4.out i HNO.out hp hk7 hi)
      have hk7' : (kind == 7) = false := by simpa using hk7
      clear N1 N2 N3 N4 HOUT hp
      go_enter Tryz.func59, Tryz.ntmps59
      go_upto_region 1 with fail
      rw [← hW0]
      clear hW0
      go_upto_region 2 with (at_builtin; refine listWants (by kernel_rfl) fun K hK => wp_appRw (W0.alloc (.cells #[] 45)) (.tmp 7) (.tmp 8) 35 45 i0 (.agg #[.int .i64 0, .int .i64 0, .int .i64 0, .bool false]) 4 32 Tryz.underlying35 hi0 hz0 hz1 hz2 rfl (by omega) rfl W0.heap.size _ 0 [] rfl (ownEmpty W0 45 4) A l.length c (l.flatMap txC) rfl HRD.out (by rw [flat_len txC_len]) (txC_all l) (by omega) (by omega) (by simp) ?_; intro v1 w1 ho1 hg1 hb1; refine hK _ _ ?_)
      rw [List.nil_append, Nat.zero_add] at ho1
      have hsz0 := HSZ.out
      have HO1 := Lib.hid ho1
      have H1 := Lib.hid (show w1.heap[w.heap.size]? = some (.cells #[.int .i64 lsn, .int .i64 prev, .int .i64 txn, .int .i64 kind, .int .i64 page, .int .i64 next, .int .i64 nu, .int .i64 ok, .int .i64 os, .string oo, .string on, .int .i64 how, .int .i64 root, .string ek, .int .i64 ep, .int .i64 es, .slice AT n1 c1, .slice AD m1 d1] 85 (0, 0)) from (hb1.block _ (by omega)).trans (blkOld H0.out (allocB W0 _)))
      have B1 := Lib.hid (show Below w.heap.size w w1 from (joinB B0.out (allocB W0 (.cells #[] 45))).trans (hb1.mono (by omega)))
      have hc1 := blkCell H1.out
      have HP1 := HPL0.out w1 B1.out
      unfold PlaceOut at HP1
      simp only [Tx.placeI] at HP1
      clear HPL0 ho1 hg1 hb1
      go_upto_region 3 with (go_at_call 36; (with_reducible refine HP1.mono ?_); rintro e w2 ⟨rfl, hb2⟩; have hc2 := blkCell (blkOld H1.out hb2))
      have H2 := Lib.hid (blkOld H1.out hb2)
      have B2 := Lib.hid (joinB B1.out hb2)
      have HO2 := Lib.hid (ownBelow HO1.out hb2)
      have HR2 := Lib.hid (HR.out.below B2.out)
      clear hb2 hc1 HO1 H1 B1 HP1
      obtain ⟨g, cap, hv1, hgB0⟩ := ownSome HO2.out (by omega)
      subst hv1
      go_upto_region 10 with (go_at_call 89; (with_reducible refine (HNDK.out _).mono ?_); rintro e w3 ⟨rfl, hb3⟩; have hc3 := blkCell (blkOld H2.out hb3))
      have HX := Lib.hid (blkOld H2.out hb3)
      have HB := Lib.hid (joinB B2.out hb3)
      have hgB : w.heap.size + 1 ≤ g := by omega
      have ho2' := ownMono (ownBelow HO2.out hb3) (show w.heap.size + 1 ≤ W0.heap.size from by omega)
      obtain ⟨L, hL⟩ : ∃ L : List Rc.TxnAt, L = l := ⟨_, rfl⟩
      obtain ⟨N, hN⟩ : ∃ N, N = l.length := ⟨_, rfl⟩
      obtain ⟨k, hk⟩ : ∃ k, k = i := ⟨_, rfl⟩
      rw [← hN] at ho2'
      rw [← hN]
      rw [← hL] at ho2'
      rw [← hk]
      have HO := Lib.hid ho2'
      have HLN := Lib.hid (show L.length = N from by rw [hL, hN])
      have hkL : k < L.length := by rw [hL, hk]; exact hi
      have HRES2 := Lib.hid (show R = L.set k (Tx.tuneT ⟨lsn, prev, txn, kind, page, next, nu, ⟨ok, os, oo, on⟩, how, root, ⟨ek, ep, es⟩, ts, ds⟩ L[k]) from by
        subst hL hk; exact HRES.out)
      clear HRES
      have HRES := HRES2
      clear HRES2 hL hN hk ho2' hb3 hc2 hc3 H2 B2 HO2 HR2 HNDK hgB0 B0 H0 hi hin0
      obtain ⟨W, hWW⟩ : ∃ W, W = w3 := ⟨_, rfl⟩
      rw [← hWW] at HX HB HO
      rw [← hWW]
      clear hWW
      obtain ⟨t, ht⟩ : ∃ t, t = L[k] := ⟨_, rfl⟩
      obtain ⟨tn, tl, tx, td⟩ := t
      obtain ⟨s1, s2, s3⟩ := rowSet HO.out HLN.out k hkL 1 (by omega) (.int .i64 lsn) ⟨tn, lsn, tx, td⟩ (by rw [← ht]; rfl)
      rw [← ht] at s1
      simp only [txC] at s1
      have HT := Lib.hid ht
      have HO2 := Lib.hid s3
      have hcw := blkCell HX.out
      have hgne : w.heap.size ≠ g := by omega
      have hkN := HLN.out
      rw [hkN] at hkL
      have hkI : (k : Int) < (N : Int) := by omega
      have hk0 : (0 : Int) ≤ (k : Int) := by omega
      clear ht s3 hkN
      go_upto_region 11 with fail
      have HX2 := Lib.hid (show (W.setCell ⟨g, k * 4 + 1, none⟩ (.int .i64 lsn)).heap[w.heap.size]? = some (.cells #[.int .i64 lsn, .int .i64 prev, .int .i64 txn, .int .i64 kind, .int .i64 page, .int .i64 next, .int .i64 nu, .int .i64 ok, .int .i64 os, .string oo, .string on, .int .i64 how, .int .i64 root, .string ek, .int .i64 ep, .int .i64 es, .slice AT n1 c1, .slice AD m1 d1] 85 (0, 0)) from (Below.heap_setCell _ _ _ _ hgne).trans HX.out)
      have HB2 := Lib.hid (HB.out.trans ((Below.refl w.heap.size W).setCell (p := ⟨g, k * 4 + 1, none⟩) (by show w.heap.size ≤ g; omega) (.int .i64 lsn)))
      obtain ⟨W2, hW2⟩ : ∃ W2, W2 = W.setCell ⟨g, k * 4 + 1, none⟩ (.int .i64 lsn) := ⟨_, rfl⟩
      rw [← hW2] at HX2 HB2 HO2
      rw [← hW2]
      clear hW2 HX HB HO hcw s1 s2
      have hcw2 := blkCell HX2.out
      have HLN2 := Lib.hid (show (L.set k ⟨tn, lsn, tx, td⟩).length = N from by rw [List.length_set]; exact HLN.out)
      have HK2 := Lib.hid (show k < (L.set k ⟨tn, lsn, tx, td⟩).length from by have := HLN2.out; omega)
      have hsk : ∀ y, (L.set k ⟨tn, lsn, tx, td⟩).set k y = L.set k y := fun y => List.set_set ..
      have HGE := Lib.hid (show (L.set k ⟨tn, lsn, tx, td⟩)[k]'HK2.out = ⟨tn, lsn, tx, td⟩ from by simp)
      have HFIN := Lib.hid (fun y w' (hy : y = Tx.tuneT ⟨lsn, prev, txn, kind, page, next, nu, ⟨ok, os, oo, on⟩, how, root, ⟨ek, ep, es⟩, ts, ds⟩ ⟨tn, tl, tx, td⟩) (ho : w'.ownsRow (w.heap.size + 1) 45 4 (.slice (some ⟨g, 0, none⟩) N cap) N ((L.set k y).flatMap txC)) (hb : Below w.heap.size w w') => HOWN.out (L.set k y) g N cap (w.heap.size + 1) w' (by rw [hy, HT.out]; exact HRES.out) ho (by rw [List.length_set]; exact HLN.out) (by omega) hb)
      clear HRES HOWN HT
      have hkk : kind = 1 ∨ kind = 2 ∨ kind = 3 ∨ kind = 4 ∨ kind = 5 ∨ kind = 6 := by have := HKR.out; omega
      clear HKR hk7 HNO
      rcases hkk with rfl | rfl | rfl | rfl | rfl | rfl
      · obtain ⟨u1, u2, u3⟩ := rowSet HO2.out HLN2.out k HK2.out 2 (by omega) (.int .i64 lsn) ⟨tn, lsn, lsn, td⟩ (by rw [HGE.out]; rfl)
        rw [HGE.out] at u1
        simp only [txC] at u1
        rw [hsk] at u3
        have HO3 := Lib.hid (HFIN.out ⟨tn, lsn, lsn, td⟩ _ rfl u3 (HB2.out.trans ((Below.refl w.heap.size W2).setCell (p := ⟨g, k * 4 + 2, none⟩) (by show w.heap.size ≤ g; omega) (.int .i64 lsn))))
        clear u3 hsk
        go_wp2_with fail
        exact HO3.out
      · obtain ⟨u1, u2, u3⟩ := rowSet HO2.out HLN2.out k HK2.out 2 (by omega) (.int .i64 lsn) ⟨tn, lsn, lsn, td⟩ (by rw [HGE.out]; rfl)
        rw [HGE.out] at u1
        simp only [txC] at u1
        rw [hsk] at u3
        have HO3 := Lib.hid (HFIN.out ⟨tn, lsn, lsn, td⟩ _ rfl u3 (HB2.out.trans ((Below.refl w.heap.size W2).setCell (p := ⟨g, k * 4 + 2, none⟩) (by show w.heap.size ≤ g; omega) (.int .i64 lsn))))
        clear u3 hsk
        go_wp2_with fail
        exact HO3.out
      · obtain ⟨u1, u2, u3⟩ := rowSet HO2.out HLN2.out k HK2.out 2 (by omega) (.int .i64 next) ⟨tn, lsn, next, td⟩ (by rw [HGE.out]; rfl)
        rw [HGE.out] at u1
        simp only [txC] at u1
        rw [hsk] at u3
        have HO3 := Lib.hid (HFIN.out ⟨tn, lsn, next, td⟩ _ rfl u3 (HB2.out.trans ((Below.refl w.heap.size W2).setCell (p := ⟨g, k * 4 + 2, none⟩) (by show w.heap.size ≤ g; omega) (.int .i64 next))))
        clear u3 hsk
        go_wp2_with fail
        exact HO3.out
      · obtain ⟨u1, u2, u3⟩ := rowSet HO2.out HLN2.out k HK2.out 2 (by omega) (.int .i64 next) ⟨tn, lsn, next, td⟩ (by rw [HGE.out]; rfl)
        rw [HGE.out] at u1
        simp only [txC] at u1
        rw [hsk] at u3
        have HO3 := Lib.hid (HFIN.out ⟨tn, lsn, next, td⟩ _ rfl u3 (HB2.out.trans ((Below.refl w.heap.size W2).setCell (p := ⟨g, k * 4 + 2, none⟩) (by show w.heap.size ≤ g; omega) (.int .i64 next))))
        clear u3 hsk
        go_wp2_with fail
        exact HO3.out
      · obtain ⟨u1, u2, u3⟩ := rowSet HO2.out HLN2.out k HK2.out 3 (by omega) (.bool true) ⟨tn, lsn, tx, true⟩ (by rw [HGE.out]; rfl)
        rw [HGE.out] at u1
        simp only [txC] at u1
        rw [hsk] at u3
        have HO3 := Lib.hid (HFIN.out ⟨tn, lsn, tx, true⟩ _ rfl u3 (HB2.out.trans ((Below.refl w.heap.size W2).setCell (p := ⟨g, k * 4 + 3, none⟩) (by show w.heap.size ≤ g; omega) (.bool true))))
        clear u3 hsk
        go_wp2_with fail
        exact HO3.out
      · have HO3 := Lib.hid (HFIN.out ⟨tn, lsn, tx, td⟩ _ rfl HO2.out HB2.out)
        clear hsk
        go_wp2_with fail
        exact HO3.out
end Go.Proofs.YthfglhafphfhiaaGreat
/- The walks over the reference of records: small, number, pageNum, slot, Op, Entry. -/
namespace Go.Proofs.YthfglhafphfhiaaGreat
open Go.RowKit
set_option maxRecDepth 100000 in
theorem rsmall_any (n b : Int) (w : World) :
    Calls Tryz.prog 157 #[.int .i64 n, .int .i64 b] w fun e w' => e = .returned (.bool (decide (0 ≤ n ∧ n < b))) ∧ Below w.heap.size w w' := by
  by_cases h0 : 0 ≤ n
  · by_cases h1 : n < b
    · rw [decide_eq_true (And.intro h0 h1)]
      go_enter Tryz.func157, Tryz.ntmps157
      go_wp2_with fail
      go_ret
      exact ⟨by simp, Below.refl _ _⟩
    · rw [decide_eq_false (fun h : 0 ≤ n ∧ n < b => h1 h.2)]
      go_enter Tryz.func157, Tryz.ntmps157
      go_wp2_with fail
      go_ret
      exact ⟨by simp, Below.refl _ _⟩
  · rw [decide_eq_false (fun h : 0 ≤ n ∧ n < b => h0 h.1)]
    go_enter Tryz.func157, Tryz.ntmps157
    go_wp2_with fail
    go_ret
    exact ⟨by simp, Below.refl _ _⟩
set_option maxRecDepth 100000 in
theorem rnumber_any (n : Int) (w : World) :
    Calls Tryz.prog 135 #[.int .i64 n] w fun e w' => e = .returned (.bool (decide (Rc.num n))) ∧ Below w.heap.size w w' := by
  have HC := Lib.hid (fun W => by (have h := rsmall_any n 1099511627776 W); rw [show decide (0 ≤ n ∧ n < 1099511627776) = decide (Rc.num n) from decide_eq_decide.2 Iff.rfl] at h; exact h)
  go_enter Tryz.func135, Tryz.ntmps135
  go_wp2_with (go_at_call 157; (with_reducible refine (HC.out _).mono ?_); rintro e w2 ⟨rfl, hb2⟩)
  go_ret
  exact ⟨rfl, hb2⟩
end Go.Proofs.YthfglhafphfhiaaGreat
/- The walks over the reference of records: a text's bytes, a change's bytes. -/
namespace Rc
end Rc
namespace Go.Proofs.YthfglhafphfhiaaGreat
open Go.RowKit
end Go.Proofs.YthfglhafphfhiaaGreat
