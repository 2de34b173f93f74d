/- The walk over package txn: Note. -/
import Derived.Test.YthfglhafphfhiaaGreatGp06
import Derived.Test.YthfglhafphfhiaaGreatGp05
namespace Tx
open Rc
theorem noteT_no {l : List TxnAt} {r : Rec} (h : ¬ noted r) : noteT l r = l := by unfold noteT; rw [if_pos h]
theorem noteT_gone {l : List TxnAt} {r : Rec} (h : noted r) (hp : placeT l r.txn = none) (hk : r.kind = 7) : noteT l r = l := by unfold noteT; rw [if_neg (fun hn => hn h), hp]; simp only; rw [if_pos hk]
theorem noteT_new {l : List TxnAt} {r : Rec} (h : noted r) (hp : placeT l r.txn = none) (hk : ¬ r.kind = 7) : noteT l r = (l ++ [(⟨r.txn, 0, 0, false⟩ : TxnAt)]).set l.length (tuneT r ⟨r.txn, 0, 0, false⟩) := by
  unfold noteT; rw [if_neg (fun hn => hn h), hp]; simp only; rw [if_neg hk, List.set_append_right _ _ (Nat.le_refl _), Nat.sub_self]; rfl
theorem noteT_end {l : List TxnAt} {r : Rec} {i : Nat} (h : noted r) (hp : placeT l r.txn = some i) (hk : r.kind = 7) : noteT l r = l.take i ++ l.drop (i + 1) := by unfold noteT; rw [if_neg (fun hn => hn h), hp]; simp only; rw [if_pos hk]
theorem noteT_old {l : List TxnAt} {r : Rec} {i : Nat} (h : noted r) (hp : placeT l r.txn = some i) (hk : ¬ r.kind = 7) (hi : i < l.length) : noteT l r = l.set i (tuneT r l[i]) := by
  unfold noteT; rw [if_neg (fun hn => hn h), hp]; simp only; rw [if_neg hk, List.getElem?_eq_getElem hi, Option.getD_some, List.set_eq_take_append_cons_drop, if_pos hi]
end Tx
namespace Go.Proofs.YthfglhafphfhiaaGreat
open Go.RowKit
theorem rowSet {w : World} {B g N c : Nat} {M : List Rc.TxnAt} (h : w.ownsRow B 45 4 (.slice (some ⟨g, 0, none⟩) N c) N (M.flatMap txC)) (hN : M.length = N) (k : Nat) (hk : k < M.length) (f : Nat) (hf : f < 4) (x : Value) (y : Rc.TxnAt) (he : txC y = (txC M[k]).set f x) :
    w.cell? ⟨g, k * 4 + f, none⟩ = (txC M[k])[f]? ∧ w.frozen? ⟨g, k * 4 + f, none⟩ = false ∧ (w.setCell ⟨g, k * 4 + f, none⟩ x).ownsRow B 45 4 (.slice (some ⟨g, 0, none⟩) N c) N ((M.set k y).flatMap txC) := by
  obtain ⟨h1, h2, h3⟩ := ownSetAt h (k * 4 + f) (by omega)
  refine ⟨by rw [h1, flat_at txC_len M k f hk hf], h2, ?_⟩
  rw [← flat_set txC_len M k f y x hk hf he]
  exact h3 x
theorem ownSome {w : World} {B size n : Nat} {e : TypeId} {v : Value} {xs : List Value} (h : w.ownsRow B e size v n xs) (hn : 0 < n) : ∃ g c, v = .slice (some ⟨g, 0, none⟩) n c ∧ B ≤ g := by
  rcases h.2 with ⟨_, h0⟩ | ⟨g, cap, cur, hv, hg, _⟩
  · omega
  · exact ⟨g, cap, hv, hg⟩
/-- What Note answers: a list, the old one or one in memory of its own. -/
def NoteOut (l : List Rc.TxnAt) (A : Option Addr) (w : World) (e : Ending) (w' : World) : Prop :=
  ∃ A' c', e = .returned (.slice A' l.length c') ∧ TxR w' A' c' l ∧ (A' = A ∨ NewT w.heap.size w' 45 A') ∧ Below w.heap.size w w'
theorem note_own {l : List Rc.TxnAt} {A : Option Addr} {w w' : World} {g N c B : Nat} (h : w'.ownsRow B 45 4 (.slice (some ⟨g, 0, none⟩) N c) N (l.flatMap txC)) (hN : l.length = N) (hB : w.heap.size ≤ B) (hb : Below w.heap.size w w') : NoteOut l A w (.returned (.slice (some ⟨g, 0, none⟩) N c)) w' := by
  subst hN
  exact ⟨_, _, rfl, own_reads h, .inr ((NewT.own h).mono hB), hb⟩
set_option maxRecDepth 100000 in
set_option maxHeartbeats 4000000 in
theorem tnote_any (l : List Rc.TxnAt) (hl : l.length ≤ 900000) (A : Option Addr) (c : Nat) (r : Rc.Rec) (AT AD : Option Addr) (n1 c1 m1 d1 : Nat) (w : World) (hr : TxR w A c l) :
    Calls Tryz.prog 54 #[.slice A l.length c, recV r (.slice AT n1 c1) (.slice AD m1 d1)] w (NoteOut (Tx.noteT l r) A w) := by
  have HR := Lib.hid hr
  have HSAME := Lib.hid (fun w' (h : Tx.noteT l r = l) (hb : Below w.heap.size w w') => show NoteOut (Tx.noteT l r) A w (.returned (.slice A l.length c)) w' from by rw [h]; exact ⟨A, c, rfl, hr.below hb, .inl rfl, hb⟩)
  have HOWN := Lib.hid (fun (M : List Rc.TxnAt) (g N c B : Nat) w' (h : Tx.noteT l r = M) (ho : w'.ownsRow B 45 4 (.slice (some ⟨g, 0, none⟩) N c) N (M.flatMap txC)) (hN : M.length = N) (hB : w.heap.size ≤ B) (hb : Below w.heap.size w w') => show NoteOut (Tx.noteT l r) A w (.returned (.slice (some ⟨g, 0, none⟩) N c)) w' from by rw [h]; exact note_own ho hN hB hb)
  have HDEL := Lib.hid (fun (M : List Rc.TxnAt) (v : Value) (B : Nat) w' (h : Tx.noteT l r = M) (ho : OwnL txC 4 45 B w' v M) (hB : w.heap.size ≤ B) (hb : Below w.heap.size w w') => show NoteOut (Tx.noteT l r) A w (.returned v) w' from by
    rw [h]
    obtain ⟨A2, c2, rfl⟩ := ownLen ho
    exact ⟨_, _, rfl, own_reads ho, .inr ((NewT.own ho).mono hB), hb⟩)
  have N0 := Lib.hid (@Tx.noteT_no l r)
  have N1 := Lib.hid (@Tx.noteT_gone l r)
  have N2 := Lib.hid (@Tx.noteT_new l r)
  have N3 := Lib.hid (fun i => @Tx.noteT_end l r i)
  have N4 := Lib.hid (fun i => @Tx.noteT_old l r i)
  have HPL := Lib.hid (fun n W (hb : Below w.heap.size w W) => tplace_any l n (by omega) A c W (hr.below hb))
  have HCL := Lib.hid (fun W (hb : Below w.heap.size w W) => tclone_any l (by omega) A c W (hr.below hb))
  generalize Tx.noteT l r = R at *
  generalize NoteOut R A w = Q at HSAME HOWN HDEL ⊢
  clear hr
  obtain ⟨lsn, prev, txn, kind, page, next, nu, ⟨ok, os, oo, on⟩, how, root, ⟨ek, ep, es⟩, ts, ds⟩ := r
  dsimp only [recV, recA]
  obtain ⟨W0, hW0⟩ : ∃ W, W = w.alloc (.cells #[.int .i64 lsn, .int .i64 prev, .int .i64 txn, .int .i64 kind, .int .i64 page, .int .i64 next, .int .i64 nu, .int .i64 ok, .int .i64 os, .string oo, .string on, .int .i64 how, .int .i64 root, .string ek, .int .i64 ep, .int .i64 es, .slice AT n1 c1, .slice AD m1 d1] 85) := ⟨_, rfl⟩
  have H0 := Lib.hid (show W0.heap[w.heap.size]? = some (.cells #[.int .i64 lsn, .int .i64 prev, .int .i64 txn, .int .i64 kind, .int .i64 page, .int .i64 next, .int .i64 nu, .int .i64 ok, .int .i64 os, .string oo, .string on, .int .i64 how, .int .i64 root, .string ek, .int .i64 ep, .int .i64 es, .slice AT n1 c1, .slice AD m1 d1] 85 (0, 0)) from by rw [hW0]; exact heap_alloc_new _ _)
  have B0 := Lib.hid (show Below w.heap.size w W0 from by rw [hW0]; exact allocB _ _)
  have hc0 := blkCell H0.out
  by_cases hno : Tx.noted ⟨lsn, prev, txn, kind, page, next, nu, ⟨ok, os, oo, on⟩, how, root, ⟨ek, ep, es⟩, ts, ds⟩
  rotate_left
  · have HS := Lib.hid (N0.out hno)
    unfold Tx.noted at hno
    simp only at hno
    clear N0 N1 N2 N3 N4 HPL HCL HOWN HDEL HR
    by_cases h1 : txn < 1
    · go_enter Tryz.func54, Tryz.ntmps54
      go_upto_region 1 with fail
      rw [← hW0]
      clear hW0
      go_wp2_with fail
      exact HSAME.out _ HS.out B0.out
    by_cases h2 : kind < 1
    · go_enter Tryz.func54, Tryz.ntmps54
      go_upto_region 1 with fail
      rw [← hW0]
      clear hW0
      go_wp2_with fail
      exact HSAME.out _ HS.out B0.out
    by_cases h3 : kind = 8
    · have h3' : (kind == 8) = true := by simpa using h3
      clear hno h3
      go_enter Tryz.func54, Tryz.ntmps54
      go_upto_region 1 with fail
      rw [← hW0]
      clear hW0
      go_wp2_with fail
      exact HSAME.out _ HS.out B0.out
    · have h3' : (kind == 8) = false := by simpa using h3
      have h4 : 9 ≤ kind := by omega
      clear hno h3
      go_enter Tryz.func54, Tryz.ntmps54
      go_upto_region 1 with fail
      rw [← hW0]
      clear hW0
      go_wp2_with fail
      exact HSAME.out _ HS.out B0.out
  have HNO := Lib.hid hno
  unfold Tx.noted at hno
  simp only at hno
  have h1 : ¬ txn < 1 := by omega
  have h2 : ¬ kind < 1 := by omega
  have h3 : (kind == 8) = false := by simp; omega
  have h4 : ¬ 9 ≤ kind := by omega
  have HKR := Lib.hid (show 1 ≤ kind ∧ kind ≤ 7 from hno.2)
  have HPL0 := HPL.out txn W0 B0.out
  unfold PlaceOut at HPL0
  clear N0 hno
  cases hp : Tx.placeT l txn with
  | none =>
    rw [hp] at HPL0
    simp only [Tx.placeI] at HPL0
    by_cases hk7 : kind = 7
    · have HS := Lib.hid (N1.out HNO.out hp hk7)
      have hk7' : (kind == 7) = true := by simpa using hk7
      clear N1 N2 N3 N4 HPL HCL HOWN HDEL HR hp hk7
      go_enter Tryz.func54, Tryz.ntmps54
      go_upto_region 1 with fail
      rw [← hW0]
      clear hW0
      go_upto_region 4 with (go_at_call 35; (with_reducible refine HPL0.mono ?_); rintro e w1 ⟨rfl, hb1⟩; have hc1 := blkCell (blkOld H0.out hb1))
      have H1 := Lib.hid (blkOld H0.out hb1)
      have B1 := Lib.hid (joinB B0.out hb1)
      clear hb1 hc1 hc0
      have hc2 := blkCell H1.out
      go_wp2_with fail
      exact HSAME.out _ HS.out B1.out
    · have HRES := Lib.hid (N2.out HNO.out hp hk7)
      have hk7' : (kind == 7) = false := by simpa using hk7
      clear N1 N2 N3 N4 HPL HDEL HR hp HSAME
      go_enter Tryz.func54, Tryz.ntmps54
      go_upto_region 1 with fail
      rw [← hW0]
      clear hW0
      go_upto_region 4 with (go_at_call 35; (with_reducible refine HPL0.mono ?_); rintro e w1 ⟨rfl, hb1⟩; have hc1 := blkCell (blkOld H0.out hb1))
      have H1 := Lib.hid (blkOld H0.out hb1)
      have B1 := Lib.hid (joinB B0.out hb1)
      clear hb1 hc1 hc0
      have hc2 := blkCell H1.out
      have HCL1 := HCL.out w1 B1.out
      clear HCL
      have hlN : (l.length : Int) < ((l.length + 1 : Nat) : Int) := by omega
      go_upto_region 12 with (first
        | (go_at_call 84; (with_reducible refine HCL1.mono ?_); rintro e w2 ⟨v2, rfl, ho2, hb2⟩; obtain ⟨A2, c2, rfl⟩ := ownLen ho2; have H2 := Lib.hid (blkOld H1.out hb2); have hc3 := blkCell H2.out; have hs2 := hb2.size)
        | (at_builtin; refine wpList_push (by kernel_rfl) (.tmp 48) (.tmp 52) 35 45 Tryz.underlying35 info_tx rfl (by omega) (by omega) rfl w1.heap.size _ l.length (l.flatMap txC) rfl (ownBelow ho2 (allocB w2 _)) w2.heap.size (txC ⟨txn, 0, 0, false⟩) 45 rfl (heap_alloc_new w2 _) rfl (txC_one _) (by omega) (by simp; omega) ?_; intro v3 w3 ho3 hg3 hb3))
      have hs1 : w.heap.size + 1 ≤ w1.heap.size := by have := heapLt H1.out; omega
      have HX := Lib.hid (show w3.heap[w.heap.size]? = some (.cells #[.int .i64 lsn, .int .i64 prev, .int .i64 txn, .int .i64 kind, .int .i64 page, .int .i64 next, .int .i64 nu, .int .i64 ok, .int .i64 os, .string oo, .string on, .int .i64 how, .int .i64 root, .string ek, .int .i64 ep, .int .i64 es, .slice AT n1 c1, .slice AD m1 d1] 85 (0, 0)) from (hb3.block _ (by omega)).trans (blkOld H2.out (allocB w2 _)))
      have HB := Lib.hid (show Below w.heap.size w w3 from ((B1.out.trans (hb2.mono (by omega))).trans ((allocB w2 _).mono (by omega))).trans (hb3.mono (by omega)))
      obtain ⟨g, cap, rfl, hgB0⟩ := ownSome ho3 (by omega)
      have hgB : w.heap.size + 1 ≤ g := by omega
      obtain ⟨L, hL⟩ : ∃ L : List Rc.TxnAt, L = l ++ [⟨txn, 0, 0, false⟩] := ⟨_, rfl⟩
      have hLf : l.flatMap txC ++ txC ⟨txn, 0, 0, false⟩ = L.flatMap txC := by rw [hL, List.flatMap_append]; simp
      rw [hLf] at ho3
      obtain ⟨N, hN⟩ : ∃ N, N = l.length + 1 := ⟨_, rfl⟩
      rw [← hN] at ho3
      rw [← hN]
      obtain ⟨k, hk⟩ : ∃ k, k = l.length := ⟨_, rfl⟩
      rw [← hk]
      have HO := Lib.hid (ownMono ho3 hs1)
      have HLN := Lib.hid (show L.length = N from by rw [hL, hN, List.length_append, List.length_singleton])
      have hkL : k < L.length := by rw [hL, hk, List.length_append, List.length_singleton]; omega
      have HRES2 := Lib.hid (show R = L.set k (Tx.tuneT ⟨lsn, prev, txn, kind, page, next, nu, ⟨ok, os, oo, on⟩, how, root, ⟨ek, ep, es⟩, ts, ds⟩ L[k]) from by
        have e : L[k] = ⟨txn, 0, 0, false⟩ := by subst hL hk; simp
        rw [e, hL, hk]; exact HRES.out)
      clear HRES
      have HRES := HRES2
      clear HRES2 hL hLf hN hk ho3 hg3 hb3 ho2 hb2 hc3 hs2 hc2 H2 H1 B1 hs1 hlN hgB0 B0 H0 HCL1 HPL0
      obtain ⟨W, hWW⟩ : ∃ W, W = w3 := ⟨_, rfl⟩
      rw [← hWW] at HX HB HO
      rw [← hWW]
      clear hWW
      obtain ⟨t, ht⟩ : ∃ t, t = L[k] := ⟨_, rfl⟩
      obtain ⟨tn, tl, tx, td⟩ := t
      obtain ⟨s1, s2, s3⟩ := rowSet HO.out HLN.out k hkL 1 (by omega) (.int .i64 lsn) ⟨tn, lsn, tx, td⟩ (by rw [← ht]; rfl)
      rw [← ht] at s1
      simp only [txC] at s1
      have HT := Lib.hid ht
      have HO2 := Lib.hid s3
      have hcw := blkCell HX.out
      have hgne : w.heap.size ≠ g := by omega
      have hkN := HLN.out
      rw [hkN] at hkL
      have hkI : (k : Int) < (N : Int) := by omega
      have hk0 : (0 : Int) ≤ (k : Int) := by omega
      clear ht s3 hkN
      go_upto_region 14 with fail
      have HX2 := Lib.hid (show (W.setCell ⟨g, k * 4 + 1, none⟩ (.int .i64 lsn)).heap[w.heap.size]? = some (.cells #[.int .i64 lsn, .int .i64 prev, .int .i64 txn, .int .i64 kind, .int .i64 page, .int .i64 next, .int .i64 nu, .int .i64 ok, .int .i64 os, .string oo, .string on, .int .i64 how, .int .i64 root, .string ek, .int .i64 ep, .int .i64 es, .slice AT n1 c1, .slice AD m1 d1] 85 (0, 0)) from (Below.heap_setCell _ _ _ _ hgne).trans HX.out)
      have HB2 := Lib.hid (HB.out.trans ((Below.refl w.heap.size W).setCell (p := ⟨g, k * 4 + 1, none⟩) (by show w.heap.size ≤ g; omega) (.int .i64 lsn)))
      obtain ⟨W2, hW2⟩ : ∃ W2, W2 = W.setCell ⟨g, k * 4 + 1, none⟩ (.int .i64 lsn) := ⟨_, rfl⟩
      rw [← hW2] at HX2 HB2 HO2
      rw [← hW2]
      clear hW2 HX HB HO hcw s1 s2
      have hcw2 := blkCell HX2.out
      have HLN2 := Lib.hid (show (L.set k ⟨tn, lsn, tx, td⟩).length = N from by rw [List.length_set]; exact HLN.out)
      have HK2 := Lib.hid (show k < (L.set k ⟨tn, lsn, tx, td⟩).length from by have := HLN2.out; omega)
      have hsk : ∀ y, (L.set k ⟨tn, lsn, tx, td⟩).set k y = L.set k y := fun y => List.set_set ..
      have HGE := Lib.hid (show (L.set k ⟨tn, lsn, tx, td⟩)[k]'HK2.out = ⟨tn, lsn, tx, td⟩ from by simp)
      have HFIN := Lib.hid (fun y w' (hy : y = Tx.tuneT ⟨lsn, prev, txn, kind, page, next, nu, ⟨ok, os, oo, on⟩, how, root, ⟨ek, ep, es⟩, ts, ds⟩ ⟨tn, tl, tx, td⟩) (ho : w'.ownsRow (w.heap.size + 1) 45 4 (.slice (some ⟨g, 0, none⟩) N cap) N ((L.set k y).flatMap txC)) (hb : Below w.heap.size w w') => HOWN.out (L.set k y) g N cap (w.heap.size + 1) w' (by rw [hy, HT.out]; exact HRES.out) ho (by rw [List.length_set]; exact HLN.out) (by omega) hb)
      clear HRES HOWN HT
      have hkk : kind = 1 ∨ kind = 2 ∨ kind = 3 ∨ kind = 4 ∨ kind = 5 ∨ kind = 6 := by have := HKR.out; omega
      clear HKR h2 h3 h4 hk7 HNO
      rcases hkk with rfl | rfl | rfl | rfl | rfl | rfl
      · obtain ⟨u1, u2, u3⟩ := rowSet HO2.out HLN2.out k HK2.out 2 (by omega) (.int .i64 lsn) ⟨tn, lsn, lsn, td⟩ (by rw [HGE.out]; rfl)
        rw [HGE.out] at u1
        simp only [txC] at u1
        rw [hsk] at u3
        have HO3 := Lib.hid (HFIN.out ⟨tn, lsn, lsn, td⟩ _ rfl u3 (HB2.out.trans ((Below.refl w.heap.size W2).setCell (p := ⟨g, k * 4 + 2, none⟩) (by show w.heap.size ≤ g; omega) (.int .i64 lsn))))
        clear u3 hsk
        go_wp2_with fail
        exact HO3.out
      · obtain ⟨u1, u2, u3⟩ := rowSet HO2.out HLN2.out k HK2.out 2 (by omega) (.int .i64 lsn) ⟨tn, lsn, lsn, td⟩ (by rw [HGE.out]; rfl)
        rw [HGE.out] at u1
        simp only [txC] at u1
        rw [hsk] at u3
        have HO3 := Lib.hid (HFIN.out ⟨tn, lsn, lsn, td⟩ _ rfl u3 (HB2.out.trans ((Below.refl w.heap.size W2).setCell (p := ⟨g, k * 4 + 2, none⟩) (by show w.heap.size ≤ g; omega) (.int .i64 lsn))))
        clear u3 hsk
        go_wp2_with fail
        exact HO3.out
      · obtain ⟨u1, u2, u3⟩ := rowSet HO2.out HLN2.out k HK2.out 2 (by omega) (.int .i64 next) ⟨tn, lsn, next, td⟩ (by rw [HGE.out]; rfl)
        rw [HGE.out] at u1
        simp only [txC] at u1
        rw [hsk] at u3
        have HO3 := Lib.hid (HFIN.out ⟨tn, lsn, next, td⟩ _ rfl u3 (HB2.out.trans ((Below.refl w.heap.size W2).setCell (p := ⟨g, k * 4 + 2, none⟩) (by show w.heap.size ≤ g; omega) (.int .i64 next))))
        clear u3 hsk
        go_wp2_with fail
        exact HO3.out
      · obtain ⟨u1, u2, u3⟩ := rowSet HO2.out HLN2.out k HK2.out 2 (by omega) (.int .i64 next) ⟨tn, lsn, next, td⟩ (by rw [HGE.out]; rfl)
        rw [HGE.out] at u1
        simp only [txC] at u1
        rw [hsk] at u3
        have HO3 := Lib.hid (HFIN.out ⟨tn, lsn, next, td⟩ _ rfl u3 (HB2.out.trans ((Below.refl w.heap.size W2).setCell (p := ⟨g, k * 4 + 2, none⟩) (by show w.heap.size ≤ g; omega) (.int .i64 next))))
        clear u3 hsk
        go_wp2_with fail
        exact HO3.out
      · obtain ⟨u1, u2, u3⟩ := rowSet HO2.out HLN2.out k HK2.out 3 (by omega) (.bool true) ⟨tn, lsn, tx, true⟩ (by rw [HGE.out]; rfl)
        rw [HGE.out] at u1
        simp only [txC] at u1
        rw [hsk] at u3
        have HO3 := Lib.hid (HFIN.out ⟨tn, lsn, tx, true⟩ _ rfl u3 (HB2.out.trans ((Below.refl w.heap.size W2).setCell (p := ⟨g, k * 4 + 3, none⟩) (by show w.heap.size ≤ g; omega) (.bool true))))
        clear u3 hsk
        go_wp2_with fail
        exact HO3.out
      · have HO3 := Lib.hid (HFIN.out ⟨tn, lsn, tx, td⟩ _ rfl HO2.out HB2.out)
        clear hsk
        go_wp2_with fail
        exact HO3.out
  | some i =>
    rw [hp] at HPL0
    simp only [Tx.placeI] at HPL0
    obtain ⟨hi, -⟩ := Tx.placeT_some hp
    have hi0 : ¬ (i : Int) < 0 := by omega
    by_cases hk7 : kind = 7
    · have HS := Lib.hid (N3.out i HNO.out hp hk7)
      have hk7' : (kind == 7) = true := by simpa using hk7
      clear N1 N2 N3 N4 HPL HOWN HR hp hk7 HSAME
      go_enter Tryz.func54, Tryz.ntmps54
      go_upto_region 1 with fail
      rw [← hW0]
      clear hW0
      go_upto_region 4 with (go_at_call 35; (with_reducible refine HPL0.mono ?_); rintro e w1 ⟨rfl, hb1⟩; have hc1 := blkCell (blkOld H0.out hb1))
      have H1 := Lib.hid (blkOld H0.out hb1)
      have B1 := Lib.hid (joinB B0.out hb1)
      clear hb1 hc1 hc0
      have hc2 := blkCell H1.out
      have HCL1 := HCL.out w1 B1.out
      clear HCL
      have hwi : IntKind.i64.wrap ((i : Int) + 1) = (i : Int) + 1 := IntWalk.i64_in _ (by omega)
      go_wp2_with (first
        | (go_at_call 84; (with_reducible refine HCL1.mono ?_); rintro e w2 ⟨v2, rfl, ho2, hb2⟩; obtain ⟨g, cap, rfl, hgB⟩ := ownSome ho2 (by omega); have HD := Lib.hid (tdelete_any l (by omega) i hi w1.heap.size g cap w2 ho2))
        | (go_at_call 83; (with_reducible refine HD.out.mono ?_); rintro e w3 ⟨v3, rfl, ho3, hb3⟩))
      exact HDEL.out _ _ _ _ HS.out ho3 B1.out.size ((B1.out.trans (hb2.mono B1.out.size)).trans (hb3.mono B1.out.size))
    · have HRES := Lib.hid (N4.out i HNO.out hp hk7 hi)
      have hk7' : (kind == 7) = false := by simpa using hk7
      clear N1 N2 N3 N4 HPL HDEL HR hp HSAME
      go_enter Tryz.func54, Tryz.ntmps54
      go_upto_region 1 with fail
      rw [← hW0]
      clear hW0
      go_upto_region 4 with (go_at_call 35; (with_reducible refine HPL0.mono ?_); rintro e w1 ⟨rfl, hb1⟩; have hc1 := blkCell (blkOld H0.out hb1))
      have H1 := Lib.hid (blkOld H0.out hb1)
      have B1 := Lib.hid (joinB B0.out hb1)
      clear hb1 hc1 hc0
      have hc2 := blkCell H1.out
      have HCL1 := HCL.out w1 B1.out
      clear HCL
      go_upto_region 12 with (go_at_call 84; (with_reducible refine HCL1.mono ?_); rintro e w2 ⟨v2, rfl, ho2, hb2⟩)
      have hs1 : w.heap.size + 1 ≤ w1.heap.size := by have := heapLt H1.out; omega
      have HX := Lib.hid (blkOld H1.out hb2)
      have HB := Lib.hid (show Below w.heap.size w w2 from B1.out.trans (hb2.mono (by omega)))
      obtain ⟨g, cap, rfl, hgB0⟩ := ownSome ho2 (by omega)
      have hgB : w.heap.size + 1 ≤ g := by omega
      have ho2' := ownMono ho2 hs1
      obtain ⟨L, hL⟩ : ∃ L : List Rc.TxnAt, L = l := ⟨_, rfl⟩
      obtain ⟨N, hN⟩ : ∃ N, N = l.length := ⟨_, rfl⟩
      obtain ⟨k, hk⟩ : ∃ k, k = i := ⟨_, rfl⟩
      rw [← hN] at ho2'
      rw [← hN]
      rw [← hL] at ho2'
      rw [← hk]
      have HO := Lib.hid ho2'
      have HLN := Lib.hid (show L.length = N from by rw [hL, hN])
      have hkL : k < L.length := by rw [hL, hk]; exact hi
      have HRES2 := Lib.hid (show R = L.set k (Tx.tuneT ⟨lsn, prev, txn, kind, page, next, nu, ⟨ok, os, oo, on⟩, how, root, ⟨ek, ep, es⟩, ts, ds⟩ L[k]) from by
        subst hL hk; exact HRES.out)
      clear HRES
      have HRES := HRES2
      clear HRES2 hL hN hk ho2 ho2' hb2 hc2 H1 B1 hs1 hgB0 B0 H0 HCL1 HPL0 hi hi0
      obtain ⟨W, hWW⟩ : ∃ W, W = w2 := ⟨_, rfl⟩
      rw [← hWW] at HX HB HO
      rw [← hWW]
      clear hWW
      obtain ⟨t, ht⟩ : ∃ t, t = L[k] := ⟨_, rfl⟩
      obtain ⟨tn, tl, tx, td⟩ := t
      obtain ⟨s1, s2, s3⟩ := rowSet HO.out HLN.out k hkL 1 (by omega) (.int .i64 lsn) ⟨tn, lsn, tx, td⟩ (by rw [← ht]; rfl)
      rw [← ht] at s1
      simp only [txC] at s1
      have HT := Lib.hid ht
      have HO2 := Lib.hid s3
      have hcw := blkCell HX.out
      have hgne : w.heap.size ≠ g := by omega
      have hkN := HLN.out
      rw [hkN] at hkL
      have hkI : (k : Int) < (N : Int) := by omega
      have hk0 : (0 : Int) ≤ (k : Int) := by omega
      clear ht s3 hkN
      go_upto_region 14 with fail
      have HX2 := Lib.hid (show (W.setCell ⟨g, k * 4 + 1, none⟩ (.int .i64 lsn)).heap[w.heap.size]? = some (.cells #[.int .i64 lsn, .int .i64 prev, .int .i64 txn, .int .i64 kind, .int .i64 page, .int .i64 next, .int .i64 nu, .int .i64 ok, .int .i64 os, .string oo, .string on, .int .i64 how, .int .i64 root, .string ek, .int .i64 ep, .int .i64 es, .slice AT n1 c1, .slice AD m1 d1] 85 (0, 0)) from (Below.heap_setCell _ _ _ _ hgne).trans HX.out)
      have HB2 := Lib.hid (HB.out.trans ((Below.refl w.heap.size W).setCell (p := ⟨g, k * 4 + 1, none⟩) (by show w.heap.size ≤ g; omega) (.int .i64 lsn)))
      obtain ⟨W2, hW2⟩ : ∃ W2, W2 = W.setCell ⟨g, k * 4 + 1, none⟩ (.int .i64 lsn) := ⟨_, rfl⟩
      rw [← hW2] at HX2 HB2 HO2
      rw [← hW2]
      clear hW2 HX HB HO hcw s1 s2
      have hcw2 := blkCell HX2.out
      have HLN2 := Lib.hid (show (L.set k ⟨tn, lsn, tx, td⟩).length = N from by rw [List.length_set]; exact HLN.out)
      have HK2 := Lib.hid (show k < (L.set k ⟨tn, lsn, tx, td⟩).length from by have := HLN2.out; omega)
      have hsk : ∀ y, (L.set k ⟨tn, lsn, tx, td⟩).set k y = L.set k y := fun y => List.set_set ..
      have HGE := Lib.hid (show (L.set k ⟨tn, lsn, tx, td⟩)[k]'HK2.out = ⟨tn, lsn, tx, td⟩ from by simp)
      have HFIN := Lib.hid (fun y w' (hy : y = Tx.tuneT ⟨lsn, prev, txn, kind, page, next, nu, ⟨ok, os, oo, on⟩, how, root, ⟨ek, ep, es⟩, ts, ds⟩ ⟨tn, tl, tx, td⟩) (ho : w'.ownsRow (w.heap.size + 1) 45 4 (.slice (some ⟨g, 0, none⟩) N cap) N ((L.set k y).flatMap txC)) (hb : Below w.heap.size w w') => HOWN.out (L.set k y) g N cap (w.heap.size + 1) w' (by rw [hy, HT.out]; exact HRES.out) ho (by rw [List.length_set]; exact HLN.out) (by omega) hb)
      clear HRES HOWN HT
      have hkk : kind = 1 ∨ kind = 2 ∨ kind = 3 ∨ kind = 4 ∨ kind = 5 ∨ kind = 6 := by have := HKR.out; omega
      clear HKR h2 h3 h4 hk7 HNO
      rcases hkk with rfl | rfl | rfl | rfl | rfl | rfl
      · obtain ⟨u1, u2, u3⟩ := rowSet HO2.out HLN2.out k HK2.out 2 (by omega) (.int .i64 lsn) ⟨tn, lsn, lsn, td⟩ (by rw [HGE.out]; rfl)
        rw [HGE.out] at u1
        simp only [txC] at u1
        rw [hsk] at u3
        have HO3 := Lib.hid (HFIN.out ⟨tn, lsn, lsn, td⟩ _ rfl u3 (HB2.out.trans ((Below.refl w.heap.size W2).setCell (p := ⟨g, k * 4 + 2, none⟩) (by show w.heap.size ≤ g; omega) (.int .i64 lsn))))
        clear u3 hsk
        go_wp2_with fail
        exact HO3.out
      · obtain ⟨u1, u2, u3⟩ := rowSet HO2.out HLN2.out k HK2.out 2 (by omega) (.int .i64 lsn) ⟨tn, lsn, lsn, td⟩ (by rw [HGE.out]; rfl)
        rw [HGE.out] at u1
        simp only [txC] at u1
        rw [hsk] at u3
        have HO3 := Lib.hid (HFIN.out ⟨tn, lsn, lsn, td⟩ _ rfl u3 (HB2.out.trans ((Below.refl w.heap.size W2).setCell (p := ⟨g, k * 4 + 2, none⟩) (by show w.heap.size ≤ g; omega) (.int .i64 lsn))))
        clear u3 hsk
        go_wp2_with fail
        exact HO3.out
      · obtain ⟨u1, u2, u3⟩ := rowSet HO2.out HLN2.out k HK2.out 2 (by omega) (.int .i64 next) ⟨tn, lsn, next, td⟩ (by rw [HGE.out]; rfl)
        rw [HGE.out] at u1
        simp only [txC] at u1
        rw [hsk] at u3
        have HO3 := Lib.hid (HFIN.out ⟨tn, lsn, next, td⟩ _ rfl u3 (HB2.out.trans ((Below.refl w.heap.size W2).setCell (p := ⟨g, k * 4 + 2, none⟩) (by show w.heap.size ≤ g; omega) (.int .i64 next))))
        clear u3 hsk
        go_wp2_with fail
        exact HO3.out
      · obtain ⟨u1, u2, u3⟩ := rowSet HO2.out HLN2.out k HK2.out 2 (by omega) (.int .i64 next) ⟨tn, lsn, next, td⟩ (by rw [HGE.out]; rfl)
        rw [HGE.out] at u1
        simp only [txC] at u1
        rw [hsk] at u3
        have HO3 := Lib.hid (HFIN.out ⟨tn, lsn, next, td⟩ _ rfl u3 (HB2.out.trans ((Below.refl w.heap.size W2).setCell (p := ⟨g, k * 4 + 2, none⟩) (by show w.heap.size ≤ g; omega) (.int .i64 next))))
        clear u3 hsk
        go_wp2_with fail
        exact HO3.out
      · obtain ⟨u1, u2, u3⟩ := rowSet HO2.out HLN2.out k HK2.out 3 (by omega) (.bool true) ⟨tn, lsn, tx, true⟩ (by rw [HGE.out]; rfl)
        rw [HGE.out] at u1
        simp only [txC] at u1
        rw [hsk] at u3
        have HO3 := Lib.hid (HFIN.out ⟨tn, lsn, tx, true⟩ _ rfl u3 (HB2.out.trans ((Below.refl w.heap.size W2).setCell (p := ⟨g, k * 4 + 3, none⟩) (by show w.heap.size ≤ g; omega) (.bool true))))
        clear u3 hsk
        go_wp2_with fail
        exact HO3.out
      · have HO3 := Lib.hid (HFIN.out ⟨tn, lsn, tx, td⟩ _ rfl HO2.out HB2.out)
        clear hsk
        go_wp2_with fail
        exact HO3.out
end Go.Proofs.YthfglhafphfhiaaGreat
/- Stores in memory; the walks over package txn: Find, Mark. -/
namespace Tx
theorem findS_none {s : St} {n : Int} (h : placeT s.txns n = none) : findS s n = (⟨0, 0, 0, false⟩, false) := by unfold findS; rw [h]
theorem findS_some {s : St} {n : Int} {i : Nat} (h : placeT s.txns n = some i) (hi : i < s.txns.length) : findS s n = (s.txns[i], true) := by unfold findS; rw [h]; simp only; rw [List.getElem?_eq_getElem hi, Option.getD_some]
end Tx
namespace Go.Proofs.YthfglhafphfhiaaGreat
open Go.RowKit
/-- A part of a block is read. -/
theorem listPart {P : Program} {ops : Array Oper} {rest : List Oper} {op : Oper} {a : Act} {w : World} {Q : Exit → Act → World → Prop} (hw : Region.wanted op (yielded ops a.tmps) = true) (ty : TypeId) (x : Operand) (ho : op.op = .load ty x)
    (b o : Nat) (hx : a.eval x = .pointer (some ⟨b, o, none⟩)) (part cells : Array Value) (t : TypeId) (hg : w.heap[b]? = some (.cells cells t (0, 0))) (hp : (cells.toList.drop o).take part.size = part.toList) (d : TypeDesc)
    (hu : P.underlying ty = some d) (hd : d.isRow = true) (hi : (P.info? ty).map (·.size) = some part.size)
    (h : wpList P ops Q rest (a.put op.dst (.agg part)) w) : wpList P ops Q (op :: rest) a w :=
  listWants hw fun K hK => by
    refine wp_load_mid ty x ho b o hx part.toList d (fun j v hj => ?_) hu hd (by simpa using hi) ?_
    · rw [blkCell hg]
      have h1 : j < part.size := by have := (List.getElem?_eq_some_iff.1 hj).1; simpa using this
      rw [← hp, List.getElem?_take, if_pos h1, List.getElem?_drop, Array.getElem?_toList] at hj
      exact hj
    · simpa using hK _ _ h
/-- A part of a block is written. -/
theorem listPut {P : Program} {ops : Array Oper} {rest : List Oper} {op : Oper} {a : Act} {w : World} {Q : Exit → Act → World → Prop} (hw : Region.wanted op (yielded ops a.tmps) = true) (ty : TypeId) (x y : Operand) (ho : op.op = .store ty x y)
    (b o : Nat) (part cur res : Array Value) (t : TypeId) (hx : a.eval x = .pointer (some ⟨b, o, none⟩)) (hy : a.eval y = .agg part) (hg : w.heap[b]? = some (.cells cur t (0, 0))) (hr : res = (cur.toList.take o ++ part.toList ++ cur.toList.drop (o + part.toList.length)).toArray)
    (hsz : decide (o + part.toList.length ≤ cur.size) = true) (hi : (P.info? ty).map (·.size) = some part.size) (h1 : part.all (·.oneCell') = true) (h : wpList P ops Q rest (a.put op.dst undef) (w.setRow b res)) : wpList P ops Q (op :: rest) a w :=
  listWants hw fun K hK => by
    have hst := run_storeCells_at P b o t part.toList 0 cur w hg (by rw [Nat.add_zero]; exact of_decide_eq_true hsz) (fun v hv => (Array.all_eq_true_iff_forall_mem.1 h1) v (by simpa using hv))
    rw [Nat.add_zero, ← hr] at hst
    have hrun : (storeVar ty ⟨b, o, none⟩ (.agg part)).run P w = .ok () (w.setRow b res) := by
      cases hq : P.info? ty with
      | none => simp [hq] at hi
      | some i =>
        have hs : part.size = i.size := by simp [hq] at hi; omega
        simp [storeVar, sizeOf, typeInfo, hq, Value.cells, hs, hst]
    unfold Oper.wp execOp
    simp only [ho, hx, hy, Instr.storeAt, Instr.sureAddr, Sem.run_bind, Sem.run_pure, Result.andThen_ok, hrun]
    exact hK _ _ h
/-- The places of a store's slices. -/
structure SP where
  A : Option Addr
  c : Nat
  F : Option Addr
  fn : Nat
  fc : Nat
  T : Option Addr
  tc : Nat
abbrev storeV (s : Tx.St) (p : SP) : Value := .agg #[.int .i64 s.zlog, .int .i64 s.zpages, .int .i64 s.zframes, .slice p.A s.disk.sectors.length p.c, .int .i64 s.disk.left, .bool s.disk.down, .int .i64 s.log.from_, .int .i64 s.log.n, .int .i64 s.log.end_, .int .i64 s.log.safe, .string s.log.tail, .slice p.F p.fn p.fc, .int .i64 s.hand, .slice p.T s.txns.length p.tc, .int .i64 s.next]
/-- A store's slices lie in memory, in blocks of their own kinds. -/
structure StoreR (w : World) (s : Tx.St) (p : SP) : Prop where
  dk : DiskR w s.disk p.A p.c
  dt : NewT 0 w 9 p.A
  tx : TxR w p.T p.tc s.txns
  tt : NewT 0 w 45 p.T
theorem StoreR.below {w w' : World} {s : Tx.St} {p : SP} (h : StoreR w s p) (hb : Below w.heap.size w w') : StoreR w' s p := ⟨h.dk.below hb, h.dt.below hb, h.tx.below hb, h.tt.below hb⟩
theorem StoreR.other {w : World} {s : Tx.St} {p : SP} (h : StoreR w s p) {b : Nat} {cur : Array Value} {t : TypeId} {fr : Nat × Nat} (hb : w.heap[b]? = some (.cells cur t fr)) (h1 : t ≠ 9) (h2 : t ≠ 45) (cs : Array Value) : StoreR (w.setRow b cs) s p :=
  ⟨⟨h.dt.readsRow h.dk.secs hb h1 cs, h.dk.small⟩, h.dt.row b cs, h.tt.readsRow h.tx hb h2 cs, h.tt.row b cs⟩
theorem StoreR.set {w : World} {s : Tx.St} {p : SP} (h : StoreR w s p) {b : Nat} {cur : Array Value} {t : TypeId} {fr : Nat × Nat} (hb : w.heap[b]? = some (.cells cur t fr)) (h1 : t ≠ 9) (h2 : t ≠ 45) (j : Nat) (v : Value) : StoreR (w.setCell ⟨b, j, none⟩ v) s p := by
  rw [setCell_eq_setRow w b j cur t fr v hb]
  exact h.other hb h1 h2 _
set_option maxRecDepth 100000 in
set_option maxHeartbeats 8000000 in
theorem tfind_any (s : Tx.St) (p : SP) (n : Int) (hts : s.txns.length ≤ 800000) (w : World) (h : StoreR w s p) :
    Calls Tryz.prog 10 #[storeV s p, .int .i64 n] w fun e w' => e = .returned (.tuple #[txV (Tx.findS s n).1, .bool (Tx.findS s n).2]) ∧ Below w.heap.size w w' := by
  have hP := fun W (hb : Below w.heap.size w W) => tplace_any s.txns n (by omega) p.T p.tc W (h.tx.below hb)
  have HTX := Lib.hid h.tx
  clear h
  obtain ⟨zl, zp, zf, ⟨L, lf, dn⟩, ⟨fr, ln, en, sf, tl⟩, hd, ts, nx⟩ := s
  obtain ⟨A, c, FA, fn, fc, TA, tc⟩ := p
  simp only at hP HTX hts
  dsimp only [storeV]
  cases hp : Tx.placeT ts n with
  | none =>
    rw [Tx.findS_none (s := ⟨zl, zp, zf, ⟨L, lf, dn⟩, ⟨fr, ln, en, sf, tl⟩, hd, ts, nx⟩) hp]
    rw [hp] at hP
    unfold PlaceOut at hP
    simp only [Tx.placeI] at hP
    have HP := Lib.hid hP
    clear hP
    go_enter Tryz.func10, Tryz.ntmps10
    go_upto_region 1 with fail
    have H0 := Lib.hid (show BxL w.heap.size w [(#[.int .i64 zl, .int .i64 zp, .int .i64 zf, .slice A L.length c, .int .i64 lf, .bool dn, .int .i64 fr, .int .i64 ln, .int .i64 en, .int .i64 sf, .string tl, .slice FA fn fc, .int .i64 hd, .slice TA ts.length tc, .int .i64 nx], 37), (#[.int .i64 0, .int .i64 0, .int .i64 0, .bool false], 45)] ((w.alloc (.cells #[.int .i64 zl, .int .i64 zp, .int .i64 zf, .slice A L.length c, .int .i64 lf, .bool dn, .int .i64 fr, .int .i64 ln, .int .i64 en, .int .i64 sf, .string tl, .slice FA fn fc, .int .i64 hd, .slice TA ts.length tc, .int .i64 nx] 37)).alloc (.cells #[.int .i64 0, .int .i64 0, .int .i64 0, .bool false] 45)) from (((BxL.nil (Below.refl w.heap.size w)).new (by simp) #[.int .i64 zl, .int .i64 zp, .int .i64 zf, .slice A L.length c, .int .i64 lf, .bool dn, .int .i64 fr, .int .i64 ln, .int .i64 en, .int .i64 sf, .string tl, .slice FA fn fc, .int .i64 hd, .slice TA ts.length tc, .int .i64 nx] 37).new (by simp) #[.int .i64 0, .int .i64 0, .int .i64 0, .bool false] 45))
    obtain ⟨W0, hW0⟩ : ∃ W, W = ((w.alloc (.cells #[.int .i64 zl, .int .i64 zp, .int .i64 zf, .slice A L.length c, .int .i64 lf, .bool dn, .int .i64 fr, .int .i64 ln, .int .i64 en, .int .i64 sf, .string tl, .slice FA fn fc, .int .i64 hd, .slice TA ts.length tc, .int .i64 nx] 37)).alloc (.cells #[.int .i64 0, .int .i64 0, .int .i64 0, .bool false] 45)) := ⟨_, rfl⟩
    rw [← hW0] at H0 ⊢
    clear hW0
    have hc0 := blkCell H0.out.get0
    go_wp2_with (first
      | (go_at_call 35; (with_reducible refine (HP.out _ H0.out.below).mono ?_); rintro e w1 ⟨rfl, hb1⟩; have H1 := Lib.hid (H0.out.step hb1))
      | (with_reducible refine listStore (by kernel_rfl) 45 (.tmp 4) (.tmp 18) rfl (w.heap.size + 1) #[.int .i64 0, .int .i64 0, .int .i64 0, .bool false] _ _ rfl rfl H1.out.get1 (by kernel_rfl) (by kernel_rfl) (by kernel_rfl) ?_))
    refine bodyPost_ret (v := .tuple #[.agg #[.int .i64 0, .int .i64 0, .int .i64 0, .bool false], .bool false]) (results_cell2 rfl _ _ rfl (load_whole (setRow_heap _ _ _ _ _ _ H1.out.get1) Tryz.underlying45 (by kernel_rfl) (by kernel_rfl)) rfl) rfl ?_
    exact ⟨rfl, (H1.out.row 1 _ _ rfl).below⟩
  | some i =>
    obtain ⟨hi, -⟩ := Tx.placeT_some hp
    rw [Tx.findS_some (s := ⟨zl, zp, zf, ⟨L, lf, dn⟩, ⟨fr, ln, en, sf, tl⟩, hd, ts, nx⟩) hp hi]
    simp only
    rw [hp] at hP
    unfold PlaceOut at hP
    simp only [Tx.placeI] at hP
    have HP := Lib.hid hP
    clear hP
    have hi0 : (0 : Int) ≤ (i : Int) := by omega
    have hiI : (i : Int) < (ts.length : Int) := by omega
    obtain ⟨b, off, rfl, hcc, hbl, hcell⟩ := read_at txC_len HTX.out hi
    generalize ts[i] = x at hcell ⊢
    obtain ⟨xa, xb, xc, xd⟩ := x
    have HCELL := Lib.hid hcell
    clear hcell hp hi
    go_enter Tryz.func10, Tryz.ntmps10
    go_upto_region 1 with fail
    have H0 := Lib.hid (show BxL w.heap.size w [(#[.int .i64 zl, .int .i64 zp, .int .i64 zf, .slice A L.length c, .int .i64 lf, .bool dn, .int .i64 fr, .int .i64 ln, .int .i64 en, .int .i64 sf, .string tl, .slice FA fn fc, .int .i64 hd, .slice (some ⟨b, off, none⟩) ts.length tc, .int .i64 nx], 37), (#[.int .i64 0, .int .i64 0, .int .i64 0, .bool false], 45)] ((w.alloc (.cells #[.int .i64 zl, .int .i64 zp, .int .i64 zf, .slice A L.length c, .int .i64 lf, .bool dn, .int .i64 fr, .int .i64 ln, .int .i64 en, .int .i64 sf, .string tl, .slice FA fn fc, .int .i64 hd, .slice (some ⟨b, off, none⟩) ts.length tc, .int .i64 nx] 37)).alloc (.cells #[.int .i64 0, .int .i64 0, .int .i64 0, .bool false] 45)) from (((BxL.nil (Below.refl w.heap.size w)).new (by simp) #[.int .i64 zl, .int .i64 zp, .int .i64 zf, .slice A L.length c, .int .i64 lf, .bool dn, .int .i64 fr, .int .i64 ln, .int .i64 en, .int .i64 sf, .string tl, .slice FA fn fc, .int .i64 hd, .slice (some ⟨b, off, none⟩) ts.length tc, .int .i64 nx] 37).new (by simp) #[.int .i64 0, .int .i64 0, .int .i64 0, .bool false] 45))
    obtain ⟨W0, hW0⟩ : ∃ W, W = ((w.alloc (.cells #[.int .i64 zl, .int .i64 zp, .int .i64 zf, .slice A L.length c, .int .i64 lf, .bool dn, .int .i64 fr, .int .i64 ln, .int .i64 en, .int .i64 sf, .string tl, .slice FA fn fc, .int .i64 hd, .slice (some ⟨b, off, none⟩) ts.length tc, .int .i64 nx] 37)).alloc (.cells #[.int .i64 0, .int .i64 0, .int .i64 0, .bool false] 45)) := ⟨_, rfl⟩
    rw [← hW0] at H0 ⊢
    clear hW0
    have hc0 := blkCell H0.out.get0
    go_wp2_with (first
      | (go_at_call 35; (with_reducible refine (HP.out _ H0.out.below).mono ?_); rintro e w1 ⟨rfl, hb1⟩; have H1 := Lib.hid (H0.out.step hb1); have hc1 := blkCell H1.out.get0; have HR1 : w1.rangeAt b (off + i * 4) [.int .i64 xa, .int .i64 xb, .int .i64 xc, .bool xd] := fun j v hj => (by rw [H1.out.below.cell (p := ⟨b, off + i * 4 + j, none⟩) hbl]; exact HCELL.out j v hj); have HRG := Lib.hid HR1; clear HR1)
      | (with_reducible refine wpList_load_mid rfl 45 (.tmp 16) rfl b (off + i * 4) rfl [.int .i64 xa, .int .i64 xb, .int .i64 xc, .bool xd] _ HRG.out Tryz.underlying45 (by kernel_rfl) (by kernel_rfl) ?_)
      | (with_reducible refine listStore (by kernel_rfl) 45 (.tmp 4) (.tmp 17) rfl (w.heap.size + 1) #[.int .i64 xa, .int .i64 xb, .int .i64 xc, .bool xd] _ _ rfl rfl H1.out.get1 (by kernel_rfl) (by kernel_rfl) (by kernel_rfl) ?_))
    refine bodyPost_ret (v := .tuple #[.agg #[.int .i64 xa, .int .i64 xb, .int .i64 xc, .bool xd], .bool true]) (results_cell2 rfl _ _ rfl (load_whole (setRow_heap _ _ _ _ _ _ H1.out.get1) Tryz.underlying45 (by kernel_rfl) (by kernel_rfl)) rfl) rfl ?_
    exact ⟨rfl, (H1.out.row 1 _ _ rfl).below⟩
set_option maxRecDepth 100000 in
set_option maxHeartbeats 8000000 in
theorem tmark_any (s : Tx.St) (p : SP) (n : Int) (hts : s.txns.length ≤ 800000) (w : World) (h : StoreR w s p) :
    Calls Tryz.prog 13 #[storeV s p, .int .i64 n] w fun e w' => e = .returned (.int .i64 (Tx.markS s n)) ∧ Below w.heap.size w w' := by
  have HF := Lib.hid (fun W (hb : Below w.heap.size w W) => tfind_any s p n hts W (h.below hb))
  unfold Tx.markS
  generalize Tx.findS s n = x at HF ⊢
  obtain ⟨⟨xa, xb, xc, xd⟩, ok⟩ := x
  clear h
  obtain ⟨zl, zp, zf, ⟨L, lf, dn⟩, ⟨fr, ln, en, sf, tl⟩, hd, ts, nx⟩ := s
  obtain ⟨A, c, FA, fn, fc, TA, tc⟩ := p
  dsimp only [storeV] at HF ⊢
  go_enter Tryz.func13, Tryz.ntmps13
  go_upto_region 1 with fail
  have H0 := Lib.hid (show BxL w.heap.size w [(#[.int .i64 zl, .int .i64 zp, .int .i64 zf, .slice A L.length c, .int .i64 lf, .bool dn, .int .i64 fr, .int .i64 ln, .int .i64 en, .int .i64 sf, .string tl, .slice FA fn fc, .int .i64 hd, .slice TA ts.length tc, .int .i64 nx], 37)] (w.alloc (.cells #[.int .i64 zl, .int .i64 zp, .int .i64 zf, .slice A L.length c, .int .i64 lf, .bool dn, .int .i64 fr, .int .i64 ln, .int .i64 en, .int .i64 sf, .string tl, .slice FA fn fc, .int .i64 hd, .slice TA ts.length tc, .int .i64 nx] 37)) from ((BxL.nil (Below.refl w.heap.size w)).new (by simp) #[.int .i64 zl, .int .i64 zp, .int .i64 zf, .slice A L.length c, .int .i64 lf, .bool dn, .int .i64 fr, .int .i64 ln, .int .i64 en, .int .i64 sf, .string tl, .slice FA fn fc, .int .i64 hd, .slice TA ts.length tc, .int .i64 nx] 37))
  obtain ⟨W0, hW0⟩ : ∃ W, W = (w.alloc (.cells #[.int .i64 zl, .int .i64 zp, .int .i64 zf, .slice A L.length c, .int .i64 lf, .bool dn, .int .i64 fr, .int .i64 ln, .int .i64 en, .int .i64 sf, .string tl, .slice FA fn fc, .int .i64 hd, .slice TA ts.length tc, .int .i64 nx] 37)) := ⟨_, rfl⟩
  rw [← hW0] at H0 ⊢
  clear hW0
  go_upto_region 2 with (first
    | (with_reducible refine listLoad (by kernel_rfl) 37 (.tmp 2) rfl w.heap.size rfl #[.int .i64 zl, .int .i64 zp, .int .i64 zf, .slice A L.length c, .int .i64 lf, .bool dn, .int .i64 fr, .int .i64 ln, .int .i64 en, .int .i64 sf, .string tl, .slice FA fn fc, .int .i64 hd, .slice TA ts.length tc, .int .i64 nx] _ H0.out.get0 _ Tryz.underlying37 (by kernel_rfl) (by kernel_rfl) ?_)
    | (go_at_call 10; (with_reducible refine (HF.out _ H0.out.below).mono ?_); rintro e w1 ⟨rfl, hb1⟩)
    | (with_reducible refine wpList_store_new rfl 45 (.tmp 5) (.tmp 11) rfl #[.int .i64 xa, .int .i64 xb, .int .i64 xc, .bool xd] _ _ rfl (by kernel_rfl) (by kernel_rfl) (by kernel_rfl) (by kernel_rfl) ?_))
  have hc1 := blkCell (heap_alloc_new w1 (.cells #[.int .i64 xa, .int .i64 xb, .int .i64 xc, .bool xd] 45))
  have HB := Lib.hid (joinB H0.out.below (pastAlloc (o := .cells #[.int .i64 xa, .int .i64 xb, .int .i64 xc, .bool xd] 45) hb1))
  clear hb1
  go_wp2_with fail
  go_ret
  exact ⟨rfl, HB.out⟩
end Go.Proofs.YthfglhafphfhiaaGreat
/- The walk over package txn: a record is appended, and noted. -/
namespace Go.Proofs.YthfglhafphfhiaaGreat
open Go.RowKit
/-- What a deed with a store answers: a store, and a fault. -/
def StOut (x : Tx.St × Int) (p : SP) (w : World) (e : Ending) (w' : World) : Prop :=
  ∃ p' : SP, e = .returned (.tuple #[storeV x.1 p', .int .i64 x.2]) ∧ StoreR w' x.1 p' ∧ (p'.F = p.F ∧ p'.fn = p.fn ∧ p'.fc = p.fc) ∧ Below w.heap.size w w'
/-- A record of a transaction. -/
abbrev rbR (lsn prev txn kind next : Int) : Rc.Rec := ⟨lsn, prev, txn, kind, 0, next, 0, Rc.noOp, 0, 0, Rc.noKey, [], []⟩
set_option maxRecDepth 100000 in
set_option maxHeartbeats 8000000 in
theorem tnoted_any (s : Tx.St) (p : SP) (hb : Tx.LogB s) (hts : s.txns.length ≤ 800000) (lsn prev txn kind next : Int) (w : World) (h : StoreR w s p) (hkd : Tk kind := by first | assumption | exact .inl rfl | exact .inr (.inl rfl) | exact .inr (.inr (.inl rfl)) | exact .inr (.inr (.inr (.inl rfl))) | exact .inr (.inr (.inr (.inr rfl)))) :
    Calls Tryz.prog 51 #[storeV s p, .agg #[.int .i64 lsn, .int .i64 prev, .int .i64 txn, .int .i64 kind, .int .i64 0, .int .i64 next, .int .i64 0, .int .i64 0, .int .i64 0, .string ⟨#[]⟩, .string ⟨#[]⟩, .int .i64 0, .int .i64 0, .string ⟨#[]⟩, .int .i64 0, .int .i64 0, .slice none 0 0, .slice none 0 0]] w (StOut (Tx.putS s (rbR lsn prev txn kind next)) p w) := by
  have HA := Lib.hid (fun W => append_any s.log hb.e0 (by have := hb.e1; omega) (by have := hb.n0; omega) (by have := hb.n1; omega) (by have := hb.t0; have := hb.e1; omega) (rbR lsn prev txn kind next) none none 0 0 W (recR_nil _ _ rfl rfl))
  have HS := Lib.hid h
  have hput : ∃ x, x = Tx.putS s (rbR lsn prev txn kind next) ∧ ((Lg.appendD s.log (rbR lsn prev txn kind next)).2.2 = 0 → x = ({ s with log := (Lg.appendD s.log (rbR lsn prev txn kind next)).1, txns := Tx.noteT s.txns (rbR (Lg.appendD s.log (rbR lsn prev txn kind next)).2.1 prev txn kind next) }, 0)) ∧ (¬ (Lg.appendD s.log (rbR lsn prev txn kind next)).2.2 = 0 → x = (s, (Lg.appendD s.log (rbR lsn prev txn kind next)).2.2)) := ⟨_, rfl, (fun h0 => by unfold Tx.putS; rw [if_pos h0]), (fun h0 => by unfold Tx.putS; rw [if_neg h0])⟩
  obtain ⟨x, hx, hx0, hx1⟩ := hput
  rw [← hx]
  clear hx
  generalize Lg.appendD s.log (rbR lsn prev txn kind next) = o at HA hx0 hx1
  obtain ⟨⟨gf, gn, ge, gs, gt⟩, n, e⟩ := o
  simp only at hx0 hx1
  have HNT := Lib.hid (fun W (hb : Below w.heap.size w W) => tnote_any s.txns (by omega) p.T p.tc (rbR n prev txn kind next) none none 0 0 0 0 W (h.tx.below hb))
  clear h hb
  by_cases he : e = 0
  · subst he
    have HX := Lib.hid (hx0 rfl)
    clear hx0 hx1
    have HF := Lib.hid (fun (A' : Option Addr) (c' : Nat) w' (hs : StoreR w' { s with log := ⟨gf, gn, ge, gs, gt⟩, txns := Tx.noteT s.txns (rbR n prev txn kind next) } ⟨p.A, p.c, p.F, p.fn, p.fc, A', c'⟩) (hb : Below w.heap.size w w') => show StOut x p w (.returned (.tuple #[storeV { s with log := ⟨gf, gn, ge, gs, gt⟩, txns := Tx.noteT s.txns (rbR n prev txn kind next) } ⟨p.A, p.c, p.F, p.fn, p.fc, A', c'⟩, .int .i64 0])) w' from by rw [HX.out]; exact ⟨_, rfl, hs, ⟨rfl, rfl, rfl⟩, hb⟩)
    generalize StOut x p w = Q at HF ⊢
    have hnl := Tx.noteT_len s.txns (rbR n prev txn kind next)
    generalize Tx.noteT s.txns (rbR n prev txn kind next) = ts2 at HNT HF hnl
    obtain ⟨zl, zp, zf, ⟨L, lf, dn⟩, ⟨fr, ln, en, sf, tl⟩, hd, ts, nx⟩ := s
    obtain ⟨A, c, FA, fn, fc, TA, tc⟩ := p
    dsimp only [storeV, recV, recA, logV, Rc.noOp, Rc.noKey, List.length_nil] at HA HNT HF ⊢
    clear HX
    go_enter Tryz.func51, Tryz.ntmps51
    go_upto_region 1 with fail
    have H0 := Lib.hid (show BxL w.heap.size w [(#[.int .i64 zl, .int .i64 zp, .int .i64 zf, .slice A L.length c, .int .i64 lf, .bool dn, .int .i64 fr, .int .i64 ln, .int .i64 en, .int .i64 sf, .string tl, .slice FA fn fc, .int .i64 hd, .slice TA ts.length tc, .int .i64 nx], 37), (#[.int .i64 lsn, .int .i64 prev, .int .i64 txn, .int .i64 kind, .int .i64 0, .int .i64 next, .int .i64 0, .int .i64 0, .int .i64 0, .string ⟨#[]⟩, .string ⟨#[]⟩, .int .i64 0, .int .i64 0, .string ⟨#[]⟩, .int .i64 0, .int .i64 0, .slice none 0 0, .slice none 0 0], 85), (#[.int .i64 0, .int .i64 0, .int .i64 0, .slice none 0 0, .int .i64 0, .bool false, .int .i64 0, .int .i64 0, .int .i64 0, .int .i64 0, .string ⟨#[]⟩, .slice none 0 0, .int .i64 0, .slice none 0 0, .int .i64 0], 37)] (((w.alloc (.cells #[.int .i64 zl, .int .i64 zp, .int .i64 zf, .slice A L.length c, .int .i64 lf, .bool dn, .int .i64 fr, .int .i64 ln, .int .i64 en, .int .i64 sf, .string tl, .slice FA fn fc, .int .i64 hd, .slice TA ts.length tc, .int .i64 nx] 37)).alloc (.cells #[.int .i64 lsn, .int .i64 prev, .int .i64 txn, .int .i64 kind, .int .i64 0, .int .i64 next, .int .i64 0, .int .i64 0, .int .i64 0, .string ⟨#[]⟩, .string ⟨#[]⟩, .int .i64 0, .int .i64 0, .string ⟨#[]⟩, .int .i64 0, .int .i64 0, .slice none 0 0, .slice none 0 0] 85)).alloc (.cells #[.int .i64 0, .int .i64 0, .int .i64 0, .slice none 0 0, .int .i64 0, .bool false, .int .i64 0, .int .i64 0, .int .i64 0, .int .i64 0, .string ⟨#[]⟩, .slice none 0 0, .int .i64 0, .slice none 0 0, .int .i64 0] 37)) from ((((BxL.nil (Below.refl w.heap.size w)).new (by simp) #[.int .i64 zl, .int .i64 zp, .int .i64 zf, .slice A L.length c, .int .i64 lf, .bool dn, .int .i64 fr, .int .i64 ln, .int .i64 en, .int .i64 sf, .string tl, .slice FA fn fc, .int .i64 hd, .slice TA ts.length tc, .int .i64 nx] 37).new (by simp) #[.int .i64 lsn, .int .i64 prev, .int .i64 txn, .int .i64 kind, .int .i64 0, .int .i64 next, .int .i64 0, .int .i64 0, .int .i64 0, .string ⟨#[]⟩, .string ⟨#[]⟩, .int .i64 0, .int .i64 0, .string ⟨#[]⟩, .int .i64 0, .int .i64 0, .slice none 0 0, .slice none 0 0] 85).new (by simp) #[.int .i64 0, .int .i64 0, .int .i64 0, .slice none 0 0, .int .i64 0, .bool false, .int .i64 0, .int .i64 0, .int .i64 0, .int .i64 0, .string ⟨#[]⟩, .slice none 0 0, .int .i64 0, .slice none 0 0, .int .i64 0] 37))
    obtain ⟨W0, hW0⟩ : ∃ W, W = (((w.alloc (.cells #[.int .i64 zl, .int .i64 zp, .int .i64 zf, .slice A L.length c, .int .i64 lf, .bool dn, .int .i64 fr, .int .i64 ln, .int .i64 en, .int .i64 sf, .string tl, .slice FA fn fc, .int .i64 hd, .slice TA ts.length tc, .int .i64 nx] 37)).alloc (.cells #[.int .i64 lsn, .int .i64 prev, .int .i64 txn, .int .i64 kind, .int .i64 0, .int .i64 next, .int .i64 0, .int .i64 0, .int .i64 0, .string ⟨#[]⟩, .string ⟨#[]⟩, .int .i64 0, .int .i64 0, .string ⟨#[]⟩, .int .i64 0, .int .i64 0, .slice none 0 0, .slice none 0 0] 85)).alloc (.cells #[.int .i64 0, .int .i64 0, .int .i64 0, .slice none 0 0, .int .i64 0, .bool false, .int .i64 0, .int .i64 0, .int .i64 0, .int .i64 0, .string ⟨#[]⟩, .slice none 0 0, .int .i64 0, .slice none 0 0, .int .i64 0] 37)) := ⟨_, rfl⟩
    rw [← hW0] at H0 ⊢
    clear hW0
    go_upto_region 2 with (first
      | (with_reducible refine listPart (by kernel_rfl) 31 (.tmp 10) rfl w.heap.size 6 rfl #[.int .i64 fr, .int .i64 ln, .int .i64 en, .int .i64 sf, .string tl] #[.int .i64 zl, .int .i64 zp, .int .i64 zf, .slice A L.length c, .int .i64 lf, .bool dn, .int .i64 fr, .int .i64 ln, .int .i64 en, .int .i64 sf, .string tl, .slice FA fn fc, .int .i64 hd, .slice TA ts.length tc, .int .i64 nx] _ H0.out.get0 (by kernel_rfl) _ Tryz.underlying31 (by kernel_rfl) (by kernel_rfl) ?_)
      | (with_reducible refine listLoad (by kernel_rfl) 85 (.tmp 3) rfl (w.heap.size + 1) rfl #[.int .i64 lsn, .int .i64 prev, .int .i64 txn, .int .i64 kind, .int .i64 0, .int .i64 next, .int .i64 0, .int .i64 0, .int .i64 0, .string ⟨#[]⟩, .string ⟨#[]⟩, .int .i64 0, .int .i64 0, .string ⟨#[]⟩, .int .i64 0, .int .i64 0, .slice none 0 0, .slice none 0 0] _ H0.out.get1 _ Tryz.underlying85 (by kernel_rfl) (by kernel_rfl) ?_)
      | (go_at_call 63; (with_reducible refine (HA.out _).mono ?_); rintro e w1 ⟨he1, hb1⟩; dsimp only [logV] at he1; subst he1)
      | (with_reducible refine wpList_store_new rfl 31 (.tmp 6) (.tmp 14) rfl #[.int .i64 gf, .int .i64 gn, .int .i64 ge, .int .i64 gs, .string gt] _ _ rfl (by kernel_rfl) (by kernel_rfl) (by kernel_rfl) (by kernel_rfl) ?_))
    have H1 := Lib.hid (H0.out.step (pastAlloc (o := .cells #[.int .i64 gf, .int .i64 gn, .int .i64 ge, .int .i64 gs, .string gt] 31) hb1))
    have HG := Lib.hid (heap_alloc_new w1 (.cells #[.int .i64 gf, .int .i64 gn, .int .i64 ge, .int .i64 gs, .string gt] 31))
    have hgb : w.heap.size + 3 ≤ w1.heap.size := Nat.le_trans (H0.out.lt (i := 2) (by simp)) hb1.size
    obtain ⟨gb, hge⟩ : ∃ gb, gb = w1.heap.size := ⟨_, rfl⟩
    obtain ⟨W1, hW1⟩ : ∃ W, W = w1.alloc (.cells #[.int .i64 gf, .int .i64 gn, .int .i64 ge, .int .i64 gs, .string gt] 31) := ⟨_, rfl⟩
    rw [← hge] at HG hgb
    rw [← hW1] at H1 HG
    rw [← hW1, ← hge]
    clear hge hW1 hb1 H0 HA
    have hc1 := blkCell H1.out.get1
    have hz1 := blkFrozen H1.out.get1
    go_upto_region 5 with fail
    have H2 := Lib.hid (H1.out.set 1 0 (.int .i64 n) _ rfl)
    have HG2 := Lib.hid (show (W1.setCell ⟨w.heap.size + 1, 0, none⟩ (.int .i64 n)).heap[gb]? = some (.cells #[.int .i64 gf, .int .i64 gn, .int .i64 ge, .int .i64 gs, .string gt] 31 (0, 0)) from (Below.heap_setCell _ _ _ _ (by show gb ≠ w.heap.size + 1; omega)).trans HG.out)
    obtain ⟨W2, hW2⟩ : ∃ W, W = W1.setCell ⟨w.heap.size + 1, 0, none⟩ (.int .i64 n) := ⟨_, rfl⟩
    rw [← hW2] at H2 HG2
    rw [← hW2]
    clear hW2 hc1 hz1 H1 HG
    go_upto_region 6 with (first
      | (with_reducible refine listLoad (by kernel_rfl) 31 (.tmp 6) rfl gb rfl #[.int .i64 gf, .int .i64 gn, .int .i64 ge, .int .i64 gs, .string gt] _ HG2.out _ Tryz.underlying31 (by kernel_rfl) (by kernel_rfl) ?_)
      | (with_reducible refine listPut (by kernel_rfl) 31 (.tmp 24) (.tmp 23) rfl w.heap.size 6 #[.int .i64 gf, .int .i64 gn, .int .i64 ge, .int .i64 gs, .string gt] #[.int .i64 zl, .int .i64 zp, .int .i64 zf, .slice A L.length c, .int .i64 lf, .bool dn, .int .i64 fr, .int .i64 ln, .int .i64 en, .int .i64 sf, .string tl, .slice FA fn fc, .int .i64 hd, .slice TA ts.length tc, .int .i64 nx] #[.int .i64 zl, .int .i64 zp, .int .i64 zf, .slice A L.length c, .int .i64 lf, .bool dn, .int .i64 gf, .int .i64 gn, .int .i64 ge, .int .i64 gs, .string gt, .slice FA fn fc, .int .i64 hd, .slice TA ts.length tc, .int .i64 nx] _ rfl rfl H2.out.get0 (by kernel_rfl) (by kernel_rfl) (by kernel_rfl) (by kernel_rfl) ?_))
    have H3 := Lib.hid (H2.out.row 0 #[.int .i64 zl, .int .i64 zp, .int .i64 zf, .slice A L.length c, .int .i64 lf, .bool dn, .int .i64 gf, .int .i64 gn, .int .i64 ge, .int .i64 gs, .string gt, .slice FA fn fc, .int .i64 hd, .slice TA ts.length tc, .int .i64 nx] _ rfl)
    simp only [Nat.add_zero] at H3
    obtain ⟨W3, hW3⟩ : ∃ W, W = W2.setRow w.heap.size #[.int .i64 zl, .int .i64 zp, .int .i64 zf, .slice A L.length c, .int .i64 lf, .bool dn, .int .i64 gf, .int .i64 gn, .int .i64 ge, .int .i64 gs, .string gt, .slice FA fn fc, .int .i64 hd, .slice TA ts.length tc, .int .i64 nx] := ⟨_, rfl⟩
    rw [← hW3] at H3
    rw [← hW3]
    clear hW3 H2 HG2
    have hc3 := blkCell H3.out.get0
    go_upto_region 7 with (first
      | (with_reducible refine listLoad (by kernel_rfl) 85 (.tmp 3) rfl (w.heap.size + 1) rfl #[.int .i64 n, .int .i64 prev, .int .i64 txn, .int .i64 kind, .int .i64 0, .int .i64 next, .int .i64 0, .int .i64 0, .int .i64 0, .string ⟨#[]⟩, .string ⟨#[]⟩, .int .i64 0, .int .i64 0, .string ⟨#[]⟩, .int .i64 0, .int .i64 0, .slice none 0 0, .slice none 0 0] _ H3.out.get1 _ Tryz.underlying85 (by kernel_rfl) (by kernel_rfl) ?_)
      | (go_at_call 54; (with_reducible refine (HNT.out _ H3.out.below).mono ?_); rintro e w4 ⟨A', c', rfl, hr4, ht4, hb4⟩; have H4 := Lib.hid (H3.out.step hb4); have hc4 := blkCell H4.out.get0; have hz4 := blkFrozen H4.out.get0; clear hc3))
    have HS4 := Lib.hid (show StoreR w4 ⟨zl, zp, zf, ⟨L, lf, dn⟩, ⟨gf, gn, ge, gs, gt⟩, hd, ts2, nx⟩ ⟨A, c, FA, fn, fc, A', c'⟩ from ⟨HS.out.dk.below H4.out.below, HS.out.dt.below H4.out.below, hr4, ht4.elim (fun e => by rw [e]; exact HS.out.tt.below H4.out.below) (fun e => e.mono (Nat.zero_le _))⟩)
    have HS5 := Lib.hid (HS4.out.set H4.out.get0 (by decide) (by decide) 13 (.slice A' ts2.length c'))
    have H5 := Lib.hid (H4.out.set 0 13 (.slice A' ts2.length c') _ rfl)
    simp only [Nat.add_zero] at H5
    obtain ⟨W5, hW5⟩ : ∃ W, W = w4.setCell ⟨w.heap.size, 13, none⟩ (.slice A' ts2.length c') := ⟨_, rfl⟩
    rw [← hW5] at H5 HS5
    rw [← hW5]
    clear hW5 hc4 hz4 H4 HS4 hr4 ht4 hb4 H3 HS HNT
    go_wp2_with (first
      | (with_reducible refine listLoad (by kernel_rfl) 37 (.tmp 2) rfl w.heap.size rfl #[.int .i64 zl, .int .i64 zp, .int .i64 zf, .slice A L.length c, .int .i64 lf, .bool dn, .int .i64 gf, .int .i64 gn, .int .i64 ge, .int .i64 gs, .string gt, .slice FA fn fc, .int .i64 hd, .slice A' ts2.length c', .int .i64 nx] _ H5.out.get0 _ Tryz.underlying37 (by kernel_rfl) (by kernel_rfl) ?_)
      | (with_reducible refine listStore (by kernel_rfl) 37 (.tmp 4) (.tmp 30) rfl (w.heap.size + 2) #[.int .i64 zl, .int .i64 zp, .int .i64 zf, .slice A L.length c, .int .i64 lf, .bool dn, .int .i64 gf, .int .i64 gn, .int .i64 ge, .int .i64 gs, .string gt, .slice FA fn fc, .int .i64 hd, .slice A' ts2.length c', .int .i64 nx] _ _ rfl rfl H5.out.get2 (by kernel_rfl) (by kernel_rfl) (by kernel_rfl) ?_))
    refine bodyPost_ret (v := .tuple #[.agg #[.int .i64 zl, .int .i64 zp, .int .i64 zf, .slice A L.length c, .int .i64 lf, .bool dn, .int .i64 gf, .int .i64 gn, .int .i64 ge, .int .i64 gs, .string gt, .slice FA fn fc, .int .i64 hd, .slice A' ts2.length c', .int .i64 nx], .int .i64 0]) (results_cell2 rfl _ _ rfl (load_whole (setRow_heap _ _ _ _ _ _ H5.out.get2) Tryz.underlying37 (by kernel_rfl) (by kernel_rfl)) rfl) rfl ?_
    exact HF.out A' c' _ (HS5.out.other H5.out.get2 (by decide) (by decide) _) ((H5.out.row 2 _ _ rfl).below)
  · have HX := Lib.hid (hx1 he)
    have he1 : (e == 0) = false := by simpa using he
    have he2 : (e != 0) = true := by simpa using he
    clear hx0 hx1 he HNT
    have HF := Lib.hid (fun w' (hb : Below w.heap.size w w') => show StOut x p w (.returned (.tuple #[storeV s p, .int .i64 e])) w' from by rw [HX.out]; exact ⟨_, rfl, HS.out.below hb, ⟨rfl, rfl, rfl⟩, hb⟩)
    generalize StOut x p w = Q at HF ⊢
    clear HX HS hts
    obtain ⟨zl, zp, zf, ⟨L, lf, dn⟩, ⟨fr, ln, en, sf, tl⟩, hd, ts, nx⟩ := s
    obtain ⟨A, c, FA, fn, fc, TA, tc⟩ := p
    dsimp only [storeV, recV, recA, logV, Rc.noOp, Rc.noKey, List.length_nil] at HA HF ⊢
    go_enter Tryz.func51, Tryz.ntmps51
    go_upto_region 1 with fail
    have H0 := Lib.hid (show BxL w.heap.size w [(#[.int .i64 zl, .int .i64 zp, .int .i64 zf, .slice A L.length c, .int .i64 lf, .bool dn, .int .i64 fr, .int .i64 ln, .int .i64 en, .int .i64 sf, .string tl, .slice FA fn fc, .int .i64 hd, .slice TA ts.length tc, .int .i64 nx], 37), (#[.int .i64 lsn, .int .i64 prev, .int .i64 txn, .int .i64 kind, .int .i64 0, .int .i64 next, .int .i64 0, .int .i64 0, .int .i64 0, .string ⟨#[]⟩, .string ⟨#[]⟩, .int .i64 0, .int .i64 0, .string ⟨#[]⟩, .int .i64 0, .int .i64 0, .slice none 0 0, .slice none 0 0], 85), (#[.int .i64 0, .int .i64 0, .int .i64 0, .slice none 0 0, .int .i64 0, .bool false, .int .i64 0, .int .i64 0, .int .i64 0, .int .i64 0, .string ⟨#[]⟩, .slice none 0 0, .int .i64 0, .slice none 0 0, .int .i64 0], 37)] (((w.alloc (.cells #[.int .i64 zl, .int .i64 zp, .int .i64 zf, .slice A L.length c, .int .i64 lf, .bool dn, .int .i64 fr, .int .i64 ln, .int .i64 en, .int .i64 sf, .string tl, .slice FA fn fc, .int .i64 hd, .slice TA ts.length tc, .int .i64 nx] 37)).alloc (.cells #[.int .i64 lsn, .int .i64 prev, .int .i64 txn, .int .i64 kind, .int .i64 0, .int .i64 next, .int .i64 0, .int .i64 0, .int .i64 0, .string ⟨#[]⟩, .string ⟨#[]⟩, .int .i64 0, .int .i64 0, .string ⟨#[]⟩, .int .i64 0, .int .i64 0, .slice none 0 0, .slice none 0 0] 85)).alloc (.cells #[.int .i64 0, .int .i64 0, .int .i64 0, .slice none 0 0, .int .i64 0, .bool false, .int .i64 0, .int .i64 0, .int .i64 0, .int .i64 0, .string ⟨#[]⟩, .slice none 0 0, .int .i64 0, .slice none 0 0, .int .i64 0] 37)) from ((((BxL.nil (Below.refl w.heap.size w)).new (by simp) #[.int .i64 zl, .int .i64 zp, .int .i64 zf, .slice A L.length c, .int .i64 lf, .bool dn, .int .i64 fr, .int .i64 ln, .int .i64 en, .int .i64 sf, .string tl, .slice FA fn fc, .int .i64 hd, .slice TA ts.length tc, .int .i64 nx] 37).new (by simp) #[.int .i64 lsn, .int .i64 prev, .int .i64 txn, .int .i64 kind, .int .i64 0, .int .i64 next, .int .i64 0, .int .i64 0, .int .i64 0, .string ⟨#[]⟩, .string ⟨#[]⟩, .int .i64 0, .int .i64 0, .string ⟨#[]⟩, .int .i64 0, .int .i64 0, .slice none 0 0, .slice none 0 0] 85).new (by simp) #[.int .i64 0, .int .i64 0, .int .i64 0, .slice none 0 0, .int .i64 0, .bool false, .int .i64 0, .int .i64 0, .int .i64 0, .int .i64 0, .string ⟨#[]⟩, .slice none 0 0, .int .i64 0, .slice none 0 0, .int .i64 0] 37))
    obtain ⟨W0, hW0⟩ : ∃ W, W = (((w.alloc (.cells #[.int .i64 zl, .int .i64 zp, .int .i64 zf, .slice A L.length c, .int .i64 lf, .bool dn, .int .i64 fr, .int .i64 ln, .int .i64 en, .int .i64 sf, .string tl, .slice FA fn fc, .int .i64 hd, .slice TA ts.length tc, .int .i64 nx] 37)).alloc (.cells #[.int .i64 lsn, .int .i64 prev, .int .i64 txn, .int .i64 kind, .int .i64 0, .int .i64 next, .int .i64 0, .int .i64 0, .int .i64 0, .string ⟨#[]⟩, .string ⟨#[]⟩, .int .i64 0, .int .i64 0, .string ⟨#[]⟩, .int .i64 0, .int .i64 0, .slice none 0 0, .slice none 0 0] 85)).alloc (.cells #[.int .i64 0, .int .i64 0, .int .i64 0, .slice none 0 0, .int .i64 0, .bool false, .int .i64 0, .int .i64 0, .int .i64 0, .int .i64 0, .string ⟨#[]⟩, .slice none 0 0, .int .i64 0, .slice none 0 0, .int .i64 0] 37)) := ⟨_, rfl⟩
    rw [← hW0] at H0 ⊢
    clear hW0
    go_upto_region 2 with (first
      | (with_reducible refine listPart (by kernel_rfl) 31 (.tmp 10) rfl w.heap.size 6 rfl #[.int .i64 fr, .int .i64 ln, .int .i64 en, .int .i64 sf, .string tl] #[.int .i64 zl, .int .i64 zp, .int .i64 zf, .slice A L.length c, .int .i64 lf, .bool dn, .int .i64 fr, .int .i64 ln, .int .i64 en, .int .i64 sf, .string tl, .slice FA fn fc, .int .i64 hd, .slice TA ts.length tc, .int .i64 nx] _ H0.out.get0 (by kernel_rfl) _ Tryz.underlying31 (by kernel_rfl) (by kernel_rfl) ?_)
      | (with_reducible refine listLoad (by kernel_rfl) 85 (.tmp 3) rfl (w.heap.size + 1) rfl #[.int .i64 lsn, .int .i64 prev, .int .i64 txn, .int .i64 kind, .int .i64 0, .int .i64 next, .int .i64 0, .int .i64 0, .int .i64 0, .string ⟨#[]⟩, .string ⟨#[]⟩, .int .i64 0, .int .i64 0, .string ⟨#[]⟩, .int .i64 0, .int .i64 0, .slice none 0 0, .slice none 0 0] _ H0.out.get1 _ Tryz.underlying85 (by kernel_rfl) (by kernel_rfl) ?_)
      | (go_at_call 63; (with_reducible refine (HA.out _).mono ?_); rintro e1 w1 ⟨he1, hb1⟩; dsimp only [logV] at he1; subst he1)
      | (with_reducible refine wpList_store_new rfl 31 (.tmp 6) (.tmp 14) rfl #[.int .i64 gf, .int .i64 gn, .int .i64 ge, .int .i64 gs, .string gt] _ _ rfl (by kernel_rfl) (by kernel_rfl) (by kernel_rfl) (by kernel_rfl) ?_))
    have H1 := Lib.hid (H0.out.step (pastAlloc (o := .cells #[.int .i64 gf, .int .i64 gn, .int .i64 ge, .int .i64 gs, .string gt] 31) hb1))
    obtain ⟨W1, hW1⟩ : ∃ W, W = w1.alloc (.cells #[.int .i64 gf, .int .i64 gn, .int .i64 ge, .int .i64 gs, .string gt] 31) := ⟨_, rfl⟩
    rw [← hW1] at H1
    rw [← hW1]
    clear hW1 hb1 H0 HA
    go_wp2_with (first
      | (with_reducible refine listLoad (by kernel_rfl) 37 (.tmp 2) rfl w.heap.size rfl #[.int .i64 zl, .int .i64 zp, .int .i64 zf, .slice A L.length c, .int .i64 lf, .bool dn, .int .i64 fr, .int .i64 ln, .int .i64 en, .int .i64 sf, .string tl, .slice FA fn fc, .int .i64 hd, .slice TA ts.length tc, .int .i64 nx] _ H1.out.get0 _ Tryz.underlying37 (by kernel_rfl) (by kernel_rfl) ?_)
      | (with_reducible refine listStore (by kernel_rfl) 37 (.tmp 4) (.tmp 19) rfl (w.heap.size + 2) #[.int .i64 zl, .int .i64 zp, .int .i64 zf, .slice A L.length c, .int .i64 lf, .bool dn, .int .i64 fr, .int .i64 ln, .int .i64 en, .int .i64 sf, .string tl, .slice FA fn fc, .int .i64 hd, .slice TA ts.length tc, .int .i64 nx] _ _ rfl rfl H1.out.get2 (by kernel_rfl) (by kernel_rfl) (by kernel_rfl) ?_))
    refine bodyPost_ret (v := .tuple #[.agg #[.int .i64 zl, .int .i64 zp, .int .i64 zf, .slice A L.length c, .int .i64 lf, .bool dn, .int .i64 fr, .int .i64 ln, .int .i64 en, .int .i64 sf, .string tl, .slice FA fn fc, .int .i64 hd, .slice TA ts.length tc, .int .i64 nx], .int .i64 e]) (results_cell2 rfl _ _ rfl (load_whole (setRow_heap _ _ _ _ _ _ H1.out.get2) Tryz.underlying37 (by kernel_rfl) (by kernel_rfl)) rfl) rfl ?_
    exact HF.out _ ((H1.out.row 2 _ _ rfl).below)
end Go.Proofs.YthfglhafphfhiaaGreat
