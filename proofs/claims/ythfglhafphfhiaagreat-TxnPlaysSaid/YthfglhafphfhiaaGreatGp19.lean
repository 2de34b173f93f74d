/- Plain facts for the reference's Commit: the log stays aligned, the transaction that commits is there. -/
import Derived.Test.YthfglhafphfhiaaGreatGp17
import Derived.Test.YthfglhafphfhiaaGreatGp06
import Derived.Test.YthfglhafphfhiaaGreatGp16
import Derived.Test.YthfglhafphfhiaaGreatGp09
import Derived.Test.YthfglhafphfhiaaGreatGp18
namespace Tx
open Rc Lg
theorem al_append {l : Lo} (r : Rec) (h : Al l) : Al (appendD l r).1 := by
  have h1 := h.s0
  have h2 := h.se
  have h3 := h.tl
  by_cases hR : Right { r with lsn := l.end_ + 1 }
  · by_cases hF : l.n * 128 - ((putR { r with lsn := l.end_ + 1 }).length : Int) < l.end_
    · unfold appendD
      simp only
      rw [if_neg (fun hn => hn hR), if_pos hF]
      exact h
    · have e : (appendD l r).1 = { l with end_ := l.end_ + ((putR { r with lsn := l.end_ + 1 }).length : Int), tail := l.tail ++ ⟨(putR { r with lsn := l.end_ + 1 }).toArray⟩ } := by
        unfold appendD
        simp only
        rw [if_neg (fun hn => hn hR), if_neg hF]
      rw [e]
      have hz : (⟨(putR { r with lsn := l.end_ + 1 }).toArray⟩ : ByteArray).size = (putR { r with lsn := l.end_ + 1 }).length := by show (putR { r with lsn := l.end_ + 1 }).toArray.size = _; simp
      refine ⟨h1, ?_, ?_⟩
      · show l.safe ≤ l.end_ + ((putR { r with lsn := l.end_ + 1 }).length : Int); omega
      · show l.end_ + ((putR { r with lsn := l.end_ + 1 }).length : Int) - ((l.tail ++ ⟨(putR { r with lsn := l.end_ + 1 }).toArray⟩).size : Int) = l.safe - l.safe % 128
        rw [ByteArray.size_append, hz]
        omega
  · unfold appendD
    simp only
    rw [if_pos hR]
    exact h
theorem al_put {s : St} (r : Rec) (h : Al s.log) : Al (putS s r).1.log := by
  unfold putS
  split
  · exact al_append r h
  · exact h
theorem al_own {s : St} (n : Int) (o : Bool) (r : Rec) (h : Al s.log) : Al (ownS s n o r).1.log := by
  unfold ownS
  split
  · exact h
  · split
    · exact h
    · exact al_put _ h
theorem note_found {l : List TxnAt} {r : Rec} {k : Nat} (hk : placeT l r.txn = some k) (h7 : r.kind ≠ 7) : ∃ j, placeT (noteT l r) r.txn = some j := by
  unfold noteT
  split
  · exact ⟨k, hk⟩
  · rw [hk]
    simp only
    cases hp : placeT (l.take k ++ tuneT r (l[k]?.getD ⟨0, 0, 0, false⟩) :: l.drop (k + 1)) r.txn with
    | some j => exact ⟨j, rfl⟩
    | none =>
      exfalso
      obtain ⟨hi, h1, _⟩ := placeT_some hk
      have h2 := placeT_none hp (tuneT r (l[k]?.getD ⟨0, 0, 0, false⟩)) (by simp)
      apply h2
      show (l[k]?.getD ⟨0, 0, 0, false⟩).txn = _
      rw [List.getElem?_eq_getElem hi]
      exact h1
theorem own_found {s : St} {n : Int} (h : (ownS s n true (bare 5 0 0 0)).2 = 0) : ∃ k, placeT (ownS s n true (bare 5 0 0 0)).1.txns n = some k := by
  unfold ownS at h ⊢
  split at h
  · exact absurd h (by show ¬ (21 : Int) = 0; decide)
  · rename_i hf
    split at h
    · exact absurd h (by show ¬ (17 : Int) = 0; decide)
    · rename_i hd
      rw [if_neg hf, if_neg hd]
      obtain ⟨k, hk⟩ : ∃ k, placeT s.txns n = some k := by
        unfold findS at hf
        cases hp : placeT s.txns n with
        | none => rw [hp] at hf; exact absurd rfl hf
        | some k => exact ⟨k, rfl⟩
      unfold putS at h ⊢
      split at h
      · rename_i hz
        rw [if_pos hz]
        exact note_found (r := { { bare 5 0 0 0 with txn := n, prev := (findS s n).1.last } with lsn := (appendD s.log { bare 5 0 0 0 with txn := n, prev := (findS s n).1.last }).2.1 }) hk (by show ¬ (5 : Int) = 7; decide)
      · rename_i hz
        exact absurd h hz
theorem end_found {s : St} {n : Int} (h : ∃ k, placeT s.txns n = some k) : endS s n = putS s (bare 7 0 (markS s n) n) := by
  obtain ⟨k, hk⟩ := h
  have hf : (findS s n).2 = true := by unfold findS; rw [hk]
  unfold endS ownS
  rw [if_neg (by rw [hf]; decide), if_neg (fun hc => by have := hc.1; cases this)]
  rfl
theorem note_end (l : List TxnAt) (a b n : Int) : noteT l (bare 7 0 a n) = noteT l (bare 7 0 b n) := by
  unfold noteT
  have e : noted (bare 7 0 a n) ↔ noted (bare 7 0 b n) := Iff.rfl
  have k1 : (bare 7 0 a n).kind = 7 := rfl
  have k2 : (bare 7 0 b n).kind = 7 := rfl
  have t1 : (bare 7 0 a n).txn = n := rfl
  have t2 : (bare 7 0 b n).txn = n := rfl
  by_cases hn : noted (bare 7 0 a n)
  · rw [if_neg (not_not_intro hn), if_neg (not_not_intro (e.1 hn)), t1, t2]
    cases placeT l n with
    | none => simp only [k1, k2, if_true]
    | some i => simp only [k1, k2, if_true]
  · rw [if_pos hn, if_pos (fun hc => hn (e.2 hc))]
theorem close_yes {s : St} {n : Int} (h : ∃ k, placeT s.txns n = some k) (h2 : (endS s n).2 = 0) : closeS s n = ((endS s n).1, 0) := by
  rw [end_found h] at h2 ⊢
  unfold closeS
  rw [if_pos h2]
theorem close_full {s : St} {n : Int} (h : ∃ k, placeT s.txns n = some k) (h2 : ¬ (endS s n).2 = 0) : closeS s n = ({ s with txns := noteT s.txns (bare 7 0 0 n) }, 0) := by
  rw [end_found h] at h2
  unfold closeS
  rw [if_neg h2, note_end s.txns (markS s n) 0 n]
end Tx
/- The walk over the reference of transactions: Commit. -/
namespace Tx
theorem own_same {s : St} {n : Int} {o : Bool} {r : Rc.Rec} (h : ¬ (ownS s n o r).2 = 0) : (ownS s n o r).1 = s := by
  unfold ownS at h ⊢
  split
  · rfl
  · rename_i h1
    rw [if_neg h1] at h
    split
    · rfl
    · rename_i h2
      rw [if_neg h2] at h
      unfold putS at h ⊢
      split
      · rename_i h3
        rw [if_pos h3] at h
        exact absurd rfl h
      · rfl
end Tx
namespace Go.Proofs.YthfglhafphfhiaaGreat
open Go.RowKit
set_option maxRecDepth 100000 in
set_option maxHeartbeats 8000000 in
theorem rcommit_any (s : Tx.St) (p : SP) (hb : Tx.LogB s) (hal : Lg.Al s.log) (hts : s.txns.length ≤ 700000) (hlf : -9223372036854775808 ≤ s.disk.left ∧ s.disk.left ≤ 9223372036854775807) (n : Int) (w : World) (h : StoreR w s p) :
    Calls Tryz.prog 31 #[storeV s p, .int .i64 n] w (StOut (Tx.commitS s n) p w) := by
  have HO := Lib.hid (fun W (hw : Below w.heap.size w W) => show Calls Tryz.prog 57 #[storeV s p, .agg #[.int .i64 0, .int .i64 0, .int .i64 n, .int .i64 5, .int .i64 0, .int .i64 0, .int .i64 0, .int .i64 0, .int .i64 0, .string ⟨#[]⟩, .string ⟨#[]⟩, .int .i64 0, .int .i64 0, .string ⟨#[]⟩, .int .i64 0, .int .i64 0, .slice none 0 0, .slice none 0 0], .bool true] W (StOut (Tx.ownS s n true (Rc.bare 5 0 0 0)) p W) from rown_any s p hb (by omega) n true 0 0 5 0 W (h.below hw))
  have HS0 := Lib.hid (fun W (hw : Below w.heap.size w W) => h.below hw)
  have hb1 := Tx.logB_own hb n true (Rc.bare 5 0 0 0)
  have hl1 := Tx.ownS_len s n true (Rc.bare 5 0 0 0)
  have hd1 := Tx.ownS_disk s n true (Rc.bare 5 0 0 0)
  have ha1 := Tx.al_own n true (Rc.bare 5 0 0 0) hal
  have hf1 := @Tx.own_found s n
  have hs1 := @Tx.own_same s n true (Rc.bare 5 0 0 0)
  have c1 := @Tx.commitS_no s n
  have c2 := @Tx.commitS_stop s n
  have c3 := @Tx.commitS_go s n
  have HM := Lib.hid (fun y (p' : SP) w' (hx : Tx.commitS s n = y) (hs : StoreR w' y.1 p') (hf : p'.F = p.F ∧ p'.fn = p.fn ∧ p'.fc = p.fc) (hb : Below w.heap.size w w') => show StOut (Tx.commitS s n) p w (.returned (.tuple #[storeV y.1 p', .int .i64 y.2])) w' from by rw [hx]; exact ⟨_, rfl, hs, hf, hb⟩)
  generalize StOut (Tx.commitS s n) p w = Q at HM ⊢
  generalize Tx.commitS s n = R at c1 c2 c3 HM
  generalize Tx.ownS s n true (Rc.bare 5 0 0 0) = y1 at HO hb1 hl1 hd1 ha1 hf1 hs1 c1 c2 c3
  have hlf1 : -9223372036854775808 ≤ y1.1.disk.left ∧ y1.1.disk.left ≤ 9223372036854775807 := by rw [hd1]; exact hlf
  have hlen1 : y1.1.txns.length ≤ 700001 := by omega
  clear hl1 hd1 hlf hb hts h hal
  by_cases he : y1.2 = 0
  rotate_left
  · have hx := c1 he
    have hs2 := hs1 he
    have HMF := Lib.hid (fun w' (hw : Below w.heap.size w w') => show Q (.returned (.tuple #[storeV s p, .int .i64 y1.2])) w' from by
      have h9 := HM.out y1 p w' hx (by rw [hs2]; exact HS0.out w' hw) ⟨rfl, rfl, rfl⟩ hw
      rw [hs2] at h9
      exact h9)
    have he1 : (y1.2 == 0) = false := by simpa using he
    have he2 : (y1.2 != 0) = true := by simpa using he
    clear c1 c2 c3 HM he hb1 hlf1 hlen1 hs1 hs2 hx hf1 ha1 HS0
    obtain ⟨⟨zl2, zp2, zf2, ⟨L2, lf2, dn2⟩, ⟨fr2, ln2, en2, sf2, tl2⟩, hd2, ts2, nx2⟩, e2⟩ := y1
    obtain ⟨zl, zp, zf, ⟨L, lf, dn⟩, ⟨fr, ln, en, sf, tl⟩, hd, ts, nx⟩ := s
    obtain ⟨A, c, FA, fn, fc, TA, tc⟩ := p
    dsimp only [storeV] at HO HMF he1 he2 ⊢
    go_enter Tryz.func31, Tryz.ntmps31
    go_upto_region 1 with fail
    have H0 := Lib.hid (show BxL w.heap.size w [(#[.int .i64 zl, .int .i64 zp, .int .i64 zf, .slice A L.length c, .int .i64 lf, .bool dn, .int .i64 fr, .int .i64 ln, .int .i64 en, .int .i64 sf, .string tl, .slice FA fn fc, .int .i64 hd, .slice TA ts.length tc, .int .i64 nx], 37), (#[.int .i64 0, .int .i64 0, .int .i64 0, .slice none 0 0, .int .i64 0, .bool false, .int .i64 0, .int .i64 0, .int .i64 0, .int .i64 0, .string ⟨#[]⟩, .slice none 0 0, .int .i64 0, .slice none 0 0, .int .i64 0], 37)] ((w.alloc (.cells #[.int .i64 zl, .int .i64 zp, .int .i64 zf, .slice A L.length c, .int .i64 lf, .bool dn, .int .i64 fr, .int .i64 ln, .int .i64 en, .int .i64 sf, .string tl, .slice FA fn fc, .int .i64 hd, .slice TA ts.length tc, .int .i64 nx] 37)).alloc (.cells #[.int .i64 0, .int .i64 0, .int .i64 0, .slice none 0 0, .int .i64 0, .bool false, .int .i64 0, .int .i64 0, .int .i64 0, .int .i64 0, .string ⟨#[]⟩, .slice none 0 0, .int .i64 0, .slice none 0 0, .int .i64 0] 37)) from (((BxL.nil (Below.refl w.heap.size w)).new (by simp) #[.int .i64 zl, .int .i64 zp, .int .i64 zf, .slice A L.length c, .int .i64 lf, .bool dn, .int .i64 fr, .int .i64 ln, .int .i64 en, .int .i64 sf, .string tl, .slice FA fn fc, .int .i64 hd, .slice TA ts.length tc, .int .i64 nx] 37).new (by simp) #[.int .i64 0, .int .i64 0, .int .i64 0, .slice none 0 0, .int .i64 0, .bool false, .int .i64 0, .int .i64 0, .int .i64 0, .int .i64 0, .string ⟨#[]⟩, .slice none 0 0, .int .i64 0, .slice none 0 0, .int .i64 0] 37))
    obtain ⟨W0, hW0⟩ : ∃ W, W = ((w.alloc (.cells #[.int .i64 zl, .int .i64 zp, .int .i64 zf, .slice A L.length c, .int .i64 lf, .bool dn, .int .i64 fr, .int .i64 ln, .int .i64 en, .int .i64 sf, .string tl, .slice FA fn fc, .int .i64 hd, .slice TA ts.length tc, .int .i64 nx] 37)).alloc (.cells #[.int .i64 0, .int .i64 0, .int .i64 0, .slice none 0 0, .int .i64 0, .bool false, .int .i64 0, .int .i64 0, .int .i64 0, .int .i64 0, .string ⟨#[]⟩, .slice none 0 0, .int .i64 0, .slice none 0 0, .int .i64 0] 37)) := ⟨_, rfl⟩
    rw [← hW0] at H0 ⊢
    clear hW0
    go_upto_region 2 with (first
      | (with_reducible refine listLoad (by kernel_rfl) 37 (.tmp 2) rfl w.heap.size rfl #[.int .i64 zl, .int .i64 zp, .int .i64 zf, .slice A L.length c, .int .i64 lf, .bool dn, .int .i64 fr, .int .i64 ln, .int .i64 en, .int .i64 sf, .string tl, .slice FA fn fc, .int .i64 hd, .slice TA ts.length tc, .int .i64 nx] _ H0.out.get0 _ Tryz.underlying37 (by kernel_rfl) (by kernel_rfl) ?_)
      | (go_at_call 57; (with_reducible refine (HO.out _ H0.out.below).mono ?_); rintro e w5 ⟨p', he, hs5, hf5, hb5⟩; clear hf5 hs5; obtain ⟨A2, c2, FA2, fn2, fc2, TA2, tc2⟩ := p'; (try dsimp only [storeV] at he); subst he)
      | (with_reducible refine wpList_store_new rfl 37 (.tmp 6) (.tmp 18) rfl #[.int .i64 zl2, .int .i64 zp2, .int .i64 zf2, .slice A2 L2.length c2, .int .i64 lf2, .bool dn2, .int .i64 fr2, .int .i64 ln2, .int .i64 en2, .int .i64 sf2, .string tl2, .slice FA2 fn2 fc2, .int .i64 hd2, .slice TA2 ts2.length tc2, .int .i64 nx2] _ _ rfl (by kernel_rfl) (by kernel_rfl) (by kernel_rfl) (by kernel_rfl) ?_))
    have H5 := Lib.hid (H0.out.step (pastAlloc (o := .cells #[.int .i64 zl2, .int .i64 zp2, .int .i64 zf2, .slice A2 L2.length c2, .int .i64 lf2, .bool dn2, .int .i64 fr2, .int .i64 ln2, .int .i64 en2, .int .i64 sf2, .string tl2, .slice FA2 fn2 fc2, .int .i64 hd2, .slice TA2 ts2.length tc2, .int .i64 nx2] 37) hb5))
    obtain ⟨W5, hW5⟩ : ∃ W, W = w5.alloc (.cells #[.int .i64 zl2, .int .i64 zp2, .int .i64 zf2, .slice A2 L2.length c2, .int .i64 lf2, .bool dn2, .int .i64 fr2, .int .i64 ln2, .int .i64 en2, .int .i64 sf2, .string tl2, .slice FA2 fn2 fc2, .int .i64 hd2, .slice TA2 ts2.length tc2, .int .i64 nx2] 37) := ⟨_, rfl⟩
    rw [← hW5] at H5
    rw [← hW5]
    clear hW5 hb5 H0 HO
    go_wp2_with (first
      | (with_reducible refine listLoad (by kernel_rfl) 37 (.tmp 2) rfl w.heap.size rfl #[.int .i64 zl, .int .i64 zp, .int .i64 zf, .slice A L.length c, .int .i64 lf, .bool dn, .int .i64 fr, .int .i64 ln, .int .i64 en, .int .i64 sf, .string tl, .slice FA fn fc, .int .i64 hd, .slice TA ts.length tc, .int .i64 nx] _ H5.out.get0 _ Tryz.underlying37 (by kernel_rfl) (by kernel_rfl) ?_)
      | (with_reducible refine listStore (by kernel_rfl) 37 (.tmp 4) (.tmp 22) rfl (w.heap.size + 1) #[.int .i64 zl, .int .i64 zp, .int .i64 zf, .slice A L.length c, .int .i64 lf, .bool dn, .int .i64 fr, .int .i64 ln, .int .i64 en, .int .i64 sf, .string tl, .slice FA fn fc, .int .i64 hd, .slice TA ts.length tc, .int .i64 nx] _ _ rfl rfl H5.out.get1 (by kernel_rfl) (by kernel_rfl) (by kernel_rfl) ?_))
    refine bodyPost_ret (v := .tuple #[.agg #[.int .i64 zl, .int .i64 zp, .int .i64 zf, .slice A L.length c, .int .i64 lf, .bool dn, .int .i64 fr, .int .i64 ln, .int .i64 en, .int .i64 sf, .string tl, .slice FA fn fc, .int .i64 hd, .slice TA ts.length tc, .int .i64 nx], .int .i64 e2]) (results_cell2 rfl _ _ rfl (load_whole (setRow_heap _ _ _ _ _ _ H5.out.get1) Tryz.underlying37 (by kernel_rfl) (by kernel_rfl)) rfl) rfl ?_
    exact HMF.out _ ((H5.out.row 1 _ _ rfl).below)
  have d2 := c2 he
  have d3 := c3 he
  have hfd := hf1 he
  clear c1 c2 c3 hs1 hf1 HS0
  have hb2 := Tx.logB_force hb1
  have hff : Tx.forceS y1.1 = ({ y1.1 with disk := (Lg.forceD y1.1.disk y1.1.log).1, log := (Lg.forceD y1.1.disk y1.1.log).2.1 }, (Lg.forceD y1.1.disk y1.1.log).2.2) := rfl
  rw [hff] at d2 d3 hb2
  clear hff
  have HFO := Lib.hid (fun A c W (hd : DiskR W y1.1.disk A c) (hT : NewT 0 W 9 A) => rforce_any y1.1.disk hlf1 A c y1.1.log ha1 (by have := hb1.e1; omega) (by have := hb1.n0; omega) (by have := hb1.n1; omega) (by have := hb1.f; omega) (by have := hb1.f; omega) (by have := hb1.t0; have := hb1.e1; omega) W hd hT)
  generalize Lg.forceD y1.1.disk y1.1.log = fo at HFO d2 d3 hb2
  obtain ⟨⟨L3, lf3, dn3⟩, ⟨fr3, ln3, en3, sf3, tl3⟩, e3⟩ := fo
  obtain ⟨⟨zl2, zp2, zf2, ⟨L2, lf2, dn2⟩, ⟨fr2, ln2, en2, sf2, tl2⟩, hd2, ts2, nx2⟩, e2⟩ := y1
  simp only at he d2 d3 hb2 hlen1 HFO hfd
  subst he
  clear hb1 hlf1 ha1
  have HB2 := Lib.hid hb2
  have HFD := Lib.hid hfd
  clear hb2 hfd
  obtain ⟨zl, zp, zf, ⟨L, lf, dn⟩, ⟨fr, ln, en, sf, tl⟩, hd, ts, nx⟩ := s
  obtain ⟨A, c, FA, fn, fc, TA, tc⟩ := p
  dsimp only [storeV, diskV, logV] at HO HFO ⊢
  go_enter Tryz.func31, Tryz.ntmps31
  go_upto_region 1 with fail
  have H0 := Lib.hid (show BxL w.heap.size w [(#[.int .i64 zl, .int .i64 zp, .int .i64 zf, .slice A L.length c, .int .i64 lf, .bool dn, .int .i64 fr, .int .i64 ln, .int .i64 en, .int .i64 sf, .string tl, .slice FA fn fc, .int .i64 hd, .slice TA ts.length tc, .int .i64 nx], 37), (#[.int .i64 0, .int .i64 0, .int .i64 0, .slice none 0 0, .int .i64 0, .bool false, .int .i64 0, .int .i64 0, .int .i64 0, .int .i64 0, .string ⟨#[]⟩, .slice none 0 0, .int .i64 0, .slice none 0 0, .int .i64 0], 37)] ((w.alloc (.cells #[.int .i64 zl, .int .i64 zp, .int .i64 zf, .slice A L.length c, .int .i64 lf, .bool dn, .int .i64 fr, .int .i64 ln, .int .i64 en, .int .i64 sf, .string tl, .slice FA fn fc, .int .i64 hd, .slice TA ts.length tc, .int .i64 nx] 37)).alloc (.cells #[.int .i64 0, .int .i64 0, .int .i64 0, .slice none 0 0, .int .i64 0, .bool false, .int .i64 0, .int .i64 0, .int .i64 0, .int .i64 0, .string ⟨#[]⟩, .slice none 0 0, .int .i64 0, .slice none 0 0, .int .i64 0] 37)) from (((BxL.nil (Below.refl w.heap.size w)).new (by simp) #[.int .i64 zl, .int .i64 zp, .int .i64 zf, .slice A L.length c, .int .i64 lf, .bool dn, .int .i64 fr, .int .i64 ln, .int .i64 en, .int .i64 sf, .string tl, .slice FA fn fc, .int .i64 hd, .slice TA ts.length tc, .int .i64 nx] 37).new (by simp) #[.int .i64 0, .int .i64 0, .int .i64 0, .slice none 0 0, .int .i64 0, .bool false, .int .i64 0, .int .i64 0, .int .i64 0, .int .i64 0, .string ⟨#[]⟩, .slice none 0 0, .int .i64 0, .slice none 0 0, .int .i64 0] 37))
  obtain ⟨W0, hW0⟩ : ∃ W, W = ((w.alloc (.cells #[.int .i64 zl, .int .i64 zp, .int .i64 zf, .slice A L.length c, .int .i64 lf, .bool dn, .int .i64 fr, .int .i64 ln, .int .i64 en, .int .i64 sf, .string tl, .slice FA fn fc, .int .i64 hd, .slice TA ts.length tc, .int .i64 nx] 37)).alloc (.cells #[.int .i64 0, .int .i64 0, .int .i64 0, .slice none 0 0, .int .i64 0, .bool false, .int .i64 0, .int .i64 0, .int .i64 0, .int .i64 0, .string ⟨#[]⟩, .slice none 0 0, .int .i64 0, .slice none 0 0, .int .i64 0] 37)) := ⟨_, rfl⟩
  rw [← hW0] at H0 ⊢
  clear hW0
  go_upto_region 2 with (first
    | (with_reducible refine listLoad (by kernel_rfl) 37 (.tmp 2) rfl w.heap.size rfl #[.int .i64 zl, .int .i64 zp, .int .i64 zf, .slice A L.length c, .int .i64 lf, .bool dn, .int .i64 fr, .int .i64 ln, .int .i64 en, .int .i64 sf, .string tl, .slice FA fn fc, .int .i64 hd, .slice TA ts.length tc, .int .i64 nx] _ H0.out.get0 _ Tryz.underlying37 (by kernel_rfl) (by kernel_rfl) ?_)
    | (go_at_call 57; (with_reducible refine (HO.out _ H0.out.below).mono ?_); rintro e w5 ⟨p', he, hs5, hf5, hb5⟩; have HF5 := Lib.hid hf5; clear hf5; obtain ⟨A2, c2, FA2, fn2, fc2, TA2, tc2⟩ := p'; (try dsimp only [storeV] at he); subst he)
    | (with_reducible refine wpList_store_new rfl 37 (.tmp 6) (.tmp 18) rfl #[.int .i64 zl2, .int .i64 zp2, .int .i64 zf2, .slice A2 L2.length c2, .int .i64 lf2, .bool dn2, .int .i64 fr2, .int .i64 ln2, .int .i64 en2, .int .i64 sf2, .string tl2, .slice FA2 fn2 fc2, .int .i64 hd2, .slice TA2 ts2.length tc2, .int .i64 nx2] _ _ rfl (by kernel_rfl) (by kernel_rfl) (by kernel_rfl) (by kernel_rfl) ?_))
  have H6 := Lib.hid (H0.out.step (pastAlloc (o := .cells #[.int .i64 zl2, .int .i64 zp2, .int .i64 zf2, .slice A2 L2.length c2, .int .i64 lf2, .bool dn2, .int .i64 fr2, .int .i64 ln2, .int .i64 en2, .int .i64 sf2, .string tl2, .slice FA2 fn2 fc2, .int .i64 hd2, .slice TA2 ts2.length tc2, .int .i64 nx2] 37) hb5))
  have HG6 := Lib.hid (heap_alloc_new w5 (.cells #[.int .i64 zl2, .int .i64 zp2, .int .i64 zf2, .slice A2 L2.length c2, .int .i64 lf2, .bool dn2, .int .i64 fr2, .int .i64 ln2, .int .i64 en2, .int .i64 sf2, .string tl2, .slice FA2 fn2 fc2, .int .i64 hd2, .slice TA2 ts2.length tc2, .int .i64 nx2] 37))
  have HS6 := Lib.hid (hs5.below (allocB w5 (.cells #[.int .i64 zl2, .int .i64 zp2, .int .i64 zf2, .slice A2 L2.length c2, .int .i64 lf2, .bool dn2, .int .i64 fr2, .int .i64 ln2, .int .i64 en2, .int .i64 sf2, .string tl2, .slice FA2 fn2 fc2, .int .i64 hd2, .slice TA2 ts2.length tc2, .int .i64 nx2] 37)))
  have hbt : w.heap.size + 2 ≤ w5.heap.size := Nat.le_trans (H0.out.lt (i := 1) (by simp)) hb5.size
  obtain ⟨bt, hbte⟩ : ∃ b, b = w5.heap.size := ⟨_, rfl⟩
  obtain ⟨W6, hW6⟩ : ∃ W, W = w5.alloc (.cells #[.int .i64 zl2, .int .i64 zp2, .int .i64 zf2, .slice A2 L2.length c2, .int .i64 lf2, .bool dn2, .int .i64 fr2, .int .i64 ln2, .int .i64 en2, .int .i64 sf2, .string tl2, .slice FA2 fn2 fc2, .int .i64 hd2, .slice TA2 ts2.length tc2, .int .i64 nx2] 37) := ⟨_, rfl⟩
  rw [← hbte] at HG6 hbt
  rw [← hW6] at H6 HG6 HS6
  rw [← hW6, ← hbte]
  clear hW6 hbte hs5 hb5 H0 HO
  have HFF := Lib.hid (HFO.out A2 c2 W6 HS6.out.dk HS6.out.dt)
  clear HFO
  go_upto_region 5 with (first
    | (with_reducible refine listPart (by kernel_rfl) 29 (.tmp 25) rfl bt 3 rfl #[.slice A2 L2.length c2, .int .i64 lf2, .bool dn2] #[.int .i64 zl2, .int .i64 zp2, .int .i64 zf2, .slice A2 L2.length c2, .int .i64 lf2, .bool dn2, .int .i64 fr2, .int .i64 ln2, .int .i64 en2, .int .i64 sf2, .string tl2, .slice FA2 fn2 fc2, .int .i64 hd2, .slice TA2 ts2.length tc2, .int .i64 nx2] _ HG6.out (by kernel_rfl) _ Tryz.underlying29 (by kernel_rfl) (by kernel_rfl) ?_)
    | (with_reducible refine listPart (by kernel_rfl) 31 (.tmp 27) rfl bt 6 rfl #[.int .i64 fr2, .int .i64 ln2, .int .i64 en2, .int .i64 sf2, .string tl2] #[.int .i64 zl2, .int .i64 zp2, .int .i64 zf2, .slice A2 L2.length c2, .int .i64 lf2, .bool dn2, .int .i64 fr2, .int .i64 ln2, .int .i64 en2, .int .i64 sf2, .string tl2, .slice FA2 fn2 fc2, .int .i64 hd2, .slice TA2 ts2.length tc2, .int .i64 nx2] _ HG6.out (by kernel_rfl) _ Tryz.underlying31 (by kernel_rfl) (by kernel_rfl) ?_)
    | (go_at_call 58; (with_reducible refine HFF.out.mono ?_); rintro e w7 ⟨A3, c3, he, hd7, ht7, hb7⟩; dsimp only [diskV, logV] at he; subst he; have HD0 := Lib.hid (blkOld (heap_alloc_new w7 (.cells #[.slice none 0 0, .int .i64 0, .bool false] 29)) (allocB (w7.alloc (.cells #[.slice none 0 0, .int .i64 0, .bool false] 29)) (.cells #[.int .i64 0, .int .i64 0, .int .i64 0, .int .i64 0, .string ⟨#[]⟩] 31))); have HL0 := Lib.hid (show (((w7.alloc (.cells #[.slice none 0 0, .int .i64 0, .bool false] 29)).alloc (.cells #[.int .i64 0, .int .i64 0, .int .i64 0, .int .i64 0, .string ⟨#[]⟩] 31)).setRow w7.heap.size #[.slice A3 L3.length c3, .int .i64 lf3, .bool dn3]).heap[w7.heap.size + 1]? = some (.cells #[.int .i64 0, .int .i64 0, .int .i64 0, .int .i64 0, .string ⟨#[]⟩] 31 (0, 0)) from (heap_setRow_other _ _ _ _ (by omega)).trans (by have h := heap_alloc_new (w7.alloc (.cells #[.slice none 0 0, .int .i64 0, .bool false] 29)) (.cells #[.int .i64 0, .int .i64 0, .int .i64 0, .int .i64 0, .string ⟨#[]⟩] 31); simpa using h)))
    | (with_reducible refine listStore (by kernel_rfl) 29 (.tmp 8) (.tmp 30) rfl w7.heap.size #[.slice A3 L3.length c3, .int .i64 lf3, .bool dn3] _ _ rfl rfl HD0.out (by kernel_rfl) (by kernel_rfl) (by kernel_rfl) ?_)
    | (with_reducible refine listStore (by kernel_rfl) 31 (.tmp 9) (.tmp 31) rfl (w7.heap.size + 1) #[.int .i64 fr3, .int .i64 ln3, .int .i64 en3, .int .i64 sf3, .string tl3] _ _ rfl rfl HL0.out (by kernel_rfl) (by kernel_rfl) (by kernel_rfl) ?_))
  obtain ⟨bd, hbd⟩ : ∃ bd, bd = w7.heap.size := ⟨_, rfl⟩
  have hB7 : bt < bd := by rw [hbd]; exact Nat.lt_of_lt_of_le (heapLt HG6.out) hb7.size
  have hC : Below w7.heap.size w7 ((((w7.alloc (.cells #[.slice none 0 0, .int .i64 0, .bool false] 29)).alloc (.cells #[.int .i64 0, .int .i64 0, .int .i64 0, .int .i64 0, .string ⟨#[]⟩] 31)).setRow w7.heap.size #[.slice A3 L3.length c3, .int .i64 lf3, .bool dn3]).setRow (w7.heap.size + 1) #[.int .i64 fr3, .int .i64 ln3, .int .i64 en3, .int .i64 sf3, .string tl3]) := below_setRow (below_setRow (pastAlloc (allocB w7 _)) (Nat.le_refl _) _) (Nat.le_succ _) _
  have HD8 := Lib.hid (show ((((w7.alloc (.cells #[.slice none 0 0, .int .i64 0, .bool false] 29)).alloc (.cells #[.int .i64 0, .int .i64 0, .int .i64 0, .int .i64 0, .string ⟨#[]⟩] 31)).setRow w7.heap.size #[.slice A3 L3.length c3, .int .i64 lf3, .bool dn3]).setRow (w7.heap.size + 1) #[.int .i64 fr3, .int .i64 ln3, .int .i64 en3, .int .i64 sf3, .string tl3]).heap[bd]? = some (.cells #[.slice A3 L3.length c3, .int .i64 lf3, .bool dn3] 29 (0, 0)) from (heap_setRow_other _ _ _ _ (by omega)).trans (by rw [hbd]; exact setRow_heap _ _ _ _ _ _ HD0.out))
  have HL8 := Lib.hid (show ((((w7.alloc (.cells #[.slice none 0 0, .int .i64 0, .bool false] 29)).alloc (.cells #[.int .i64 0, .int .i64 0, .int .i64 0, .int .i64 0, .string ⟨#[]⟩] 31)).setRow w7.heap.size #[.slice A3 L3.length c3, .int .i64 lf3, .bool dn3]).setRow (w7.heap.size + 1) #[.int .i64 fr3, .int .i64 ln3, .int .i64 en3, .int .i64 sf3, .string tl3]).heap[bd + 1]? = some (.cells #[.int .i64 fr3, .int .i64 ln3, .int .i64 en3, .int .i64 sf3, .string tl3] 31 (0, 0)) from by rw [hbd]; exact setRow_heap _ _ _ _ _ _ HL0.out)
  have H8 := Lib.hid ((H6.out.step hb7).step hC)
  have HG8 := Lib.hid (blkOld (blkOld HG6.out hb7) hC)
  have HS8 := Lib.hid (show StoreR _ ⟨zl2, zp2, zf2, ⟨L3, lf3, dn3⟩, ⟨fr3, ln3, en3, sf3, tl3⟩, hd2, ts2, nx2⟩ ⟨A3, c3, FA2, fn2, fc2, TA2, tc2⟩ from ⟨hd7.below hC, (ht7.elim (fun e => by rw [e]; exact HS6.out.dt.below hb7) (fun e => e.mono (Nat.zero_le _))).below hC, (HS6.out.tx.below hb7).below hC, (HS6.out.tt.below hb7).below hC⟩)
  obtain ⟨W8, hW8⟩ : ∃ W, W = (((w7.alloc (.cells #[.slice none 0 0, .int .i64 0, .bool false] 29)).alloc (.cells #[.int .i64 0, .int .i64 0, .int .i64 0, .int .i64 0, .string ⟨#[]⟩] 31)).setRow w7.heap.size #[.slice A3 L3.length c3, .int .i64 lf3, .bool dn3]).setRow (w7.heap.size + 1) #[.int .i64 fr3, .int .i64 ln3, .int .i64 en3, .int .i64 sf3, .string tl3] := ⟨_, rfl⟩
  rw [← hW8] at HD8 HL8 H8 HS8 HG8
  rw [← hW8, ← hbd]
  clear hW8 hbd hC HD0 HL0 hd7 ht7 hb7 H6 HS6 HFF HG6
  go_upto_region 6 with (first
    | (with_reducible refine listLoad (by kernel_rfl) 29 (.tmp 8) rfl bd rfl #[.slice A3 L3.length c3, .int .i64 lf3, .bool dn3] _ HD8.out _ Tryz.underlying29 (by kernel_rfl) (by kernel_rfl) ?_)
    | (with_reducible refine listPut (by kernel_rfl) 29 (.tmp 34) (.tmp 33) rfl bt 3 #[.slice A3 L3.length c3, .int .i64 lf3, .bool dn3] #[.int .i64 zl2, .int .i64 zp2, .int .i64 zf2, .slice A2 L2.length c2, .int .i64 lf2, .bool dn2, .int .i64 fr2, .int .i64 ln2, .int .i64 en2, .int .i64 sf2, .string tl2, .slice FA2 fn2 fc2, .int .i64 hd2, .slice TA2 ts2.length tc2, .int .i64 nx2] #[.int .i64 zl2, .int .i64 zp2, .int .i64 zf2, .slice A3 L3.length c3, .int .i64 lf3, .bool dn3, .int .i64 fr2, .int .i64 ln2, .int .i64 en2, .int .i64 sf2, .string tl2, .slice FA2 fn2 fc2, .int .i64 hd2, .slice TA2 ts2.length tc2, .int .i64 nx2] _ rfl rfl HG8.out (by kernel_rfl) (by kernel_rfl) (by kernel_rfl) (by kernel_rfl) ?_))
  have H9 := Lib.hid (H8.out.under (M := bt) (by show w.heap.size + 2 ≤ bt; exact hbt) (below_setRow (Below.refl bt W8) (Nat.le_refl bt) #[.int .i64 zl2, .int .i64 zp2, .int .i64 zf2, .slice A3 L3.length c3, .int .i64 lf3, .bool dn3, .int .i64 fr2, .int .i64 ln2, .int .i64 en2, .int .i64 sf2, .string tl2, .slice FA2 fn2 fc2, .int .i64 hd2, .slice TA2 ts2.length tc2, .int .i64 nx2]))
  have HG9 := Lib.hid (show (W8.setRow bt #[.int .i64 zl2, .int .i64 zp2, .int .i64 zf2, .slice A3 L3.length c3, .int .i64 lf3, .bool dn3, .int .i64 fr2, .int .i64 ln2, .int .i64 en2, .int .i64 sf2, .string tl2, .slice FA2 fn2 fc2, .int .i64 hd2, .slice TA2 ts2.length tc2, .int .i64 nx2]).heap[bt]? = some (.cells #[.int .i64 zl2, .int .i64 zp2, .int .i64 zf2, .slice A3 L3.length c3, .int .i64 lf3, .bool dn3, .int .i64 fr2, .int .i64 ln2, .int .i64 en2, .int .i64 sf2, .string tl2, .slice FA2 fn2 fc2, .int .i64 hd2, .slice TA2 ts2.length tc2, .int .i64 nx2] 37 (0, 0)) from setRow_heap _ _ _ _ _ _ HG8.out)
  have HS9 := Lib.hid (HS8.out.other HG8.out (by decide) (by decide) #[.int .i64 zl2, .int .i64 zp2, .int .i64 zf2, .slice A3 L3.length c3, .int .i64 lf3, .bool dn3, .int .i64 fr2, .int .i64 ln2, .int .i64 en2, .int .i64 sf2, .string tl2, .slice FA2 fn2 fc2, .int .i64 hd2, .slice TA2 ts2.length tc2, .int .i64 nx2])
  have HL9 := Lib.hid ((heap_setRow_other W8 bt #[.int .i64 zl2, .int .i64 zp2, .int .i64 zf2, .slice A3 L3.length c3, .int .i64 lf3, .bool dn3, .int .i64 fr2, .int .i64 ln2, .int .i64 en2, .int .i64 sf2, .string tl2, .slice FA2 fn2 fc2, .int .i64 hd2, .slice TA2 ts2.length tc2, .int .i64 nx2] (bd + 1) (by omega)).trans HL8.out)
  obtain ⟨W9, hW9⟩ : ∃ W, W = W8.setRow bt #[.int .i64 zl2, .int .i64 zp2, .int .i64 zf2, .slice A3 L3.length c3, .int .i64 lf3, .bool dn3, .int .i64 fr2, .int .i64 ln2, .int .i64 en2, .int .i64 sf2, .string tl2, .slice FA2 fn2 fc2, .int .i64 hd2, .slice TA2 ts2.length tc2, .int .i64 nx2] := ⟨_, rfl⟩
  rw [← hW9] at H9 HG9 HS9 HL9
  rw [← hW9]
  clear hW9 H8 HG8 HS8 HL8 HD8
  go_upto_region 7 with (first
    | (with_reducible refine listLoad (by kernel_rfl) 31 (.tmp 9) rfl (bd + 1) rfl #[.int .i64 fr3, .int .i64 ln3, .int .i64 en3, .int .i64 sf3, .string tl3] _ HL9.out _ Tryz.underlying31 (by kernel_rfl) (by kernel_rfl) ?_)
    | (with_reducible refine listPut (by kernel_rfl) 31 (.tmp 36) (.tmp 35) rfl bt 6 #[.int .i64 fr3, .int .i64 ln3, .int .i64 en3, .int .i64 sf3, .string tl3] #[.int .i64 zl2, .int .i64 zp2, .int .i64 zf2, .slice A3 L3.length c3, .int .i64 lf3, .bool dn3, .int .i64 fr2, .int .i64 ln2, .int .i64 en2, .int .i64 sf2, .string tl2, .slice FA2 fn2 fc2, .int .i64 hd2, .slice TA2 ts2.length tc2, .int .i64 nx2] #[.int .i64 zl2, .int .i64 zp2, .int .i64 zf2, .slice A3 L3.length c3, .int .i64 lf3, .bool dn3, .int .i64 fr3, .int .i64 ln3, .int .i64 en3, .int .i64 sf3, .string tl3, .slice FA2 fn2 fc2, .int .i64 hd2, .slice TA2 ts2.length tc2, .int .i64 nx2] _ rfl rfl HG9.out (by kernel_rfl) (by kernel_rfl) (by kernel_rfl) (by kernel_rfl) ?_))
  have H10 := Lib.hid (H9.out.under (M := bt) (by show w.heap.size + 2 ≤ bt; exact hbt) (below_setRow (Below.refl bt W9) (Nat.le_refl bt) #[.int .i64 zl2, .int .i64 zp2, .int .i64 zf2, .slice A3 L3.length c3, .int .i64 lf3, .bool dn3, .int .i64 fr3, .int .i64 ln3, .int .i64 en3, .int .i64 sf3, .string tl3, .slice FA2 fn2 fc2, .int .i64 hd2, .slice TA2 ts2.length tc2, .int .i64 nx2]))
  have HG10 := Lib.hid (show (W9.setRow bt #[.int .i64 zl2, .int .i64 zp2, .int .i64 zf2, .slice A3 L3.length c3, .int .i64 lf3, .bool dn3, .int .i64 fr3, .int .i64 ln3, .int .i64 en3, .int .i64 sf3, .string tl3, .slice FA2 fn2 fc2, .int .i64 hd2, .slice TA2 ts2.length tc2, .int .i64 nx2]).heap[bt]? = some (.cells #[.int .i64 zl2, .int .i64 zp2, .int .i64 zf2, .slice A3 L3.length c3, .int .i64 lf3, .bool dn3, .int .i64 fr3, .int .i64 ln3, .int .i64 en3, .int .i64 sf3, .string tl3, .slice FA2 fn2 fc2, .int .i64 hd2, .slice TA2 ts2.length tc2, .int .i64 nx2] 37 (0, 0)) from setRow_heap _ _ _ _ _ _ HG9.out)
  have HS10 := Lib.hid (HS9.out.other HG9.out (by decide) (by decide) #[.int .i64 zl2, .int .i64 zp2, .int .i64 zf2, .slice A3 L3.length c3, .int .i64 lf3, .bool dn3, .int .i64 fr3, .int .i64 ln3, .int .i64 en3, .int .i64 sf3, .string tl3, .slice FA2 fn2 fc2, .int .i64 hd2, .slice TA2 ts2.length tc2, .int .i64 nx2])
  obtain ⟨W10, hW10⟩ : ∃ W, W = W9.setRow bt #[.int .i64 zl2, .int .i64 zp2, .int .i64 zf2, .slice A3 L3.length c3, .int .i64 lf3, .bool dn3, .int .i64 fr3, .int .i64 ln3, .int .i64 en3, .int .i64 sf3, .string tl3, .slice FA2 fn2 fc2, .int .i64 hd2, .slice TA2 ts2.length tc2, .int .i64 nx2] := ⟨_, rfl⟩
  rw [← hW10] at H10 HG10 HS10
  rw [← hW10]
  clear hW10 H9 HG9 HS9 HL9
  by_cases he3 : e3 = 0
  rotate_left
  · have hx := d2 he3
    (try simp only at hx)
    have HMF := Lib.hid (fun (p' : SP) w' hs hf hb => HM.out _ p' w' hx hs hf hb)
    have he1 : (e3 == 0) = false := by simpa using he3
    have he2 : (e3 != 0) = true := by simpa using he3
    clear d2 d3 HM he3 hx HB2 HFD
    dsimp only [storeV] at HMF
    go_wp2_with (first
      | (with_reducible refine listLoad (by kernel_rfl) 37 (.tmp 6) rfl bt rfl #[.int .i64 zl2, .int .i64 zp2, .int .i64 zf2, .slice A3 L3.length c3, .int .i64 lf3, .bool dn3, .int .i64 fr3, .int .i64 ln3, .int .i64 en3, .int .i64 sf3, .string tl3, .slice FA2 fn2 fc2, .int .i64 hd2, .slice TA2 ts2.length tc2, .int .i64 nx2] _ HG10.out _ Tryz.underlying37 (by kernel_rfl) (by kernel_rfl) ?_)
      | (with_reducible refine listStore (by kernel_rfl) 37 (.tmp 4) (.tmp 39) rfl (w.heap.size + 1) #[.int .i64 zl2, .int .i64 zp2, .int .i64 zf2, .slice A3 L3.length c3, .int .i64 lf3, .bool dn3, .int .i64 fr3, .int .i64 ln3, .int .i64 en3, .int .i64 sf3, .string tl3, .slice FA2 fn2 fc2, .int .i64 hd2, .slice TA2 ts2.length tc2, .int .i64 nx2] _ _ rfl rfl H10.out.get1 (by kernel_rfl) (by kernel_rfl) (by kernel_rfl) ?_))
    refine bodyPost_ret (v := .tuple #[.agg #[.int .i64 zl2, .int .i64 zp2, .int .i64 zf2, .slice A3 L3.length c3, .int .i64 lf3, .bool dn3, .int .i64 fr3, .int .i64 ln3, .int .i64 en3, .int .i64 sf3, .string tl3, .slice FA2 fn2 fc2, .int .i64 hd2, .slice TA2 ts2.length tc2, .int .i64 nx2], .int .i64 e3]) (results_cell2 rfl _ _ rfl (load_whole (setRow_heap _ _ _ _ _ _ H10.out.get1) Tryz.underlying37 (by kernel_rfl) (by kernel_rfl)) rfl) rfl ?_
    exact HMF.out ⟨A3, c3, FA2, fn2, fc2, TA2, tc2⟩ _ (HS10.out.other H10.out.get1 (by decide) (by decide) _) HF5.out ((H10.out.row 1 _ _ rfl).below)
  subst he3
  have hx := d3 rfl
  clear d2 d3
  obtain ⟨sF, hsF⟩ : ∃ sF : Tx.St, sF = ⟨zl2, zp2, zf2, ⟨L3, lf3, dn3⟩, ⟨fr3, ln3, en3, sf3, tl3⟩, hd2, ts2, nx2⟩ := ⟨_, rfl⟩
  have HS9' := HS10.out
  rw [← hsF] at hx HS9'
  have hBF := HB2.out
  rw [← hsF] at hBF
  have hlF : sF.txns.length ≤ 800000 := by rw [hsF]; show ts2.length ≤ _; omega
  have hfF : ∃ k, Tx.placeT sF.txns n = some k := by rw [hsF]; exact HFD.out
  have k1 := @Tx.close_yes sF n hfF
  have k2 := @Tx.close_full sF n hfF
  have hEN := fun W (hw : Below W10.heap.size W10 W) => rend_any sF ⟨A3, c3, FA2, fn2, fc2, TA2, tc2⟩ hBF hlF n W (HS9'.below hw)
  have hNT := fun W (hw : Below W10.heap.size W10 W) => rnote_any sF.txns (by omega) TA2 tc2 (Rc.bare 7 0 0 n) none none 0 0 0 0 W (HS9'.tx.below hw)
  generalize Tx.endS sF n = y5 at k1 k2 hEN
  have hz : sF.txns = ts2 := by rw [hsF]
  rw [hz] at hNT
  rw [hsF] at hEN
  clear hBF hlF HS9' hz hfF HFD
  obtain ⟨⟨zl5, zp5, zf5, ⟨L5, lf5, dn5⟩, ⟨fr5, ln5, en5, sf5, tl5⟩, hd5, ts5, nx5⟩, e5⟩ := y5
  dsimp only [storeV] at hEN
  dsimp only [recV, recA, Rc.bare, Rc.noOp, Rc.noKey] at hNT
  simp only at k1 k2
  have HEN := Lib.hid hEN
  have HNT := Lib.hid hNT
  clear hEN hNT
  have B10 := Below.refl W10.heap.size W10
  go_upto_region 10 with (first
    | (with_reducible refine listLoad (by kernel_rfl) 37 (.tmp 6) rfl bt rfl #[.int .i64 zl2, .int .i64 zp2, .int .i64 zf2, .slice A3 L3.length c3, .int .i64 lf3, .bool dn3, .int .i64 fr3, .int .i64 ln3, .int .i64 en3, .int .i64 sf3, .string tl3, .slice FA2 fn2 fc2, .int .i64 hd2, .slice TA2 ts2.length tc2, .int .i64 nx2] _ HG10.out _ Tryz.underlying37 (by kernel_rfl) (by kernel_rfl) ?_)
    | (go_at_call 33; (with_reducible refine (HEN.out _ B10).mono ?_); rintro e w11 ⟨p', he, hs11, hf11, hb11⟩; have HF11 := Lib.hid hf11; clear hf11; obtain ⟨A5, c5, FA5, fn5, fc5, TA5, tc5⟩ := p'; (try dsimp only [storeV] at he); subst he)
    | (with_reducible refine wpList_store_new rfl 37 (.tmp 11) (.tmp 45) rfl #[.int .i64 zl5, .int .i64 zp5, .int .i64 zf5, .slice A5 L5.length c5, .int .i64 lf5, .bool dn5, .int .i64 fr5, .int .i64 ln5, .int .i64 en5, .int .i64 sf5, .string tl5, .slice FA5 fn5 fc5, .int .i64 hd5, .slice TA5 ts5.length tc5, .int .i64 nx5] _ _ rfl (by kernel_rfl) (by kernel_rfl) (by kernel_rfl) (by kernel_rfl) ?_))
  have hb11' := pastAlloc (o := .cells #[.int .i64 zl5, .int .i64 zp5, .int .i64 zf5, .slice A5 L5.length c5, .int .i64 lf5, .bool dn5, .int .i64 fr5, .int .i64 ln5, .int .i64 en5, .int .i64 sf5, .string tl5, .slice FA5 fn5 fc5, .int .i64 hd5, .slice TA5 ts5.length tc5, .int .i64 nx5] 37) hb11
  have HG := Lib.hid (heap_alloc_new w11 (.cells #[.int .i64 zl5, .int .i64 zp5, .int .i64 zf5, .slice A5 L5.length c5, .int .i64 lf5, .bool dn5, .int .i64 fr5, .int .i64 ln5, .int .i64 en5, .int .i64 sf5, .string tl5, .slice FA5 fn5 fc5, .int .i64 hd5, .slice TA5 ts5.length tc5, .int .i64 nx5] 37))
  have HT11 := Lib.hid (blkOld HG10.out hb11')
  have H11 := Lib.hid (H10.out.step hb11')
  have B11 := Lib.hid hb11'
  have HS11 := Lib.hid (hs11.below (allocB w11 (.cells #[.int .i64 zl5, .int .i64 zp5, .int .i64 zf5, .slice A5 L5.length c5, .int .i64 lf5, .bool dn5, .int .i64 fr5, .int .i64 ln5, .int .i64 en5, .int .i64 sf5, .string tl5, .slice FA5 fn5 fc5, .int .i64 hd5, .slice TA5 ts5.length tc5, .int .i64 nx5] 37)))
  obtain ⟨bs, hbs⟩ : ∃ bs, bs = w11.heap.size := ⟨_, rfl⟩
  obtain ⟨W11, hW11⟩ : ∃ W, W = w11.alloc (.cells #[.int .i64 zl5, .int .i64 zp5, .int .i64 zf5, .slice A5 L5.length c5, .int .i64 lf5, .bool dn5, .int .i64 fr5, .int .i64 ln5, .int .i64 en5, .int .i64 sf5, .string tl5, .slice FA5 fn5 fc5, .int .i64 hd5, .slice TA5 ts5.length tc5, .int .i64 nx5] 37) := ⟨_, rfl⟩
  rw [← hbs] at HG
  rw [← hW11] at HG HT11 H11 B11 HS11
  rw [← hW11, ← hbs]
  clear hbs hW11 hb11 hb11' hs11 HEN H10 HG10 B10
  by_cases he5 : e5 = 0
  · subst he5
    have hx2 := hx.trans (k1 rfl)
    have HMF := Lib.hid (fun (p' : SP) w' hs hf hb => HM.out _ p' w' hx2 hs hf hb)
    clear k1 k2 HM hx hx2 HNT
    dsimp only [storeV] at HMF
    go_wp2_with (first
      | (with_reducible refine listLoad (by kernel_rfl) 37 (.tmp 11) rfl bs rfl #[.int .i64 zl5, .int .i64 zp5, .int .i64 zf5, .slice A5 L5.length c5, .int .i64 lf5, .bool dn5, .int .i64 fr5, .int .i64 ln5, .int .i64 en5, .int .i64 sf5, .string tl5, .slice FA5 fn5 fc5, .int .i64 hd5, .slice TA5 ts5.length tc5, .int .i64 nx5] _ HG.out _ Tryz.underlying37 (by kernel_rfl) (by kernel_rfl) ?_)
      | (with_reducible refine listStore (by kernel_rfl) 37 (.tmp 4) (.tmp 56) rfl (w.heap.size + 1) #[.int .i64 zl5, .int .i64 zp5, .int .i64 zf5, .slice A5 L5.length c5, .int .i64 lf5, .bool dn5, .int .i64 fr5, .int .i64 ln5, .int .i64 en5, .int .i64 sf5, .string tl5, .slice FA5 fn5 fc5, .int .i64 hd5, .slice TA5 ts5.length tc5, .int .i64 nx5] _ _ rfl rfl H11.out.get1 (by kernel_rfl) (by kernel_rfl) (by kernel_rfl) ?_))
    refine bodyPost_ret (v := .tuple #[.agg #[.int .i64 zl5, .int .i64 zp5, .int .i64 zf5, .slice A5 L5.length c5, .int .i64 lf5, .bool dn5, .int .i64 fr5, .int .i64 ln5, .int .i64 en5, .int .i64 sf5, .string tl5, .slice FA5 fn5 fc5, .int .i64 hd5, .slice TA5 ts5.length tc5, .int .i64 nx5], .int .i64 0]) (results_cell2 rfl _ _ rfl (load_whole (setRow_heap _ _ _ _ _ _ H11.out.get1) Tryz.underlying37 (by kernel_rfl) (by kernel_rfl)) rfl) rfl ?_
    exact HMF.out ⟨A5, c5, FA5, fn5, fc5, TA5, tc5⟩ _ (HS11.out.other H11.out.get1 (by decide) (by decide) _) ⟨HF11.out.1.trans HF5.out.1, HF11.out.2.1.trans HF5.out.2.1, HF11.out.2.2.trans HF5.out.2.2⟩ ((H11.out.row 1 _ _ rfl).below)
  · have hx2 := hx.trans (k2 he5)
    rw [hsF] at hx2
    (try simp only at hx2)
    have he1 : (e5 == 0) = false := by simpa using he5
    have he2 : (e5 != 0) = true := by simpa using he5
    have HMF := Lib.hid (fun (p' : SP) w' hs hf hb => HM.out _ p' w' hx2 hs hf hb)
    clear k1 k2 HM hx hx2 he5 HS11 HG
    dsimp only [storeV, Rc.bare, Rc.noOp, Rc.noKey] at HMF
    generalize Tx.noteT ts2 ⟨0, 0, n, 7, 0, 0, 0, ⟨0, 0, ⟨#[]⟩, ⟨#[]⟩⟩, 0, 0, ⟨⟨#[]⟩, 0, 0⟩, [], []⟩ = ts6 at HMF HNT
    have hc11 := blkCell HT11.out
    go_upto_region 12 with (first
      | (go_at_call 59; (with_reducible refine (HNT.out _ B11.out).mono ?_); rintro e w12 ⟨A', c', rfl, hr12, ht12, hb12⟩; have H12 := Lib.hid (H11.out.step hb12); have HT12 := Lib.hid (blkOld HT11.out hb12); have B12 := Lib.hid (B11.out.trans (hb12.mono B11.out.size)); have hc12 := blkCell HT12.out; have hz12 := blkFrozen HT12.out; clear hc11))
    have HS12 := Lib.hid (show StoreR w12 ⟨zl2, zp2, zf2, ⟨L3, lf3, dn3⟩, ⟨fr3, ln3, en3, sf3, tl3⟩, hd2, ts6, nx2⟩ ⟨A3, c3, FA2, fn2, fc2, A', c'⟩ from ⟨HS10.out.dk.below B12.out, HS10.out.dt.below B12.out, hr12, ht12⟩)
    have HS13 := Lib.hid (HS12.out.set HT12.out (by decide) (by decide) 13 (.slice A' ts6.length c'))
    have HT13 := Lib.hid (show (w12.setCell ⟨bt, 13, none⟩ (.slice A' ts6.length c')).heap[bt]? = some (.cells #[.int .i64 zl2, .int .i64 zp2, .int .i64 zf2, .slice A3 L3.length c3, .int .i64 lf3, .bool dn3, .int .i64 fr3, .int .i64 ln3, .int .i64 en3, .int .i64 sf3, .string tl3, .slice FA2 fn2 fc2, .int .i64 hd2, .slice A' ts6.length c', .int .i64 nx2] 37 (0, 0)) from by have h := blkSet 13 HT12.out (.slice A' ts6.length c'); simpa using h)
    have H13 := Lib.hid (H12.out.under (M := bt) (by show w.heap.size + 2 ≤ bt; exact hbt) ((Below.refl bt w12).setCell (p := ⟨bt, 13, none⟩) (Nat.le_refl bt) (.slice A' ts6.length c')))
    obtain ⟨W13, hW13⟩ : ∃ W, W = w12.setCell ⟨bt, 13, none⟩ (.slice A' ts6.length c') := ⟨_, rfl⟩
    rw [← hW13] at H13 HS13 HT13
    rw [← hW13]
    clear hW13 hc12 hz12 H12 HS12 hr12 ht12 hb12 H11 HNT HT12
    go_wp2_with (first
      | (with_reducible refine listLoad (by kernel_rfl) 37 (.tmp 6) rfl bt rfl #[.int .i64 zl2, .int .i64 zp2, .int .i64 zf2, .slice A3 L3.length c3, .int .i64 lf3, .bool dn3, .int .i64 fr3, .int .i64 ln3, .int .i64 en3, .int .i64 sf3, .string tl3, .slice FA2 fn2 fc2, .int .i64 hd2, .slice A' ts6.length c', .int .i64 nx2] _ HT13.out _ Tryz.underlying37 (by kernel_rfl) (by kernel_rfl) ?_)
      | (with_reducible refine listStore (by kernel_rfl) 37 (.tmp 4) (.tmp 55) rfl (w.heap.size + 1) #[.int .i64 zl2, .int .i64 zp2, .int .i64 zf2, .slice A3 L3.length c3, .int .i64 lf3, .bool dn3, .int .i64 fr3, .int .i64 ln3, .int .i64 en3, .int .i64 sf3, .string tl3, .slice FA2 fn2 fc2, .int .i64 hd2, .slice A' ts6.length c', .int .i64 nx2] _ _ rfl rfl H13.out.get1 (by kernel_rfl) (by kernel_rfl) (by kernel_rfl) ?_))
    refine bodyPost_ret (v := .tuple #[.agg #[.int .i64 zl2, .int .i64 zp2, .int .i64 zf2, .slice A3 L3.length c3, .int .i64 lf3, .bool dn3, .int .i64 fr3, .int .i64 ln3, .int .i64 en3, .int .i64 sf3, .string tl3, .slice FA2 fn2 fc2, .int .i64 hd2, .slice A' ts6.length c', .int .i64 nx2], .int .i64 0]) (results_cell2 rfl _ _ rfl (load_whole (setRow_heap _ _ _ _ _ _ H13.out.get1) Tryz.underlying37 (by kernel_rfl) (by kernel_rfl)) rfl) rfl ?_
    exact HMF.out ⟨A3, c3, FA2, fn2, fc2, A', c'⟩ _ (HS13.out.other H13.out.get1 (by decide) (by decide) _) HF5.out ((H13.out.row 1 _ _ rfl).below)
/-- What the document's answer makes of a deed. -/
theorem rwant_any (s : Tx.St) (p : SP) (hb : Tx.LogB s) (hal : Lg.Al s.log) (hts : s.txns.length ≤ 700000) (hnx0 : 0 ≤ s.next) (hnx1 : s.next ≤ 1000000000) (hlf : -9223372036854775808 ≤ s.disk.left ∧ s.disk.left ≤ 9223372036854775807) (d : Tx.Deed) (w : World) (h : StoreR w s p) :
    Calls Tryz.prog 9 #[storeV s p, deedV d] w (BegOut (Tx.doS s d) p w) :=
  rwant_of s p hb hts hnx0 hnx1 hlf d w h (fun n W hw => rcommit_any s p hb hal hts hlf n W (h.below hw))
end Go.Proofs.YthfglhafphfhiaaGreat
/- The walk over the reference of transactions: Same. -/
namespace Go.Proofs.YthfglhafphfhiaaGreat
open Go.RowKit
theorem size_equal (a b c : Int) (w : World) : (Op.equalIn 10000 26 (.agg #[.int .i64 a, .int .i64 b, .int .i64 c]) (.agg #[.int .i64 a, .int .i64 b, .int .i64 c])).run Tryz.prog w = .ok true w := by
  have hS : Tryz.prog.underlying 26 = some (.struct (Tryz.prog.fieldsOf 26)) := by kernel_rfl
  have hp : Tryz.prog.stoodInHeld 26 = false := by kernel_rfl
  rw [show (10000 : Nat) = 9999 + 1 from rfl, run_equalIn_agg w 9999 26 _ _ hS hp]
  simp only [Program.fieldsOf, Tryz.underlying26]
  go_simp
theorem log_equal (a b c d : Int) (t : ByteArray) (w : World) : (Op.equalIn 10000 31 (.agg #[.int .i64 a, .int .i64 b, .int .i64 c, .int .i64 d, .string t]) (.agg #[.int .i64 a, .int .i64 b, .int .i64 c, .int .i64 d, .string t])).run Tryz.prog w = .ok true w := by
  have hS : Tryz.prog.underlying 31 = some (.struct (Tryz.prog.fieldsOf 31)) := by kernel_rfl
  have hp : Tryz.prog.stoodInHeld 31 = false := by kernel_rfl
  rw [show (10000 : Nat) = 9999 + 1 from rfl, run_equalIn_agg w 9999 31 _ _ hS hp]
  simp only [Program.fieldsOf, Tryz.underlying31]
  go_simp
set_option maxRecDepth 100000 in
set_option maxHeartbeats 8000000 in
theorem rsamest_any (s : Tx.St) (p q : SP) (hp : p.fn = 0) (hq : q.fn = 0) (hts : s.txns.length ≤ 800000) (hsl : s.disk.sectors.length ≤ 1000000) (w : World) (h : StoreR w s p) (h' : StoreR w s q) :
    Calls Tryz.prog 12 #[storeV s p, storeV s q] w fun e w' => e = .returned (.bool true) ∧ Below w.heap.size w w' := by
  have HT := Lib.hid (fun W (hb : Below w.heap.size w W) => show Calls Tryz.prog 37 #[.slice p.T s.txns.length p.tc, .slice q.T s.txns.length q.tc] W fun e w' => e = .returned (.bool true) ∧ Below W.heap.size W w' from by
    have h9 := rsame_txn s.txns s.txns (by omega) (by omega) p.T q.T p.tc q.tc W (h.tx.below hb) (h'.tx.below hb)
    rw [decide_eq_true rfl] at h9
    exact h9)
  have HR1 := Lib.hid h.dk.secs
  have HR2 := Lib.hid h'.dk.secs
  clear h h' hts
  obtain ⟨zl, zp, zf, ⟨L, lf, dn⟩, ⟨fr, ln, en, sf, tl⟩, hd, ts, nx⟩ := s
  obtain ⟨A, c, FA, fn, fc, TA, tc⟩ := p
  obtain ⟨A', c', FA', fn', fc', TA', tc'⟩ := q
  simp only at hp hq hsl HR1 HR2 HT
  subst hp hq
  dsimp only [storeV]
  have hze := size_equal zl zp zf
  have hle := log_equal fr ln en sf tl
  go_enter Tryz.func12, Tryz.ntmps12
  go_upto_region 1 with fail
  have H0 := Lib.hid (show BxL w.heap.size w [(#[.int .i64 zl, .int .i64 zp, .int .i64 zf, .slice A L.length c, .int .i64 lf, .bool dn, .int .i64 fr, .int .i64 ln, .int .i64 en, .int .i64 sf, .string tl, .slice FA 0 fc, .int .i64 hd, .slice TA ts.length tc, .int .i64 nx], 37), (#[.int .i64 zl, .int .i64 zp, .int .i64 zf, .slice A' L.length c', .int .i64 lf, .bool dn, .int .i64 fr, .int .i64 ln, .int .i64 en, .int .i64 sf, .string tl, .slice FA' 0 fc', .int .i64 hd, .slice TA' ts.length tc', .int .i64 nx], 37)] ((w.alloc (.cells #[.int .i64 zl, .int .i64 zp, .int .i64 zf, .slice A L.length c, .int .i64 lf, .bool dn, .int .i64 fr, .int .i64 ln, .int .i64 en, .int .i64 sf, .string tl, .slice FA 0 fc, .int .i64 hd, .slice TA ts.length tc, .int .i64 nx] 37)).alloc (.cells #[.int .i64 zl, .int .i64 zp, .int .i64 zf, .slice A' L.length c', .int .i64 lf, .bool dn, .int .i64 fr, .int .i64 ln, .int .i64 en, .int .i64 sf, .string tl, .slice FA' 0 fc', .int .i64 hd, .slice TA' ts.length tc', .int .i64 nx] 37)) from (((BxL.nil (Below.refl w.heap.size w)).new (by simp) #[.int .i64 zl, .int .i64 zp, .int .i64 zf, .slice A L.length c, .int .i64 lf, .bool dn, .int .i64 fr, .int .i64 ln, .int .i64 en, .int .i64 sf, .string tl, .slice FA 0 fc, .int .i64 hd, .slice TA ts.length tc, .int .i64 nx] 37).new (by simp) #[.int .i64 zl, .int .i64 zp, .int .i64 zf, .slice A' L.length c', .int .i64 lf, .bool dn, .int .i64 fr, .int .i64 ln, .int .i64 en, .int .i64 sf, .string tl, .slice FA' 0 fc', .int .i64 hd, .slice TA' ts.length tc', .int .i64 nx] 37))
  obtain ⟨W0, hW0⟩ : ∃ W, W = ((w.alloc (.cells #[.int .i64 zl, .int .i64 zp, .int .i64 zf, .slice A L.length c, .int .i64 lf, .bool dn, .int .i64 fr, .int .i64 ln, .int .i64 en, .int .i64 sf, .string tl, .slice FA 0 fc, .int .i64 hd, .slice TA ts.length tc, .int .i64 nx] 37)).alloc (.cells #[.int .i64 zl, .int .i64 zp, .int .i64 zf, .slice A' L.length c', .int .i64 lf, .bool dn, .int .i64 fr, .int .i64 ln, .int .i64 en, .int .i64 sf, .string tl, .slice FA' 0 fc', .int .i64 hd, .slice TA' ts.length tc', .int .i64 nx] 37)) := ⟨_, rfl⟩
  rw [← hW0] at H0 ⊢
  clear hW0
  have hc0 := blkCell H0.out.get0
  have hc1 := blkCell H0.out.get1
  go_upto_region 5 with (first
    | (with_reducible refine listPart (by kernel_rfl) 26 (.tmp 7) rfl w.heap.size 0 rfl #[.int .i64 zl, .int .i64 zp, .int .i64 zf] #[.int .i64 zl, .int .i64 zp, .int .i64 zf, .slice A L.length c, .int .i64 lf, .bool dn, .int .i64 fr, .int .i64 ln, .int .i64 en, .int .i64 sf, .string tl, .slice FA 0 fc, .int .i64 hd, .slice TA ts.length tc, .int .i64 nx] _ H0.out.get0 (by kernel_rfl) _ Tryz.underlying26 (by kernel_rfl) (by kernel_rfl) ?_)
    | (with_reducible refine listPart (by kernel_rfl) 26 (.tmp 9) rfl (w.heap.size + 1) 0 rfl #[.int .i64 zl, .int .i64 zp, .int .i64 zf] #[.int .i64 zl, .int .i64 zp, .int .i64 zf, .slice A' L.length c', .int .i64 lf, .bool dn, .int .i64 fr, .int .i64 ln, .int .i64 en, .int .i64 sf, .string tl, .slice FA' 0 fc', .int .i64 hd, .slice TA' ts.length tc', .int .i64 nx] _ H0.out.get1 (by kernel_rfl) _ Tryz.underlying26 (by kernel_rfl) (by kernel_rfl) ?_)
    | (with_reducible refine listPart (by kernel_rfl) 31 (.tmp 13) rfl w.heap.size 6 rfl #[.int .i64 fr, .int .i64 ln, .int .i64 en, .int .i64 sf, .string tl] #[.int .i64 zl, .int .i64 zp, .int .i64 zf, .slice A L.length c, .int .i64 lf, .bool dn, .int .i64 fr, .int .i64 ln, .int .i64 en, .int .i64 sf, .string tl, .slice FA 0 fc, .int .i64 hd, .slice TA ts.length tc, .int .i64 nx] _ H0.out.get0 (by kernel_rfl) _ Tryz.underlying31 (by kernel_rfl) (by kernel_rfl) ?_)
    | (with_reducible refine listPart (by kernel_rfl) 31 (.tmp 15) rfl (w.heap.size + 1) 6 rfl #[.int .i64 fr, .int .i64 ln, .int .i64 en, .int .i64 sf, .string tl] #[.int .i64 zl, .int .i64 zp, .int .i64 zf, .slice A' L.length c', .int .i64 lf, .bool dn, .int .i64 fr, .int .i64 ln, .int .i64 en, .int .i64 sf, .string tl, .slice FA' 0 fc', .int .i64 hd, .slice TA' ts.length tc', .int .i64 nx] _ H0.out.get1 (by kernel_rfl) _ Tryz.underlying31 (by kernel_rfl) (by kernel_rfl) ?_)
    | (go_at_call 37; (with_reducible refine (HT.out _ H0.out.below).mono ?_); rintro e w1 ⟨rfl, hb1⟩))
  have H1 := Lib.hid (H0.out.step hb1)
  clear hb1 hc0 hc1 H0 hze hle HT
  go_wp2_with fail
  go_loopw [5] (fun v wr => ∃ k : Nat, v = .int .i64 (k : Int) ∧ k ≤ L.length ∧ BxL w.heap.size w [(#[.int .i64 zl, .int .i64 zp, .int .i64 zf, .slice A L.length c, .int .i64 lf, .bool dn, .int .i64 fr, .int .i64 ln, .int .i64 en, .int .i64 sf, .string tl, .slice FA 0 fc, .int .i64 hd, .slice TA ts.length tc, .int .i64 nx], 37), (#[.int .i64 zl, .int .i64 zp, .int .i64 zf, .slice A' L.length c', .int .i64 lf, .bool dn, .int .i64 fr, .int .i64 ln, .int .i64 en, .int .i64 sf, .string tl, .slice FA' 0 fc', .int .i64 hd, .slice TA' ts.length tc', .int .i64 nx], 37)] wr) (fun v _ => L.length - (intOf v).toNat)
  case atStart => exact ⟨0, rfl, Nat.zero_le _, H1.out⟩
  case round =>
    obtain ⟨k, rfl, hk, hbx⟩ := hrel
    have HX := Lib.hid hbx
    have hc0 := blkCell hbx.get0
    have hc1 := blkCell hbx.get1
    clear hbx H1
    by_cases hlt : k < L.length
    · have hk0 : (0 : Int) ≤ (k : Int) := by omega
      have hk1 : (k : Int) < (L.length : Int) := by omega
      have hwk : IntKind.i64.wrap ((k : Int) + 1) = (k : Int) + 1 := IntWalk.i64_in _ (by omega)
      obtain ⟨b1, o1, rfl, hca, hbl1, hcell1⟩ := read_at strC_len (HR1.out.below HX.out.below) hlt
      obtain ⟨b2, o2, rfl, hcb, hbl2, hcell2⟩ := read_at strC_len (HR2.out.below HX.out.below) hlt
      have q1 := hcell1 0 _ rfl
      have q2 := hcell2 0 _ rfl
      simp only [Nat.mul_one, Nat.add_zero] at q1 q2
      generalize L[k] = x at q1 q2
      clear hcell1 hcell2 hca hcb
      go_upto_region 8 with fail
      go_quiet (fail)
      go_wp2_with fail
      go_roundw
      case rel => exact ⟨k + 1, by go_num, by omega, HX.out.step (drewB _ _)⟩
      case measure => simp [intOf]; omega
    · have hk1 : ¬ (k : Int) < (L.length : Int) := by omega
      go_wp2_with fail
      go_loopw [6] (fun v wr => v = .int .i64 0 ∧ BxL w.heap.size w [(#[.int .i64 zl, .int .i64 zp, .int .i64 zf, .slice A L.length c, .int .i64 lf, .bool dn, .int .i64 fr, .int .i64 ln, .int .i64 en, .int .i64 sf, .string tl, .slice FA 0 fc, .int .i64 hd, .slice TA ts.length tc, .int .i64 nx], 37), (#[.int .i64 zl, .int .i64 zp, .int .i64 zf, .slice A' L.length c', .int .i64 lf, .bool dn, .int .i64 fr, .int .i64 ln, .int .i64 en, .int .i64 sf, .string tl, .slice FA' 0 fc', .int .i64 hd, .slice TA' ts.length tc', .int .i64 nx], 37)] wr) (fun _ _ => 0)
      case atStart => exact ⟨rfl, HX.out⟩
      case round =>
        obtain ⟨rfl, hby⟩ := hrel
        have HY := Lib.hid hby
        have hd0 := blkCell hby.get0
        clear hby
        go_wp2_with fail
        go_ret
        exact ⟨rfl, HY.out.below⟩
end Go.Proofs.YthfglhafphfhiaaGreat
