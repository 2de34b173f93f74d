/- The walk over package txn: Commit. -/
import Derived.Test.YthfglhafphfhiaaGreatGp08
import Derived.Test.YthfglhafphfhiaaGreatGp05
namespace Tx
open Lg
theorem logB_put {s : St} (h : LogB s) (r : Rc.Rec) : LogB (putS s r).1 := by
  unfold putS
  split
  · have he0 := h.e0
    have ht0 := h.t0
    have ht1 := h.t1
    have hs1 := h.s1
    have hn1 := h.n1
    have key : ∀ (k : Nat) (t : ByteArray), t.size = k → s.log.end_ + (k : Int) ≤ s.log.n * 128 → LogB { s with log := { s.log with end_ := s.log.end_ + (k : Int), tail := s.log.tail ++ t }, txns := noteT s.txns { r with lsn := (appendD s.log r).2.1 } } := by
      intro k t hk hle
      refine ⟨?_, ?_, ?_, ?_, h.f, h.n0, h.n1, h.s0, ?_⟩
      · show 0 ≤ s.log.end_ + (k : Int); omega
      · show s.log.end_ + (k : Int) ≤ 128000; omega
      · show ((s.log.tail ++ t).size : Int) ≤ s.log.end_ + (k : Int); rw [ByteArray.size_append, hk]; omega
      · show (s.log.end_ + (k : Int)) % 128 ≤ ((s.log.tail ++ t).size : Int); rw [ByteArray.size_append, hk]; omega
      · show s.log.safe ≤ s.log.end_ + (k : Int); omega
    rename_i hz
    by_cases h1 : Rc.Right { r with lsn := s.log.end_ + 1 }
    · by_cases h2 : s.log.n * 128 - ((putR { r with lsn := s.log.end_ + 1 }).length : Int) < s.log.end_
      · exfalso
        unfold appendD at hz; simp only at hz; rw [if_neg (fun hn => hn h1), if_pos h2] at hz; exact absurd hz (by show ¬ (18 : Int) = 0; decide)
      · have e := append_okT (l := s.log) (r := r) h1 h2
        have hk := key (putR { r with lsn := s.log.end_ + 1 }).length ⟨(putR { r with lsn := s.log.end_ + 1 }).toArray⟩ (by show (putR { r with lsn := s.log.end_ + 1 }).toArray.size = _; simp) (by omega)
        have e1 : (appendD s.log r).1 = _ := congrArg (·.1) e
        simp only at e1
        rw [e1]
        exact hk
    · exfalso
      unfold appendD at hz; simp only at hz; rw [if_pos h1] at hz; exact absurd hz (by show ¬ (1 : Int) = 0; decide)
  · exact h
theorem logB_own {s : St} (h : LogB s) (n : Int) (opn : Bool) (r : Rc.Rec) : LogB (ownS s n opn r).1 := by
  unfold ownS
  split
  · exact h
  · split
    · exact h
    · exact logB_put h _
theorem logB_force {s : St} (h : LogB s) : LogB (forceS s).1 := by
  have key : (forceD s.disk s.log).2.1 = s.log ∨ (forceD s.disk s.log).2.1 = forcedL s.log := by
    unfold forceD
    split
    · exact .inl rfl
    · simp only
      split
      · exact .inr rfl
      · exact .inl rfl
  have he0 := h.e0
  have ht0 := h.t0
  have ht1 := h.t1
  rcases key with k | k
  · exact ⟨by show 0 ≤ (forceD s.disk s.log).2.1.end_; rw [k]; exact h.e0, by show (forceD s.disk s.log).2.1.end_ ≤ _; rw [k]; exact h.e1, by show ((forceD s.disk s.log).2.1.tail.size : Int) ≤ (forceD s.disk s.log).2.1.end_; rw [k]; exact h.t0, by show (forceD s.disk s.log).2.1.end_ % 128 ≤ ((forceD s.disk s.log).2.1.tail.size : Int); rw [k]; exact h.t1, by show (forceD s.disk s.log).2.1.from_ = 1; rw [k]; exact h.f, by show 0 ≤ (forceD s.disk s.log).2.1.n; rw [k]; exact h.n0, by show (forceD s.disk s.log).2.1.n ≤ 1000; rw [k]; exact h.n1, by show 0 ≤ (forceD s.disk s.log).2.1.safe; rw [k]; exact h.s0, by show (forceD s.disk s.log).2.1.safe ≤ (forceD s.disk s.log).2.1.end_; rw [k]; exact h.s1⟩
  · have hsz : ((forcedL s.log).tail.size : Int) = s.log.end_ % 128 := by
      unfold forcedL
      show ((s.log.tail.extract (s.log.tail.size - (s.log.end_ % 128).toNat) s.log.tail.size).size : Int) = _
      rw [ByteArray.size_extract]
      omega
    exact ⟨by show 0 ≤ (forceD s.disk s.log).2.1.end_; rw [k]; exact h.e0, by show (forceD s.disk s.log).2.1.end_ ≤ _; rw [k]; exact h.e1, by show ((forceD s.disk s.log).2.1.tail.size : Int) ≤ (forceD s.disk s.log).2.1.end_; rw [k, hsz]; show _ ≤ s.log.end_; omega, by show (forceD s.disk s.log).2.1.end_ % 128 ≤ ((forceD s.disk s.log).2.1.tail.size : Int); rw [k, hsz]; exact Int.le_refl _, by show (forceD s.disk s.log).2.1.from_ = 1; rw [k]; exact h.f, by show 0 ≤ (forceD s.disk s.log).2.1.n; rw [k]; exact h.n0, by show (forceD s.disk s.log).2.1.n ≤ 1000; rw [k]; exact h.n1, by show 0 ≤ (forceD s.disk s.log).2.1.safe; rw [k]; exact h.e0, by show (forceD s.disk s.log).2.1.safe ≤ (forceD s.disk s.log).2.1.end_; rw [k]; exact Int.le_refl _⟩
theorem putS_len (s : St) (r : Rc.Rec) : (putS s r).1.txns.length ≤ s.txns.length + 1 := by
  unfold putS
  split
  · exact noteT_len _ _
  · exact Nat.le_succ _
theorem ownS_len (s : St) (n : Int) (opn : Bool) (r : Rc.Rec) : (ownS s n opn r).1.txns.length ≤ s.txns.length + 1 := by
  unfold ownS
  split
  · simp
  · split
    · simp
    · exact putS_len _ _
theorem ownS_disk (s : St) (n : Int) (opn : Bool) (r : Rc.Rec) : (ownS s n opn r).1.disk = s.disk := by
  unfold ownS
  split
  · rfl
  · split
    · rfl
    · unfold putS; split <;> rfl
theorem commitS_no {s : St} {n : Int} (h : ¬ (ownS s n true (Rc.bare 5 0 0 0)).2 = 0) : commitS s n = ownS s n true (Rc.bare 5 0 0 0) := by unfold commitS; rw [if_neg h]
theorem commitS_stop {s : St} {n : Int} (h : (ownS s n true (Rc.bare 5 0 0 0)).2 = 0) (h2 : ¬ (forceS (ownS s n true (Rc.bare 5 0 0 0)).1).2 = 0) : commitS s n = forceS (ownS s n true (Rc.bare 5 0 0 0)).1 := by unfold commitS; rw [if_pos h, if_neg h2]
theorem commitS_go {s : St} {n : Int} (h : (ownS s n true (Rc.bare 5 0 0 0)).2 = 0) (h2 : (forceS (ownS s n true (Rc.bare 5 0 0 0)).1).2 = 0) : commitS s n = closeS (forceS (ownS s n true (Rc.bare 5 0 0 0)).1).1 n := by unfold commitS; rw [if_pos h, if_pos h2]
theorem closeS_yes {s : St} {n : Int} (h : (putS s (Rc.bare 7 0 (markS s n) n)).2 = 0) : closeS s n = ((putS s (Rc.bare 7 0 (markS s n) n)).1, 0) := by unfold closeS; rw [if_pos h]
theorem closeS_full {s : St} {n : Int} (h : ¬ (putS s (Rc.bare 7 0 (markS s n) n)).2 = 0) : closeS s n = ({ s with txns := noteT s.txns (Rc.bare 7 0 (markS s n) n) }, 0) := by unfold closeS; rw [if_neg h]
end Tx
namespace Go.Proofs.YthfglhafphfhiaaGreat
open Go.RowKit
/-- A part of a block is written, in a region that draws its order. -/
theorem wp_put_part {P : Program} {op : Oper} {a : Act} {w : World} {K : Act → World → Prop} {Q : Exit → Act → World → Prop} (ty : TypeId) (x y : Operand) (ho : op.op = .store ty x y)
    (b o : Nat) (part cur res : Array Value) (t : TypeId) (hx : a.eval x = .pointer (some ⟨b, o, none⟩)) (hy : a.eval y = .agg part) (hg : w.heap[b]? = some (.cells cur t (0, 0))) (hr : res = (cur.toList.take o ++ part.toList ++ cur.toList.drop (o + part.toList.length)).toArray)
    (hsz : decide (o + part.toList.length ≤ cur.size) = true) (hi : (P.info? ty).map (·.size) = some part.size) (h1 : part.all (·.oneCell') = true) (h : K (a.put op.dst undef) (w.setRow b res)) : op.wp P a w K Q := by
  have hst := run_storeCells_at P b o t part.toList 0 cur w hg (by rw [Nat.add_zero]; exact of_decide_eq_true hsz) (fun v hv => (Array.all_eq_true_iff_forall_mem.1 h1) v (by simpa using hv))
  rw [Nat.add_zero, ← hr] at hst
  have hrun : (storeVar ty ⟨b, o, none⟩ (.agg part)).run P w = .ok () (w.setRow b res) := by
    cases hq : P.info? ty with
    | none => simp [hq] at hi
    | some i =>
      have hs : part.size = i.size := by simp [hq] at hi; omega
      simp [storeVar, sizeOf, typeInfo, hq, Value.cells, hs, hst]
  unfold Oper.wp execOp
  simp only [ho, hx, hy, Instr.storeAt, Instr.sureAddr, Sem.run_bind, Sem.run_pure, Result.andThen_ok, hrun]
  exact h
set_option maxRecDepth 100000 in
set_option maxHeartbeats 8000000 in
theorem tcommit_any (s : Tx.St) (p : SP) (hb : Tx.LogB s) (hts : s.txns.length ≤ 700000) (hlf : -9223372036854775808 ≤ s.disk.left ∧ s.disk.left ≤ 9223372036854775807) (n : Int) (w : World) (h : StoreR w s p) :
    Calls Tryz.prog 23 #[storeV s p, .int .i64 n] w (StOut (Tx.commitS s n) p w) := by
  have HO := Lib.hid (fun W (hw : Below w.heap.size w W) => show Calls Tryz.prog 52 #[storeV s p, .int .i64 n, .bool true, .agg #[.int .i64 0, .int .i64 0, .int .i64 0, .int .i64 5, .int .i64 0, .int .i64 0, .int .i64 0, .int .i64 0, .int .i64 0, .string ⟨#[]⟩, .string ⟨#[]⟩, .int .i64 0, .int .i64 0, .string ⟨#[]⟩, .int .i64 0, .int .i64 0, .slice none 0 0, .slice none 0 0]] W (StOut (Tx.ownS s n true (Rc.bare 5 0 0 0)) p W) from town_any s p hb (by omega) n true 0 0 0 5 0 W (h.below hw))
  have hb1 := Tx.logB_own hb n true (Rc.bare 5 0 0 0)
  have hl1 := Tx.ownS_len s n true (Rc.bare 5 0 0 0)
  have hd1 := Tx.ownS_disk s n true (Rc.bare 5 0 0 0)
  have c1 := @Tx.commitS_no s n
  have c2 := @Tx.commitS_stop s n
  have c3 := @Tx.commitS_go s n
  have HM := Lib.hid (fun y (p' : SP) w' (hx : Tx.commitS s n = y) (hs : StoreR w' y.1 p') (hf : p'.F = p.F ∧ p'.fn = p.fn ∧ p'.fc = p.fc) (hb : Below w.heap.size w w') => show StOut (Tx.commitS s n) p w (.returned (.tuple #[storeV y.1 p', .int .i64 y.2])) w' from by rw [hx]; exact ⟨_, rfl, hs, hf, hb⟩)
  generalize StOut (Tx.commitS s n) p w = Q at HM ⊢
  generalize Tx.commitS s n = R at c1 c2 c3 HM
  generalize Tx.ownS s n true (Rc.bare 5 0 0 0) = y1 at HO hb1 hl1 hd1 c1 c2 c3
  have hlf1 : -9223372036854775808 ≤ y1.1.disk.left ∧ y1.1.disk.left ≤ 9223372036854775807 := by rw [hd1]; exact hlf
  have hlen1 : y1.1.txns.length ≤ 700001 := by omega
  clear hl1 hd1 hlf hb hts h
  by_cases he : y1.2 = 0
  rotate_left
  · have hx := c1 he
    subst hx
    have HMF := Lib.hid (fun (p' : SP) w' hs hf hb => HM.out R p' w' rfl hs hf hb)
    have he1 : (R.2 == 0) = false := by simpa using he
    have he2 : (R.2 != 0) = true := by simpa using he
    clear c1 c2 c3 HM he hb1 hlf1 hlen1
    obtain ⟨⟨zl2, zp2, zf2, ⟨L2, lf2, dn2⟩, ⟨fr2, ln2, en2, sf2, tl2⟩, hd2, ts2, nx2⟩, e2⟩ := R
    obtain ⟨zl, zp, zf, ⟨L, lf, dn⟩, ⟨fr, ln, en, sf, tl⟩, hd, ts, nx⟩ := s
    obtain ⟨A, c, FA, fn, fc, TA, tc⟩ := p
    dsimp only [storeV] at HO HMF he1 he2 ⊢
    go_enter Tryz.func23, Tryz.ntmps23
    go_upto_region 1 with fail
    have H0 := Lib.hid (show BxL w.heap.size w [(#[.int .i64 zl, .int .i64 zp, .int .i64 zf, .slice A L.length c, .int .i64 lf, .bool dn, .int .i64 fr, .int .i64 ln, .int .i64 en, .int .i64 sf, .string tl, .slice FA fn fc, .int .i64 hd, .slice TA ts.length tc, .int .i64 nx], 37), (#[.int .i64 0, .int .i64 0, .int .i64 0, .slice none 0 0, .int .i64 0, .bool false, .int .i64 0, .int .i64 0, .int .i64 0, .int .i64 0, .string ⟨#[]⟩, .slice none 0 0, .int .i64 0, .slice none 0 0, .int .i64 0], 37)] ((w.alloc (.cells #[.int .i64 zl, .int .i64 zp, .int .i64 zf, .slice A L.length c, .int .i64 lf, .bool dn, .int .i64 fr, .int .i64 ln, .int .i64 en, .int .i64 sf, .string tl, .slice FA fn fc, .int .i64 hd, .slice TA ts.length tc, .int .i64 nx] 37)).alloc (.cells #[.int .i64 0, .int .i64 0, .int .i64 0, .slice none 0 0, .int .i64 0, .bool false, .int .i64 0, .int .i64 0, .int .i64 0, .int .i64 0, .string ⟨#[]⟩, .slice none 0 0, .int .i64 0, .slice none 0 0, .int .i64 0] 37)) from (((BxL.nil (Below.refl w.heap.size w)).new (by simp) #[.int .i64 zl, .int .i64 zp, .int .i64 zf, .slice A L.length c, .int .i64 lf, .bool dn, .int .i64 fr, .int .i64 ln, .int .i64 en, .int .i64 sf, .string tl, .slice FA fn fc, .int .i64 hd, .slice TA ts.length tc, .int .i64 nx] 37).new (by simp) #[.int .i64 0, .int .i64 0, .int .i64 0, .slice none 0 0, .int .i64 0, .bool false, .int .i64 0, .int .i64 0, .int .i64 0, .int .i64 0, .string ⟨#[]⟩, .slice none 0 0, .int .i64 0, .slice none 0 0, .int .i64 0] 37))
    obtain ⟨W0, hW0⟩ : ∃ W, W = ((w.alloc (.cells #[.int .i64 zl, .int .i64 zp, .int .i64 zf, .slice A L.length c, .int .i64 lf, .bool dn, .int .i64 fr, .int .i64 ln, .int .i64 en, .int .i64 sf, .string tl, .slice FA fn fc, .int .i64 hd, .slice TA ts.length tc, .int .i64 nx] 37)).alloc (.cells #[.int .i64 0, .int .i64 0, .int .i64 0, .slice none 0 0, .int .i64 0, .bool false, .int .i64 0, .int .i64 0, .int .i64 0, .int .i64 0, .string ⟨#[]⟩, .slice none 0 0, .int .i64 0, .slice none 0 0, .int .i64 0] 37)) := ⟨_, rfl⟩
    rw [← hW0] at H0 ⊢
    clear hW0
    go_upto_region 2 with (first
      | (with_reducible refine listLoad (by kernel_rfl) 37 (.tmp 2) rfl w.heap.size rfl #[.int .i64 zl, .int .i64 zp, .int .i64 zf, .slice A L.length c, .int .i64 lf, .bool dn, .int .i64 fr, .int .i64 ln, .int .i64 en, .int .i64 sf, .string tl, .slice FA fn fc, .int .i64 hd, .slice TA ts.length tc, .int .i64 nx] _ H0.out.get0 _ Tryz.underlying37 (by kernel_rfl) (by kernel_rfl) ?_)
      | (go_at_call 52; (with_reducible refine (HO.out _ H0.out.below).mono ?_); rintro e w5 ⟨p', he, hs5, hf5, hb5⟩; have HF5 := Lib.hid hf5; clear hf5; obtain ⟨A2, c2, FA2, fn2, fc2, TA2, tc2⟩ := p'; (try dsimp only [storeV] at he); subst he; have H5 := Lib.hid (H0.out.step hb5))
      | (with_reducible refine listStore (by kernel_rfl) 37 (.tmp 2) (.tmp 17) rfl w.heap.size #[.int .i64 zl2, .int .i64 zp2, .int .i64 zf2, .slice A2 L2.length c2, .int .i64 lf2, .bool dn2, .int .i64 fr2, .int .i64 ln2, .int .i64 en2, .int .i64 sf2, .string tl2, .slice FA2 fn2 fc2, .int .i64 hd2, .slice TA2 ts2.length tc2, .int .i64 nx2] _ _ rfl rfl H5.out.get0 (by kernel_rfl) (by kernel_rfl) (by kernel_rfl) ?_))
    have H6 := Lib.hid (H5.out.row 0 #[.int .i64 zl2, .int .i64 zp2, .int .i64 zf2, .slice A2 L2.length c2, .int .i64 lf2, .bool dn2, .int .i64 fr2, .int .i64 ln2, .int .i64 en2, .int .i64 sf2, .string tl2, .slice FA2 fn2 fc2, .int .i64 hd2, .slice TA2 ts2.length tc2, .int .i64 nx2] _ rfl)
    simp only [Nat.add_zero] at H6
    have HS6 := Lib.hid (hs5.other H5.out.get0 (by decide) (by decide) #[.int .i64 zl2, .int .i64 zp2, .int .i64 zf2, .slice A2 L2.length c2, .int .i64 lf2, .bool dn2, .int .i64 fr2, .int .i64 ln2, .int .i64 en2, .int .i64 sf2, .string tl2, .slice FA2 fn2 fc2, .int .i64 hd2, .slice TA2 ts2.length tc2, .int .i64 nx2])
    obtain ⟨W6, hW6⟩ : ∃ W, W = w5.setRow w.heap.size #[.int .i64 zl2, .int .i64 zp2, .int .i64 zf2, .slice A2 L2.length c2, .int .i64 lf2, .bool dn2, .int .i64 fr2, .int .i64 ln2, .int .i64 en2, .int .i64 sf2, .string tl2, .slice FA2 fn2 fc2, .int .i64 hd2, .slice TA2 ts2.length tc2, .int .i64 nx2] := ⟨_, rfl⟩
    rw [← hW6] at H6 HS6
    rw [← hW6]
    clear hW6 hs5 hb5 H5 H0 HO
    go_wp2_with (first
      | (with_reducible refine listLoad (by kernel_rfl) 37 (.tmp 2) rfl w.heap.size rfl #[.int .i64 zl2, .int .i64 zp2, .int .i64 zf2, .slice A2 L2.length c2, .int .i64 lf2, .bool dn2, .int .i64 fr2, .int .i64 ln2, .int .i64 en2, .int .i64 sf2, .string tl2, .slice FA2 fn2 fc2, .int .i64 hd2, .slice TA2 ts2.length tc2, .int .i64 nx2] _ H6.out.get0 _ Tryz.underlying37 (by kernel_rfl) (by kernel_rfl) ?_)
      | (with_reducible refine listStore (by kernel_rfl) 37 (.tmp 4) (.tmp 21) rfl (w.heap.size + 1) #[.int .i64 zl2, .int .i64 zp2, .int .i64 zf2, .slice A2 L2.length c2, .int .i64 lf2, .bool dn2, .int .i64 fr2, .int .i64 ln2, .int .i64 en2, .int .i64 sf2, .string tl2, .slice FA2 fn2 fc2, .int .i64 hd2, .slice TA2 ts2.length tc2, .int .i64 nx2] _ _ rfl rfl H6.out.get1 (by kernel_rfl) (by kernel_rfl) (by kernel_rfl) ?_))
    refine bodyPost_ret (v := .tuple #[.agg #[.int .i64 zl2, .int .i64 zp2, .int .i64 zf2, .slice A2 L2.length c2, .int .i64 lf2, .bool dn2, .int .i64 fr2, .int .i64 ln2, .int .i64 en2, .int .i64 sf2, .string tl2, .slice FA2 fn2 fc2, .int .i64 hd2, .slice TA2 ts2.length tc2, .int .i64 nx2], .int .i64 e2]) (results_cell2 rfl _ _ rfl (load_whole (setRow_heap _ _ _ _ _ _ H6.out.get1) Tryz.underlying37 (by kernel_rfl) (by kernel_rfl)) rfl) rfl ?_
    exact HMF.out ⟨A2, c2, FA2, fn2, fc2, TA2, tc2⟩ _ (HS6.out.other H6.out.get1 (by decide) (by decide) _) HF5.out ((H6.out.row 1 _ _ rfl).below)
  have d2 := c2 he
  have d3 := c3 he
  clear c1 c2 c3
  have hb2 := Tx.logB_force hb1
  have hff : Tx.forceS y1.1 = ({ y1.1 with disk := (Lg.forceD y1.1.disk y1.1.log).1, log := (Lg.forceD y1.1.disk y1.1.log).2.1 }, (Lg.forceD y1.1.disk y1.1.log).2.2) := rfl
  rw [hff] at d2 d3 hb2
  clear hff
  have HFO := Lib.hid (fun A c W (hd : DiskR W y1.1.disk A c) => force_any y1.1.disk hlf1 A c y1.1.log hb1.e0 (by have := hb1.e1; omega) (by have := hb1.n0; omega) (by have := hb1.n1; omega) (by have := hb1.f; omega) (by have := hb1.f; omega) (by have := hb1.t0; have := hb1.e1; omega) hb1.t0 hb1.t1 W hd)
  generalize Lg.forceD y1.1.disk y1.1.log = fo at HFO d2 d3 hb2
  obtain ⟨⟨L3, lf3, dn3⟩, ⟨fr3, ln3, en3, sf3, tl3⟩, e3⟩ := fo
  obtain ⟨⟨zl2, zp2, zf2, ⟨L2, lf2, dn2⟩, ⟨fr2, ln2, en2, sf2, tl2⟩, hd2, ts2, nx2⟩, e2⟩ := y1
  simp only at he d2 d3 hb2 hlen1 HFO
  subst he
  clear hb1 hlf1
  have HB2 := Lib.hid hb2
  clear hb2
  obtain ⟨zl, zp, zf, ⟨L, lf, dn⟩, ⟨fr, ln, en, sf, tl⟩, hd, ts, nx⟩ := s
  obtain ⟨A, c, FA, fn, fc, TA, tc⟩ := p
  dsimp only [storeV, diskV, logV] at HO HFO ⊢
  go_enter Tryz.func23, Tryz.ntmps23
  go_upto_region 1 with fail
  have H0 := Lib.hid (show BxL w.heap.size w [(#[.int .i64 zl, .int .i64 zp, .int .i64 zf, .slice A L.length c, .int .i64 lf, .bool dn, .int .i64 fr, .int .i64 ln, .int .i64 en, .int .i64 sf, .string tl, .slice FA fn fc, .int .i64 hd, .slice TA ts.length tc, .int .i64 nx], 37), (#[.int .i64 0, .int .i64 0, .int .i64 0, .slice none 0 0, .int .i64 0, .bool false, .int .i64 0, .int .i64 0, .int .i64 0, .int .i64 0, .string ⟨#[]⟩, .slice none 0 0, .int .i64 0, .slice none 0 0, .int .i64 0], 37)] ((w.alloc (.cells #[.int .i64 zl, .int .i64 zp, .int .i64 zf, .slice A L.length c, .int .i64 lf, .bool dn, .int .i64 fr, .int .i64 ln, .int .i64 en, .int .i64 sf, .string tl, .slice FA fn fc, .int .i64 hd, .slice TA ts.length tc, .int .i64 nx] 37)).alloc (.cells #[.int .i64 0, .int .i64 0, .int .i64 0, .slice none 0 0, .int .i64 0, .bool false, .int .i64 0, .int .i64 0, .int .i64 0, .int .i64 0, .string ⟨#[]⟩, .slice none 0 0, .int .i64 0, .slice none 0 0, .int .i64 0] 37)) from (((BxL.nil (Below.refl w.heap.size w)).new (by simp) #[.int .i64 zl, .int .i64 zp, .int .i64 zf, .slice A L.length c, .int .i64 lf, .bool dn, .int .i64 fr, .int .i64 ln, .int .i64 en, .int .i64 sf, .string tl, .slice FA fn fc, .int .i64 hd, .slice TA ts.length tc, .int .i64 nx] 37).new (by simp) #[.int .i64 0, .int .i64 0, .int .i64 0, .slice none 0 0, .int .i64 0, .bool false, .int .i64 0, .int .i64 0, .int .i64 0, .int .i64 0, .string ⟨#[]⟩, .slice none 0 0, .int .i64 0, .slice none 0 0, .int .i64 0] 37))
  obtain ⟨W0, hW0⟩ : ∃ W, W = ((w.alloc (.cells #[.int .i64 zl, .int .i64 zp, .int .i64 zf, .slice A L.length c, .int .i64 lf, .bool dn, .int .i64 fr, .int .i64 ln, .int .i64 en, .int .i64 sf, .string tl, .slice FA fn fc, .int .i64 hd, .slice TA ts.length tc, .int .i64 nx] 37)).alloc (.cells #[.int .i64 0, .int .i64 0, .int .i64 0, .slice none 0 0, .int .i64 0, .bool false, .int .i64 0, .int .i64 0, .int .i64 0, .int .i64 0, .string ⟨#[]⟩, .slice none 0 0, .int .i64 0, .slice none 0 0, .int .i64 0] 37)) := ⟨_, rfl⟩
  rw [← hW0] at H0 ⊢
  clear hW0
  go_upto_region 2 with (first
    | (with_reducible refine listLoad (by kernel_rfl) 37 (.tmp 2) rfl w.heap.size rfl #[.int .i64 zl, .int .i64 zp, .int .i64 zf, .slice A L.length c, .int .i64 lf, .bool dn, .int .i64 fr, .int .i64 ln, .int .i64 en, .int .i64 sf, .string tl, .slice FA fn fc, .int .i64 hd, .slice TA ts.length tc, .int .i64 nx] _ H0.out.get0 _ Tryz.underlying37 (by kernel_rfl) (by kernel_rfl) ?_)
    | (go_at_call 52; (with_reducible refine (HO.out _ H0.out.below).mono ?_); rintro e w5 ⟨p', he, hs5, hf5, hb5⟩; have HF5 := Lib.hid hf5; clear hf5; obtain ⟨A2, c2, FA2, fn2, fc2, TA2, tc2⟩ := p'; (try dsimp only [storeV] at he); subst he; have H5 := Lib.hid (H0.out.step hb5))
    | (with_reducible refine listStore (by kernel_rfl) 37 (.tmp 2) (.tmp 17) rfl w.heap.size #[.int .i64 zl2, .int .i64 zp2, .int .i64 zf2, .slice A2 L2.length c2, .int .i64 lf2, .bool dn2, .int .i64 fr2, .int .i64 ln2, .int .i64 en2, .int .i64 sf2, .string tl2, .slice FA2 fn2 fc2, .int .i64 hd2, .slice TA2 ts2.length tc2, .int .i64 nx2] _ _ rfl rfl H5.out.get0 (by kernel_rfl) (by kernel_rfl) (by kernel_rfl) ?_))
  have H6 := Lib.hid (H5.out.row 0 #[.int .i64 zl2, .int .i64 zp2, .int .i64 zf2, .slice A2 L2.length c2, .int .i64 lf2, .bool dn2, .int .i64 fr2, .int .i64 ln2, .int .i64 en2, .int .i64 sf2, .string tl2, .slice FA2 fn2 fc2, .int .i64 hd2, .slice TA2 ts2.length tc2, .int .i64 nx2] _ rfl)
  simp only [Nat.add_zero] at H6
  have HS6 := Lib.hid (hs5.other H5.out.get0 (by decide) (by decide) #[.int .i64 zl2, .int .i64 zp2, .int .i64 zf2, .slice A2 L2.length c2, .int .i64 lf2, .bool dn2, .int .i64 fr2, .int .i64 ln2, .int .i64 en2, .int .i64 sf2, .string tl2, .slice FA2 fn2 fc2, .int .i64 hd2, .slice TA2 ts2.length tc2, .int .i64 nx2])
  obtain ⟨W6, hW6⟩ : ∃ W, W = w5.setRow w.heap.size #[.int .i64 zl2, .int .i64 zp2, .int .i64 zf2, .slice A2 L2.length c2, .int .i64 lf2, .bool dn2, .int .i64 fr2, .int .i64 ln2, .int .i64 en2, .int .i64 sf2, .string tl2, .slice FA2 fn2 fc2, .int .i64 hd2, .slice TA2 ts2.length tc2, .int .i64 nx2] := ⟨_, rfl⟩
  rw [← hW6] at H6 HS6
  rw [← hW6]
  clear hW6 hs5 hb5 H5 H0 HO
  have HFF := Lib.hid (HFO.out A2 c2 W6 HS6.out.dk)
  clear HFO
  go_upto_region 5 with (first
    | (with_reducible refine listPart (by kernel_rfl) 29 (.tmp 24) rfl w.heap.size 3 rfl #[.slice A2 L2.length c2, .int .i64 lf2, .bool dn2] #[.int .i64 zl2, .int .i64 zp2, .int .i64 zf2, .slice A2 L2.length c2, .int .i64 lf2, .bool dn2, .int .i64 fr2, .int .i64 ln2, .int .i64 en2, .int .i64 sf2, .string tl2, .slice FA2 fn2 fc2, .int .i64 hd2, .slice TA2 ts2.length tc2, .int .i64 nx2] _ H6.out.get0 (by kernel_rfl) _ Tryz.underlying29 (by kernel_rfl) (by kernel_rfl) ?_)
    | (with_reducible refine listPart (by kernel_rfl) 31 (.tmp 26) rfl w.heap.size 6 rfl #[.int .i64 fr2, .int .i64 ln2, .int .i64 en2, .int .i64 sf2, .string tl2] #[.int .i64 zl2, .int .i64 zp2, .int .i64 zf2, .slice A2 L2.length c2, .int .i64 lf2, .bool dn2, .int .i64 fr2, .int .i64 ln2, .int .i64 en2, .int .i64 sf2, .string tl2, .slice FA2 fn2 fc2, .int .i64 hd2, .slice TA2 ts2.length tc2, .int .i64 nx2] _ H6.out.get0 (by kernel_rfl) _ Tryz.underlying31 (by kernel_rfl) (by kernel_rfl) ?_)
    | (go_at_call 53; (with_reducible refine HFF.out.mono ?_); rintro e w7 ⟨A3, c3, he, hd7, ht7, hb7⟩; dsimp only [diskV, logV] at he; subst he; have HD0 := Lib.hid (blkOld (heap_alloc_new w7 (.cells #[.slice none 0 0, .int .i64 0, .bool false] 29)) (allocB (w7.alloc (.cells #[.slice none 0 0, .int .i64 0, .bool false] 29)) (.cells #[.int .i64 0, .int .i64 0, .int .i64 0, .int .i64 0, .string ⟨#[]⟩] 31))); have HL0 := Lib.hid (show (((w7.alloc (.cells #[.slice none 0 0, .int .i64 0, .bool false] 29)).alloc (.cells #[.int .i64 0, .int .i64 0, .int .i64 0, .int .i64 0, .string ⟨#[]⟩] 31)).setRow w7.heap.size #[.slice A3 L3.length c3, .int .i64 lf3, .bool dn3]).heap[w7.heap.size + 1]? = some (.cells #[.int .i64 0, .int .i64 0, .int .i64 0, .int .i64 0, .string ⟨#[]⟩] 31 (0, 0)) from (heap_setRow_other _ _ _ _ (by omega)).trans (by have h := heap_alloc_new (w7.alloc (.cells #[.slice none 0 0, .int .i64 0, .bool false] 29)) (.cells #[.int .i64 0, .int .i64 0, .int .i64 0, .int .i64 0, .string ⟨#[]⟩] 31); simpa using h)))
    | (with_reducible refine listStore (by kernel_rfl) 29 (.tmp 7) (.tmp 29) rfl w7.heap.size #[.slice A3 L3.length c3, .int .i64 lf3, .bool dn3] _ _ rfl rfl HD0.out (by kernel_rfl) (by kernel_rfl) (by kernel_rfl) ?_)
    | (with_reducible refine listStore (by kernel_rfl) 31 (.tmp 8) (.tmp 30) rfl (w7.heap.size + 1) #[.int .i64 fr3, .int .i64 ln3, .int .i64 en3, .int .i64 sf3, .string tl3] _ _ rfl rfl HL0.out (by kernel_rfl) (by kernel_rfl) (by kernel_rfl) ?_))
  obtain ⟨bd, hbd⟩ : ∃ bd, bd = w7.heap.size := ⟨_, rfl⟩
  have hB7 : w.heap.size + 2 ≤ bd := by rw [hbd]; exact Nat.le_trans (H6.out.lt (i := 1) (by simp)) hb7.size
  have hC : Below w7.heap.size w7 ((((w7.alloc (.cells #[.slice none 0 0, .int .i64 0, .bool false] 29)).alloc (.cells #[.int .i64 0, .int .i64 0, .int .i64 0, .int .i64 0, .string ⟨#[]⟩] 31)).setRow w7.heap.size #[.slice A3 L3.length c3, .int .i64 lf3, .bool dn3]).setRow (w7.heap.size + 1) #[.int .i64 fr3, .int .i64 ln3, .int .i64 en3, .int .i64 sf3, .string tl3]) := below_setRow (below_setRow (pastAlloc (allocB w7 _)) (Nat.le_refl _) _) (Nat.le_succ _) _
  have HD8 := Lib.hid (show ((((w7.alloc (.cells #[.slice none 0 0, .int .i64 0, .bool false] 29)).alloc (.cells #[.int .i64 0, .int .i64 0, .int .i64 0, .int .i64 0, .string ⟨#[]⟩] 31)).setRow w7.heap.size #[.slice A3 L3.length c3, .int .i64 lf3, .bool dn3]).setRow (w7.heap.size + 1) #[.int .i64 fr3, .int .i64 ln3, .int .i64 en3, .int .i64 sf3, .string tl3]).heap[bd]? = some (.cells #[.slice A3 L3.length c3, .int .i64 lf3, .bool dn3] 29 (0, 0)) from (heap_setRow_other _ _ _ _ (by omega)).trans (by rw [hbd]; exact setRow_heap _ _ _ _ _ _ HD0.out))
  have HL8 := Lib.hid (show ((((w7.alloc (.cells #[.slice none 0 0, .int .i64 0, .bool false] 29)).alloc (.cells #[.int .i64 0, .int .i64 0, .int .i64 0, .int .i64 0, .string ⟨#[]⟩] 31)).setRow w7.heap.size #[.slice A3 L3.length c3, .int .i64 lf3, .bool dn3]).setRow (w7.heap.size + 1) #[.int .i64 fr3, .int .i64 ln3, .int .i64 en3, .int .i64 sf3, .string tl3]).heap[bd + 1]? = some (.cells #[.int .i64 fr3, .int .i64 ln3, .int .i64 en3, .int .i64 sf3, .string tl3] 31 (0, 0)) from by rw [hbd]; exact setRow_heap _ _ _ _ _ _ HL0.out)
  have H8 := Lib.hid ((H6.out.step hb7).step hC)
  have HS8 := Lib.hid (show StoreR _ ⟨zl2, zp2, zf2, ⟨L3, lf3, dn3⟩, ⟨fr3, ln3, en3, sf3, tl3⟩, hd2, ts2, nx2⟩ ⟨A3, c3, FA2, fn2, fc2, TA2, tc2⟩ from ⟨hd7.below hC, (ht7.elim (fun e => by rw [e]; exact HS6.out.dt.below hb7) (fun e => e.mono (Nat.zero_le _))).below hC, (HS6.out.tx.below hb7).below hC, (HS6.out.tt.below hb7).below hC⟩)
  obtain ⟨W8, hW8⟩ : ∃ W, W = (((w7.alloc (.cells #[.slice none 0 0, .int .i64 0, .bool false] 29)).alloc (.cells #[.int .i64 0, .int .i64 0, .int .i64 0, .int .i64 0, .string ⟨#[]⟩] 31)).setRow w7.heap.size #[.slice A3 L3.length c3, .int .i64 lf3, .bool dn3]).setRow (w7.heap.size + 1) #[.int .i64 fr3, .int .i64 ln3, .int .i64 en3, .int .i64 sf3, .string tl3] := ⟨_, rfl⟩
  rw [← hW8] at HD8 HL8 H8 HS8
  rw [← hW8, ← hbd]
  clear hW8 hbd hC HD0 HL0 hd7 ht7 hb7 H6 HS6 HFF
  have K0 := H8.out.drew
  have X0 := blkOld HD8.out (Below.refl _ W8).drew
  have Y0 := blkOld HL8.out (Below.refl _ W8).drew
  have R0 := HS8.out.below (Below.refl _ W8).drew
  go_upto_region 5 with fail
  refine wp_region_held_drew (S := (fun u => u.heap[bd]? = some (.cells #[.slice A3 L3.length c3, .int .i64 lf3, .bool dn3] 29 (0, 0)) ∧ u.heap[bd + 1]? = some (.cells #[.int .i64 fr3, .int .i64 ln3, .int .i64 en3, .int .i64 sf3, .string tl3] 31 (0, 0)))) (by kernel_rfl) ?_ (fun hHeld => ?_)
  · first | exact hSn | exact ⟨X0, Y0⟩
  refine tkV 0 (some 32) (v := .agg #[.slice A3 L3.length c3, .int .i64 lf3, .bool dn3]) rfl (yieldsIf_load_mid (by rfl) 29 (.tmp 7) rfl bd 0 (by rfl) #[.slice A3 L3.length c3, .int .i64 lf3, .bool dn3].toList _ (fun u hu => (by intro j v hj; rw [Nat.zero_add, blkCell hu.1]; simpa using hj)) Tryz.underlying29 (by kernel_rfl) (by kernel_rfl)) ?_
  try simp only [Act.put, List.setIfInBounds_toArray, List.set_cons_zero, List.set_cons_succ]
  refine tkV 1 (some 33) (v := .agg #[.int .i64 fr3, .int .i64 ln3, .int .i64 en3, .int .i64 sf3, .string tl3]) rfl (yieldsIf_load_mid (by rfl) 31 (.tmp 8) rfl (bd + 1) 0 (by rfl) #[.int .i64 fr3, .int .i64 ln3, .int .i64 en3, .int .i64 sf3, .string tl3].toList _ (fun u hu => (by intro j v hj; rw [Nat.zero_add, blkCell hu.2]; simpa using hj)) Tryz.underlying31 (by kernel_rfl) (by kernel_rfl)) ?_
  try simp only [Act.put, List.setIfInBounds_toArray, List.set_cons_zero, List.set_cons_succ]
  refine tkW 2 (some 34) (v := ?_) rfl ?_ ?_
  rotate_left
  · intro u hSu; clear hSu; go_simp; (try with_reducible rfl)
  try simp only [Act.put, List.setIfInBounds_toArray, List.set_cons_zero, List.set_cons_succ]
  refine rdH 3 none rfl (fun K hK => ?_)
  refine wantedIf (by rfl) ?_
  refine wp_put_part 29 (.tmp 34) (.tmp 32) rfl w.heap.size 3 #[.slice A3 L3.length c3, .int .i64 lf3, .bool dn3] #[.int .i64 zl2, .int .i64 zp2, .int .i64 zf2, .slice A2 L2.length c2, .int .i64 lf2, .bool dn2, .int .i64 fr2, .int .i64 ln2, .int .i64 en2, .int .i64 sf2, .string tl2, .slice FA2 fn2 fc2, .int .i64 hd2, .slice TA2 ts2.length tc2, .int .i64 nx2] #[.int .i64 zl2, .int .i64 zp2, .int .i64 zf2, .slice A3 L3.length c3, .int .i64 lf3, .bool dn3, .int .i64 fr2, .int .i64 ln2, .int .i64 en2, .int .i64 sf2, .string tl2, .slice FA2 fn2 fc2, .int .i64 hd2, .slice TA2 ts2.length tc2, .int .i64 nx2] _ rfl rfl K0.get0 (by kernel_rfl) (by kernel_rfl) (by kernel_rfl) (by kernel_rfl) ?_
  have K1 := K0.row 0 #[.int .i64 zl2, .int .i64 zp2, .int .i64 zf2, .slice A3 L3.length c3, .int .i64 lf3, .bool dn3, .int .i64 fr2, .int .i64 ln2, .int .i64 en2, .int .i64 sf2, .string tl2, .slice FA2 fn2 fc2, .int .i64 hd2, .slice TA2 ts2.length tc2, .int .i64 nx2] _ rfl
  simp only [Nat.add_zero] at K1
  have R1 := R0.other K0.get0 (by decide) (by decide) #[.int .i64 zl2, .int .i64 zp2, .int .i64 zf2, .slice A3 L3.length c3, .int .i64 lf3, .bool dn3, .int .i64 fr2, .int .i64 ln2, .int .i64 en2, .int .i64 sf2, .string tl2, .slice FA2 fn2 fc2, .int .i64 hd2, .slice TA2 ts2.length tc2, .int .i64 nx2]
  have X1 := (heap_setRow_other _ w.heap.size #[.int .i64 zl2, .int .i64 zp2, .int .i64 zf2, .slice A3 L3.length c3, .int .i64 lf3, .bool dn3, .int .i64 fr2, .int .i64 ln2, .int .i64 en2, .int .i64 sf2, .string tl2, .slice FA2 fn2 fc2, .int .i64 hd2, .slice TA2 ts2.length tc2, .int .i64 nx2] bd (by omega)).trans X0
  have Y1 := (heap_setRow_other _ w.heap.size #[.int .i64 zl2, .int .i64 zp2, .int .i64 zf2, .slice A3 L3.length c3, .int .i64 lf3, .bool dn3, .int .i64 fr2, .int .i64 ln2, .int .i64 en2, .int .i64 sf2, .string tl2, .slice FA2 fn2 fc2, .int .i64 hd2, .slice TA2 ts2.length tc2, .int .i64 nx2] (bd + 1) (by omega)).trans Y0
  have hSn := And.intro X1 Y1
  refine hK.out _ _ ?_ (fun hHeld => ?_)
  · first | exact hSn | exact ⟨X0, Y0⟩
  clear hK K
  try simp only [Act.put]
  refine tkW 4 (some 35) (v := ?_) rfl ?_ ?_
  rotate_left
  · intro u hSu; clear hSu; go_simp; (try with_reducible rfl)
  try simp only [Act.put, List.setIfInBounds_toArray, List.set_cons_zero, List.set_cons_succ]
  refine rdH 5 none rfl (fun K hK => ?_)
  refine wantedIf (by rfl) ?_
  refine wp_put_part 31 (.tmp 35) (.tmp 33) rfl w.heap.size 6 #[.int .i64 fr3, .int .i64 ln3, .int .i64 en3, .int .i64 sf3, .string tl3] #[.int .i64 zl2, .int .i64 zp2, .int .i64 zf2, .slice A3 L3.length c3, .int .i64 lf3, .bool dn3, .int .i64 fr2, .int .i64 ln2, .int .i64 en2, .int .i64 sf2, .string tl2, .slice FA2 fn2 fc2, .int .i64 hd2, .slice TA2 ts2.length tc2, .int .i64 nx2] #[.int .i64 zl2, .int .i64 zp2, .int .i64 zf2, .slice A3 L3.length c3, .int .i64 lf3, .bool dn3, .int .i64 fr3, .int .i64 ln3, .int .i64 en3, .int .i64 sf3, .string tl3, .slice FA2 fn2 fc2, .int .i64 hd2, .slice TA2 ts2.length tc2, .int .i64 nx2] _ rfl rfl K1.get0 (by kernel_rfl) (by kernel_rfl) (by kernel_rfl) (by kernel_rfl) ?_
  have K2 := K1.row 0 #[.int .i64 zl2, .int .i64 zp2, .int .i64 zf2, .slice A3 L3.length c3, .int .i64 lf3, .bool dn3, .int .i64 fr3, .int .i64 ln3, .int .i64 en3, .int .i64 sf3, .string tl3, .slice FA2 fn2 fc2, .int .i64 hd2, .slice TA2 ts2.length tc2, .int .i64 nx2] _ rfl
  simp only [Nat.add_zero] at K2
  have R2 := R1.other K1.get0 (by decide) (by decide) #[.int .i64 zl2, .int .i64 zp2, .int .i64 zf2, .slice A3 L3.length c3, .int .i64 lf3, .bool dn3, .int .i64 fr3, .int .i64 ln3, .int .i64 en3, .int .i64 sf3, .string tl3, .slice FA2 fn2 fc2, .int .i64 hd2, .slice TA2 ts2.length tc2, .int .i64 nx2]
  have X2 := (heap_setRow_other _ w.heap.size #[.int .i64 zl2, .int .i64 zp2, .int .i64 zf2, .slice A3 L3.length c3, .int .i64 lf3, .bool dn3, .int .i64 fr3, .int .i64 ln3, .int .i64 en3, .int .i64 sf3, .string tl3, .slice FA2 fn2 fc2, .int .i64 hd2, .slice TA2 ts2.length tc2, .int .i64 nx2] bd (by omega)).trans X1
  have Y2 := (heap_setRow_other _ w.heap.size #[.int .i64 zl2, .int .i64 zp2, .int .i64 zf2, .slice A3 L3.length c3, .int .i64 lf3, .bool dn3, .int .i64 fr3, .int .i64 ln3, .int .i64 en3, .int .i64 sf3, .string tl3, .slice FA2 fn2 fc2, .int .i64 hd2, .slice TA2 ts2.length tc2, .int .i64 nx2] (bd + 1) (by omega)).trans Y1
  try clear hSn
  have hSn := And.intro X2 Y2
  refine hK.out _ _ ?_ (fun hHeld => ?_)
  · first | exact hSn | exact ⟨X0, Y0⟩
  clear hK K
  try simp only [Act.put]
  refine wpAnyH_done (by kernel_rfl) ?_ _
  clear hHeld hSn
  have H9 := Lib.hid (show BxL w.heap.size w [(#[.int .i64 zl2, .int .i64 zp2, .int .i64 zf2, .slice A3 L3.length c3, .int .i64 lf3, .bool dn3, .int .i64 fr3, .int .i64 ln3, .int .i64 en3, .int .i64 sf3, .string tl3, .slice FA2 fn2 fc2, .int .i64 hd2, .slice TA2 ts2.length tc2, .int .i64 nx2], 37), (#[.int .i64 0, .int .i64 0, .int .i64 0, .slice none 0 0, .int .i64 0, .bool false, .int .i64 0, .int .i64 0, .int .i64 0, .int .i64 0, .string ⟨#[]⟩, .slice none 0 0, .int .i64 0, .slice none 0 0, .int .i64 0], 37)] _ from K2)
  have HS9 := Lib.hid R2
  obtain ⟨W9, hW9⟩ : ∃ W, W = (W8.drew.setRow w.heap.size #[.int .i64 zl2, .int .i64 zp2, .int .i64 zf2, .slice A3 L3.length c3, .int .i64 lf3, .bool dn3, .int .i64 fr2, .int .i64 ln2, .int .i64 en2, .int .i64 sf2, .string tl2, .slice FA2 fn2 fc2, .int .i64 hd2, .slice TA2 ts2.length tc2, .int .i64 nx2]).setRow w.heap.size #[.int .i64 zl2, .int .i64 zp2, .int .i64 zf2, .slice A3 L3.length c3, .int .i64 lf3, .bool dn3, .int .i64 fr3, .int .i64 ln3, .int .i64 en3, .int .i64 sf3, .string tl3, .slice FA2 fn2 fc2, .int .i64 hd2, .slice TA2 ts2.length tc2, .int .i64 nx2] := ⟨_, rfl⟩
  rw [← hW9] at H9 HS9
  rw [← hW9]
  clear hW9 K0 K1 K2 X0 X1 X2 Y0 Y1 Y2 R0 R1 R2 HD8 HL8 H8 HS8
  by_cases he3 : e3 = 0
  rotate_left
  · have hx := d2 he3
    (try simp only at hx)
    have HMF := Lib.hid (fun (p' : SP) w' hs hf hb => HM.out _ p' w' hx hs hf hb)
    have he1 : (e3 == 0) = false := by simpa using he3
    have he2 : (e3 != 0) = true := by simpa using he3
    clear d2 d3 HM he3 hx HB2
    dsimp only [storeV] at HMF
    go_wp2_with (first
      | (with_reducible refine listLoad (by kernel_rfl) 37 (.tmp 2) rfl w.heap.size rfl #[.int .i64 zl2, .int .i64 zp2, .int .i64 zf2, .slice A3 L3.length c3, .int .i64 lf3, .bool dn3, .int .i64 fr3, .int .i64 ln3, .int .i64 en3, .int .i64 sf3, .string tl3, .slice FA2 fn2 fc2, .int .i64 hd2, .slice TA2 ts2.length tc2, .int .i64 nx2] _ H9.out.get0 _ Tryz.underlying37 (by kernel_rfl) (by kernel_rfl) ?_)
      | (with_reducible refine listStore (by kernel_rfl) 37 (.tmp 4) (.tmp 38) rfl (w.heap.size + 1) #[.int .i64 zl2, .int .i64 zp2, .int .i64 zf2, .slice A3 L3.length c3, .int .i64 lf3, .bool dn3, .int .i64 fr3, .int .i64 ln3, .int .i64 en3, .int .i64 sf3, .string tl3, .slice FA2 fn2 fc2, .int .i64 hd2, .slice TA2 ts2.length tc2, .int .i64 nx2] _ _ rfl rfl H9.out.get1 (by kernel_rfl) (by kernel_rfl) (by kernel_rfl) ?_))
    refine bodyPost_ret (v := .tuple #[.agg #[.int .i64 zl2, .int .i64 zp2, .int .i64 zf2, .slice A3 L3.length c3, .int .i64 lf3, .bool dn3, .int .i64 fr3, .int .i64 ln3, .int .i64 en3, .int .i64 sf3, .string tl3, .slice FA2 fn2 fc2, .int .i64 hd2, .slice TA2 ts2.length tc2, .int .i64 nx2], .int .i64 e3]) (results_cell2 rfl _ _ rfl (load_whole (setRow_heap _ _ _ _ _ _ H9.out.get1) Tryz.underlying37 (by kernel_rfl) (by kernel_rfl)) rfl) rfl ?_
    exact HMF.out ⟨A3, c3, FA2, fn2, fc2, TA2, tc2⟩ _ (HS9.out.other H9.out.get1 (by decide) (by decide) _) HF5.out ((H9.out.row 1 _ _ rfl).below)
  subst he3
  have hx := d3 rfl
  clear d2 d3
  obtain ⟨sF, hsF⟩ : ∃ sF : Tx.St, sF = ⟨zl2, zp2, zf2, ⟨L3, lf3, dn3⟩, ⟨fr3, ln3, en3, sf3, tl3⟩, hd2, ts2, nx2⟩ := ⟨_, rfl⟩
  have HS9' := HS9.out
  rw [← hsF] at hx HS9'
  have hBF := HB2.out
  rw [← hsF] at hBF
  have hlF : sF.txns.length ≤ 800000 := by rw [hsF]; show ts2.length ≤ _; omega
  have k1 := @Tx.closeS_yes sF n
  have k2 := @Tx.closeS_full sF n
  have hMK := fun W (hw : Below W9.heap.size W9 W) => tmark_any sF ⟨A3, c3, FA2, fn2, fc2, TA2, tc2⟩ n hlF W (HS9'.below hw)
  have hNO := fun W (hw : Below W9.heap.size W9 W) => show Calls Tryz.prog 51 #[storeV sF ⟨A3, c3, FA2, fn2, fc2, TA2, tc2⟩, .agg #[.int .i64 0, .int .i64 (Tx.markS sF n), .int .i64 n, .int .i64 7, .int .i64 0, .int .i64 0, .int .i64 0, .int .i64 0, .int .i64 0, .string ⟨#[]⟩, .string ⟨#[]⟩, .int .i64 0, .int .i64 0, .string ⟨#[]⟩, .int .i64 0, .int .i64 0, .slice none 0 0, .slice none 0 0]] W (StOut (Tx.putS sF (Rc.bare 7 0 (Tx.markS sF n) n)) ⟨A3, c3, FA2, fn2, fc2, TA2, tc2⟩ W) from tnoted_any sF ⟨A3, c3, FA2, fn2, fc2, TA2, tc2⟩ hBF hlF 0 (Tx.markS sF n) n 7 0 W (HS9'.below hw)
  have hNT := fun W (hw : Below W9.heap.size W9 W) => tnote_any sF.txns (by omega) TA2 tc2 (Rc.bare 7 0 (Tx.markS sF n) n) none none 0 0 0 0 W (HS9'.tx.below hw)
  generalize Tx.markS sF n = mk at k1 k2 hMK hNO hNT
  generalize Tx.putS sF (Rc.bare 7 0 mk n) = y5 at k1 k2 hNO
  have hz : sF.txns = ts2 := by rw [hsF]
  rw [hz] at hNT
  rw [hsF] at hMK hNO
  clear hBF hlF HS9' hz
  obtain ⟨⟨zl5, zp5, zf5, ⟨L5, lf5, dn5⟩, ⟨fr5, ln5, en5, sf5, tl5⟩, hd5, ts5, nx5⟩, e5⟩ := y5
  dsimp only [storeV] at hMK hNO
  dsimp only [recV, recA, Rc.bare, Rc.noOp, Rc.noKey] at hNT
  simp only at k1 k2
  have HMK := Lib.hid hMK
  have HNO := Lib.hid hNO
  have HNT := Lib.hid hNT
  clear hMK hNO hNT
  have B9 := Below.refl W9.heap.size W9
  go_upto_region 9 with (first
    | (with_reducible refine listLoad (by kernel_rfl) 37 (.tmp 2) rfl w.heap.size rfl #[.int .i64 zl2, .int .i64 zp2, .int .i64 zf2, .slice A3 L3.length c3, .int .i64 lf3, .bool dn3, .int .i64 fr3, .int .i64 ln3, .int .i64 en3, .int .i64 sf3, .string tl3, .slice FA2 fn2 fc2, .int .i64 hd2, .slice TA2 ts2.length tc2, .int .i64 nx2] _ H9.out.get0 _ Tryz.underlying37 (by kernel_rfl) (by kernel_rfl) ?_)
    | (go_at_call 13; (with_reducible refine (HMK.out _ B9).mono ?_); rintro e w10 ⟨rfl, hb10⟩)
    | (with_reducible refine wpList_store_new rfl 85 (.tmp 9) (.tmp 44) rfl #[.int .i64 0, .int .i64 mk, .int .i64 n, .int .i64 7, .int .i64 0, .int .i64 0, .int .i64 0, .int .i64 0, .int .i64 0, .string ⟨#[]⟩, .string ⟨#[]⟩, .int .i64 0, .int .i64 0, .string ⟨#[]⟩, .int .i64 0, .int .i64 0, .slice none 0 0, .slice none 0 0] _ _ rfl (by kernel_rfl) (by kernel_rfl) (by kernel_rfl) (by kernel_rfl) ?_))
  have HR := Lib.hid (heap_alloc_new w10 (.cells #[.int .i64 0, .int .i64 mk, .int .i64 n, .int .i64 7, .int .i64 0, .int .i64 0, .int .i64 0, .int .i64 0, .int .i64 0, .string ⟨#[]⟩, .string ⟨#[]⟩, .int .i64 0, .int .i64 0, .string ⟨#[]⟩, .int .i64 0, .int .i64 0, .slice none 0 0, .slice none 0 0] 85))
  have hb10' := pastAlloc (o := .cells #[.int .i64 0, .int .i64 mk, .int .i64 n, .int .i64 7, .int .i64 0, .int .i64 0, .int .i64 0, .int .i64 0, .int .i64 0, .string ⟨#[]⟩, .string ⟨#[]⟩, .int .i64 0, .int .i64 0, .string ⟨#[]⟩, .int .i64 0, .int .i64 0, .slice none 0 0, .slice none 0 0] 85) hb10
  have H10 := Lib.hid (H9.out.step hb10')
  have B10 := Lib.hid hb10'
  obtain ⟨br, hbr⟩ : ∃ br, br = w10.heap.size := ⟨_, rfl⟩
  obtain ⟨W10, hW10⟩ : ∃ W, W = w10.alloc (.cells #[.int .i64 0, .int .i64 mk, .int .i64 n, .int .i64 7, .int .i64 0, .int .i64 0, .int .i64 0, .int .i64 0, .int .i64 0, .string ⟨#[]⟩, .string ⟨#[]⟩, .int .i64 0, .int .i64 0, .string ⟨#[]⟩, .int .i64 0, .int .i64 0, .slice none 0 0, .slice none 0 0] 85) := ⟨_, rfl⟩
  rw [← hbr] at HR
  rw [← hW10] at HR H10 B10
  rw [← hW10, ← hbr]
  have hbrl : w.heap.size + 2 ≤ br := by rw [hbr]; exact Nat.le_trans (H9.out.lt (i := 1) (by simp)) hb10.size
  clear hbr hW10 hb10 hb10' HMK
  go_upto_region 10 with (first
    | (with_reducible refine listLoad (by kernel_rfl) 37 (.tmp 2) rfl w.heap.size rfl #[.int .i64 zl2, .int .i64 zp2, .int .i64 zf2, .slice A3 L3.length c3, .int .i64 lf3, .bool dn3, .int .i64 fr3, .int .i64 ln3, .int .i64 en3, .int .i64 sf3, .string tl3, .slice FA2 fn2 fc2, .int .i64 hd2, .slice TA2 ts2.length tc2, .int .i64 nx2] _ H10.out.get0 _ Tryz.underlying37 (by kernel_rfl) (by kernel_rfl) ?_)
    | (with_reducible refine listLoad (by kernel_rfl) 85 (.tmp 9) rfl br rfl #[.int .i64 0, .int .i64 mk, .int .i64 n, .int .i64 7, .int .i64 0, .int .i64 0, .int .i64 0, .int .i64 0, .int .i64 0, .string ⟨#[]⟩, .string ⟨#[]⟩, .int .i64 0, .int .i64 0, .string ⟨#[]⟩, .int .i64 0, .int .i64 0, .slice none 0 0, .slice none 0 0] _ HR.out _ Tryz.underlying85 (by kernel_rfl) (by kernel_rfl) ?_)
    | (go_at_call 51; (with_reducible refine (HNO.out _ B10.out).mono ?_); rintro e w11 ⟨p', he, hs11, hf11, hb11⟩; have HF11 := Lib.hid hf11; clear hf11; obtain ⟨A5, c5, FA5, fn5, fc5, TA5, tc5⟩ := p'; (try dsimp only [storeV] at he); subst he)
    | (with_reducible refine wpList_store_new rfl 37 (.tmp 10) (.tmp 49) rfl #[.int .i64 zl5, .int .i64 zp5, .int .i64 zf5, .slice A5 L5.length c5, .int .i64 lf5, .bool dn5, .int .i64 fr5, .int .i64 ln5, .int .i64 en5, .int .i64 sf5, .string tl5, .slice FA5 fn5 fc5, .int .i64 hd5, .slice TA5 ts5.length tc5, .int .i64 nx5] _ _ rfl (by kernel_rfl) (by kernel_rfl) (by kernel_rfl) (by kernel_rfl) ?_))
  have hb11' := pastAlloc (o := .cells #[.int .i64 zl5, .int .i64 zp5, .int .i64 zf5, .slice A5 L5.length c5, .int .i64 lf5, .bool dn5, .int .i64 fr5, .int .i64 ln5, .int .i64 en5, .int .i64 sf5, .string tl5, .slice FA5 fn5 fc5, .int .i64 hd5, .slice TA5 ts5.length tc5, .int .i64 nx5] 37) hb11
  have HG := Lib.hid (heap_alloc_new w11 (.cells #[.int .i64 zl5, .int .i64 zp5, .int .i64 zf5, .slice A5 L5.length c5, .int .i64 lf5, .bool dn5, .int .i64 fr5, .int .i64 ln5, .int .i64 en5, .int .i64 sf5, .string tl5, .slice FA5 fn5 fc5, .int .i64 hd5, .slice TA5 ts5.length tc5, .int .i64 nx5] 37))
  have HR11 := Lib.hid (blkOld HR.out hb11')
  have H11 := Lib.hid (H10.out.step hb11')
  have B11 := Lib.hid (B10.out.trans (hb11'.mono B10.out.size))
  have HS11 := Lib.hid (hs11.below (allocB w11 (.cells #[.int .i64 zl5, .int .i64 zp5, .int .i64 zf5, .slice A5 L5.length c5, .int .i64 lf5, .bool dn5, .int .i64 fr5, .int .i64 ln5, .int .i64 en5, .int .i64 sf5, .string tl5, .slice FA5 fn5 fc5, .int .i64 hd5, .slice TA5 ts5.length tc5, .int .i64 nx5] 37)))
  obtain ⟨bs, hbs⟩ : ∃ bs, bs = w11.heap.size := ⟨_, rfl⟩
  obtain ⟨W11, hW11⟩ : ∃ W, W = w11.alloc (.cells #[.int .i64 zl5, .int .i64 zp5, .int .i64 zf5, .slice A5 L5.length c5, .int .i64 lf5, .bool dn5, .int .i64 fr5, .int .i64 ln5, .int .i64 en5, .int .i64 sf5, .string tl5, .slice FA5 fn5 fc5, .int .i64 hd5, .slice TA5 ts5.length tc5, .int .i64 nx5] 37) := ⟨_, rfl⟩
  rw [← hbs] at HG
  rw [← hW11] at HG HR11 H11 B11 HS11
  rw [← hW11, ← hbs]
  clear hbs hW11 hb11 hb11' hs11 HNO H10 HR
  by_cases he5 : e5 = 0
  · subst he5
    have hx2 := hx.trans (k1 rfl)
    have HMF := Lib.hid (fun (p' : SP) w' hs hf hb => HM.out _ p' w' hx2 hs hf hb)
    clear k1 k2 HM hx hx2 HNT
    dsimp only [storeV] at HMF
    go_wp2_with (first
      | (with_reducible refine listLoad (by kernel_rfl) 37 (.tmp 10) rfl bs rfl #[.int .i64 zl5, .int .i64 zp5, .int .i64 zf5, .slice A5 L5.length c5, .int .i64 lf5, .bool dn5, .int .i64 fr5, .int .i64 ln5, .int .i64 en5, .int .i64 sf5, .string tl5, .slice FA5 fn5 fc5, .int .i64 hd5, .slice TA5 ts5.length tc5, .int .i64 nx5] _ HG.out _ Tryz.underlying37 (by kernel_rfl) (by kernel_rfl) ?_)
      | (with_reducible refine listStore (by kernel_rfl) 37 (.tmp 4) (.tmp 53) rfl (w.heap.size + 1) #[.int .i64 zl5, .int .i64 zp5, .int .i64 zf5, .slice A5 L5.length c5, .int .i64 lf5, .bool dn5, .int .i64 fr5, .int .i64 ln5, .int .i64 en5, .int .i64 sf5, .string tl5, .slice FA5 fn5 fc5, .int .i64 hd5, .slice TA5 ts5.length tc5, .int .i64 nx5] _ _ rfl rfl H11.out.get1 (by kernel_rfl) (by kernel_rfl) (by kernel_rfl) ?_))
    refine bodyPost_ret (v := .tuple #[.agg #[.int .i64 zl5, .int .i64 zp5, .int .i64 zf5, .slice A5 L5.length c5, .int .i64 lf5, .bool dn5, .int .i64 fr5, .int .i64 ln5, .int .i64 en5, .int .i64 sf5, .string tl5, .slice FA5 fn5 fc5, .int .i64 hd5, .slice TA5 ts5.length tc5, .int .i64 nx5], .int .i64 0]) (results_cell2 rfl _ _ rfl (load_whole (setRow_heap _ _ _ _ _ _ H11.out.get1) Tryz.underlying37 (by kernel_rfl) (by kernel_rfl)) rfl) rfl ?_
    exact HMF.out ⟨A5, c5, FA5, fn5, fc5, TA5, tc5⟩ _ (HS11.out.other H11.out.get1 (by decide) (by decide) _) ⟨HF11.out.1.trans HF5.out.1, HF11.out.2.1.trans HF5.out.2.1, HF11.out.2.2.trans HF5.out.2.2⟩ ((H11.out.row 1 _ _ rfl).below)
  · have hx2 := hx.trans (k2 he5)
    rw [hsF] at hx2
    (try simp only at hx2)
    have he1 : (e5 == 0) = false := by simpa using he5
    have HMF := Lib.hid (fun (p' : SP) w' hs hf hb => HM.out _ p' w' hx2 hs hf hb)
    clear k1 k2 HM hx hx2 he5 HS11 HG
    dsimp only [storeV, Rc.bare, Rc.noOp, Rc.noKey] at HMF
    generalize Tx.noteT ts2 ⟨0, mk, n, 7, 0, 0, 0, ⟨0, 0, ⟨#[]⟩, ⟨#[]⟩⟩, 0, 0, ⟨⟨#[]⟩, 0, 0⟩, [], []⟩ = ts6 at HMF HNT
    have hc11 := blkCell H11.out.get0
    go_upto_region 13 with (first
      | (with_reducible refine listLoad (by kernel_rfl) 85 (.tmp 9) rfl br rfl #[.int .i64 0, .int .i64 mk, .int .i64 n, .int .i64 7, .int .i64 0, .int .i64 0, .int .i64 0, .int .i64 0, .int .i64 0, .string ⟨#[]⟩, .string ⟨#[]⟩, .int .i64 0, .int .i64 0, .string ⟨#[]⟩, .int .i64 0, .int .i64 0, .slice none 0 0, .slice none 0 0] _ HR11.out _ Tryz.underlying85 (by kernel_rfl) (by kernel_rfl) ?_)
      | (go_at_call 54; (with_reducible refine (HNT.out _ B11.out).mono ?_); rintro e w12 ⟨A', c', rfl, hr12, ht12, hb12⟩; have H12 := Lib.hid (H11.out.step hb12); have B12 := Lib.hid (B11.out.trans (hb12.mono B11.out.size)); have hc12 := blkCell H12.out.get0; have hz12 := blkFrozen H12.out.get0; clear hc11))
    have HS12 := Lib.hid (show StoreR w12 ⟨zl2, zp2, zf2, ⟨L3, lf3, dn3⟩, ⟨fr3, ln3, en3, sf3, tl3⟩, hd2, ts6, nx2⟩ ⟨A3, c3, FA2, fn2, fc2, A', c'⟩ from ⟨HS9.out.dk.below B12.out, HS9.out.dt.below B12.out, hr12, ht12.elim (fun e => by rw [e]; exact HS9.out.tt.below B12.out) (fun e => e.mono (Nat.zero_le _))⟩)
    have HS13 := Lib.hid (HS12.out.set H12.out.get0 (by decide) (by decide) 13 (.slice A' ts6.length c'))
    have H13 := Lib.hid (H12.out.set 0 13 (.slice A' ts6.length c') _ rfl)
    simp only [Nat.add_zero] at H13
    obtain ⟨W13, hW13⟩ : ∃ W, W = w12.setCell ⟨w.heap.size, 13, none⟩ (.slice A' ts6.length c') := ⟨_, rfl⟩
    rw [← hW13] at H13 HS13
    rw [← hW13]
    clear hW13 hc12 hz12 H12 HS12 hr12 ht12 hb12 H11 HNT HR11
    go_wp2_with (first
      | (with_reducible refine listLoad (by kernel_rfl) 37 (.tmp 2) rfl w.heap.size rfl #[.int .i64 zl2, .int .i64 zp2, .int .i64 zf2, .slice A3 L3.length c3, .int .i64 lf3, .bool dn3, .int .i64 fr3, .int .i64 ln3, .int .i64 en3, .int .i64 sf3, .string tl3, .slice FA2 fn2 fc2, .int .i64 hd2, .slice A' ts6.length c', .int .i64 nx2] _ H13.out.get0 _ Tryz.underlying37 (by kernel_rfl) (by kernel_rfl) ?_)
      | (with_reducible refine listStore (by kernel_rfl) 37 (.tmp 4) (.tmp 59) rfl (w.heap.size + 1) #[.int .i64 zl2, .int .i64 zp2, .int .i64 zf2, .slice A3 L3.length c3, .int .i64 lf3, .bool dn3, .int .i64 fr3, .int .i64 ln3, .int .i64 en3, .int .i64 sf3, .string tl3, .slice FA2 fn2 fc2, .int .i64 hd2, .slice A' ts6.length c', .int .i64 nx2] _ _ rfl rfl H13.out.get1 (by kernel_rfl) (by kernel_rfl) (by kernel_rfl) ?_))
    refine bodyPost_ret (v := .tuple #[.agg #[.int .i64 zl2, .int .i64 zp2, .int .i64 zf2, .slice A3 L3.length c3, .int .i64 lf3, .bool dn3, .int .i64 fr3, .int .i64 ln3, .int .i64 en3, .int .i64 sf3, .string tl3, .slice FA2 fn2 fc2, .int .i64 hd2, .slice A' ts6.length c', .int .i64 nx2], .int .i64 0]) (results_cell2 rfl _ _ rfl (load_whole (setRow_heap _ _ _ _ _ _ H13.out.get1) Tryz.underlying37 (by kernel_rfl) (by kernel_rfl)) rfl) rfl ?_
    exact HMF.out ⟨A3, c3, FA2, fn2, fc2, A', c'⟩ _ (HS13.out.other H13.out.get1 (by decide) (by decide) _) HF5.out ((H13.out.row 1 _ _ rfl).below)
end Go.Proofs.YthfglhafphfhiaaGreat
/- The walks over package disk: New, Arm, Start. -/
namespace Go.Proofs.YthfglhafphfhiaaGreat
open Go.RowKit
set_option maxRecDepth 100000 in
set_option maxHeartbeats 8000000 in
theorem carm_any (d : Lg.Dk) (A : Option Addr) (c : Nat) (n : Int) (w : World) :
    Calls Tryz.prog 28 #[diskV d A c, .int .i64 n] w fun e w' => e = .returned (diskV (Lg.armD d n) A c) ∧ Below w.heap.size w w' := by
  obtain ⟨L, left, down⟩ := d
  unfold Lg.armD
  dsimp only [diskV]
  obtain ⟨m, hm⟩ : ∃ m : Int, m = if n < 0 then -1 else n := ⟨_, rfl⟩
  rw [← hm]
  have hmx : max n (-1) = m := by rw [hm]; split <;> omega
  clear hm
  go_enter Tryz.func28, Tryz.ntmps28
  go_upto_region 1 with fail
  have H0 := Lib.hid (show BxL w.heap.size w [(#[.slice A L.length c, .int .i64 left, .bool down], 29), (#[.slice none 0 0, .int .i64 0, .bool false], 29)] ((w.alloc (.cells #[.slice A L.length c, .int .i64 left, .bool down] 29)).alloc (.cells #[.slice none 0 0, .int .i64 0, .bool false] 29)) from (((BxL.nil (Below.refl w.heap.size w)).new (by simp) #[.slice A L.length c, .int .i64 left, .bool down] 29).new (by simp) #[.slice none 0 0, .int .i64 0, .bool false] 29))
  obtain ⟨W0, hW0⟩ : ∃ W, W = ((w.alloc (.cells #[.slice A L.length c, .int .i64 left, .bool down] 29)).alloc (.cells #[.slice none 0 0, .int .i64 0, .bool false] 29)) := ⟨_, rfl⟩
  rw [← hW0] at H0 ⊢
  clear hW0
  have hc0 := blkCell H0.out.get0
  have hz0 := blkFrozen H0.out.get0
  go_upto_region 2 with fail
  have H1 := Lib.hid (H0.out.set 0 1 (.int .i64 m) _ rfl)
  simp only [Nat.add_zero] at H1
  have HX := Lib.hid (show (W0.setCell ⟨w.heap.size, 1, none⟩ (.int .i64 m)).heap[w.heap.size]? = some (.cells #[.slice A L.length c, .int .i64 m, .bool down] 29 (0, 0)) from H1.out.get0)
  go_wp2_with (first | (with_reducible refine listLoad (by kernel_rfl) 29 (.tmp 2) rfl w.heap.size rfl #[.slice A L.length c, .int .i64 m, .bool down] _ HX.out _ Tryz.underlying29 (by kernel_rfl) (by kernel_rfl) ?_) | (with_reducible refine listStore (by kernel_rfl) 29 (.tmp 4) (.tmp 8) rfl (w.heap.size + 1) #[.slice A L.length c, .int .i64 m, .bool down] _ _ rfl rfl H1.out.get1 (by kernel_rfl) (by kernel_rfl) (by kernel_rfl) ?_))
  refine bodyPost_ret (v := .agg #[.slice A L.length c, .int .i64 m, .bool down]) (results_cell rfl _ _ rfl (load_whole (setRow_heap _ _ _ _ _ _ H1.out.get1) Tryz.underlying29 (by kernel_rfl) (by kernel_rfl))) rfl ?_
  exact ⟨rfl, (H1.out.row 1 _ _ rfl).below⟩
theorem info_str : (Tryz.prog.info? 9).map (fun i => (i.zero, i.size, i.bytes)) = some (some (.string ⟨#[]⟩), 1, 16) := by kernel_rfl
/-- m texts, then nothing. -/
def rcells (b : ByteArray) (n m : Nat) : List Value := List.replicate m (.string b) ++ List.replicate (n - m) (.string ⟨#[]⟩)
theorem rcells_len (b : ByteArray) (n m : Nat) (h : m ≤ n) : (rcells b n m).length = n := by unfold rcells; simp; omega
theorem rcells_at (b : ByteArray) (n m j : Nat) (hj : j < m) : (rcells b n m).toArray[j]? = some (.string b) := by
  unfold rcells
  rw [List.getElem?_toArray, List.getElem?_append_left (by simpa using hj), List.getElem?_replicate, if_pos hj]
theorem rcells_more (b : ByteArray) (n m k : Nat) (h : m + k ≤ n) : splice (rcells b n m) m (List.replicate k (.string b)) = rcells b n (m + k) := by
  unfold splice rcells
  rw [List.take_left' (by simp), List.drop_append, List.length_replicate, List.length_replicate, List.drop_of_length_le (by simp), List.nil_append, ← List.append_assoc, List.replicate_append_replicate, List.drop_replicate]
  congr 2
  omega
theorem make_strs (n : Nat) (hn : n ≤ 4096) (W : World) : (Instr.makeSlice 27 (.int .i64 (n : Int)) (.int .i64 (n : Int))).run Tryz.prog W = .ok (.slice (some ⟨W.heap.size, 0, none⟩) n n) (W.alloc (.cells (madeCells #[Value.string ⟨#[]⟩] n) 9)) := by
  obtain ⟨i0, hi, hz0, hz1, hz2⟩ := info_parts info_str
  have h := run_make (P := Tryz.prog) W 27 9 i0 (.string ⟨#[]⟩) Tryz.underlying27 hi hz0 .i64 .i64 n n (by omega) (by omega) (by rw [hz2]; omega) (by omega)
  rw [hz1, Int.toNat_natCast, Nat.mul_one] at h
  exact h
theorem made_strs (b : ByteArray) (n : Nat) : madeCells #[Value.string ⟨#[]⟩] n = (rcells b n 0).toArray := by
  unfold madeCells rcells
  apply Array.ext_getElem?
  intro i
  by_cases hi : i < n
  · simp [hi, Nat.mod_one]
  · simp [hi]
set_option maxRecDepth 100000 in
set_option maxHeartbeats 8000000 in
theorem srepeat_any (b : ByteArray) (n : Nat) (h1 : 1 ≤ n) (hn : n ≤ 1000) (g0 : Nat) (w : World) (hx : w.heap[g0]? = some (.cells #[.string b] 9 (0, 0))) :
    Calls Tryz.prog 55 #[.slice (some ⟨g0, 0, none⟩) 1 1, .int .i64 (n : Int)] w fun e w' => ∃ v, e = .returned v ∧ OwnL strC 1 9 w.heap.size w' v (List.replicate n b) ∧ Below w.heap.size w w' := by
  have HMU := Lib.hid (fun W => show Calls Tryz.prog 69 #[.int .u64 1, .int .u64 (n : Int)] W fun e w' => e = .returned (.tuple #[.int .u64 0, .int .u64 (n : Int)]) ∧ w' = W from by
    have h := Tryz.bits_Mul 1 n (by omega) (by omega) W
    rw [show 1 * n / 18446744073709551616 = 0 by omega, show 1 * n % 18446744073709551616 = n by omega] at h
    exact h)
  have hmk := fun W => make_strs n (by omega) W
  rw [made_strs b n] at hmk
  have hn0 : ¬ (n : Int) < 0 := by omega
  have hX := Lib.hid hx
  have hnI : ¬ (9223372036854775807 : Int) < (n : Int) := by omega
  have hw1 : IntKind.u64.wrap (n : Int) = (n : Int) := IntWalk.u64_in _ (by omega)
  have hw2 : IntKind.i64.wrap (n : Int) = (n : Int) := IntWalk.i64_in _ (by omega)
  clear hx
  go_enter Tryz.func55, Tryz.ntmps55
  go_upto_region 7 with (go_at_call 69; (with_reducible refine (HMU.out _).mono ?_); rintro e w1 ⟨rfl, hww⟩; have hw9 := hww.symm; subst hw9; clear hww)
  have HX1 := Lib.hid (blkOld hX.out (allocB w (.cells (rcells b n 0).toArray 9)))
  have HSZ := Lib.hid (show (Tryz.prog.info? 9).map (·.size) = some 1 from by kernel_rfl)
  have hsp1 : splice (rcells b n 0) 0 [.string b] = rcells b n 1 := rcells_more b n 0 1 (by omega)
  obtain ⟨g, hg⟩ : ∃ g, g = w.heap.size := ⟨_, rfl⟩
  clear hmk HMU hX
  have hcp : ∀ ty, (Builtin.copy_ #[27, 27] ty #[.slice (some ⟨w.heap.size, 0, none⟩) n n, .slice (some ⟨g0, 0, none⟩) 1 1]).run Tryz.prog (w.alloc (.cells (rcells b n 0).toArray 9)) = .ok (.int .i64 1) ((w.alloc (.cells (rcells b n 0).toArray 9)).setRow w.heap.size (rcells b n 1).toArray) := fun ty => by
    have h := run_copy_row (P := Tryz.prog) (w.alloc (.cells (rcells b n 0).toArray 9)) 27 27 ty 9 w.heap.size 0 n n ⟨g0, 0, none⟩ 1 1 (rcells b n 0).toArray 9 [.string b] Tryz.underlying27 HSZ.out (heap_alloc_new w _) (by show 1 = min 1 n; omega) (fun j v hj => by
      have hj0 : j = 0 := by have := (List.getElem?_eq_some_iff.1 hj).1; simpa using this
      subst hj0
      rw [Addr.add_mid, blkCell HX1.out]; simpa using hj) (by have := rcells_len b n 0 (by omega); simp [this]; omega) (fun v hv => by rw [List.mem_singleton.1 hv]; rfl)
    rw [← hsp1]
    unfold splice
    simp only [List.append_assoc] at h
    exact h
  have hg2 : Hid (((w.alloc (.cells (rcells b n 0).toArray 9)).setRow w.heap.size (rcells b n 1).toArray).heap[g]? = some (.cells (rcells b n 1).toArray 9 (0, 0))) := Lib.hid (by rw [hg]; exact setRow_heap _ _ _ _ _ _ (heap_alloc_new w _))
  have hb2 : Below w.heap.size w ((w.alloc (.cells (rcells b n 0).toArray 9)).setRow w.heap.size (rcells b n 1).toArray) := below_setRow (allocB w _) (Nat.le_refl _) _
  have HG := Lib.hid hg
  go_upto_block 0 with fail
  obtain ⟨w2, hw2⟩ : ∃ W, W = (w.alloc (.cells (rcells b n 0).toArray 9)).setRow w.heap.size (rcells b n 1).toArray := ⟨_, rfl⟩
  rw [← hw2] at hg2 hb2
  rw [← hw2, ← hg]
  clear hsp1 hg HX1 hcp hw2
  go_wp2_with fail
  go_loopw [8] (fun i wr => ∃ m : Nat, i = .int .i64 (m : Int) ∧ 1 ≤ m ∧ m ≤ n ∧ Hid (wr.heap[g]? = some (.cells (rcells b n m).toArray 9 (0, 0))) ∧ Below w.heap.size w wr) (fun i _ => n - (intOf i).toNat)
  case atStart => exact ⟨1, rfl, Nat.le_refl _, h1, hg2, hb2⟩
  case round =>
    obtain ⟨m, rfl, hm1, hmn, hgm, hbm⟩ := hrel
    have HB := Lib.hid hbm
    clear hbm hg2 hb2
    by_cases hlt : m < n
    · have hltI : (m : Int) < (n : Int) := by omega
      have hne : ¬ n = m := by omega
      have hmI : (m : Int) ≤ (n : Int) := by omega
      have hm0 : (0 : Int) ≤ (m : Int) := by omega
      obtain ⟨k, hk⟩ : ∃ k, k = min m (n - m) := ⟨_, rfl⟩
      have HK := Lib.hid hk
      have hwk : IntKind.i64.wrap ((m : Int) + (k : Int)) = ((m + k : Nat) : Int) := by rw [Int.natCast_add]; exact IntWalk.i64_in _ (by omega)
      have HSP := Lib.hid (rcells_more b n m k (by omega))
      have HMN := Lib.hid hmn
      have HM1 := Lib.hid hm1
      clear hk hm1 hmn
      go_upto_region 9 with fail
      refine wp_region_held_drew (S := (fun _ => True)) (by kernel_rfl) ?_ (fun hHeld => ?_)
      · trivial
      refine tkW 0 (some 38) (v := ?_) rfl ?_ ?_
      rotate_left
      · intro u hSu; clear hSu; go_simp; (try with_reducible rfl)
      try simp only [Act.put, List.setIfInBounds_toArray, List.set_cons_zero, List.set_cons_succ]
      refine tkW 1 (some 39) (v := ?_) rfl ?_ ?_
      rotate_left
      · intro u hSu; clear hSu; go_simp; (try with_reducible rfl)
      try simp only [Act.put, List.setIfInBounds_toArray, List.set_cons_zero, List.set_cons_succ]
      refine tkW 2 (some 40) (v := ?_) rfl ?_ ?_
      rotate_left
      · intro u hSu; clear hSu; go_simp; (try with_reducible rfl)
      try simp only [Act.put, List.setIfInBounds_toArray, List.set_cons_zero, List.set_cons_succ]
      refine tkW 3 (some 41) (v := ?_) rfl ?_ ?_
      rotate_left
      · intro u hSu; clear hSu; go_simp; (try with_reducible rfl)
      try simp only [Act.put, List.setIfInBounds_toArray, List.set_cons_zero, List.set_cons_succ]
      refine tkW 4 (some 42) (v := ?_) rfl ?_ ?_
      rotate_left
      · intro u hSu; clear hSu; go_simp; (try with_reducible rfl)
      try simp only [Act.put, List.setIfInBounds_toArray, List.set_cons_zero, List.set_cons_succ]
      refine tkW 5 (some 43) (v := ?_) rfl ?_ ?_
      rotate_left
      · intro u hSu; clear hSu; go_simp; (try with_reducible rfl)
      try simp only [Act.put, List.setIfInBounds_toArray, List.set_cons_zero, List.set_cons_succ]
      refine tkW 6 (some 44) (v := ?_) rfl ?_ ?_
      rotate_left
      · intro u hSu; clear hSu; go_simp; (try with_reducible rfl)
      try simp only [Act.put, List.setIfInBounds_toArray, List.set_cons_zero, List.set_cons_succ]
      refine rdH 7 (some 45) rfl (fun K hK => ?_)
      refine step_copy_splice rfl (.tmp 41) (.tmp 44) 27 27 rfl 9 Tryz.underlying27 HSZ.out (some ⟨g, m, none⟩) (some ⟨g, 0, none⟩) (n - m) (n - m) m n rfl rfl g m (rcells b n m) 9 hgm.out (List.replicate k (.string b)) (by rw [List.length_replicate]; exact HK.out) (fun _ => ⟨rfl, _, rfl, fun j v hj => by (have hj0 : j < k := by (have := (List.getElem?_eq_some_iff.1 hj).1; simpa using this)); rw [Addr.add_mid, blkCell (show wr.drew.heap[g]? = _ from hgm.out)]; (have := HK.out); rw [rcells_at b n m (0 + j) (by omega)]; rw [List.getElem?_replicate, if_pos hj0] at hj; exact hj⟩) (by rw [rcells_len _ _ _ HMN.out, List.length_replicate]; have := HK.out; omega) (fun v hv => by rw [(List.mem_replicate.1 hv).2]; rfl) w.heap.size w HB.out.drew (by rw [HG.out]; exact Nat.le_refl _) ?_
      intro w5 hg5 hb5
      rw [HSP.out] at hg5
      rw [List.length_replicate]
      refine hK.out _ _ ?_ (fun hHeld => ?_)
      · trivial
      clear hK K
      try simp only [Act.put, List.setIfInBounds_toArray, List.set_cons_zero, List.set_cons_succ]
      refine tkW 8 (some 46) (v := ?_) rfl ?_ ?_
      rotate_left
      · intro u hSu; clear hSu; go_simp; (try with_reducible rfl)
      try simp only [Act.put, List.setIfInBounds_toArray, List.set_cons_zero, List.set_cons_succ]
      refine tkW 9 (some 8) (v := ?_) rfl ?_ ?_
      rotate_left
      · intro u hSu; clear hSu; go_simp; (try with_reducible rfl)
      try simp only [Act.put, List.setIfInBounds_toArray, List.set_cons_zero, List.set_cons_succ]
      refine wpAnyH_done (by kernel_rfl) ?_ _
      clear hHeld
      go_wp2_with fail
      go_roundw
      case rel => exact ⟨m + k, (by go_num), by have := HM1.out; omega, by have := HK.out; omega, hg5, hb5⟩
      case measure => have := HK.out; have := HM1.out; simp [intOf]; omega
    · obtain rfl : m = n := by omega
      have hne : ¬ (m : Int) < (m : Int) := by omega
      have HF := Lib.hid (show OwnL strC 1 9 w.heap.size wr (.slice (some ⟨g, 0, none⟩) m m) (List.replicate m b) from by
        unfold OwnL
        rw [List.length_replicate]
        refine ⟨by rw [flat_len strC_len, List.length_replicate], .inr ⟨g, m, _, rfl, by rw [HG.out]; exact Nat.le_refl _, hgm.out, Nat.le_refl _, Nat.le_trans hn (by decide), by rw [← Array.length_toList]; simp [rcells_len], ?_⟩⟩
        rw [strC_map]
        unfold rcells
        simp)
      go_wp2_with fail
      go_ret
      exact ⟨_, rfl, HF.out, HB.out⟩
/-- What New answers. -/
def CNewOut (d : Lg.Dk) (w : World) (e : Ending) (w' : World) : Prop :=
  ∃ A c, e = .returned (.tuple #[diskV d A c, .int .i64 0]) ∧ DiskR w' d A c ∧ NewT w.heap.size w' 9 A ∧ Below w.heap.size w w'
set_option maxRecDepth 100000 in
set_option maxHeartbeats 8000000 in
theorem cnew_any (n : Nat) (h1 : 1 ≤ n) (hn : n ≤ 1000) (w : World) :
    Calls Tryz.prog 25 #[.int .i64 (n : Int)] w (CNewOut (Lg.newD n) w) := by
  have hz : (⟨(Go.Lib.repeatL (⟨#[0]⟩ : ByteArray).data.toList 128).toArray⟩ : ByteArray) = Lg.zero128 := Lg.repeat_zero 128
  have HZ := Lib.hid (fun W => show Calls Tryz.prog 42 #[.string ⟨#[0]⟩, .int .i64 128] W fun e w' => e = .returned (.string Lg.zero128) ∧ Below W.heap.size W w' from by
    have h := Tryz.strings_Repeat ⟨#[0]⟩ 128 W (by omega) (show (⟨#[0]⟩ : ByteArray).size * 128 ≤ 140737488355328 from (by show 1 * 128 ≤ _; omega))
    rw [hz] at h
    exact h)
  clear hz
  have HR := Lib.hid (fun g W h => srepeat_any Lg.zero128 n h1 hn g W h)
  have HF := Lib.hid (fun A c w' (hr : Reads w' A c n ((List.replicate n Lg.zero128).flatMap strC)) (ht : NewT w.heap.size w' 9 A) (hb : Below w.heap.size w w') => show CNewOut (Lg.newD n) w (.returned (.tuple #[.agg #[.slice A n c, .int .i64 (-1), .bool false], .int .i64 0])) w' from by
    refine ⟨A, c, ?_, ⟨?_, ?_⟩, ht, hb⟩
    · unfold diskV Lg.newD; simp
    · unfold Lg.newD; simpa using hr
    · unfold Lg.newD; simp; omega)
  generalize Lg.zero128 = z at HZ HR HF
  generalize CNewOut (Lg.newD n) w = Q at HF ⊢
  have h1' : ¬ (n : Int) < 1 := by omega
  have h2' : ¬ 65536 < (n : Int) := by omega
  go_enter Tryz.func25, Tryz.ntmps25
  go_upto_region 1 with fail
  have H0 := Lib.hid (show BxL w.heap.size w [(#[.slice none 0 0, .int .i64 0, .bool false], 29)] (w.alloc (.cells #[.slice none 0 0, .int .i64 0, .bool false] 29)) from ((BxL.nil (Below.refl w.heap.size w)).new (by simp) #[.slice none 0 0, .int .i64 0, .bool false] 29))
  obtain ⟨W0, hW0⟩ : ∃ W, W = (w.alloc (.cells #[.slice none 0 0, .int .i64 0, .bool false] 29)) := ⟨_, rfl⟩
  rw [← hW0] at H0 ⊢
  clear hW0
  go_upto_region 4 with (go_at_call 42; (with_reducible refine (HZ.out _).mono ?_); rintro e w1 ⟨rfl, hb1⟩)
  have H1 := Lib.hid (H0.out.step (pastAlloc (o := .cells #[.string z] 9) hb1))
  have HX := Lib.hid (heap_alloc_new w1 (.cells #[.string z] 9))
  have HRR := Lib.hid (HR.out w1.heap.size (w1.alloc (.cells #[.string z] 9)) HX.out)
  go_wp2_with (first
    | (go_at_call 55; (with_reducible refine HRR.out.mono ?_); rintro e w2 ⟨v, rfl, ho, hb2⟩; obtain ⟨A, c, hv⟩ := ownLen ho; rw [List.length_replicate] at hv; subst hv; have H2 := Lib.hid (H1.out.step hb2))
    | (with_reducible refine listStore (by kernel_rfl) 29 (.tmp 2) (.tmp 17) rfl w.heap.size #[.slice A n c, .int .i64 (-1), .bool false] _ _ rfl rfl H2.out.get0 (by kernel_rfl) (by kernel_rfl) (by kernel_rfl) ?_))
  refine bodyPost_ret (v := .tuple #[.agg #[.slice A n c, .int .i64 (-1), .bool false], .int .i64 0]) (results_cell2 rfl _ _ rfl (load_whole (setRow_heap _ _ _ _ _ _ H2.out.get0) Tryz.underlying29 (by kernel_rfl) (by kernel_rfl)) rfl) rfl ?_
  have ho2 := ho
  unfold OwnL at ho2
  rw [List.length_replicate] at ho2
  have hsz : w.heap.size ≤ (w1.alloc (.cells #[.string z] 9)).heap.size := by simp; have := hb1.size; have := H0.out.below.size; omega
  have ht := NewT.own ho2
  exact HF.out A c _ (ht.readsRow (own_reads ho2) H2.out.get0 (by decide) _) ((ht.row _ _).mono hsz) (by have h := (H2.out.row 0 #[.slice A n c, .int .i64 (-1), .bool false] _ rfl).below; simpa using h)
end Go.Proofs.YthfglhafphfhiaaGreat
