/- The walks over package log: New, cut, sectors. -/
import Derived.Test.YthfglhafphfhiaaGreatGc02
import Derived.Test.YthfglhafphfhiaaGreatGc01
import Derived.BigRegion
namespace Lg
theorem repeat_zero (n : Nat) : (⟨(Go.Lib.repeatL [(0 : UInt8)] n).toArray⟩ : ByteArray) = ⟨(List.replicate n 0).toArray⟩ := by
  congr 2
  induction n with
  | zero => rfl
  | succ n ih =>
    rw [List.replicate_succ, ← ih]
    rfl
theorem pad_join (t : ByteArray) (m : Nat) (hm : m = min t.size 128) : t.extract 0 m ++ (⟨(Go.Lib.repeatL [(0 : UInt8)] (128 - m)).toArray⟩ : ByteArray) = pad128 (t.data.toList.take 128) := by
  rw [repeat_zero]
  unfold pad128
  apply ByteArray.ext
  rw [ByteArray.data_append]
  apply Array.toList_inj.1
  rw [Array.toList_append]
  have e : (t.extract 0 m).data.toList = t.data.toList.take 128 := by
    simp only [ByteArray.data_extract, Array.toList_extract, List.extract_eq_take_drop, Nat.sub_zero, List.drop_zero]
    have hl : t.data.toList.length = t.size := by simp
    by_cases h : t.size ≤ 128
    · rw [List.take_of_length_le (by omega), List.take_of_length_le (by omega)]
    · rw [show m = 128 by omega]
  have hl : (t.data.toList.take 128).length = m := by rw [List.length_take]; simp; omega
  rw [e, hl]
theorem cut_next (t : ByteArray) (m : Nat) (hm : m = min t.size 128) (h0 : 0 < t.size) : cutB t = pad128 (t.data.toList.take 128) :: cutB (t.extract m t.size) := by
  unfold cutB
  have h1 : t.data.toList ≠ [] := fun e => by
    have hl : t.data.toList.length = t.size := by simp
    rw [e, List.length_nil] at hl
    omega
  rw [cutW_cons h1]
  congr 2
  simp only [ByteArray.data_extract, Array.toList_extract, List.extract_eq_take_drop]
  have hl : t.data.toList.length = t.size := by simp
  rw [List.take_of_length_le (by rw [List.length_drop]; omega)]
  by_cases h : t.size ≤ 128
  · rw [List.drop_of_length_le (i := 128) (by omega), List.drop_of_length_le (i := m) (by omega)]
  · rw [show m = 128 by omega]
theorem cut_none (t : ByteArray) (h0 : t.size = 0) : cutB t = [] := by
  unfold cutB
  have h1 : t.data.toList = [] := List.eq_nil_of_length_eq_zero (by simpa using h0)
  rw [h1, cutW_nil]
end Lg
namespace Go.Proofs.YthfglhafphfhiaaGreat
open Go.RowKit
abbrev logV (l : Lg.Lo) : Value := .agg #[.int .i64 l.from_, .int .i64 l.n, .int .i64 l.end_, .int .i64 l.safe, .string l.tail]
set_option maxRecDepth 100000 in
theorem lnew_any (a n : Int) (w : World) :
    Calls Tryz.prog 26 #[.int .i64 a, .int .i64 n] w fun e w' => e = .returned (logV ⟨a, n, 0, 0, ⟨#[]⟩⟩) ∧ Below w.heap.size w w' := by
  have HZ := Lib.hid (heap_alloc_new w (.cells #[.int .i64 0, .int .i64 0, .int .i64 0, .int .i64 0, .string ⟨#[]⟩] 31))
  go_enter Tryz.func26, Tryz.ntmps26
  go_wp2_with (with_reducible refine listStore (by kernel_rfl) 31 (.tmp 4) (.tmp 7) rfl w.heap.size #[.int .i64 a, .int .i64 n, .int .i64 0, .int .i64 0, .string ⟨#[]⟩] _ _ rfl rfl HZ.out (by kernel_rfl) (by kernel_rfl) (by kernel_rfl) ?_)
  refine bodyPost_ret (v := .agg #[.int .i64 a, .int .i64 n, .int .i64 0, .int .i64 0, .string ⟨#[]⟩]) (results_cell rfl _ _ rfl (load_whole (setRow_heap _ _ _ _ _ _ HZ.out) Tryz.underlying31 (by kernel_rfl) (by kernel_rfl))) rfl ?_
  exact ⟨rfl, ((BxL.nil (Below.refl w.heap.size w)).new (by simp) #[.int .i64 0, .int .i64 0, .int .i64 0, .int .i64 0, .string ⟨#[]⟩] 31).row 0 _ _ rfl |>.below⟩
/-- What cut answers: texts in memory of its own. -/
def CutOut (l : List ByteArray) (w : World) (e : Ending) (w' : World) : Prop := ∃ v, e = .returned v ∧ OwnL strC 1 9 w.heap.size w' v l ∧ Below w.heap.size w w'
set_option maxRecDepth 100000 in
set_option maxHeartbeats 4000000 in
theorem cut_any (s : ByteArray) (hs : s.size ≤ 1000000) (w : World) :
    Calls Tryz.prog 82 #[.string s] w (CutOut (Lg.cutB s) w) := by
  have HF := Lib.hid (fun v w' (ho : OwnL strC 1 9 w.heap.size w' v (Lg.cutB s)) (hb : Below w.heap.size w w') => show CutOut (Lg.cutB s) w (.returned v) w' from ⟨v, rfl, ho, hb⟩)
  generalize CutOut (Lg.cutB s) w = Q at HF ⊢
  obtain ⟨C, hC⟩ : ∃ C, C = Lg.cutB s := ⟨_, rfl⟩
  have hcl : C.length ≤ 8000 := by rw [hC, Lg.cutB_length]; omega
  rw [← hC] at HF
  have HC := Lib.hid hC
  have HR := Lib.hid (fun (c : Nat) (hc : c ≤ 128) W => Tryz.strings_Repeat ⟨#[0]⟩ c W (by omega) (show (⟨#[0]⟩ : ByteArray).size * c ≤ 140737488355328 from (by show 1 * c ≤ _; have : c ≤ 128 := hc; omega)))
  clear hC
  go_enter Tryz.func82, Tryz.ntmps82
  go_wp2_with fail
  go_loopw [0, 3] (fun s0 v wr => ∃ (t : ByteArray) (ls : List ByteArray), s0 = .string t ∧ t.size ≤ 1000000 ∧ ls ++ Lg.cutB t = C ∧ OwnL strC 1 9 w.heap.size wr v ls ∧ Below w.heap.size w wr) (fun s0 _ _ => (match s0 with | .string t => t.size | _ => 0))
  case atStart => exact ⟨s, [], rfl, hs, HC.out.symm, ownNil _ _ _ _, Below.refl _ _⟩
  case round =>
    obtain ⟨t, ls, rfl, hts, hC2, hO, hB⟩ := hrel
    have HB := Lib.hid hB
    have hll : ls.length ≤ 8000 := by have := congrArg List.length hC2; rw [List.length_append] at this; omega
    have HC2 := Lib.hid hC2
    clear hB hC2
    by_cases h0 : 0 < t.size
    · obtain ⟨m, hm⟩ : ∃ m, m = min t.size 128 := ⟨_, rfl⟩
      have hmm : min (t.size : Int) 128 = (m : Int) := by omega
      have hm1 : m ≤ t.size := by omega
      have hm2 : m ≤ 128 := by omega
      have hm3 : (0 : Int) ≤ (m : Int) := by omega
      have hm4 : (m : Int) ≤ (t.size : Int) := by omega
      have hsub : (128 : Int) - (m : Int) = ((128 - m : Nat) : Int) := by omega
      have hwr : IntKind.i64.wrap ((128 : Int) - (m : Int)) = ((128 - m : Nat) : Int) := by rw [hsub]; exact IntWalk.i64_in _ (by omega)
      have hwr2 : IntKind.i64.wrap ((128 - m : Nat) : Int) = ((128 - m : Nat) : Int) := IntWalk.i64_in _ (by omega)
      have HJ := Lib.hid (Lg.pad_join t m hm)
      have HN := Lib.hid (Lg.cut_next t m hm h0)
      have hpz := Lg.pad128_size (l := t.data.toList.take 128) (by rw [List.length_take]; omega)
      have hxs : (t.extract m t.size).size < t.size := by rw [ByteArray.size_extract]; omega
      have HXS := Lib.hid hxs
      have hR := HR.out (128 - m) (show 128 - m ≤ 128 by omega)
      have hsum : (t.extract 0 m).size + (⟨(Lib.repeatL [(0 : UInt8)] (128 - m)).toArray⟩ : ByteArray).size ≤ 9223372036854775807 := by
        rw [Lg.repeat_zero, ByteArray.size_extract]
        show _ + (List.replicate (128 - m) (0 : UInt8)).toArray.size ≤ _
        simp
        omega
      have HRR := Lib.hid hR
      obtain ⟨z, hz⟩ : ∃ z : ByteArray, z = ⟨(Lib.repeatL [(0 : UInt8)] (128 - m)).toArray⟩ := ⟨_, rfl⟩
      obtain ⟨y, hy⟩ : ∃ y : ByteArray, y = Lg.pad128 (t.data.toList.take 128) := ⟨_, rfl⟩
      have HRZ : Hid (∀ W, Calls Tryz.prog 42 #[.string ⟨#[0]⟩, .int .i64 ((128 - m : Nat) : Int)] W fun e w' => e = .returned (.string z) ∧ Below W.heap.size W w') := Lib.hid (by rw [hz]; exact hR)
      rw [← hz] at HJ hsum
      rw [← hy] at HJ HN hpz
      have hadd : ∀ W : World, (Op.stringOp .add (t.extract 0 m) z).run Tryz.prog W = .ok (.string y) W := fun W => by rw [← HJ.out]; exact run_string_add_sum W _ _ hsum
      obtain ⟨r, hr⟩ : ∃ r : Nat, r = 128 - m := ⟨_, rfl⟩
      rw [← hr] at hsub hwr hwr2 HRZ
      clear hR HR HRR hm hz hy hxs hr hsum
      obtain ⟨A, c, rfl⟩ := ownLen hO
      go_upto_region 4 with fail
      have hO0 := ownBelow hO (Below.refl _ wr).drew
      have hB0 := HB.out.drew
      refine wp_region_held_drew (S := (fun _ => True)) (by kernel_rfl) ?_ (fun hHeld => ?_)
      · trivial
      refine tkW 0 (some 11) (v := ?_) rfl ?_ ?_
      rotate_left
      · intro u hSu; clear hSu; go_simp; (try with_reducible rfl)
      try simp only [Act.put, List.setIfInBounds_toArray, List.set_cons_zero, List.set_cons_succ]
      refine tkW 1 (some 12) (v := ?_) rfl ?_ ?_
      rotate_left
      · intro u hSu; clear hSu; go_simp; (try with_reducible rfl)
      try simp only [Act.put, List.setIfInBounds_toArray, List.set_cons_zero, List.set_cons_succ]
      refine tkW 2 (some 13) (v := ?_) rfl ?_ ?_
      rotate_left
      · intro u hSu; clear hSu; go_simp; (try with_reducible rfl)
      try simp only [Act.put, List.setIfInBounds_toArray, List.set_cons_zero, List.set_cons_succ]
      refine tkW 3 (some 14) (v := ?_) rfl ?_ ?_
      rotate_left
      · intro u hSu; clear hSu; go_simp; (try with_reducible rfl)
      try simp only [Act.put, List.setIfInBounds_toArray, List.set_cons_zero, List.set_cons_succ]
      refine tkW 4 (some 15) (v := ?_) rfl ?_ ?_
      rotate_left
      · intro u hSu; clear hSu; go_simp; (try with_reducible rfl)
      try simp only [Act.put, List.setIfInBounds_toArray, List.set_cons_zero, List.set_cons_succ]
      refine tkW 5 (some 16) (v := ?_) rfl ?_ ?_
      rotate_left
      · intro u hSu; clear hSu; go_simp; (try with_reducible rfl)
      try simp only [Act.put, List.setIfInBounds_toArray, List.set_cons_zero, List.set_cons_succ]
      refine rdH 6 (some 17) rfl (fun K hK => ?_)
      go_simp
      refine (HRZ.out _).mono ?_; rintro e w1 ⟨rfl, hb1⟩; have hO1 := ownBelow hO0 hb1; have hB1 := hB0.trans (hb1.mono hB0.size); try go_simp
      refine hK.out _ _ ?_ (fun hHeld => ?_)
      · trivial
      clear hK K
      try simp only [Act.put, List.setIfInBounds_toArray, List.set_cons_zero, List.set_cons_succ]
      refine tkW 7 (some 18) (v := ?_) rfl ?_ ?_
      rotate_left
      · intro u hSu; clear hSu; go_simp; (try with_reducible rfl)
      try simp only [Act.put, List.setIfInBounds_toArray, List.set_cons_zero, List.set_cons_succ]
      refine rdH 8 (some 19) rfl (fun K hK => ?_)
      go_simp
      have hO2 := ownBelow hO1 (allocB w1 (.cells #[.string y] 9)); have hB2 := hB1.alloc hB1.size (.cells #[.string y] 9); have hG := heap_alloc_new w1 (.cells #[.string y] 9)
      refine hK.out _ _ ?_ (fun hHeld => ?_)
      · trivial
      clear hK K
      try simp only [Act.put, List.setIfInBounds_toArray, List.set_cons_zero, List.set_cons_succ]
      refine rdH 9 (some 20) rfl (fun K hK => ?_)
      refine wantedIf (by rfl) ?_
      refine wp_push _ (.tmp 11) (.tmp 19) 27 9 Tryz.underlying27 info_string rfl (by omega) (by omega) rfl w.heap.size _ ls.length (ls.flatMap strC) rfl hO2 w1.heap.size (strC y) 9 rfl hG rfl (by simp [strC, Value.oneCell']) (by omega) hB2.size ?_
      intro v7 w7 ho hg hb
      have hB7 := hB2.trans hb
      refine hK.out _ _ ?_ (fun hHeld => ?_)
      · trivial
      clear hK K
      try simp only [Act.put, List.setIfInBounds_toArray, List.set_cons_zero, List.set_cons_succ]
      refine tkW 10 (some 3) (v := ?_) rfl ?_ ?_
      rotate_left
      · intro u hSu; clear hSu; go_simp; (try with_reducible rfl)
      try simp only [Act.put, List.setIfInBounds_toArray, List.set_cons_zero, List.set_cons_succ]
      refine wpAnyH_done (by kernel_rfl) ?_ _
      have HO7 := Lib.hid (OwnL.push (enc := strC) (x := y) ho)
      have HB7 := Lib.hid hB7
      clear hO hO0 hO1 hO2 hB0 hB1 hB2 hB7 ho hg hb hG hHeld HB hadd hpz
      go_wp2_with fail
      go_roundw
      case rel => exact ⟨_, ls ++ [y], rfl, by have := HXS.out; omega, by rw [List.append_assoc]; have h := HC2.out; rw [HN.out] at h; exact h, HO7.out, HB7.out⟩
      case measure => exact HXS.out
    · have h00 : t.size = 0 := by omega
      have hfin : ls = C := by have h := HC2.out; rwa [Lg.cut_none t h00, List.append_nil] at h
      subst hfin
      go_wp2_with fail
      exact HF.out _ _ hO HB.out
end Go.Proofs.YthfglhafphfhiaaGreat
/- The walk over package octet: Open, of four bytes or more. -/
namespace Go.Proofs.YthfglhafphfhiaaGreat
open Go.RowKit
end Go.Proofs.YthfglhafphfhiaaGreat
/- The walk over package octet: GetText. -/
namespace Go.Proofs.YthfglhafphfhiaaGreat
open Go.RowKit
end Go.Proofs.YthfglhafphfhiaaGreat
/- The walk over package rec: a reader's num. -/
namespace Go.Proofs.YthfglhafphfhiaaGreat
open Go.RowKit
end Go.Proofs.YthfglhafphfhiaaGreat
/- The walk over package rec: a reader's num, as the plain reader has it. -/
namespace Go.Proofs.YthfglhafphfhiaaGreat
open Go.RowKit
end Go.Proofs.YthfglhafphfhiaaGreat
/- The walk over package rec: a reader's text. -/
namespace Go.Proofs.YthfglhafphfhiaaGreat
open Go.RowKit
end Go.Proofs.YthfglhafphfhiaaGreat
/- Which records may be, as a test. -/
namespace Rc
/-- Texts and lists alike. -/
instance : DecidableEq Op := fun a b => by
  obtain ⟨a1, a2, a3, a4⟩ := a
  obtain ⟨b1, b2, b3, b4⟩ := b
  by_cases h : a1 = b1 ∧ a2 = b2 ∧ a3 = b3 ∧ a4 = b4
  · exact .isTrue (by obtain ⟨rfl, rfl, rfl, rfl⟩ := h; rfl)
  · exact .isFalse (fun e => by injection e with e1 e2 e3 e4; exact h ⟨e1, e2, e3, e4⟩)
instance : DecidableEq Key := fun a b => by
  obtain ⟨a1, a2, a3⟩ := a
  obtain ⟨b1, b2, b3⟩ := b
  by_cases h : a1 = b1 ∧ a2 = b2 ∧ a3 = b3
  · exact .isTrue (by obtain ⟨rfl, rfl, rfl⟩ := h; rfl)
  · exact .isFalse (fun e => by injection e with e1 e2 e3; exact h ⟨e1, e2, e3⟩)
instance (n : Int) : Decidable (num n) := by unfold num; exact inferInstance
instance (n : Int) : Decidable (pg n) := by unfold pg; exact inferInstance
instance (n : Int) : Decidable (sl n) := by unfold sl; exact inferInstance
instance (o : Op) : Decidable (opR o) := by unfold opR; exact inferInstance
instance (r : Rec) : Decidable (treeR r) := by unfold treeR; exact inferInstance
instance (x : TxnAt) : Decidable (txnR x) := by unfold txnR; exact inferInstance
instance (x : DirtyAt) : Decidable (dirtyR x) := by unfold dirtyR; exact inferInstance
instance (r : Rec) : Decidable (listsR r) := by unfold listsR; exact inferInstance
/-- What a kind has: a change, how it is undone, a next one, lists. -/
def hasChange (k : Int) : Prop := k = 2 ∨ k = 3 ∨ k = 8
def hasNext (k : Int) : Prop := k = 3 ∨ k = 4
/-- The form of a record, field by field. -/
structure Form (r : Rec) : Prop where
  kind : 1 ≤ r.kind ∧ r.kind ≤ 9
  nums : num r.lsn ∧ num r.prev ∧ num r.txn
  change : hasChange r.kind → pg r.page ∧ opR r.op
  bare : ¬ hasChange r.kind → r.page = 0 ∧ r.op = noOp
  tree : r.kind = 2 → treeR r
  noTree : r.kind ≠ 2 → r.how = 0 ∧ r.root = 0 ∧ r.e = noKey
  next : hasNext r.kind → num r.next
  noNext : ¬ hasNext r.kind → r.next = 0
  lists : r.kind = 9 → num r.num ∧ listsR r
  noLists : r.kind ≠ 9 → r.num = 0 ∧ r.txns = [] ∧ r.dirty = []
theorem form_of {r : Rec} (h : Right r) : Form r := by
  cases h with
  | small kind lsn prev txn hk h1 h2 h3 =>
    have hb : (bare kind lsn prev txn).kind = kind := rfl
    exact ⟨by rw [hb]; omega, ⟨h1, h2, h3⟩, fun h => (by unfold hasChange at h; rw [hb] at h; omega), fun _ => ⟨rfl, rfl⟩, fun h => (by rw [hb] at h; omega), fun _ => ⟨rfl, rfl, rfl⟩, fun h => (by unfold hasNext at h; rw [hb] at h; omega), fun _ => rfl, fun h => (by rw [hb] at h; omega), fun _ => ⟨rfl, rfl, rfl⟩⟩
  | change lsn prev txn page op how root e h1 h2 h3 h4 h5 h6 =>
    exact ⟨⟨by show (1 : Int) ≤ 2; omega, by show (2 : Int) ≤ 9; omega⟩, ⟨h1, h2, h3⟩, fun _ => ⟨h4, h5⟩, fun h => absurd (Or.inl rfl) h, fun _ => h6, fun h => absurd rfl h, fun h => (by rcases h with h | h <;> cases h), fun _ => rfl, fun h => (by cases h), fun _ => ⟨rfl, rfl, rfl⟩⟩
  | clr lsn prev txn page op next h1 h2 h3 h4 h5 h6 =>
    exact ⟨⟨by show (1 : Int) ≤ 3; omega, by show (3 : Int) ≤ 9; omega⟩, ⟨h1, h2, h3⟩, fun _ => ⟨h4, h5⟩, fun h => absurd (Or.inr (Or.inl rfl)) h, fun h => (by cases h), fun _ => ⟨rfl, rfl, rfl⟩, fun _ => h6, fun h => absurd (Or.inl rfl) h, fun h => (by cases h), fun _ => ⟨rfl, rfl, rfl⟩⟩
  | nest lsn prev txn next h1 h2 h3 h6 =>
    exact ⟨⟨by show (1 : Int) ≤ 4; omega, by show (4 : Int) ≤ 9; omega⟩, ⟨h1, h2, h3⟩, fun h => (by rcases h with h | h | h <;> cases h), fun _ => ⟨rfl, rfl⟩, fun h => (by cases h), fun _ => ⟨rfl, rfl, rfl⟩, fun _ => h6, fun h => absurd (Or.inr rfl) h, fun h => (by cases h), fun _ => ⟨rfl, rfl, rfl⟩⟩
  | image lsn prev txn page op h1 h2 h3 h4 h5 =>
    exact ⟨⟨by show (1 : Int) ≤ 8; omega, by show (8 : Int) ≤ 9; omega⟩, ⟨h1, h2, h3⟩, fun _ => ⟨h4, h5⟩, fun h => absurd (Or.inr (Or.inr rfl)) h, fun h => (by cases h), fun _ => ⟨rfl, rfl, rfl⟩, fun h => (by rcases h with h | h <;> cases h), fun _ => rfl, fun h => (by cases h), fun _ => ⟨rfl, rfl, rfl⟩⟩
  | check lsn prev txn n ts ds h1 h2 h3 h4 h5 =>
    exact ⟨⟨by show (1 : Int) ≤ 9; omega, by show (9 : Int) ≤ 9; omega⟩, ⟨h1, h2, h3⟩, fun h => (by rcases h with h | h | h <;> cases h), fun _ => ⟨rfl, rfl⟩, fun h => (by cases h), fun _ => ⟨rfl, rfl, rfl⟩, fun h => (by rcases h with h | h <;> cases h), fun _ => rfl, fun _ => ⟨h4, h5⟩, fun h => absurd rfl h⟩
end Rc
/- The walks over package rec: which numbers may be. -/
namespace Rc
/-- Are all numbers from 0 to a most one? -/
def allW (most : Int) (xs : List Int) : Bool := xs.all fun n => decide (0 ≤ n ∧ n ≤ most)
theorem allW_bad {most : Int} {xs : List Int} {k : Nat} (hk : k < xs.length) (h : ¬ (0 ≤ xs[k] ∧ xs[k] ≤ most)) : allW most xs = false := by
  unfold allW
  rw [List.all_eq_false]
  exact ⟨_, List.getElem_mem hk, by simpa using h⟩
theorem allW_all {most : Int} {xs : List Int} (h : ∀ k (hk : k < xs.length), 0 ≤ xs[k] ∧ xs[k] ≤ most) : allW most xs = true := by
  unfold allW
  rw [List.all_eq_true]
  intro x hx
  obtain ⟨k, hk, rfl⟩ := List.getElem_of_mem hx
  simpa using h k hk
end Rc
namespace Go.Proofs.YthfglhafphfhiaaGreat
open Go.RowKit
theorem outside_any (n most : Int) (g : Nat) (w : World) (h : w.cell? ⟨g, 0, none⟩ = some (.int .i64 most)) :
    Calls Tryz.prog 162 #[.int .i64 n, .pointer (some ⟨g, 0, none⟩)] w fun e w' => e = .returned (.bool (!decide (0 ≤ n ∧ n ≤ most))) ∧ w = w' := by
  by_cases h0 : n < 0
  · rw [show decide (0 ≤ n ∧ n ≤ most) = false from decide_eq_false (by omega)]
    go_enter Tryz.func162, Tryz.ntmps162
    go_wp2_with fail
    go_ret
    exact ⟨by simp [*], rfl⟩
  · have h1 : 0 ≤ n := by omega
    by_cases h2 : most < n
    · rw [show decide (0 ≤ n ∧ n ≤ most) = false from decide_eq_false (by omega)]
      go_enter Tryz.func162, Tryz.ntmps162
      go_wp2_with fail
      go_ret
      exact ⟨by simp [*], rfl⟩
    · have h3 : n ≤ most := by omega
      rw [show decide (0 ≤ n ∧ n ≤ most) = true from decide_eq_true (by omega)]
      clear h0 h2
      go_enter Tryz.func162, Tryz.ntmps162
      go_wp2_with fail
      go_ret
      exact ⟨by simp [*], rfl⟩
/-- The place of the first one that may not be. -/
def FirstOut (b : Bool) (w : World) (e : Ending) (w' : World) : Prop := ∃ k : Int, e = .returned (.int .i64 k) ∧ (if b then k = -1 else 0 ≤ k) ∧ w = w'
theorem index_ints (most : Int) (xs : List Int) (hn : xs.length ≤ 1048576) (A : Option Addr) (c g : Nat) (w : World) (hr : Reads w A c xs.length (xs.map (Value.int .i64))) (h : w.cell? ⟨g, 0, none⟩ = some (.int .i64 most)) :
    Calls Tryz.prog 164 #[.slice A xs.length c, .func (.func 162) #[] #[.pointer (some ⟨g, 0, none⟩)]] w (FirstOut (Rc.allW most xs) w) := by
  have HR := Lib.hid hr
  have HO := Lib.hid (fun n => outside_any n most g w h)
  obtain ⟨b, hb⟩ : ∃ b, b = Rc.allW most xs := ⟨_, rfl⟩
  rw [← hb]
  have HB := Lib.hid hb
  clear hr h hb
  go_enter Tryz.func164, Tryz.ntmps164
  go_wp2_with fail
  go_loop [8] (fun i => ∃ k : Nat, k ≤ xs.length ∧ i = .int .i64 k ∧ ∀ j (hj : j < xs.length), j < k → 0 ≤ xs[j] ∧ xs[j] ≤ most) (fun i => xs.length - (intOf i).toNat)
  case atStart => exact ⟨0, Nat.zero_le _, rfl, fun _ _ h => absurd h (by omega)⟩
  case round =>
    obtain ⟨k, hk, rfl, hall⟩ := hrel
    have HA := Lib.hid hall
    clear hall
    by_cases hlt : k < xs.length
    · obtain ⟨b', off, rfl, hc, hbl, hcell⟩ := HR.out.at_ (by omega)
      have hck := hcell k (.int .i64 xs[k]) (by rw [List.getElem?_map, List.getElem?_eq_getElem hlt]; rfl)
      clear hcell
      have HN := Lib.hid (show ¬ (0 ≤ xs[k] ∧ xs[k] ≤ most) → b = false from fun h => HB.out.trans (Rc.allW_bad hlt h))
      have HY := Lib.hid (show (0 ≤ xs[k] ∧ xs[k] ≤ most) → ∀ j (hj : j < xs.length), j < k + 1 → 0 ≤ xs[j] ∧ xs[j] ≤ most from fun h j hj hjk => by
        rcases Nat.lt_or_eq_of_le (Nat.le_of_lt_succ hjk) with h1 | h1
        · exact HA.out j hj h1
        · subst h1; exact h)
      have HOk := Lib.hid (HO.out xs[k])
      generalize xs[k] = x at hck HN HY HOk
      cases hd : decide (0 ≤ x ∧ x ≤ most) with
      | true =>
        have HY2 := Lib.hid (HY.out (of_decide_eq_true hd))
        rw [hd] at HOk
        clear HN HY hd
        go_wp2_with ((go_at_call 162; refine (HOk.out).mono ?_; rintro e w' ⟨rfl, rfl⟩))
        go_round
        case rel => exact ⟨k + 1, by omega, by go_num, HY2.out⟩
        case measure => simp [intOf]; omega
      | false =>
        have HN2 := Lib.hid (HN.out (of_decide_eq_false hd))
        rw [hd] at HOk
        clear HN HY hd
        go_wp2_with ((go_at_call 162; refine (HOk.out).mono ?_; rintro e w' ⟨rfl, rfl⟩))
        go_ret
        exact ⟨k, rfl, by rw [HN2.out]; simp, rfl⟩
    · obtain rfl : k = xs.length := by omega
      have HE := Lib.hid (show b = true from HB.out.trans (Rc.allW_all fun j hj => HA.out j hj hj))
      go_wp2_with fail
      go_ret
      exact ⟨-1, rfl, by rw [HE.out]; rfl, rfl⟩
theorem contains_ints (most : Int) (xs : List Int) (hn : xs.length ≤ 1048576) (A : Option Addr) (c g : Nat) (w : World) (hr : Reads w A c xs.length (xs.map (Value.int .i64))) (h : w.cell? ⟨g, 0, none⟩ = some (.int .i64 most)) :
    Calls Tryz.prog 161 #[.slice A xs.length c, .func (.func 162) #[] #[.pointer (some ⟨g, 0, none⟩)]] w fun e w' => e = .returned (.bool (!Rc.allW most xs)) ∧ w = w' := by
  have HI := Lib.hid (index_ints most xs hn A c g w hr h)
  clear hr h
  cases hb : Rc.allW most xs with
  | true =>
    rw [hb] at HI
    clear hb
    go_enter Tryz.func161, Tryz.ntmps161
    go_wp2_with ((go_at_call 164; refine (HI.out).mono ?_; rintro e w' ⟨k, rfl, hk, rfl⟩; obtain rfl : k = -1 := hk))
    go_ret
    exact ⟨rfl, rfl⟩
  | false =>
    rw [hb] at HI
    clear hb
    go_enter Tryz.func161, Tryz.ntmps161
    go_wp2_with ((go_at_call 164; refine (HI.out).mono ?_; rintro e w' ⟨k, rfl, hk, rfl⟩; have hk0 : 0 ≤ k := by simpa using hk))
    go_ret
    exact ⟨by simp [*], rfl⟩
theorem within_any (most : Int) (xs : List Int) (hn : xs.length ≤ 1048576) (A : Option Addr) (c : Nat) (w : World) (hr : Reads w A c xs.length (xs.map (Value.int .i64))) :
    Calls Tryz.prog 146 #[.int .i64 most, .slice A xs.length c] w fun e w' => e = .returned (.bool (Rc.allW most xs)) ∧ Below w.heap.size w w' := by
  have HC := Lib.hid (contains_ints most xs hn A c w.heap.size (w.alloc (.cells #[.int .i64 most] 3)) (hr.alloc _) (by rw [blkCell (heap_alloc_new w _)]; rfl))
  clear hr
  generalize Rc.allW most xs = b at HC ⊢
  go_enter Tryz.func146, Tryz.ntmps146
  go_wp2_with ((go_at_call 161; refine (HC.out).mono ?_; rintro e w' ⟨rfl, rfl⟩))
  go_ret
  exact ⟨by simp, allocB _ _⟩
theorem number_any (xs : List Int) (hn : xs.length ≤ 1048576) (A : Option Addr) (c : Nat) (w : World) (hr : Reads w A c xs.length (xs.map (Value.int .i64))) :
    Calls Tryz.prog 113 #[.slice A xs.length c] w fun e w' => e = .returned (.bool (Rc.allW 1099511627775 xs)) ∧ Below w.heap.size w w' := by
  have HC := Lib.hid (within_any 1099511627775 xs hn A c w hr)
  clear hr
  generalize Rc.allW 1099511627775 xs = b at HC ⊢
  go_enter Tryz.func113, Tryz.ntmps113
  go_wp2_with ((go_at_call 146; refine (HC.out).mono ?_; rintro e w' ⟨rfl, hb⟩))
  go_ret
  exact ⟨rfl, hb⟩
theorem paged_any (xs : List Int) (hn : xs.length ≤ 1048576) (A : Option Addr) (c : Nat) (w : World) (hr : Reads w A c xs.length (xs.map (Value.int .i64))) :
    Calls Tryz.prog 114 #[.slice A xs.length c] w fun e w' => e = .returned (.bool (Rc.allW 8388607 xs)) ∧ Below w.heap.size w w' := by
  have HC := Lib.hid (within_any 8388607 xs hn A c w hr)
  clear hr
  generalize Rc.allW 8388607 xs = b at HC ⊢
  go_enter Tryz.func114, Tryz.ntmps114
  go_wp2_with ((go_at_call 146; refine (HC.out).mono ?_; rintro e w' ⟨rfl, hb⟩))
  go_ret
  exact ⟨rfl, hb⟩
theorem slot_any (xs : List Int) (hn : xs.length ≤ 1048576) (A : Option Addr) (c : Nat) (w : World) (hr : Reads w A c xs.length (xs.map (Value.int .i64))) :
    Calls Tryz.prog 147 #[.slice A xs.length c] w fun e w' => e = .returned (.bool (Rc.allW 32767 xs)) ∧ Below w.heap.size w w' := by
  have HC := Lib.hid (within_any 32767 xs hn A c w hr)
  clear hr
  generalize Rc.allW 32767 xs = b at HC ⊢
  go_enter Tryz.func147, Tryz.ntmps147
  go_wp2_with ((go_at_call 146; refine (HC.out).mono ?_; rintro e w' ⟨rfl, hb⟩))
  go_ret
  exact ⟨rfl, hb⟩
end Go.Proofs.YthfglhafphfhiaaGreat
/- The walks over package rec: the parts of a record that may be. -/
namespace Rc
theorem allW_one (m n : Int) : allW m [n] = decide (0 ≤ n ∧ n ≤ m) := by simp [allW]
theorem allW_two (m a b : Int) : allW m [a, b] = decide ((0 ≤ a ∧ a ≤ m) ∧ (0 ≤ b ∧ b ≤ m)) := by simp [allW, Bool.decide_and]
theorem allW_three (m a b c : Int) : allW m [a, b, c] = decide ((0 ≤ a ∧ a ≤ m) ∧ (0 ≤ b ∧ b ≤ m) ∧ (0 ≤ c ∧ c ≤ m)) := by simp [allW, Bool.decide_and]
theorem num_iff (n : Int) : (0 ≤ n ∧ n ≤ 1099511627775) ↔ num n := by unfold num; omega
theorem pg_iff (n : Int) : (0 ≤ n ∧ n ≤ 8388607) ↔ pg n := by unfold pg; omega
theorem sl_iff (n : Int) : (0 ≤ n ∧ n ≤ 32767) ↔ sl n := by unfold sl; omega
end Rc
namespace Go.Proofs.YthfglhafphfhiaaGreat
open Go.RowKit
theorem new2 (w : World) (o1 o2 : Obj) : ((w.alloc o1).alloc o2).heap[w.heap.size + 1]? = some o2 := by simpa using heap_alloc_new (w.alloc o1) o2
theorem number1 (a : Int) (w : World) (g : Nat) (hg : w.heap[g]? = some (.cells #[.int .i64 a] 3 (0, 0))) :
    Calls Tryz.prog 113 #[.slice (some ⟨g, 0, none⟩) 1 1] w fun e w' => e = .returned (.bool (decide (Rc.num a))) ∧ Below w.heap.size w w' := by
  have h := number_any [a] (by simp) (some ⟨g, 0, none⟩) 1 w (reads_blk (cs := [.int .i64 a]) hg (Nat.le_refl _))
  rw [Rc.allW_one, decide_eq_decide.2 (Rc.num_iff a)] at h
  exact h
theorem paged1 (a : Int) (w : World) (g : Nat) (hg : w.heap[g]? = some (.cells #[.int .i64 a] 3 (0, 0))) :
    Calls Tryz.prog 114 #[.slice (some ⟨g, 0, none⟩) 1 1] w fun e w' => e = .returned (.bool (decide (Rc.pg a))) ∧ Below w.heap.size w w' := by
  have h := paged_any [a] (by simp) (some ⟨g, 0, none⟩) 1 w (reads_blk (cs := [.int .i64 a]) hg (Nat.le_refl _))
  rw [Rc.allW_one, decide_eq_decide.2 (Rc.pg_iff a)] at h
  exact h
theorem slot1 (a : Int) (w : World) (g : Nat) (hg : w.heap[g]? = some (.cells #[.int .i64 a] 3 (0, 0))) :
    Calls Tryz.prog 147 #[.slice (some ⟨g, 0, none⟩) 1 1] w fun e w' => e = .returned (.bool (decide (Rc.sl a))) ∧ Below w.heap.size w w' := by
  have h := slot_any [a] (by simp) (some ⟨g, 0, none⟩) 1 w (reads_blk (cs := [.int .i64 a]) hg (Nat.le_refl _))
  rw [Rc.allW_one, decide_eq_decide.2 (Rc.sl_iff a)] at h
  exact h
theorem paged2 (a b : Int) (w : World) (g : Nat) (hg : w.heap[g]? = some (.cells #[.int .i64 a, .int .i64 b] 3 (0, 0))) :
    Calls Tryz.prog 114 #[.slice (some ⟨g, 0, none⟩) 2 2] w fun e w' => e = .returned (.bool (decide (Rc.pg a ∧ Rc.pg b))) ∧ Below w.heap.size w w' := by
  have h := paged_any [a, b] (by simp) (some ⟨g, 0, none⟩) 2 w (reads_blk (cs := [.int .i64 a, .int .i64 b]) hg (Nat.le_refl _))
  rw [Rc.allW_two, decide_eq_decide.2 (and_congr (Rc.pg_iff a) (Rc.pg_iff b))] at h
  exact h
theorem number3 (a b c : Int) (w : World) (g : Nat) (hg : w.heap[g]? = some (.cells #[.int .i64 a, .int .i64 b, .int .i64 c] 3 (0, 0))) :
    Calls Tryz.prog 113 #[.slice (some ⟨g, 0, none⟩) 3 3] w fun e w' => e = .returned (.bool (decide (Rc.num a ∧ Rc.num b ∧ Rc.num c))) ∧ Below w.heap.size w w' := by
  have h := number_any [a, b, c] (by simp) (some ⟨g, 0, none⟩) 3 w (reads_blk (cs := [.int .i64 a, .int .i64 b, .int .i64 c]) hg (Nat.le_refl _))
  rw [Rc.allW_three, decide_eq_decide.2 (and_congr (Rc.num_iff a) (and_congr (Rc.num_iff b) (Rc.num_iff c)))] at h
  exact h
abbrev opV (o : Rc.Op) : Value := .agg #[.int .i64 o.kind, .int .i64 o.slot, .string o.old, .string o.new]
abbrev keyV (e : Rc.Key) : Value := .agg #[.string e.key, .int .i64 e.page, .int .i64 e.slot]
abbrev recA (r : Rc.Rec) (T D : Value) : Array Value := #[.int .i64 r.lsn, .int .i64 r.prev, .int .i64 r.txn, .int .i64 r.kind, .int .i64 r.page, .int .i64 r.next, .int .i64 r.num, .int .i64 r.op.kind, .int .i64 r.op.slot, .string r.op.old, .string r.op.new, .int .i64 r.how, .int .i64 r.root, .string r.e.key, .int .i64 r.e.page, .int .i64 r.e.slot, T, D]
abbrev recV (r : Rc.Rec) (T D : Value) : Value := .agg (recA r T D)
theorem bytes_list (a b : ByteArray) : a.toList = b.toList ↔ a = b := by
  rw [ByteArray.toList_eq, ByteArray.toList_eq]
  exact ⟨fun h => ByteArray.ext (Array.toList_inj.1 h), fun h => by rw [h]⟩
theorem key_equal (a b : Rc.Key) (w : World) : (Op.equalIn 10000 82 (keyV a) (keyV b)).run Tryz.prog w = .ok (decide (a = b)) w := by
  obtain ⟨k1, p1, s1⟩ := a
  obtain ⟨k2, p2, s2⟩ := b
  have hS : Tryz.prog.underlying 82 = some (.struct (Tryz.prog.fieldsOf 82)) := by kernel_rfl
  have hp : Tryz.prog.stoodInHeld 82 = false := by kernel_rfl
  have hS2 : Tryz.prog.underlying 80 = some (.struct (Tryz.prog.fieldsOf 80)) := by kernel_rfl
  have hp2 : Tryz.prog.stoodInHeld 80 = false := by kernel_rfl
  have hin : ∀ W : World, (Op.equalIn 9999 80 (.agg #[.int .i64 p1, .int .i64 s1]) (.agg #[.int .i64 p2, .int .i64 s2])).run Tryz.prog W = .ok ((p1 == p2) && (s1 == s2)) W := fun W => by
    rw [show (9999 : Nat) = 9998 + 1 from rfl, run_equalIn_agg W 9998 80 _ _ hS2 hp2]
    simp only [Program.fieldsOf, Tryz.underlying80]
    go_simp
    by_cases h1 : p1 = p2 <;> by_cases h2 : s1 = s2 <;> simp [h1, h2]
  rw [show (10000 : Nat) = 9999 + 1 from rfl, run_equalIn_agg w 9999 82 _ _ hS hp]
  simp only [Program.fieldsOf, Tryz.underlying82]
  go_simp
  have hk := bytes_list k1 k2
  by_cases h0 : k1 = k2
  · rw [if_pos (hk.2 h0)]
    by_cases h1 : p1 = p2 <;> by_cases h2 : s1 = s2 <;> simp [h0, h1, h2]
  · rw [if_neg (fun h => h0 (hk.1 h))]
    simp [h0]
theorem op_equal (a b : Rc.Op) (w : World) : (Op.equalIn 10000 78 (opV a) (opV b)).run Tryz.prog w = .ok (decide (a = b)) w := by
  obtain ⟨k1, p1, s1, t1⟩ := a
  obtain ⟨k2, p2, s2, t2⟩ := b
  have hS : Tryz.prog.underlying 78 = some (.struct (Tryz.prog.fieldsOf 78)) := by kernel_rfl
  have hp : Tryz.prog.stoodInHeld 78 = false := by kernel_rfl
  rw [show (10000 : Nat) = 9999 + 1 from rfl, run_equalIn_agg w 9999 78 _ _ hS hp]
  simp only [Program.fieldsOf, Tryz.underlying78]
  go_simp
  have hs := bytes_list s1 s2
  have ht := bytes_list t1 t2
  by_cases h0 : k1 = k2 <;> by_cases h1 : p1 = p2 <;> by_cases h2 : s1 = s2 <;> by_cases h3 : t1 = t2 <;> simp [h0, h1, h2, h3, hs, ht]
end Go.Proofs.YthfglhafphfhiaaGreat
/- The walks over package rec: the forms of records. -/
namespace Go.Proofs.YthfglhafphfhiaaGreat
open Go.RowKit
/-- The forms of all kinds. -/
def formsA : Array Value := ((List.range 10).flatMap fun k => [Value.bool (k == 2 || k == 3 || k == 8), .bool (k == 2), .bool (k == 3 || k == 4), .bool (k == 9), .bool (k != 0)]).toArray
theorem info_forms : (Tryz.prog.info? 175).map (·.size) = some formsA.size := by kernel_rfl
set_option maxRecDepth 100000 in
set_option maxHeartbeats 400000 in
theorem forms_any (w : World) :
    Calls Tryz.prog 145 #[] w fun e w' => e = .returned (.agg formsA) ∧ Below w.heap.size w w' := by
  go_enter Tryz.func145, Tryz.ntmps145
  go_wp2_with (with_reducible refine wpList_store_new rfl 175 (.tmp 0) (.tmp 10) rfl formsA _ _ rfl (by kernel_rfl) (by kernel_rfl) info_forms (by kernel_rfl) ?_)
  exact bodyPost_ret (v := .agg formsA) (results_cell rfl _ _ rfl (load_whole (heap_alloc_new w _) Tryz.underlying175 rfl info_forms)) rfl ⟨rfl, allocB _ _⟩
abbrev formV (a b c d e : Bool) : Value := .agg #[.bool a, .bool b, .bool c, .bool d, .bool e]
/-- What of returns. -/
def ofV (k : Int) : Value := .tuple #[formV (k == 2 || k == 3 || k == 8) (k == 2) (k == 3 || k == 4) (k == 9) (decide (1 ≤ k ∧ k ≤ 9)), .bool (decide (1 ≤ k ∧ k ≤ 9))]
theorem ofV_out {k : Int} (h : ¬ (0 ≤ k ∧ k ≤ 9)) : ofV k = .tuple #[formV false false false false false, .bool false] := by
  have h1 : (k == 2) = false := by simp; omega
  have h2 : (k == 3) = false := by simp; omega
  have h3 : (k == 4) = false := by simp; omega
  have h4 : (k == 8) = false := by simp; omega
  have h5 : (k == 9) = false := by simp; omega
  have h6 : decide (1 ≤ k ∧ k ≤ 9) = false := decide_eq_false (by omega)
  unfold ofV
  rw [h1, h2, h3, h4, h5, h6]
  rfl
theorem index_form0 (W : World) : (Instr.index 175 (.agg formsA) (.int .i64 ((0 : Nat) : Int))).run Tryz.prog W = .ok (.agg (formsA.extract (0 * 5) (0 * 5 + 5))) W := by kernel_rfl
theorem index_form1 (W : World) : (Instr.index 175 (.agg formsA) (.int .i64 ((1 : Nat) : Int))).run Tryz.prog W = .ok (.agg (formsA.extract (1 * 5) (1 * 5 + 5))) W := by kernel_rfl
theorem index_form2 (W : World) : (Instr.index 175 (.agg formsA) (.int .i64 ((2 : Nat) : Int))).run Tryz.prog W = .ok (.agg (formsA.extract (2 * 5) (2 * 5 + 5))) W := by kernel_rfl
theorem index_form3 (W : World) : (Instr.index 175 (.agg formsA) (.int .i64 ((3 : Nat) : Int))).run Tryz.prog W = .ok (.agg (formsA.extract (3 * 5) (3 * 5 + 5))) W := by kernel_rfl
theorem index_form4 (W : World) : (Instr.index 175 (.agg formsA) (.int .i64 ((4 : Nat) : Int))).run Tryz.prog W = .ok (.agg (formsA.extract (4 * 5) (4 * 5 + 5))) W := by kernel_rfl
theorem index_form5 (W : World) : (Instr.index 175 (.agg formsA) (.int .i64 ((5 : Nat) : Int))).run Tryz.prog W = .ok (.agg (formsA.extract (5 * 5) (5 * 5 + 5))) W := by kernel_rfl
theorem index_form6 (W : World) : (Instr.index 175 (.agg formsA) (.int .i64 ((6 : Nat) : Int))).run Tryz.prog W = .ok (.agg (formsA.extract (6 * 5) (6 * 5 + 5))) W := by kernel_rfl
theorem index_form7 (W : World) : (Instr.index 175 (.agg formsA) (.int .i64 ((7 : Nat) : Int))).run Tryz.prog W = .ok (.agg (formsA.extract (7 * 5) (7 * 5 + 5))) W := by kernel_rfl
theorem index_form8 (W : World) : (Instr.index 175 (.agg formsA) (.int .i64 ((8 : Nat) : Int))).run Tryz.prog W = .ok (.agg (formsA.extract (8 * 5) (8 * 5 + 5))) W := by kernel_rfl
theorem index_form9 (W : World) : (Instr.index 175 (.agg formsA) (.int .i64 ((9 : Nat) : Int))).run Tryz.prog W = .ok (.agg (formsA.extract (9 * 5) (9 * 5 + 5))) W := by kernel_rfl
theorem index_form (k : Nat) (hk : k < 10) (W : World) : (Instr.index 175 (.agg formsA) (.int .i64 (k : Int))).run Tryz.prog W = .ok (.agg (formsA.extract (k * 5) (k * 5 + 5))) W := by
  have hk : k = 0 ∨ k = 1 ∨ k = 2 ∨ k = 3 ∨ k = 4 ∨ k = 5 ∨ k = 6 ∨ k = 7 ∨ k = 8 ∨ k = 9 := by omega
  rcases hk with rfl | rfl | rfl | rfl | rfl | rfl | rfl | rfl | rfl | rfl
  · exact index_form0 W
  · exact index_form1 W
  · exact index_form2 W
  · exact index_form3 W
  · exact index_form4 W
  · exact index_form5 W
  · exact index_form6 W
  · exact index_form7 W
  · exact index_form8 W
  · exact index_form9 W
set_option maxRecDepth 100000 in
set_option maxHeartbeats 1000000 in
theorem of_in (k : Nat) (a b c d e : Bool) (hk : k < 10) (h : (formsA.extract (k * 5) (k * 5 + 5)) = #[.bool a, .bool b, .bool c, .bool d, .bool e]) (w : World) :
    Calls Tryz.prog 112 #[.int .i64 (k : Int)] w fun x w' => x = .returned (.tuple #[formV a b c d e, .bool e]) ∧ Below w.heap.size w w' := by
  have hix := index_form k hk
  rw [h] at hix
  clear h
  have h1 : ((k : Int) < 0) = False := by simp
  have hk2 : (k : Int) ≤ 9 := by omega
  generalize hF : formsA = F at hix
  clear hk
  go_enter Tryz.func112, Tryz.ntmps112
  go_upto_region 4 with ((go_at_call 145; (with_reducible refine (forms_any _).mono ?_); rintro x w2 ⟨rfl, hb2⟩; rw [hF]; have HB := Lib.hid hb2; clear hb2))
  have hne : w2.heap.size ≠ w.heap.size := by have := HB.out.size; simp at this; omega
  have hlt : w.heap.size < w2.heap.size := by have := HB.out.size; simp at this; omega
  have HR := Lib.hid (show (w2.alloc (.cells #[.bool a, .bool b, .bool c, .bool d, .bool e] 149)).heap[w.heap.size]? = some (.cells #[.bool false, .bool false, .bool false, .bool false, .bool false] 149 (0, 0)) from by
    rw [Below.heap_alloc _ _ _ hlt]; exact blkNew HB.out)
  have HN := Lib.hid (heap_alloc_new w2 (.cells #[.bool a, .bool b, .bool c, .bool d, .bool e] 149))
  have HV := Lib.hid (pastAlloc (o := .cells #[.bool a, .bool b, .bool c, .bool d, .bool e] 149) (joinB (allocB _ _) HB.out))
  generalize w2.alloc (.cells #[.bool a, .bool b, .bool c, .bool d, .bool e] 149) = V at HR HN HV ⊢
  have c0 := blkCell HN.out 0
  have c1 := blkCell HN.out 1
  have c2 := blkCell HN.out 2
  have c3 := blkCell HN.out 3
  have c4 := blkCell HN.out 4
  have r0 := blkCell HR.out 0
  have r1 := blkCell HR.out 1
  have r2 := blkCell HR.out 2
  have r3 := blkCell HR.out 3
  have r4 := blkCell HR.out 4
  have z0 := blkFrozen HR.out 0
  have z1 := blkFrozen HR.out 1
  have z2 := blkFrozen HR.out 2
  have z3 := blkFrozen HR.out 3
  have z4 := blkFrozen HR.out 4
  simp at c0 c1 c2 c3 c4 r0 r1 r2 r3 r4
  clear hix hF
  go_region
  all_goals
    go_wp2_with fail
    refine bodyPost_ret (v := .tuple #[formV a b c d e, .bool e]) (by simp [results, Tryz.results112, go_sem, *]) rfl ⟨rfl, (((((HV.out.setCell (Nat.le_refl _) _).setCell (Nat.le_refl _) _).setCell (Nat.le_refl _) _).setCell (Nat.le_refl _) _).setCell (Nat.le_refl _) _).drew⟩
set_option maxRecDepth 100000 in
set_option maxHeartbeats 1000000 in
theorem of_any (k : Int) (w : World) :
    Calls Tryz.prog 112 #[.int .i64 k] w fun x w' => x = .returned (ofV k) ∧ Below w.heap.size w w' := by
  by_cases h : 0 ≤ k ∧ k ≤ 9
  · obtain ⟨n, rfl⟩ := Int.eq_ofNat_of_zero_le h.1
    have hk : n = 0 ∨ n = 1 ∨ n = 2 ∨ n = 3 ∨ n = 4 ∨ n = 5 ∨ n = 6 ∨ n = 7 ∨ n = 8 ∨ n = 9 := by omega
    rcases hk with rfl | rfl | rfl | rfl | rfl | rfl | rfl | rfl | rfl | rfl
    · exact of_in 0 _ _ _ _ _ (by omega) (by kernel_rfl) w
    · exact of_in 1 _ _ _ _ _ (by omega) (by kernel_rfl) w
    · exact of_in 2 _ _ _ _ _ (by omega) (by kernel_rfl) w
    · exact of_in 3 _ _ _ _ _ (by omega) (by kernel_rfl) w
    · exact of_in 4 _ _ _ _ _ (by omega) (by kernel_rfl) w
    · exact of_in 5 _ _ _ _ _ (by omega) (by kernel_rfl) w
    · exact of_in 6 _ _ _ _ _ (by omega) (by kernel_rfl) w
    · exact of_in 7 _ _ _ _ _ (by omega) (by kernel_rfl) w
    · exact of_in 8 _ _ _ _ _ (by omega) (by kernel_rfl) w
    · exact of_in 9 _ _ _ _ _ (by omega) (by kernel_rfl) w
  · rw [ofV_out h]
    by_cases h0 : k < 0
    · clear h
      go_enter Tryz.func112, Tryz.ntmps112
      go_wp2_with fail
      exact bodyPost_ret (v := .tuple #[formV false false false false false, .bool false]) (by simp [results, Tryz.results112, go_sem]) rfl ⟨rfl, allocB _ _⟩
    · have h1 : 0 ≤ k := by omega
      have h2 : 9 < k := by omega
      clear h h0
      go_enter Tryz.func112, Tryz.ntmps112
      go_wp2_with fail
      exact bodyPost_ret (v := .tuple #[formV false false false false false, .bool false]) (by simp [results, Tryz.results112, go_sem]) rfl ⟨rfl, allocB _ _⟩
end Go.Proofs.YthfglhafphfhiaaGreat
/- The walks over package rec: the lists of a checkpoint. -/
namespace Rc
instance : DecidableEq TxnAt := fun a b => by
  obtain ⟨a1, a2, a3, a4⟩ := a
  obtain ⟨b1, b2, b3, b4⟩ := b
  by_cases h : a1 = b1 ∧ a2 = b2 ∧ a3 = b3 ∧ a4 = b4
  · exact .isTrue (by obtain ⟨rfl, rfl, rfl, rfl⟩ := h; rfl)
  · exact .isFalse (fun e => by injection e with e1 e2 e3 e4; exact h ⟨e1, e2, e3, e4⟩)
instance : DecidableEq DirtyAt := fun a b => by
  obtain ⟨a1, a2⟩ := a
  obtain ⟨b1, b2⟩ := b
  by_cases h : a1 = b1 ∧ a2 = b2
  · exact .isTrue (by obtain ⟨rfl, rfl⟩ := h; rfl)
  · exact .isFalse (fun e => by injection e with e1 e2; exact h ⟨e1, e2⟩)
theorem all_no {α : Type} (R : α → Prop) [DecidablePred R] {l : List α} {k : Nat} (hk : k < l.length) (h : ¬ R l[k]) : decide (∀ x ∈ l, R x) = false := decide_eq_false (fun h' => h (h' _ (List.getElem_mem hk)))
theorem all_yes {α : Type} (R : α → Prop) [DecidablePred R] {l : List α} (h : ∀ k (hk : k < l.length), R l[k]) : decide (∀ x ∈ l, R x) = true := decide_eq_true (fun x hx => by
  obtain ⟨k, hk, rfl⟩ := List.getElem_of_mem hx
  exact h k hk)
theorem eq_no {α : Type} [DecidableEq α] {l m : List α} {k : Nat} (hk : k < l.length) (hk' : k < m.length) (h : l[k] ≠ m[k]) : decide (l = m) = false := decide_eq_false (fun e => h (by subst e; rfl))
theorem eq_yes {α : Type} [DecidableEq α] {l m : List α} (hl : l.length = m.length) (h : ∀ k (hk : k < l.length) (hk' : k < m.length), l[k] = m[k]) : decide (l = m) = true := decide_eq_true (List.ext_getElem hl h)
end Rc
namespace Go.Proofs.YthfglhafphfhiaaGreat
open Go.RowKit
def txC (t : Rc.TxnAt) : List Value := [.int .i64 t.txn, .int .i64 t.last, .int .i64 t.next, .bool t.done]
def diC (t : Rc.DirtyAt) : List Value := [.int .i64 t.page, .int .i64 t.from_]
theorem txC_len (t : Rc.TxnAt) : (txC t).length = 4 := rfl
theorem diC_len (t : Rc.DirtyAt) : (diC t).length = 2 := rfl
abbrev txV (t : Rc.TxnAt) : Value := .agg #[.int .i64 t.txn, .int .i64 t.last, .int .i64 t.next, .bool t.done]
abbrev diV (t : Rc.DirtyAt) : Value := .agg #[.int .i64 t.page, .int .i64 t.from_]
abbrev TxR (w : World) (A : Option Addr) (c : Nat) (l : List Rc.TxnAt) : Prop := Reads w A c l.length (l.flatMap txC)
abbrev DiR (w : World) (A : Option Addr) (c : Nat) (l : List Rc.DirtyAt) : Prop := Reads w A c l.length (l.flatMap diC)
def IdxOut (b : Bool) (w : World) (e : Ending) (w' : World) : Prop := ∃ k : Int, e = .returned (.int .i64 k) ∧ (if b then k = -1 else 0 ≤ k) ∧ Below w.heap.size w w'
theorem txn_equal (a b : Rc.TxnAt) (w : World) : (Op.equalIn 10000 45 (txV a) (txV b)).run Tryz.prog w = .ok (decide (a = b)) w := by
  obtain ⟨k1, p1, s1, t1⟩ := a
  obtain ⟨k2, p2, s2, t2⟩ := b
  have hS : Tryz.prog.underlying 45 = some (.struct (Tryz.prog.fieldsOf 45)) := by kernel_rfl
  have hp : Tryz.prog.stoodInHeld 45 = false := by kernel_rfl
  rw [show (10000 : Nat) = 9999 + 1 from rfl, run_equalIn_agg w 9999 45 _ _ hS hp]
  simp only [Program.fieldsOf, Tryz.underlying45]
  go_simp
  by_cases h0 : k1 = k2 <;> by_cases h1 : p1 = p2 <;> by_cases h2 : s1 = s2 <;> cases t1 <;> cases t2 <;> simp [h0, h1, h2]
theorem dirty_equal (a b : Rc.DirtyAt) (w : World) : (Op.equalIn 10000 130 (diV a) (diV b)).run Tryz.prog w = .ok (decide (a = b)) w := by
  obtain ⟨k1, p1⟩ := a
  obtain ⟨k2, p2⟩ := b
  have hS : Tryz.prog.underlying 130 = some (.struct (Tryz.prog.fieldsOf 130)) := by kernel_rfl
  have hp : Tryz.prog.stoodInHeld 130 = false := by kernel_rfl
  rw [show (10000 : Nat) = 9999 + 1 from rfl, run_equalIn_agg w 9999 130 _ _ hS hp]
  simp only [Program.fieldsOf, Tryz.underlying130]
  go_simp
  by_cases h0 : k1 = k2 <;> by_cases h1 : p1 = p2 <;> simp [h0, h1]
theorem txn_bad_any (t : Rc.TxnAt) (w : World) :
    Calls Tryz.prog 118 #[txV t] w fun e w' => e = .returned (.bool (!decide (Rc.txnR t))) ∧ Below w.heap.size w w' := by
  obtain ⟨a, b, c, d⟩ := t
  have HN := Lib.hid (fun W g h => number3 a b c W g h)
  rw [show decide (Rc.txnR ⟨a, b, c, d⟩) = decide (Rc.num a ∧ Rc.num b ∧ Rc.num c) from rfl]
  generalize decide (Rc.num a ∧ Rc.num b ∧ Rc.num c) = q at HN ⊢
  go_enter Tryz.func118, Tryz.ntmps118
  go_wp2_with ((go_at_call 113; (with_reducible refine (HN.out _ _ ?_).mono ?_); (with_reducible exact new2 _ _ _); rintro e w' ⟨rfl, hb⟩))
  go_ret
  exact ⟨rfl, joinB (pastAlloc (allocB _ _)) hb⟩
theorem dirty_bad_any (t : Rc.DirtyAt) (w : World) :
    Calls Tryz.prog 120 #[diV t] w fun e w' => e = .returned (.bool (!decide (Rc.dirtyR t))) ∧ Below w.heap.size w w' := by
  obtain ⟨a, b⟩ := t
  have HP := Lib.hid (fun W g h => paged1 a W g h)
  have HN := Lib.hid (fun W g h => number1 b W g h)
  rw [show decide (Rc.dirtyR ⟨a, b⟩) = (decide (Rc.pg a) && decide (Rc.num b)) from Bool.decide_and _ _]
  generalize decide (Rc.pg a) = p at HP ⊢
  generalize decide (Rc.num b) = q at HN ⊢
  cases p with
  | false =>
    go_enter Tryz.func120, Tryz.ntmps120
    go_wp2_with ((go_at_call 114; (with_reducible refine (HP.out _ _ ?_).mono ?_); (with_reducible exact new2 _ _ _); rintro e w' ⟨rfl, hb⟩))
    go_ret
    exact ⟨rfl, joinB (pastAlloc (allocB _ _)) hb⟩
  | true =>
    go_enter Tryz.func120, Tryz.ntmps120
    go_wp2_with (first
      | (go_at_call 114; (with_reducible refine (HP.out _ _ ?_).mono ?_); (with_reducible exact new2 _ _ _); rintro e w' ⟨rfl, hb⟩; have h11 := blkCell (blkPast (heap_alloc_new w _) hb) 1; simp at h11)
      | (go_at_call 113; (with_reducible refine (HN.out _ _ ?_).mono ?_); (with_reducible exact heap_alloc_new _ _); rintro e w2 ⟨rfl, hb2⟩))
    go_ret
    exact ⟨by simp, joinB (pastAlloc (joinB (pastAlloc (allocB _ _)) hb)) hb2⟩
theorem index_txn (l : List Rc.TxnAt) (hn : l.length ≤ 1048576) (A : Option Addr) (c : Nat) (w : World) (hr : TxR w A c l) :
    Calls Tryz.prog 60 #[.slice A l.length c, .func (.func 118) #[] #[]] w (IdxOut (decide (∀ x ∈ l, Rc.txnR x)) w) := by
  have HR := Lib.hid hr
  have HO := Lib.hid (fun t W => txn_bad_any t W)
  obtain ⟨b, hb⟩ : ∃ b, b = decide (∀ x ∈ l, Rc.txnR x) := ⟨_, rfl⟩
  rw [← hb]
  have HB := Lib.hid hb
  clear hr hb
  go_enter Tryz.func60, Tryz.ntmps60
  go_wp2_with fail
  go_loopw [8] (fun i wr => ∃ k : Nat, k ≤ l.length ∧ i = .int .i64 k ∧ (∀ j (hj : j < l.length), j < k → Rc.txnR l[j]) ∧ Below w.heap.size w wr) (fun i _ => l.length - (intOf i).toNat)
  case atStart => exact ⟨0, Nat.zero_le _, rfl, fun _ _ h => absurd h (by omega), Below.refl _ _⟩
  case round =>
    obtain ⟨k, hk, rfl, hall, hbw⟩ := hrel
    have HA := Lib.hid hall
    clear hall
    by_cases hlt : k < l.length
    · obtain ⟨b', off, rfl, hc, hbl, hcell⟩ := read_at txC_len (HR.out.below hbw) hlt
      have q0 := hcell 0 _ rfl
      have q1 := hcell 1 _ rfl
      have q2 := hcell 2 _ rfl
      have q3 := hcell 3 _ rfl
      clear hcell
      simp only [Nat.add_zero] at q0
      have HN := Lib.hid (show ¬ Rc.txnR l[k] → b = false from fun h => HB.out.trans (Rc.all_no _ hlt h))
      have HY := Lib.hid (show Rc.txnR l[k] → ∀ j (hj : j < l.length), j < k + 1 → Rc.txnR l[j] from fun h j hj hjk => by
        rcases Nat.lt_or_eq_of_le (Nat.le_of_lt_succ hjk) with h1 | h1
        · exact HA.out j hj h1
        · subst h1; exact h)
      have HOk := Lib.hid (fun W => HO.out l[k] W)
      generalize l[k] = x at q0 q1 q2 q3 HN HY HOk
      cases hd : decide (Rc.txnR x) with
      | true =>
        have HY2 := Lib.hid (HY.out (of_decide_eq_true hd))
        rw [hd] at HOk
        clear HN HY hd
        obtain ⟨fa, fb, fc, fd⟩ := x
        go_wp2_with ((go_at_call 118; (with_reducible refine (HOk.out _).mono ?_); rintro e w' ⟨rfl, hb2⟩))
        go_roundw
        case rel => exact ⟨k + 1, by omega, by go_num, HY2.out, joinB hbw hb2⟩
        case measure => simp [intOf]; omega
      | false =>
        have HN2 := Lib.hid (HN.out (of_decide_eq_false hd))
        rw [hd] at HOk
        clear HN HY hd
        obtain ⟨fa, fb, fc, fd⟩ := x
        go_wp2_with ((go_at_call 118; (with_reducible refine (HOk.out _).mono ?_); rintro e w' ⟨rfl, hb2⟩))
        go_ret
        exact ⟨k, rfl, by rw [HN2.out]; simp, joinB hbw hb2⟩
    · obtain rfl : k = l.length := by omega
      have HE := Lib.hid (show b = true from HB.out.trans (Rc.all_yes _ fun j hj => HA.out j hj hj))
      go_wp2_with fail
      go_ret
      exact ⟨-1, rfl, by rw [HE.out]; rfl, hbw⟩
theorem contains_txn (l : List Rc.TxnAt) (hn : l.length ≤ 1048576) (A : Option Addr) (c : Nat) (w : World) (hr : TxR w A c l) :
    Calls Tryz.prog 117 #[.slice A l.length c, .func (.func 118) #[] #[]] w fun e w' => e = .returned (.bool (!decide (∀ x ∈ l, Rc.txnR x))) ∧ Below w.heap.size w w' := by
  have HI := Lib.hid (index_txn l hn A c w hr)
  clear hr
  generalize decide (∀ x ∈ l, Rc.txnR x) = b at HI ⊢
  cases b with
  | true =>
    go_enter Tryz.func117, Tryz.ntmps117
    go_wp2_with ((go_at_call 60; refine (HI.out).mono ?_; rintro e w' ⟨k, rfl, hk, hb⟩; obtain rfl : k = -1 := hk))
    go_ret
    exact ⟨rfl, hb⟩
  | false =>
    go_enter Tryz.func117, Tryz.ntmps117
    go_wp2_with ((go_at_call 60; refine (HI.out).mono ?_; rintro e w' ⟨k, rfl, hk, hb⟩; have hk0 : 0 ≤ k := by simpa using hk))
    go_ret
    exact ⟨by simp [*], hb⟩
set_option maxRecDepth 100000 in
theorem equal_txn (l m : List Rc.TxnAt) (hn : l.length ≤ 140737488355328) (_hm : m.length ≤ 140737488355328) (A A' : Option Addr) (c c' : Nat) (w : World) (hr : TxR w A c l) (hr' : TxR w A' c' m) :
    Calls Tryz.prog 149 #[.slice A l.length c, .slice A' m.length c'] w fun e w' => e = .returned (.bool (decide (l = m))) ∧ Below w.heap.size w w' := by
  have HR := Lib.hid hr
  have HR' := Lib.hid hr'
  obtain ⟨b, hb⟩ : ∃ b, b = decide (l = m) := ⟨_, rfl⟩
  rw [← hb]
  have HB := Lib.hid hb
  clear hr hr' hb
  by_cases hlm : l.length = m.length
  rotate_left
  · have hne : ((l.length : Int) == (m.length : Int)) = false := by simp; omega
    have hne2 : ((l.length : Int) != (m.length : Int)) = true := by simp; omega
    have hne3 : (l.length == m.length) = false := by simpa using hlm
    have hne4 : (l.length != m.length) = true := by simpa using hlm
    have HF := Lib.hid (HB.out.trans (decide_eq_false (fun e => hlm (by rw [e]))))
    go_enter Tryz.func149, Tryz.ntmps149
    go_wp2_with fail
    all_goals
      go_ret
      exact ⟨by rw [HF.out]; rfl, Below.refl _ _⟩
  · have HLM := Lib.hid hlm
    obtain ⟨n, hn'⟩ : ∃ n, n = l.length := ⟨_, rfl⟩
    rw [← hlm, ← hn']
    rw [← hn'] at hn
    have HNL := Lib.hid hn'
    clear hlm hn'
    go_enter Tryz.func149, Tryz.ntmps149
    go_wp2_with fail
    go_loopw [13] (fun i wr => ∃ k : Nat, k ≤ n ∧ i = .int .i64 k ∧ (∀ j (hj : j < l.length) (hj' : j < m.length), j < k → l[j] = m[j]) ∧ Below w.heap.size w wr) (fun i _ => n - (intOf i).toNat)
    case atStart => exact ⟨0, Nat.zero_le _, rfl, fun _ _ _ h => absurd h (by omega), Below.refl _ _⟩
    case round =>
      obtain ⟨k, hk, rfl, hall, hbw⟩ := hrel
      have HA := Lib.hid hall
      clear hall
      by_cases hlt : k < n
      · have hl1 : k < l.length := by rw [← HNL.out]; exact hlt
        have hl2 : k < m.length := by rw [← HLM.out]; exact hl1
        obtain ⟨b1, off, rfl, hc, hbl, hcell⟩ := read_at txC_len (HR.out.below hbw) hl1
        obtain ⟨b2, off2, rfl, hc2, hbl2, hcell2⟩ := read_at txC_len (HR'.out.below hbw) hl2
        have q0 := hcell 0 _ rfl
        have r0 := hcell2 0 _ rfl
        have q1 := hcell 1 _ rfl
        have r1 := hcell2 1 _ rfl
        have q2 := hcell 2 _ rfl
        have r2 := hcell2 2 _ rfl
        have q3 := hcell 3 _ rfl
        have r3 := hcell2 3 _ rfl
        clear hcell hcell2
        simp only [Nat.add_zero] at q0 r0
        have HN := Lib.hid (show l[k] ≠ m[k] → b = false from fun h => HB.out.trans (Rc.eq_no hl1 hl2 h))
        have HY := Lib.hid (show l[k] = m[k] → ∀ j (hj : j < l.length) (hj' : j < m.length), j < k + 1 → l[j] = m[j] from fun h j hj hj' hjk => by
          rcases Nat.lt_or_eq_of_le (Nat.le_of_lt_succ hjk) with h1 | h1
          · exact HA.out j hj hj' h1
          · subst h1; exact h)
        have HE := Lib.hid (fun W => txn_equal l[k] m[k] W)
        clear hc hc2 HA
        generalize l[k] = x at q0 q1 q2 q3 HN HY HE
        generalize m[k] = y at r0 r1 r2 r3 HN HY HE
        have hi1 : (0 : Int) ≤ (k : Int) := by omega
        have hi2 : (k : Int) < (n : Int) := by omega
        have hi3 : decide (k < n) = true := decide_eq_true hlt
        cases hd : decide (x = y) with
        | true =>
          have HY2 := Lib.hid (HY.out (of_decide_eq_true hd))
          have heq := HE.out
          rw [hd] at heq
          clear HN HY hd HE
          obtain ⟨xfa, xfb, xfc, xfd⟩ := x
          obtain ⟨yfa, yfb, yfc, yfd⟩ := y
          go_upto_region 6 with (fail)
          go_quiet (fail)
          go_wp2_with fail
          go_roundw
          case rel => exact ⟨k + 1, by omega, by go_num, HY2.out, joinB hbw (drewB _ _)⟩
          case measure => simp [intOf]; omega
        | false =>
          have HN2 := Lib.hid (HN.out (of_decide_eq_false hd))
          have heq := HE.out
          rw [hd] at heq
          clear HN HY hd HE
          obtain ⟨xfa, xfb, xfc, xfd⟩ := x
          obtain ⟨yfa, yfb, yfc, yfd⟩ := y
          go_upto_region 6 with (fail)
          go_quiet (fail)
          go_wp2_with fail
          go_ret
          exact ⟨by rw [HN2.out]; rfl, joinB hbw (drewB _ _)⟩
      · obtain rfl : k = n := by omega
        have HE := Lib.hid (show b = true from HB.out.trans (Rc.eq_yes HLM.out fun j hj hj' => HA.out j hj hj' (by rw [HNL.out]; exact hj)))
        have hi3 : decide (k < k) = false := decide_eq_false (by omega)
        go_wp2_with fail
        go_ret
        exact ⟨by rw [HE.out]; rfl, hbw⟩
theorem index_dirty (l : List Rc.DirtyAt) (hn : l.length ≤ 1048576) (A : Option Addr) (c : Nat) (w : World) (hr : DiR w A c l) :
    Calls Tryz.prog 148 #[.slice A l.length c, .func (.func 120) #[] #[]] w (IdxOut (decide (∀ x ∈ l, Rc.dirtyR x)) w) := by
  have HR := Lib.hid hr
  have HO := Lib.hid (fun t W => dirty_bad_any t W)
  obtain ⟨b, hb⟩ : ∃ b, b = decide (∀ x ∈ l, Rc.dirtyR x) := ⟨_, rfl⟩
  rw [← hb]
  have HB := Lib.hid hb
  clear hr hb
  go_enter Tryz.func148, Tryz.ntmps148
  go_wp2_with fail
  go_loopw [8] (fun i wr => ∃ k : Nat, k ≤ l.length ∧ i = .int .i64 k ∧ (∀ j (hj : j < l.length), j < k → Rc.dirtyR l[j]) ∧ Below w.heap.size w wr) (fun i _ => l.length - (intOf i).toNat)
  case atStart => exact ⟨0, Nat.zero_le _, rfl, fun _ _ h => absurd h (by omega), Below.refl _ _⟩
  case round =>
    obtain ⟨k, hk, rfl, hall, hbw⟩ := hrel
    have HA := Lib.hid hall
    clear hall
    by_cases hlt : k < l.length
    · obtain ⟨b', off, rfl, hc, hbl, hcell⟩ := read_at diC_len (HR.out.below hbw) hlt
      have q0 := hcell 0 _ rfl
      have q1 := hcell 1 _ rfl
      clear hcell
      simp only [Nat.add_zero] at q0
      have HN := Lib.hid (show ¬ Rc.dirtyR l[k] → b = false from fun h => HB.out.trans (Rc.all_no _ hlt h))
      have HY := Lib.hid (show Rc.dirtyR l[k] → ∀ j (hj : j < l.length), j < k + 1 → Rc.dirtyR l[j] from fun h j hj hjk => by
        rcases Nat.lt_or_eq_of_le (Nat.le_of_lt_succ hjk) with h1 | h1
        · exact HA.out j hj h1
        · subst h1; exact h)
      have HOk := Lib.hid (fun W => HO.out l[k] W)
      generalize l[k] = x at q0 q1 HN HY HOk
      cases hd : decide (Rc.dirtyR x) with
      | true =>
        have HY2 := Lib.hid (HY.out (of_decide_eq_true hd))
        rw [hd] at HOk
        clear HN HY hd
        obtain ⟨fa, fb⟩ := x
        go_wp2_with ((go_at_call 120; (with_reducible refine (HOk.out _).mono ?_); rintro e w' ⟨rfl, hb2⟩))
        go_roundw
        case rel => exact ⟨k + 1, by omega, by go_num, HY2.out, joinB hbw hb2⟩
        case measure => simp [intOf]; omega
      | false =>
        have HN2 := Lib.hid (HN.out (of_decide_eq_false hd))
        rw [hd] at HOk
        clear HN HY hd
        obtain ⟨fa, fb⟩ := x
        go_wp2_with ((go_at_call 120; (with_reducible refine (HOk.out _).mono ?_); rintro e w' ⟨rfl, hb2⟩))
        go_ret
        exact ⟨k, rfl, by rw [HN2.out]; simp, joinB hbw hb2⟩
    · obtain rfl : k = l.length := by omega
      have HE := Lib.hid (show b = true from HB.out.trans (Rc.all_yes _ fun j hj => HA.out j hj hj))
      go_wp2_with fail
      go_ret
      exact ⟨-1, rfl, by rw [HE.out]; rfl, hbw⟩
theorem contains_dirty (l : List Rc.DirtyAt) (hn : l.length ≤ 1048576) (A : Option Addr) (c : Nat) (w : World) (hr : DiR w A c l) :
    Calls Tryz.prog 119 #[.slice A l.length c, .func (.func 120) #[] #[]] w fun e w' => e = .returned (.bool (!decide (∀ x ∈ l, Rc.dirtyR x))) ∧ Below w.heap.size w w' := by
  have HI := Lib.hid (index_dirty l hn A c w hr)
  clear hr
  generalize decide (∀ x ∈ l, Rc.dirtyR x) = b at HI ⊢
  cases b with
  | true =>
    go_enter Tryz.func119, Tryz.ntmps119
    go_wp2_with ((go_at_call 148; refine (HI.out).mono ?_; rintro e w' ⟨k, rfl, hk, hb⟩; obtain rfl : k = -1 := hk))
    go_ret
    exact ⟨rfl, hb⟩
  | false =>
    go_enter Tryz.func119, Tryz.ntmps119
    go_wp2_with ((go_at_call 148; refine (HI.out).mono ?_; rintro e w' ⟨k, rfl, hk, hb⟩; have hk0 : 0 ≤ k := by simpa using hk))
    go_ret
    exact ⟨by simp [*], hb⟩
set_option maxRecDepth 100000 in
theorem equal_dirty (l m : List Rc.DirtyAt) (hn : l.length ≤ 140737488355328) (_hm : m.length ≤ 140737488355328) (A A' : Option Addr) (c c' : Nat) (w : World) (hr : DiR w A c l) (hr' : DiR w A' c' m) :
    Calls Tryz.prog 150 #[.slice A l.length c, .slice A' m.length c'] w fun e w' => e = .returned (.bool (decide (l = m))) ∧ Below w.heap.size w w' := by
  have HR := Lib.hid hr
  have HR' := Lib.hid hr'
  obtain ⟨b, hb⟩ : ∃ b, b = decide (l = m) := ⟨_, rfl⟩
  rw [← hb]
  have HB := Lib.hid hb
  clear hr hr' hb
  by_cases hlm : l.length = m.length
  rotate_left
  · have hne : ((l.length : Int) == (m.length : Int)) = false := by simp; omega
    have hne2 : ((l.length : Int) != (m.length : Int)) = true := by simp; omega
    have hne3 : (l.length == m.length) = false := by simpa using hlm
    have hne4 : (l.length != m.length) = true := by simpa using hlm
    have HF := Lib.hid (HB.out.trans (decide_eq_false (fun e => hlm (by rw [e]))))
    go_enter Tryz.func150, Tryz.ntmps150
    go_wp2_with fail
    all_goals
      go_ret
      exact ⟨by rw [HF.out]; rfl, Below.refl _ _⟩
  · have HLM := Lib.hid hlm
    obtain ⟨n, hn'⟩ : ∃ n, n = l.length := ⟨_, rfl⟩
    rw [← hlm, ← hn']
    rw [← hn'] at hn
    have HNL := Lib.hid hn'
    clear hlm hn'
    go_enter Tryz.func150, Tryz.ntmps150
    go_wp2_with fail
    go_loopw [13] (fun i wr => ∃ k : Nat, k ≤ n ∧ i = .int .i64 k ∧ (∀ j (hj : j < l.length) (hj' : j < m.length), j < k → l[j] = m[j]) ∧ Below w.heap.size w wr) (fun i _ => n - (intOf i).toNat)
    case atStart => exact ⟨0, Nat.zero_le _, rfl, fun _ _ _ h => absurd h (by omega), Below.refl _ _⟩
    case round =>
      obtain ⟨k, hk, rfl, hall, hbw⟩ := hrel
      have HA := Lib.hid hall
      clear hall
      by_cases hlt : k < n
      · have hl1 : k < l.length := by rw [← HNL.out]; exact hlt
        have hl2 : k < m.length := by rw [← HLM.out]; exact hl1
        obtain ⟨b1, off, rfl, hc, hbl, hcell⟩ := read_at diC_len (HR.out.below hbw) hl1
        obtain ⟨b2, off2, rfl, hc2, hbl2, hcell2⟩ := read_at diC_len (HR'.out.below hbw) hl2
        have q0 := hcell 0 _ rfl
        have r0 := hcell2 0 _ rfl
        have q1 := hcell 1 _ rfl
        have r1 := hcell2 1 _ rfl
        clear hcell hcell2
        simp only [Nat.add_zero] at q0 r0
        have HN := Lib.hid (show l[k] ≠ m[k] → b = false from fun h => HB.out.trans (Rc.eq_no hl1 hl2 h))
        have HY := Lib.hid (show l[k] = m[k] → ∀ j (hj : j < l.length) (hj' : j < m.length), j < k + 1 → l[j] = m[j] from fun h j hj hj' hjk => by
          rcases Nat.lt_or_eq_of_le (Nat.le_of_lt_succ hjk) with h1 | h1
          · exact HA.out j hj hj' h1
          · subst h1; exact h)
        have HE := Lib.hid (fun W => dirty_equal l[k] m[k] W)
        clear hc hc2 HA
        generalize l[k] = x at q0 q1 HN HY HE
        generalize m[k] = y at r0 r1 HN HY HE
        have hi1 : (0 : Int) ≤ (k : Int) := by omega
        have hi2 : (k : Int) < (n : Int) := by omega
        have hi3 : decide (k < n) = true := decide_eq_true hlt
        cases hd : decide (x = y) with
        | true =>
          have HY2 := Lib.hid (HY.out (of_decide_eq_true hd))
          have heq := HE.out
          rw [hd] at heq
          clear HN HY hd HE
          obtain ⟨xfa, xfb⟩ := x
          obtain ⟨yfa, yfb⟩ := y
          go_upto_region 6 with (fail)
          go_quiet (fail)
          go_wp2_with fail
          go_roundw
          case rel => exact ⟨k + 1, by omega, by go_num, HY2.out, joinB hbw (drewB _ _)⟩
          case measure => simp [intOf]; omega
        | false =>
          have HN2 := Lib.hid (HN.out (of_decide_eq_false hd))
          have heq := HE.out
          rw [hd] at heq
          clear HN HY hd HE
          obtain ⟨xfa, xfb⟩ := x
          obtain ⟨yfa, yfb⟩ := y
          go_upto_region 6 with (fail)
          go_quiet (fail)
          go_wp2_with fail
          go_ret
          exact ⟨by rw [HN2.out]; rfl, joinB hbw (drewB _ _)⟩
      · obtain rfl : k = n := by omega
        have HE := Lib.hid (show b = true from HB.out.trans (Rc.eq_yes HLM.out fun j hj hj' => HA.out j hj hj' (by rw [HNL.out]; exact hj)))
        have hi3 : decide (k < k) = false := decide_eq_false (by omega)
        go_wp2_with fail
        go_ret
        exact ⟨by rw [HE.out]; rfl, hbw⟩
end Go.Proofs.YthfglhafphfhiaaGreat
/- The walks over the reference of records: lists alike. -/
namespace Go.Proofs.YthfglhafphfhiaaGreat
open Go.RowKit
set_option maxRecDepth 100000 in
theorem rsame_txn (l m : List Rc.TxnAt) (hn : l.length ≤ 140737488355328) (_hm : m.length ≤ 140737488355328) (A A' : Option Addr) (c c' : Nat) (w : World) (hr : TxR w A c l) (hr' : TxR w A' c' m) :
    Calls Tryz.prog 37 #[.slice A l.length c, .slice A' m.length c'] w fun e w' => e = .returned (.bool (decide (l = m))) ∧ Below w.heap.size w w' := by
  have HR := Lib.hid hr
  have HR' := Lib.hid hr'
  obtain ⟨b, hb⟩ : ∃ b, b = decide (l = m) := ⟨_, rfl⟩
  rw [← hb]
  have HB := Lib.hid hb
  clear hr hr' hb
  go_enter Tryz.func37, Tryz.ntmps37
  go_wp2_with fail
  go_loopw [5] (fun i wr => ∃ k : Nat, k ≤ l.length ∧ k ≤ m.length ∧ i = .int .i64 k ∧ (∀ j (hj : j < l.length) (hj' : j < m.length), j < k → l[j] = m[j]) ∧ Below w.heap.size w wr) (fun i _ => l.length - (intOf i).toNat)
  case atStart => exact ⟨0, Nat.zero_le _, Nat.zero_le _, rfl, fun _ _ _ h => absurd h (by omega), Below.refl _ _⟩
  case round =>
    obtain ⟨k, hk, hkm, rfl, hall, hbw⟩ := hrel
    have HA := Lib.hid hall
    clear hall
    by_cases hl1 : k < l.length
    · have hi3 : decide (k < l.length) = true := decide_eq_true hl1
      by_cases hl2 : k < m.length
      · have hi4 : decide (k < m.length) = true := decide_eq_true hl2
        obtain ⟨b1, off, rfl, hc, hbl, hcell⟩ := read_at txC_len (HR.out.below hbw) hl1
        obtain ⟨b2, off2, rfl, hc2, hbl2, hcell2⟩ := read_at txC_len (HR'.out.below hbw) hl2
        have q0 := hcell 0 _ rfl
        have r0 := hcell2 0 _ rfl
        have q1 := hcell 1 _ rfl
        have r1 := hcell2 1 _ rfl
        have q2 := hcell 2 _ rfl
        have r2 := hcell2 2 _ rfl
        have q3 := hcell 3 _ rfl
        have r3 := hcell2 3 _ rfl
        clear hcell hcell2
        simp only [Nat.add_zero] at q0 r0
        have HN := Lib.hid (show l[k] ≠ m[k] → b = false from fun h => HB.out.trans (Rc.eq_no hl1 hl2 h))
        have HY := Lib.hid (show l[k] = m[k] → ∀ j (hj : j < l.length) (hj' : j < m.length), j < k + 1 → l[j] = m[j] from fun h j hj hj' hjk => by
          rcases Nat.lt_or_eq_of_le (Nat.le_of_lt_succ hjk) with h1 | h1
          · exact HA.out j hj hj' h1
          · subst h1; exact h)
        have HE := Lib.hid (fun W => txn_equal l[k] m[k] W)
        clear hc hc2 HA
        generalize l[k] = x at q0 q1 q2 q3 HN HY HE
        generalize m[k] = y at r0 r1 r2 r3 HN HY HE
        have hj1 : (0 : Int) ≤ (k : Int) := by omega
        have hj2 : (k : Int) < (l.length : Int) := by omega
        have hj3 : (k : Int) < (m.length : Int) := by omega
        cases hd : decide (x = y) with
        | true =>
          have HY2 := Lib.hid (HY.out (of_decide_eq_true hd))
          have heq := HE.out
          rw [hd] at heq
          clear HN HY hd HE
          obtain ⟨xfa, xfb, xfc, xfd⟩ := x
          obtain ⟨yfa, yfb, yfc, yfd⟩ := y
          go_upto_region 4 with (fail)
          go_quiet (fail)
          go_wp2_with fail
          go_roundw
          case rel => exact ⟨k + 1, by omega, by omega, by go_num, HY2.out, joinB hbw (drewB _ _)⟩
          case measure => simp [intOf]; omega
        | false =>
          have HN2 := Lib.hid (HN.out (of_decide_eq_false hd))
          have heq := HE.out
          rw [hd] at heq
          clear HN HY hd HE
          obtain ⟨xfa, xfb, xfc, xfd⟩ := x
          obtain ⟨yfa, yfb, yfc, yfd⟩ := y
          go_upto_region 4 with (fail)
          go_quiet (fail)
          go_wp2_with fail
          go_ret
          exact ⟨by rw [HN2.out]; rfl, joinB hbw (drewB _ _)⟩
      · have hi4 : decide (k < m.length) = false := decide_eq_false hl2
        have hne3 : (l.length == m.length) = false := by simp; omega
        have hne4 : ((l.length : Int) == (m.length : Int)) = false := by simp; omega
        have HN2 := Lib.hid (HB.out.trans (decide_eq_false (fun e => by rw [e] at hl1; exact hl2 hl1)))
        go_wp2_with fail
        go_ret
        exact ⟨by rw [HN2.out]; simp; try omega, hbw⟩
    · have hi3 : decide (k < l.length) = false := decide_eq_false hl1
      obtain rfl : k = l.length := by omega
      by_cases hlm : l.length = m.length
      · have HE := Lib.hid (show b = true from HB.out.trans (Rc.eq_yes hlm fun j hj hj' => HA.out j hj hj' hj))
        have hne3 : (l.length == m.length) = true := by simp [hlm]
        have hne4 : ((l.length : Int) == (m.length : Int)) = true := by simp [hlm]
        have HLM := Lib.hid hlm
        clear hlm
        go_wp2_with fail
        go_ret
        exact ⟨by rw [HE.out]; have hlm := HLM.out; simp [hlm], hbw⟩
      · have hne3 : (l.length == m.length) = false := by simp; omega
        have hne4 : ((l.length : Int) == (m.length : Int)) = false := by simp; omega
        have HN2 := Lib.hid (HB.out.trans (decide_eq_false (fun e => hlm (by rw [e]))))
        go_wp2_with fail
        go_ret
        exact ⟨by rw [HN2.out]; simp; try omega, hbw⟩
end Go.Proofs.YthfglhafphfhiaaGreat
namespace Rc
instance : DecidableEq Rec := fun a b =>
  if h : a.lsn = b.lsn ∧ a.prev = b.prev ∧ a.txn = b.txn ∧ a.kind = b.kind ∧ a.page = b.page ∧ a.next = b.next ∧ a.num = b.num ∧ a.op = b.op ∧ a.how = b.how ∧ a.root = b.root ∧ a.e = b.e ∧ a.txns = b.txns ∧ a.dirty = b.dirty then
    .isTrue (by
      obtain ⟨a1, a2, a3, a4, a5, a6, a7, a8, a9, a10, a11, a12, a13⟩ := a
      obtain ⟨b1, b2, b3, b4, b5, b6, b7, b8, b9, b10, b11, b12, b13⟩ := b
      simp only at h
      obtain ⟨rfl, rfl, rfl, rfl, rfl, rfl, rfl, rfl, rfl, rfl, rfl, rfl, rfl⟩ := h
      rfl)
  else .isFalse (fun e => h (by subst e; exact ⟨rfl, rfl, rfl, rfl, rfl, rfl, rfl, rfl, rfl, rfl, rfl, rfl, rfl⟩))
end Rc
namespace Go.Proofs.YthfglhafphfhiaaGreat
open Go.RowKit
theorem new21 (w : World) (o1 o2 : Obj) : ((w.alloc o1).alloc o2).heap[w.heap.size]? = some o1 := by
  rw [Below.heap_alloc _ _ _ (by simp)]; exact heap_alloc_new w o1
/-- A record with its lists, in memory. -/
structure RecR (w : World) (r : Rc.Rec) (A : Option Addr) (c : Nat) (B : Option Addr) (d : Nat) : Prop where
  txns : TxR w A c r.txns
  dirty : DiR w B d r.dirty
  small : r.txns.length ≤ 140737488355328 ∧ r.dirty.length ≤ 140737488355328
theorem RecR.below {w w' : World} {r : Rc.Rec} {A : Option Addr} {c : Nat} {B : Option Addr} {d : Nat} (h : RecR w r A c B d) (hb : Below w.heap.size w w') : RecR w' r A c B d := ⟨h.txns.below hb, h.dirty.below hb, h.small⟩
end Go.Proofs.YthfglhafphfhiaaGreat
/- The walk over package rec: a reader's record: its boxes, and what each num and text does to them. -/
namespace Rc
end Rc
namespace Go.Proofs.YthfglhafphfhiaaGreat
open Go.RowKit
/-- A record whose lists, if there are any, lie in memory from block n on. -/
structure RecN (n : Nat) (w : World) (r : Rc.Rec) (A : Option Addr) (c : Nat) (B : Option Addr) (d : Nat) : Prop where
  rr : RecR w r A c B d
  ta : NewT n w 45 A
  tb : NewT n w 130 B
theorem RecN.mono {n m : Nat} {w : World} {r : Rc.Rec} {A B : Option Addr} {c d : Nat} (h : RecN n w r A c B d) (hm : m ≤ n) : RecN m w r A c B d := ⟨h.rr, h.ta.mono hm, h.tb.mono hm⟩
theorem RecN.below {n : Nat} {w w' : World} {r : Rc.Rec} {A B : Option Addr} {c d : Nat} (h : RecN n w r A c B d) (hb : Below w.heap.size w w') : RecN n w' r A c B d := ⟨h.rr.below hb, h.ta.below hb, h.tb.below hb⟩
/-- Some blocks turn, none of which the record has. -/
theorem RecN.turn {n : Nat} {w v : World} {r : Rc.Rec} {A B : Option Addr} {c d : Nat} (h : RecN n w r A c B d) (hs : w.heap.size ≤ v.heap.size) (hk : ∀ k cs T fr, n ≤ k → w.heap[k]? = some (.cells cs T fr) → T = 45 ∨ T = 130 → v.heap[k]? = w.heap[k]?) : RecN n v r A c B d := by
  refine ⟨⟨fun h0 => ?_, fun h0 => ?_, h.rr.small⟩, fun ad e => ?_, fun ad e => ?_⟩
  · obtain ⟨g, off, e1, e2, e3, e4⟩ := h.rr.txns h0
    obtain ⟨h1, cs, fr, h2⟩ := h.ta _ e1
    refine ⟨g, off, e1, e2, Nat.lt_of_lt_of_le e3 hs, fun j u hj => ?_⟩
    have := e4 j u hj
    unfold World.cell? at this ⊢
    rw [hk _ _ _ _ h1 h2 (.inl rfl)]
    exact this
  · obtain ⟨g, off, e1, e2, e3, e4⟩ := h.rr.dirty h0
    obtain ⟨h1, cs, fr, h2⟩ := h.tb _ e1
    refine ⟨g, off, e1, e2, Nat.lt_of_lt_of_le e3 hs, fun j u hj => ?_⟩
    have := e4 j u hj
    unfold World.cell? at this ⊢
    rw [hk _ _ _ _ h1 h2 (.inr rfl)]
    exact this
  · obtain ⟨h1, cs, fr, h2⟩ := h.ta ad e
    exact ⟨h1, cs, fr, (hk _ _ _ _ h1 h2 (.inl rfl)).trans h2⟩
  · obtain ⟨h1, cs, fr, h2⟩ := h.tb ad e
    exact ⟨h1, cs, fr, (hk _ _ _ _ h1 h2 (.inr rfl)).trans h2⟩
/-- A store into a block of another kind, or into an older one. -/
theorem RecN.row {n : Nat} {w : World} {r : Rc.Rec} {A B : Option Addr} {c d : Nat} (h : RecN n w r A c B d) (b : Nat) (cs : Array Value) (hb : b < n) : RecN n (w.setRow b cs) r A c B d :=
  h.turn (by show _ ≤ (w.heap.modify _ _).size; simp) (fun k _ _ _ hk _ _ => heap_setRow_other _ _ _ _ (by omega))
theorem RecN.set {n : Nat} {w : World} {r : Rc.Rec} {A B : Option Addr} {c d : Nat} (h : RecN n w r A c B d) (b j : Nat) (v : Value) (hb : b < n) : RecN n (w.setCell ⟨b, j, none⟩ v) r A c B d :=
  h.turn (by simp [World.setCell]) (fun k _ _ _ hk _ _ => Below.heap_setCell _ _ _ _ (by show k ≠ b; omega))
theorem RecN.other {n : Nat} {w : World} {r : Rc.Rec} {A B : Option Addr} {c d : Nat} (h : RecN n w r A c B d) {b : Nat} {cur : Array Value} {T : TypeId} {fr : Nat × Nat} (hb : w.heap[b]? = some (.cells cur T fr)) (h1 : T ≠ 45) (h2 : T ≠ 130) (cs : Array Value) : RecN n (w.setRow b cs) r A c B d :=
  h.turn (by show _ ≤ (w.heap.modify _ _).size; simp) (fun k cs' T' fr' _ hk hT => heap_setRow_other _ _ _ _ (fun e => by
    subst e
    rw [hb] at hk
    injection hk with hk
    injection hk with _ hk
    rcases hT with h3 | h3
    · exact h1 (hk.trans h3)
    · exact h2 (hk.trans h3)))
/-- A row of another kind grows. -/
theorem RecN.grown {n m size B0 : Nat} {w w' : World} {r : Rc.Rec} {A B : Option Addr} {c d : Nat} {e : TypeId} {v : Value} {xs : List Value} (h : RecN n w r A c B d) (ho : w.ownsRow B0 e size v m xs) (h1 : e ≠ 45) (h2 : e ≠ 130) (hg : w.grownBy w' v.ownBlock) : RecN n w' r A c B d :=
  h.turn hg.size (fun k cs' T' fr' _ hk hT => hg.block k (heapLt hk) (fun e1 => ownApart ho hk (fun e2 => by
    rcases hT with h3 | h3
    · exact h1 (e2.trans h3)
    · exact h2 (e2.trans h3)) e1.symm))
end Go.Proofs.YthfglhafphfhiaaGreat
/- The walk over package rec: a reader's record, of kinds without more. -/
namespace Go.Proofs.YthfglhafphfhiaaGreat
open Go.RowKit
end Go.Proofs.YthfglhafphfhiaaGreat
/- The walk over package rec: a reader's record, of kind 4. -/
namespace Go.Proofs.YthfglhafphfhiaaGreat
open Go.RowKit
end Go.Proofs.YthfglhafphfhiaaGreat
/- The walk over package rec: a reader's record, of kind 8. -/
namespace Go.Proofs.YthfglhafphfhiaaGreat
open Go.RowKit
end Go.Proofs.YthfglhafphfhiaaGreat
/- The walk over package rec: a reader's record, of kind 3. -/
namespace Go.Proofs.YthfglhafphfhiaaGreat
open Go.RowKit
end Go.Proofs.YthfglhafphfhiaaGreat
/- The walk over package rec: a reader's record, of kind 2. -/
namespace Go.Proofs.YthfglhafphfhiaaGreat
open Go.RowKit
end Go.Proofs.YthfglhafphfhiaaGreat
/- The walk over package rec: a reader's record, of a checkpoint: words. -/
namespace Rc
/-- What is still to come of a list that is read. -/
structure Rest {α : Type} (one : St → α × St) (len : Nat) (TS : List α) (sT : St) (ts : List α) (m : Nat) (st : St) : Prop where
  list : ts ++ (manyM one m st).1 = TS
  state : (manyM one m st).2 = sT
  inn : st.bad = false → st.at_ ≤ len
  lim : st.at_ ≤ len + 500
theorem many_bad {α : Type} {one : St → α × St} {m : Nat} {st : St} (hb : st.bad = true) : manyM one m st = ([], st) := by
  cases m with
  | zero => rfl
  | succ m => unfold manyM; rw [if_pos hb]
theorem Rest.bad {α : Type} {one : St → α × St} {len m : Nat} {TS ts : List α} {sT st : St} (h : Rest one len TS sT ts m st) (hb : st.bad = true) : ts = TS ∧ st = sT := by
  have h1 := h.list
  have h2 := h.state
  rw [many_bad hb] at h1 h2
  exact ⟨by simpa using h1, h2⟩
theorem Rest.next {α : Type} {one : St → α × St} {len m : Nat} {TS ts : List α} {sT st st' : St} {x : α} (h : Rest one len TS sT ts m st) (h0 : 0 < m) (hb : st.bad = false) (hx : one st = (x, st')) (h1 : st'.bad = false → st'.at_ ≤ len) (h2 : st'.at_ ≤ len + 100) :
    Rest one len TS sT (ts ++ [x]) (m - 1) st' := by
  obtain ⟨m, rfl⟩ : ∃ k, m = k + 1 := ⟨m - 1, by omega⟩
  have e : manyM one (m + 1) st = (x :: (manyM one m st').1, (manyM one m st').2) := by
    conv => lhs; unfold manyM
    rw [if_neg (by rw [hb]; simp), hx]
  have h3 := h.list
  have h4 := h.state
  rw [e] at h3 h4
  exact ⟨by rw [Nat.add_sub_cancel, List.append_assoc]; exact h3, h4, h1, by omega⟩
end Rc
namespace Go.Proofs.YthfglhafphfhiaaGreat
open Go.RowKit
end Go.Proofs.YthfglhafphfhiaaGreat
/- The walk over package rec: a reader's record, of a checkpoint. -/
namespace Go.Proofs.YthfglhafphfhiaaGreat
open Go.RowKit
end Go.Proofs.YthfglhafphfhiaaGreat
/- The walk over package rec: a reader's record, of any bytes. -/
namespace Go.Proofs.YthfglhafphfhiaaGreat
open Go.RowKit
end Go.Proofs.YthfglhafphfhiaaGreat
/- The walks over package rec: a change. -/
namespace Go.Proofs.YthfglhafphfhiaaGreat
open Go.RowKit
set_option maxRecDepth 100000 in
set_option maxHeartbeats 400000 in
theorem op_any (o : Rc.Op) (w : World) :
    Calls Tryz.prog 115 #[opV o] w fun e w' => e = .returned (.bool (decide (Rc.opR o))) ∧ Below w.heap.size w w' := by
  obtain ⟨k, s, o, n⟩ := o
  by_cases h0 : 1 ≤ k
  rotate_left
  · have g0 : k < 1 := by omega
    clear h0
    rw [show decide (Rc.opR ⟨k, s, o, n⟩) = false from decide_eq_false (fun h => by obtain ⟨h1, h2, h3, h4, h5⟩ := h; simp only at h1 h2 h3 h4 h5; omega)]
    go_enter Tryz.func115, Tryz.ntmps115
    go_wp2_with fail
    go_ret
    exact ⟨by simp [*], allocB _ _⟩
  by_cases h1 : k ≤ 7
  rotate_left
  · have g1 : 7 < k := by omega
    clear h1
    rw [show decide (Rc.opR ⟨k, s, o, n⟩) = false from decide_eq_false (fun h => by obtain ⟨h1, h2, h3, h4, h5⟩ := h; simp only at h1 h2 h3 h4 h5; omega)]
    go_enter Tryz.func115, Tryz.ntmps115
    go_wp2_with fail
    go_ret
    exact ⟨by simp [*], allocB _ _⟩
  cases hs : decide (Rc.sl s) with
  | false =>
    rw [show decide (Rc.opR ⟨k, s, o, n⟩) = false from decide_eq_false (fun h => by obtain ⟨h1, h2, h3, h4, h5⟩ := h; simp only at h1 h2 h3 h4 h5; exact of_decide_eq_false hs h3)]
    have hS := Lib.hid hs
    clear hs
    go_enter Tryz.func115, Tryz.ntmps115
    go_wp2_with (first | (go_at_call 147; (with_reducible refine (slot1 s _ _ ?_).mono ?_); (first | with_reducible exact heap_alloc_new _ _ | with_reducible exact new2 _ _ _); rintro e w2 ⟨rfl, hb2⟩; rw [hS.out]; have hx := blkPast (heap_alloc_new w _) hb2; have h22 := blkCell hx 2; have h33 := blkCell hx 3; clear hx; simp at h22 h33))
    go_ret
    exact ⟨by simp [*], joinB (pastAlloc (allocB _ _)) hb2⟩
  | true =>
  have hS := Lib.hid hs
  have hS2 := Lib.hid (of_decide_eq_true hs)
  clear hs
  by_cases h3 : (o.size : Int) ≤ 512
  rotate_left
  · have g3 : 512 < (o.size : Int) := by omega
    clear h3
    rw [show decide (Rc.opR ⟨k, s, o, n⟩) = false from decide_eq_false (fun h => by obtain ⟨h1, h2, h3, h4, h5⟩ := h; simp only at h1 h2 h3 h4 h5; omega)]
    go_enter Tryz.func115, Tryz.ntmps115
    go_wp2_with (first | (go_at_call 147; (with_reducible refine (slot1 s _ _ ?_).mono ?_); (first | with_reducible exact heap_alloc_new _ _ | with_reducible exact new2 _ _ _); rintro e w2 ⟨rfl, hb2⟩; rw [hS.out]; have hx := blkPast (heap_alloc_new w _) hb2; have h22 := blkCell hx 2; have h33 := blkCell hx 3; clear hx; simp at h22 h33))
    go_ret
    exact ⟨by simp [*], joinB (pastAlloc (allocB _ _)) hb2⟩
  by_cases h4 : (n.size : Int) ≤ 512
  rotate_left
  · have g4 : 512 < (n.size : Int) := by omega
    clear h4
    rw [show decide (Rc.opR ⟨k, s, o, n⟩) = false from decide_eq_false (fun h => by obtain ⟨h1, h2, h3, h4, h5⟩ := h; simp only at h1 h2 h3 h4 h5; omega)]
    go_enter Tryz.func115, Tryz.ntmps115
    go_wp2_with (first | (go_at_call 147; (with_reducible refine (slot1 s _ _ ?_).mono ?_); (first | with_reducible exact heap_alloc_new _ _ | with_reducible exact new2 _ _ _); rintro e w2 ⟨rfl, hb2⟩; rw [hS.out]; have hx := blkPast (heap_alloc_new w _) hb2; have h22 := blkCell hx 2; have h33 := blkCell hx 3; clear hx; simp at h22 h33))
    go_ret
    exact ⟨by simp [*], joinB (pastAlloc (allocB _ _)) hb2⟩
  rw [show decide (Rc.opR ⟨k, s, o, n⟩) = true from decide_eq_true ⟨by assumption, by assumption, hS2.out, by show o.size ≤ 512; omega, by show n.size ≤ 512; omega⟩]
  go_enter Tryz.func115, Tryz.ntmps115
  go_wp2_with (first | (go_at_call 147; (with_reducible refine (slot1 s _ _ ?_).mono ?_); (first | with_reducible exact heap_alloc_new _ _ | with_reducible exact new2 _ _ _); rintro e w2 ⟨rfl, hb2⟩; rw [hS.out]; have hx := blkPast (heap_alloc_new w _) hb2; have h22 := blkCell hx 2; have h33 := blkCell hx 3; clear hx; simp at h22 h33))
  go_ret
  exact ⟨by simp [*], joinB (pastAlloc (allocB _ _)) hb2⟩
end Go.Proofs.YthfglhafphfhiaaGreat
