/- The walks over package log: sectors. -/
import Derived.Test.YthfglhafphfhiaaHt03
import Derived.Test.YthfglhafphfhiaaHt08
import Derived.Test.YthfglhafphfhiaaHt07
import Derived.Test.YthfglhafphfhiaaHt01
import Derived.Deep.RegionWith
namespace Lg
/-- What has been read of some sectors. -/
structure Acc (d : Dk) (f : Int) (N k : Nat) (l : List UInt8) : Prop where
  le : k ≤ N
  eq : secsD d f N = match secsD d (f + (k : Int)) (N - k) with
    | .ok r => .ok (l ++ r)
    | .error e => .error e
theorem Acc.zero (d : Dk) (f : Int) (N : Nat) : Acc d f N 0 [] := ⟨Nat.zero_le _, by
  simp only [Nat.sub_zero, List.nil_append]
  rw [show f + ((0 : Nat) : Int) = f by omega]
  cases secsD d f N <;> rfl⟩
theorem Acc.next {d : Dk} {f : Int} {N k : Nat} {l : List UInt8} (h : Acc d f N k l) (hk : k < N) (h0 : (readD d (f + (k : Int))).2 = 0) : Acc d f N (k + 1) (l ++ (readD d (f + (k : Int))).1.data.toList) := by
  refine ⟨hk, ?_⟩
  rw [h.eq, show N - k = (N - (k + 1)) + 1 by omega]
  rw [show f + ((k + 1 : Nat) : Int) = f + (k : Int) + 1 by omega]
  conv => lhs; unfold secsD
  rw [if_pos h0]
  cases secsD d (f + (k : Int) + 1) (N - (k + 1)) with
  | ok r => simp only [List.append_assoc]
  | error e => rfl
theorem Acc.fault {d : Dk} {f : Int} {N k : Nat} {l : List UInt8} (h : Acc d f N k l) (hk : k < N) (h0 : (readD d (f + (k : Int))).2 ≠ 0) : secsD d f N = .error (readD d (f + (k : Int))).2 := by
  rw [h.eq, show N - k = (N - (k + 1)) + 1 by omega]
  conv => lhs; unfold secsD
  rw [if_neg h0]
theorem Acc.done {d : Dk} {f : Int} {N : Nat} {l : List UInt8} (h : Acc d f N N l) : secsD d f N = .ok l := by
  rw [h.eq, Nat.sub_self]
  unfold secsD
  simp
theorem readD_in {d : Dk} {a : Int} (h : (readD d a).2 = 0) : hasD d a ∧ (readD d a).1 = secAt d a := by
  unfold readD at h ⊢
  split at h
  · cases h
  · split at h
    · rename_i h1 h2
      rw [if_neg h1, if_pos h2]
      exact ⟨h2, rfl⟩
    · cases h
theorem secAt_size {d : Dk} {a : Int} (hw : ∀ b ∈ d.sectors, b.size ≤ 1000) : (secAt d a).size ≤ 1000 := by
  unfold secAt
  cases h : d.sectors[a.toNat]? with
  | none => show (0 : Nat) ≤ 1000; omega
  | some b => exact hw b (List.mem_of_getElem? h)
theorem secs_fault {d : Dk} : ∀ (n : Nat) {f k : Int}, secsD d f n = .error k → k ≠ 0 := by
  intro n
  induction n with
  | zero => intro f k h; cases h
  | succ n ih =>
    intro f k h
    unfold secsD at h
    split at h
    · cases h2 : secsD d (f + 1) n with
      | ok l => rw [h2] at h; cases h
      | error e => rw [h2] at h; injection h with h; subst h; exact ih h2
    · rename_i h1; injection h with h; rw [← h]; exact h1
end Lg
namespace Go.Proofs.Ythfglhafphfhiaa
open Go.RowKit
def secV : Except Int (List UInt8) → Value
  | .ok l => .tuple #[.string ⟨l.toArray⟩, .int .i64 0]
  | .error k => .tuple #[.string ⟨#[]⟩, .int .i64 k]
/-- What sectors answers. -/
def SecOut (r : Except Int (List UInt8)) (w : World) (e : Ending) (w' : World) : Prop := Below w.heap.size w w' ∧ e = .returned (secV r)
set_option maxRecDepth 100000 in
set_option maxHeartbeats 4000000 in
theorem sectors_any (d : Lg.Dk) (hw : ∀ b ∈ d.sectors, b.size ≤ 1000) (A : Option Addr) (c : Nat) (f n : Int) (hf1 : -9223372036854775808 ≤ f) (hf2 : f ≤ 9223372036854775807) (hn : n ≤ 100000) (w : World) (h : DiskR w d A c) :
    Calls Try.prog 35 #[diskV d A c, .int .i64 f, .int .i64 n] w (SecOut (Lg.secsD d f n.toNat) w) := by
  have HR := Lib.hid (fun a W (hb : Below w.heap.size w W) => dread_any d A c a W (h.below hb))
  have hsm := h.small
  obtain ⟨N, hN⟩ : ∃ N, N = n.toNat := ⟨_, rfl⟩
  rw [← hN]
  have hmax : max n 0 = (N : Int) := by omega
  have hN2 : N ≤ 100000 := by omega
  have HF := Lib.hid (fun r (hr : Lg.secsD d f N = r) w' (hb : Below w.heap.size w w') => show SecOut (Lg.secsD d f N) w (.returned (secV r)) w' from ⟨hb, by rw [hr]⟩)
  have HA := Lib.hid (Lg.Acc.zero d f N)
  have HW := Lib.hid hw
  generalize SecOut (Lg.secsD d f N) w = Q at HF ⊢
  have HS := Lib.hid (show (d.sectors.length : Int) ≤ 1000000 by omega)
  clear h hN hw hsm
  go_enter Try.func35, Try.ntmps35
  go_upto_region 2 with fail
  have hd0 := new21 w (.cells #[.slice A d.sectors.length c, .int .i64 d.left, .bool d.down] 42) (.cells #[.pointer none, .slice none 0 0] 101)
  have hb0 := new2 w (.cells #[.slice A d.sectors.length c, .int .i64 d.left, .bool d.down] 42) (.cells #[.pointer none, .slice none 0 0] 101)
  have hw0 : Below w.heap.size w ((w.alloc (.cells #[.slice A d.sectors.length c, .int .i64 d.left, .bool d.down] 42)).alloc (.cells #[.pointer none, .slice none 0 0] 101)) := pastAlloc (allocB _ _)
  obtain ⟨W0, hW0⟩ : ∃ W, W = ((w.alloc (.cells #[.slice A d.sectors.length c, .int .i64 d.left, .bool d.down] 42)).alloc (.cells #[.pointer none, .slice none 0 0] 101)) := ⟨_, rfl⟩
  rw [← hW0] at hd0 hb0 hw0 ⊢
  have HD0 := Lib.hid hd0
  have HB0 := Lib.hid hb0
  have HW0 := Lib.hid hw0
  clear hd0 hb0 hw0 hW0
  go_wp2_with fail
  go_loopw [14] (fun i wr => ∃ (k : Nat) (l : List UInt8), i = .int .i64 (k : Int) ∧ Lg.Acc d f N k l ∧ l.length ≤ k * 1000 ∧ (0 < k → 0 ≤ f ∧ f + (k : Int) ≤ 1000000) ∧ Bld (w.heap.size + 2) wr.heap.size (w.heap.size + 1) l wr ∧ KeptB (w.heap.size + 2) (w.heap.size + 1) W0 wr) (fun i _ => N - (intOf i).toNat)
  case atStart => exact ⟨0, [], rfl, HA.out, Nat.le_refl _, fun h => absurd h (by omega), Bld.fresh _ _ _ _ (by omega) HB0.out, KeptB.refl _ _ _⟩
  case round =>
    obtain ⟨k, l, rfl, hacc, hll, hfk, hbld, hkept⟩ := hrel
    have HAC := Lib.hid hacc
    have HBL := Lib.hid hbld
    have HK := Lib.hid hkept
    have HFK := Lib.hid hfk
    have hsz0 := heapLt HB0.out
    have hws : W0.heap.size ≤ wr.heap.size := hkept.size
    have hkN := hacc.le
    have hbw : Below w.heap.size w wr := HW0.out.trans (HK.out.below (by omega) (by omega))
    have HBW := Lib.hid hbw
    clear hacc hbld hkept hbw hfk
    by_cases hlt : k < N
    · have hwr : IntKind.i64.wrap (f + (k : Int)) = f + (k : Int) := by
        refine IntWalk.i64_in _ ?_
        rcases Nat.eq_zero_or_pos k with h0 | h0
        · subst h0; simp; omega
        · have := HFK.out h0; omega
      have HDB := Lib.hid (show wr.heap[w.heap.size]? = some (.cells #[.slice A d.sectors.length c, .int .i64 d.left, .bool d.down] 42 (0, 0)) from (HK.out.block _ (by omega) (by omega)).trans HD0.out)
      have hRD := HR.out (f + (k : Int)) wr HBW.out
      have HACE := Lib.hid (fun h => HAC.out.fault hlt h)
      have HACN := Lib.hid (fun h => HAC.out.next hlt h)
      have HINK := Lib.hid (@Lg.readD_in d (f + (k : Int)))
      have HSZ := Lib.hid (@Lg.secAt_size d (f + (k : Int)) HW.out)
      generalize Lg.readD d (f + (k : Int)) = rd at hRD HACE HACN HINK
      obtain ⟨x, e⟩ := rd
      simp only at hRD HACE HACN HINK
      have HRD := Lib.hid hRD
      clear hRD HAC
      by_cases he : e = 0
      · subst he
        have HACN2 := Lib.hid (HACN.out rfl)
        have hin := HINK.out rfl
        have hxs : x.size ≤ 1000 := by rw [hin.2]; exact HSZ.out
        have hfk2 : 0 ≤ f ∧ f + ((k + 1 : Nat) : Int) ≤ 1000000 := by
          have h1 := hin.1.1
          have h2 := hin.1.2
          have h3 := HS.out
          refine ⟨?_, by omega⟩
          rcases Nat.eq_zero_or_pos k with h0 | h0
          · subst h0; simpa using h1
          · exact (HFK.out h0).1
        have HFK2 := Lib.hid hfk2
        have hlx : l.length + x.size ≤ 140737488355328 := by omega
        have hl2 : (l ++ x.data.toList).length ≤ (k + 1) * 1000 := by rw [List.length_append]; simp; omega
        have HL2 := Lib.hid hl2
        clear hin hfk2 hl2 HACN HACE HINK HSZ HFK
        dsimp only [diskV] at HRD
        go_wp2_with (first
          | (with_reducible refine listLoad (by kernel_rfl) 42 (.tmp 3) rfl w.heap.size rfl #[.slice A d.sectors.length c, .int .i64 d.left, .bool d.down] _ HDB.out _ Try.underlying42 (by kernel_rfl) (by kernel_rfl) ?_)
          | (go_at_call 50; (with_reducible refine HRD.out.mono ?_); rintro e w1 ⟨rfl, hb1⟩; have HB1 := Lib.hid (HBL.out.below hb1); have HK1 := Lib.hid (HK.out.trans (KeptB.of_below (by omega) hb1)); have hs1 := hb1.size; clear hb1)
          | (go_at_call 45; (with_reducible refine (write_any _ _ _ _ _ _ HB1.out hlx (by omega)).mono ?_); rintro e w2 ⟨rfl, hbld2, hk2⟩; have HB2 := Lib.hid hbld2; have HK2 := Lib.hid (HK1.out.trans hk2); clear hbld2 hk2))
        go_roundw
        case rel => exact ⟨k + 1, l ++ x.data.toList, by go_num, HACN2.out, HL2.out, fun _ => HFK2.out, HB2.out, HK2.out⟩
        case measure => simp [intOf]; omega
      · have HACE2 := Lib.hid (HACE.out he)
        have he1 : (e == 0) = false := by simpa using he
        have he2 : (e != 0) = true := by simpa using he
        clear he HACN HACE HINK HSZ HFK
        dsimp only [diskV] at HRD
        go_wp2_with (first
          | (with_reducible refine listLoad (by kernel_rfl) 42 (.tmp 3) rfl w.heap.size rfl #[.slice A d.sectors.length c, .int .i64 d.left, .bool d.down] _ HDB.out _ Try.underlying42 (by kernel_rfl) (by kernel_rfl) ?_)
          | (go_at_call 50; (with_reducible refine HRD.out.mono ?_); rintro e w1 ⟨rfl, hb1⟩))
        exact HF.out _ HACE2.out _ (joinB HBW.out hb1)
    · obtain rfl : k = N := by omega
      have HDN := Lib.hid HAC.out.done
      go_wp2_with ((go_at_call 47; (with_reducible refine (string_any _ _ _ _ _ HBL.out).mono ?_); rintro e w2 ⟨rfl, hk2⟩))
      exact HF.out _ HDN.out _ (HBW.out.trans (hk2.below (by omega) HBW.out.size))
end Go.Proofs.Ythfglhafphfhiaa
/- The walk over package rec: Put. -/
namespace Go.Proofs.Ythfglhafphfhiaa
open Go.RowKit
theorem putW (n : Nat) (h : n < 18446744073709551616) (size : Nat) (h8 : size ≤ 8) : (Oct.putB (n : Int) size).data.toList = Oct.putL n size := by
  rw [Oct.putB_list _ _ h8]
  congr 1
  unfold Oct.word
  omega
set_option maxRecDepth 100000 in
theorem seal_any (s : ByteArray) (hs : s.size ≤ 1000000) (w : World) :
    Calls Try.prog 90 #[.string s] w fun e w' => ∃ x : ByteArray, e = .returned (.string x) ∧ x.data.toList = Oct.putL (Oct.sumN s.data.toList) 4 ++ s.data.toList ∧ Below w.heap.size w w' := by
  have HS := Lib.hid (fun W => sum_any s (by omega) W)
  have hlt : Oct.sumN s.data.toList < 18446744073709551616 := by have := Oct.sumN_lt s.data.toList; omega
  have hfin0 : (Oct.putB ((Oct.sumN s.data.toList : Nat) : Int) 4).data.toList = Oct.putL (Oct.sumN s.data.toList) 4 := putW _ hlt 4 (by omega)
  generalize Oct.sumN s.data.toList = n at HS hfin0 ⊢
  have HP := Lib.hid (fun W => put_any (n : Int) 4 (by omega) (by omega) W)
  have hsz : (Oct.putB (n : Int) 4).size = 4 := Oct.putB_size _ 4 (by omega)
  have hsum : (Oct.putB (n : Int) 4).size + s.size ≤ 281474976710656 := by omega
  have hfin : (Oct.putB (n : Int) 4 ++ s).data.toList = Oct.putL n 4 ++ s.data.toList := by
    rw [ByteArray.data_append, Array.toList_append, hfin0]
  clear hlt hfin0
  generalize Oct.putB (n : Int) 4 = x at HP hsz hsum hfin
  go_enter Try.func90, Try.ntmps90
  go_wp2_with (first | (go_at_call 62; refine (HS.out _).mono ?_; rintro e w1 ⟨rfl, rfl⟩) | (go_at_call 88; refine (HP.out _).mono ?_; rintro e w2 ⟨rfl, hb2⟩))
  go_ret
  exact ⟨_, rfl, hfin, hb2⟩
/-- What Put answers. -/
def PutOut (r : Rc.Rec) (w : World) (e : Ending) (w' : World) : Prop :=
  (∃ x : ByteArray, Rc.Right r ∧ e = .returned (.tuple #[.string x, .int .i64 0]) ∧ x.data.toList = Lg.putR r ∨ ¬ Rc.Right r ∧ e = .returned (.tuple #[.string ⟨#[]⟩, .int .i64 1])) ∧ Below w.heap.size w w'
set_option maxRecDepth 100000 in
set_option maxHeartbeats 2000000 in
theorem recput_any (r : Rc.Rec) (A D : Option Addr) (c d : Nat) (w : World) (hr : RecR w r A c D d) :
    Calls Try.prog 78 #[recV r (.slice A r.txns.length c) (.slice D r.dirty.length d)] w (PutOut r w) := by
  have HR := Lib.hid (fun W (h : Below w.heap.size w W) => cright_rec r A D c d W (hr.below h))
  have HA := Lib.hid (heap_alloc_new w (.cells (recA r (.slice A r.txns.length c) (.slice D r.dirty.length d)) 31))
  cases hb : Rc.rightB r with
  | false =>
    rw [hb] at HR
    have hno : ¬ Rc.Right r := fun h => by rw [Rc.rightB_yes h] at hb; cases hb
    have HO := Lib.hid (fun w' (h : Below w.heap.size w w') => show PutOut r w (.returned (.tuple #[.string ⟨#[]⟩, .int .i64 1])) w' from ⟨⟨⟨#[]⟩, .inr ⟨hno, rfl⟩⟩, h⟩)
    clear hno hb hr
    generalize PutOut r w = Q at HO ⊢
    obtain ⟨lsn, prev, txn, kind, page, next, nu, ⟨ok, os, oo, on⟩, how, root, ⟨ek, ep, es⟩, ts, ds⟩ := r
    dsimp only [recV, recA] at HR HA ⊢
    go_enter Try.func78, Try.ntmps78
    go_wp2_with (first
      | (with_reducible refine listLoad (by kernel_rfl) 31 (.tmp 1) rfl w.heap.size rfl #[.int .i64 lsn, .int .i64 prev, .int .i64 txn, .int .i64 kind, .int .i64 page, .int .i64 next, .int .i64 nu, .int .i64 ok, .int .i64 os, .string oo, .string on, .int .i64 how, .int .i64 root, .string ek, .int .i64 ep, .int .i64 es, .slice A ts.length c, .slice D ds.length d] _ HA.out _ Try.underlying31 (by kernel_rfl) (by kernel_rfl) ?_)
      | (go_at_call 54; (with_reducible refine (HR.out _ (allocB _ _)).mono ?_); rintro e w1 ⟨rfl, hb1⟩))
    exact HO.out _ (joinB (allocB _ _) hb1)
  | true =>
    rw [hb] at HR
    have hx : Rc.Right r := Rc.rightB_iff.1 hb
    have HB := Lib.hid (fun W (h : Below w.heap.size w W) => body_any r hx A D c d W (hr.below h))
    obtain ⟨y, hy⟩ : ∃ y : ByteArray, y = ⟨(Rc.bodyB r).toArray⟩ := ⟨_, rfl⟩
    rw [← hy] at HB
    have hyl : y.data.toList = Rc.bodyB r := by rw [hy]
    have hlen := Rc.bodyB_len hx
    have hys : y.size = (Rc.bodyB r).length := by rw [← hyl]; simp
    have hsz : y.size ≤ 1000000 := by omega
    have HS := Lib.hid (fun W => seal_any y hsz W)
    have HP := Lib.hid (fun W => put_any (y.size : Int) 4 (by omega) (by omega) W)
    have hpl : (Oct.putB (y.size : Int) 4).data.toList = Oct.putL y.size 4 := putW _ (by omega) 4 (by omega)
    have hpz : (Oct.putB (y.size : Int) 4).size = 4 := Oct.putB_size _ 4 (by omega)
    generalize Oct.putB (y.size : Int) 4 = z at HP hpl hpz
    have HO := Lib.hid (fun w' (x : ByteArray) (hxx : x.data.toList = Oct.putL (Oct.sumN y.data.toList) 4 ++ y.data.toList) (h : Below w.heap.size w w') => show PutOut r w (.returned (.tuple #[.string (z ++ x), .int .i64 0])) w' from ⟨⟨z ++ x, .inl ⟨hx, rfl, by rw [ByteArray.data_append, Array.toList_append, hpl, hxx, hyl, hys]; rfl⟩⟩, h⟩)
    have HX := Lib.hid (fun (x : ByteArray) (hxx : x.data.toList = Oct.putL (Oct.sumN y.data.toList) 4 ++ y.data.toList) => show x.size ≤ 1000004 from by
      have e : x.size = x.data.toList.length := by simp
      rw [e, hxx, List.length_append, Oct.putL_length]
      have e2 : y.data.toList.length = y.size := by simp
      omega)
    clear hx hb hr hy hyl hlen hys hpl
    generalize PutOut r w = Q at HO ⊢
    obtain ⟨lsn, prev, txn, kind, page, next, nu, ⟨ok, os, oo, on⟩, how, root, ⟨ek, ep, es⟩, ts, ds⟩ := r
    dsimp only [recV, recA] at HR HA HB ⊢
    go_enter Try.func78, Try.ntmps78
    go_upto_region 3 with (first
      | (with_reducible refine listLoad (by kernel_rfl) 31 (.tmp 1) rfl w.heap.size rfl #[.int .i64 lsn, .int .i64 prev, .int .i64 txn, .int .i64 kind, .int .i64 page, .int .i64 next, .int .i64 nu, .int .i64 ok, .int .i64 os, .string oo, .string on, .int .i64 how, .int .i64 root, .string ek, .int .i64 ep, .int .i64 es, .slice A ts.length c, .slice D ds.length d] _ HA.out _ Try.underlying31 (by kernel_rfl) (by kernel_rfl) ?_)
      | (go_at_call 54; (with_reducible refine (HR.out _ (allocB _ _)).mono ?_); rintro e w1 ⟨rfl, hb1⟩))
    have HA1 := Lib.hid (blkOld HA.out hb1)
    have HB1 := Lib.hid (joinB (allocB w _) hb1)
    clear hb1 HA HR
    go_upto_region 4 with (first
      | (with_reducible refine listLoad (by kernel_rfl) 31 (.tmp 1) rfl w.heap.size rfl #[.int .i64 lsn, .int .i64 prev, .int .i64 txn, .int .i64 kind, .int .i64 page, .int .i64 next, .int .i64 nu, .int .i64 ok, .int .i64 os, .string oo, .string on, .int .i64 how, .int .i64 root, .string ek, .int .i64 ep, .int .i64 es, .slice A ts.length c, .slice D ds.length d] _ HA1.out _ Try.underlying31 (by kernel_rfl) (by kernel_rfl) ?_)
      | (go_at_call 55; (with_reducible refine (HB.out _ HB1.out).mono ?_); rintro e w2 ⟨rfl, hb2⟩))
    have HB2 := Lib.hid (joinB HB1.out hb2)
    clear hb2 HB1 HA1 HB
    go_wp2_with (first | (go_at_call 88; refine (HP.out _).mono ?_; rintro e w3 ⟨rfl, hb3⟩) | (go_at_call 90; refine (HS.out _).mono ?_; rintro e w4 ⟨x, rfl, hxx, hb4⟩; have hxs := HX.out x hxx; have hsum : z.size + x.size ≤ 281474976710656 := (by omega)))
    exact HO.out _ x hxx (joinB (joinB HB2.out hb3) hb4)
end Go.Proofs.Ythfglhafphfhiaa
/- The walk over package log: Append. -/
namespace Lg
theorem append_wrong {l : Lo} {r : Rc.Rec} (h : ¬ Rc.Right { r with lsn := l.end_ + 1 }) : appendD l r = (l, 0, 1) := by
  unfold appendD
  simp only
  rw [if_pos h]
theorem append_full {l : Lo} {r : Rc.Rec} (h : Rc.Right { r with lsn := l.end_ + 1 }) (h2 : l.n * 128 - ((putR { r with lsn := l.end_ + 1 }).length : Int) < l.end_) : appendD l r = (l, 0, 18) := by
  unfold appendD
  simp only
  rw [if_neg (fun hn => hn h), if_pos h2]
theorem append_ok {l : Lo} {r : Rc.Rec} (h : Rc.Right { r with lsn := l.end_ + 1 }) (h2 : ¬ l.n * 128 - ((putR { r with lsn := l.end_ + 1 }).length : Int) < l.end_) : appendD l r = ({ l with end_ := l.end_ + ((putR { r with lsn := l.end_ + 1 }).length : Int), tail := l.tail ++ ⟨(putR { r with lsn := l.end_ + 1 }).toArray⟩ }, l.end_ + 1, 0) := by
  unfold appendD
  simp only
  rw [if_neg (fun hn => hn h), if_neg h2]
end Lg
namespace Go.Proofs.Ythfglhafphfhiaa
open Go.RowKit
theorem recput_yes (r : Rc.Rec) (hR : Rc.Right r) (A D : Option Addr) (c d : Nat) (w : World) (hr : RecR w r A c D d) :
    Calls Try.prog 78 #[recV r (.slice A r.txns.length c) (.slice D r.dirty.length d)] w fun e w' => e = .returned (.tuple #[.string ⟨(Lg.putR r).toArray⟩, .int .i64 0]) ∧ Below w.heap.size w w' := by
  refine (recput_any r A D c d w hr).mono ?_
  rintro e w' ⟨⟨x, h⟩, hb⟩
  rcases h with ⟨_, rfl, hx⟩ | ⟨h, _⟩
  · exact ⟨by rw [← hx], hb⟩
  · exact absurd hR h
theorem recput_no (r : Rc.Rec) (hR : ¬ Rc.Right r) (A D : Option Addr) (c d : Nat) (w : World) (hr : RecR w r A c D d) :
    Calls Try.prog 78 #[recV r (.slice A r.txns.length c) (.slice D r.dirty.length d)] w fun e w' => e = .returned (.tuple #[.string ⟨#[]⟩, .int .i64 1]) ∧ Below w.heap.size w w' := by
  refine (recput_any r A D c d w hr).mono ?_
  rintro e w' ⟨⟨x, h⟩, hb⟩
  rcases h with ⟨h, _⟩ | ⟨_, rfl⟩
  · exact absurd h hR
  · exact ⟨rfl, hb⟩
/-- What Append answers. -/
def AppOut (x : Lg.Lo × Int × Int) (w : World) (e : Ending) (w' : World) : Prop := e = .returned (.tuple #[logV x.1, .int .i64 x.2.1, .int .i64 x.2.2]) ∧ Below w.heap.size w w'
set_option maxRecDepth 100000 in
set_option maxHeartbeats 4000000 in
theorem append_any (l : Lg.Lo) (he0 : 0 ≤ l.end_) (he1 : l.end_ ≤ 1000000000) (hn0 : -1000000000 ≤ l.n) (hn1 : l.n ≤ 1000000000) (ht : l.tail.size ≤ 1000000000) (r : Rc.Rec) (A D : Option Addr) (c d : Nat) (w : World) (hr : RecR w r A c D d) :
    Calls Try.prog 56 #[logV l, recV r (.slice A r.txns.length c) (.slice D r.dirty.length d)] w (AppOut (Lg.appendD l r) w) := by
  have HPY := Lib.hid (fun hR W (hb : Below w.heap.size w W) => recput_yes { r with lsn := l.end_ + 1 } hR A D c d W ⟨hr.txns.below hb, hr.dirty.below hb, hr.small⟩)
  have HPN := Lib.hid (fun hR W (hb : Below w.heap.size w W) => recput_no { r with lsn := l.end_ + 1 } hR A D c d W ⟨hr.txns.below hb, hr.dirty.below hb, hr.small⟩)
  have HN := Lib.hid (@Lg.append_wrong l r)
  have HFU := Lib.hid (@Lg.append_full l r)
  have HOK := Lib.hid (@Lg.append_ok l r)
  generalize Lg.appendD l r = o at HN HFU HOK ⊢
  clear hr
  obtain ⟨fr, n, en, sf, tl⟩ := l
  obtain ⟨lsn, prev, txn, kind, page, next, nu, ⟨ok, os, oo, on⟩, how, root, ⟨ek, ep, es⟩, ts, ds⟩ := r
  dsimp only [recV, recA, logV] at HPY HPN HN HFU HOK he0 he1 hn0 hn1 ht ⊢
  have hw1 : IntKind.i64.wrap (en + 1) = en + 1 := IntWalk.i64_in _ (by omega)
  by_cases hR : Rc.Right ⟨en + 1, prev, txn, kind, page, next, nu, ⟨ok, os, oo, on⟩, how, root, ⟨ek, ep, es⟩, ts, ds⟩
  · have HP := Lib.hid (HPY.out hR)
    have HFU2 := Lib.hid (HFU.out hR)
    have HOK2 := Lib.hid (HOK.out hR)
    have hpl0 : (Lg.putR ⟨en + 1, prev, txn, kind, page, next, nu, ⟨ok, os, oo, on⟩, how, root, ⟨ek, ep, es⟩, ts, ds⟩).length ≤ 40008 := by rw [Lg.putR_len]; have := (Rc.bodyB_len hR).2; omega
    obtain ⟨x, hx⟩ : ∃ x : ByteArray, x = ⟨(Lg.putR ⟨en + 1, prev, txn, kind, page, next, nu, ⟨ok, os, oo, on⟩, how, root, ⟨ek, ep, es⟩, ts, ds⟩).toArray⟩ := ⟨_, rfl⟩
    have hxs : (Lg.putR ⟨en + 1, prev, txn, kind, page, next, nu, ⟨ok, os, oo, on⟩, how, root, ⟨ek, ep, es⟩, ts, ds⟩).length = x.size := by rw [hx]; show _ = ((Lg.putR ⟨en + 1, prev, txn, kind, page, next, nu, ⟨ok, os, oo, on⟩, how, root, ⟨ek, ep, es⟩, ts, ds⟩).toArray).size; simp
    rw [hxs] at HFU2 HOK2 hpl0
    rw [← hx] at HP HOK2
    have hpl := hpl0
    clear HPY HPN HN HFU HOK hR hx hxs hpl0
    go_enter Try.func56, Try.ntmps56
    go_upto_region 1 with fail
    have H0 := Lib.hid (show BxL w.heap.size w [(#[.int .i64 fr, .int .i64 n, .int .i64 en, .int .i64 sf, .string tl], 44), (#[.int .i64 lsn, .int .i64 prev, .int .i64 txn, .int .i64 kind, .int .i64 page, .int .i64 next, .int .i64 nu, .int .i64 ok, .int .i64 os, .string oo, .string on, .int .i64 how, .int .i64 root, .string ek, .int .i64 ep, .int .i64 es, .slice A ts.length c, .slice D ds.length d], 31), (#[.int .i64 0, .int .i64 0, .int .i64 0, .int .i64 0, .string ⟨#[]⟩], 44)] (((w.alloc (.cells #[.int .i64 fr, .int .i64 n, .int .i64 en, .int .i64 sf, .string tl] 44)).alloc (.cells #[.int .i64 lsn, .int .i64 prev, .int .i64 txn, .int .i64 kind, .int .i64 page, .int .i64 next, .int .i64 nu, .int .i64 ok, .int .i64 os, .string oo, .string on, .int .i64 how, .int .i64 root, .string ek, .int .i64 ep, .int .i64 es, .slice A ts.length c, .slice D ds.length d] 31)).alloc (.cells #[.int .i64 0, .int .i64 0, .int .i64 0, .int .i64 0, .string ⟨#[]⟩] 44)) from (((BxL.nil (Below.refl w.heap.size w)).new (by simp) #[.int .i64 fr, .int .i64 n, .int .i64 en, .int .i64 sf, .string tl] 44).new (by simp) #[.int .i64 lsn, .int .i64 prev, .int .i64 txn, .int .i64 kind, .int .i64 page, .int .i64 next, .int .i64 nu, .int .i64 ok, .int .i64 os, .string oo, .string on, .int .i64 how, .int .i64 root, .string ek, .int .i64 ep, .int .i64 es, .slice A ts.length c, .slice D ds.length d] 31).new (by simp) #[.int .i64 0, .int .i64 0, .int .i64 0, .int .i64 0, .string ⟨#[]⟩] 44)
    obtain ⟨W0, hW0⟩ : ∃ W, W = (((w.alloc (.cells #[.int .i64 fr, .int .i64 n, .int .i64 en, .int .i64 sf, .string tl] 44)).alloc (.cells #[.int .i64 lsn, .int .i64 prev, .int .i64 txn, .int .i64 kind, .int .i64 page, .int .i64 next, .int .i64 nu, .int .i64 ok, .int .i64 os, .string oo, .string on, .int .i64 how, .int .i64 root, .string ek, .int .i64 ep, .int .i64 es, .slice A ts.length c, .slice D ds.length d] 31)).alloc (.cells #[.int .i64 0, .int .i64 0, .int .i64 0, .int .i64 0, .string ⟨#[]⟩] 44)) := ⟨_, rfl⟩
    have hs0 : W0.heap.size = w.heap.size + 3 := by rw [hW0]; simp
    rw [← hW0] at H0 ⊢
    have hc0 := blkCell (H0.out.get 0 _ rfl)
    have hc1 := blkCell (H0.out.get 1 _ rfl)
    have hz1 := blkFrozen (H0.out.get 1 _ rfl)
    simp only [Nat.add_zero] at hc0
    clear hW0
    go_upto_region 2 with fail
    have H1 := Lib.hid (show BxL w.heap.size w [(#[.int .i64 fr, .int .i64 n, .int .i64 en, .int .i64 sf, .string tl], 44), (#[.int .i64 (en + 1), .int .i64 prev, .int .i64 txn, .int .i64 kind, .int .i64 page, .int .i64 next, .int .i64 nu, .int .i64 ok, .int .i64 os, .string oo, .string on, .int .i64 how, .int .i64 root, .string ek, .int .i64 ep, .int .i64 es, .slice A ts.length c, .slice D ds.length d], 31), (#[.int .i64 0, .int .i64 0, .int .i64 0, .int .i64 0, .string ⟨#[]⟩], 44)] (W0.setCell ⟨w.heap.size + 1, 0, none⟩ (.int .i64 (en + 1))) from by have h := H0.out.set 1 0 (.int .i64 (en + 1)) _ rfl; simpa using h)
    obtain ⟨W1, hW1⟩ : ∃ W, W = W0.setCell ⟨w.heap.size + 1, 0, none⟩ (.int .i64 (en + 1)) := ⟨_, rfl⟩
    rw [← hW1] at H1 ⊢
    clear hW1 hc0 hc1 hz1 H0 hs0
    have HX1 := Lib.hid (H1.out.get 1 _ rfl)
    go_upto_region 3 with (first
      | (with_reducible refine listLoad (by kernel_rfl) 31 (.tmp 3) rfl (w.heap.size + 1) rfl #[.int .i64 (en + 1), .int .i64 prev, .int .i64 txn, .int .i64 kind, .int .i64 page, .int .i64 next, .int .i64 nu, .int .i64 ok, .int .i64 os, .string oo, .string on, .int .i64 how, .int .i64 root, .string ek, .int .i64 ep, .int .i64 es, .slice A ts.length c, .slice D ds.length d] _ HX1.out _ Try.underlying31 (by kernel_rfl) (by kernel_rfl) ?_)
      | (go_at_call 78; (with_reducible refine (HP.out _ H1.out.below).mono ?_); rintro e w2 ⟨rfl, hb2⟩))
    have H2 := Lib.hid (H1.out.step hb2)
    clear hb2 H1 HX1 HP
    have hm : IntKind.i64.wrap (n * 128) = n * 128 := IntWalk.i64_in _ (by omega)
    have hm2 : IntKind.i64.wrap (n * 128 - (x.size : Int)) = n * 128 - (x.size : Int) := IntWalk.i64_in _ (by omega)
    have hm3 : IntKind.i64.wrap (en + (x.size : Int)) = en + (x.size : Int) := IntWalk.i64_in _ (by omega)
    by_cases hfull : n * 128 - (x.size : Int) < en
    · have HO := Lib.hid (HFU2.out hfull)
      have HX2 := Lib.hid (show w2.heap[w.heap.size]? = some (.cells #[.int .i64 fr, .int .i64 n, .int .i64 en, .int .i64 sf, .string tl] 44 (0, 0)) from by have h := H2.out.get 0 _ rfl; simpa using h)
      have hc2 := blkCell HX2.out
      clear HFU2 HOK2
      go_wp2_with (first
        | (with_reducible refine listLoad (by kernel_rfl) 44 (.tmp 2) rfl w.heap.size rfl #[.int .i64 fr, .int .i64 n, .int .i64 en, .int .i64 sf, .string tl] _ HX2.out _ Try.underlying44 (by kernel_rfl) (by kernel_rfl) ?_)
        | (with_reducible refine listStore (by kernel_rfl) 44 (.tmp 4) (.tmp 31) rfl (w.heap.size + 2) #[.int .i64 fr, .int .i64 n, .int .i64 en, .int .i64 sf, .string tl] _ _ rfl rfl (H2.out.get 2 _ rfl) (by kernel_rfl) (by kernel_rfl) (by kernel_rfl) ?_))
      refine bodyPost_ret (v := .tuple #[.agg #[.int .i64 fr, .int .i64 n, .int .i64 en, .int .i64 sf, .string tl], .int .i64 0, .int .i64 18]) (results_cell3 rfl _ _ rfl (load_whole (setRow_heap _ _ _ _ _ _ (H2.out.get 2 _ rfl)) Try.underlying44 (by kernel_rfl) (by kernel_rfl)) rfl rfl) rfl ?_
      rw [HO.out]
      exact ⟨rfl, (H2.out.row 2 _ _ rfl).below⟩
    · have HO := Lib.hid (HOK2.out (by omega))
      have hadd : ∀ W : World, (Op.stringOp .add tl x).run Try.prog W = .ok (.string (tl ++ x)) W := fun W => run_string_add_sum W _ _ (by omega)
      have HX2 := Lib.hid (show w2.heap[w.heap.size]? = some (.cells #[.int .i64 fr, .int .i64 n, .int .i64 en, .int .i64 sf, .string tl] 44 (0, 0)) from by have h := H2.out.get 0 _ rfl; simpa using h)
      have hc2 := blkCell HX2.out
      have hz2 := blkFrozen HX2.out
      clear HFU2 HOK2
      go_upto_region 8 with fail
      have H3 := Lib.hid (show BxL w.heap.size w [(#[.int .i64 fr, .int .i64 n, .int .i64 (en + (x.size : Int)), .int .i64 sf, .string tl], 44), (#[.int .i64 (en + 1), .int .i64 prev, .int .i64 txn, .int .i64 kind, .int .i64 page, .int .i64 next, .int .i64 nu, .int .i64 ok, .int .i64 os, .string oo, .string on, .int .i64 how, .int .i64 root, .string ek, .int .i64 ep, .int .i64 es, .slice A ts.length c, .slice D ds.length d], 31), (#[.int .i64 0, .int .i64 0, .int .i64 0, .int .i64 0, .string ⟨#[]⟩], 44)] (w2.setCell ⟨w.heap.size, 2, none⟩ (.int .i64 (en + (x.size : Int)))) from by have h := H2.out.set 0 2 (.int .i64 (en + (x.size : Int))) _ rfl; simpa using h)
      obtain ⟨W3, hW3⟩ : ∃ W, W = w2.setCell ⟨w.heap.size, 2, none⟩ (.int .i64 (en + (x.size : Int))) := ⟨_, rfl⟩
      rw [← hW3] at H3 ⊢
      clear hW3 hc2 hz2 HX2 H2
      have hc3 := blkCell (H3.out.get 0 _ rfl)
      have hz3 := blkFrozen (H3.out.get 0 _ rfl)
      simp only [Nat.add_zero] at hc3 hz3
      go_upto_region 9 with fail
      have H4 := Lib.hid (show BxL w.heap.size w [(#[.int .i64 fr, .int .i64 n, .int .i64 (en + (x.size : Int)), .int .i64 sf, .string (tl ++ x)], 44), (#[.int .i64 (en + 1), .int .i64 prev, .int .i64 txn, .int .i64 kind, .int .i64 page, .int .i64 next, .int .i64 nu, .int .i64 ok, .int .i64 os, .string oo, .string on, .int .i64 how, .int .i64 root, .string ek, .int .i64 ep, .int .i64 es, .slice A ts.length c, .slice D ds.length d], 31), (#[.int .i64 0, .int .i64 0, .int .i64 0, .int .i64 0, .string ⟨#[]⟩], 44)] (W3.setCell ⟨w.heap.size, 4, none⟩ (.string (tl ++ x))) from by have h := H3.out.set 0 4 (.string (tl ++ x)) _ rfl; simpa using h)
      obtain ⟨W4, hW4⟩ : ∃ W, W = W3.setCell ⟨w.heap.size, 4, none⟩ (.string (tl ++ x)) := ⟨_, rfl⟩
      rw [← hW4] at H4 ⊢
      clear hW4 hc3 hz3 H3 hadd
      have HD4 := Lib.hid H4.out.drew
      refine wp_region_held_drew (S := (fun u => u.heap[w.heap.size]? = some (.cells #[.int .i64 fr, .int .i64 n, .int .i64 (en + (x.size : Int)), .int .i64 sf, .string (tl ++ x)] 44 (0, 0)) ∧ u.heap[w.heap.size + 1]? = some (.cells #[.int .i64 (en + 1), .int .i64 prev, .int .i64 txn, .int .i64 kind, .int .i64 page, .int .i64 next, .int .i64 nu, .int .i64 ok, .int .i64 os, .string oo, .string on, .int .i64 how, .int .i64 root, .string ek, .int .i64 ep, .int .i64 es, .slice A ts.length c, .slice D ds.length d] 31 (0, 0)))) (by kernel_rfl) ?_ (fun hHeld => ?_)
      · first | exact hSn | exact ⟨(by have h := HD4.out.get 0 _ rfl; simpa using h), HD4.out.get 1 _ rfl⟩
      refine tkW 0 (some 43) (v := ?_) rfl ?_ ?_
      rotate_left
      · intro u hSu; have hSa := blkCell hSu.1; have hSb := blkCell hSu.2; clear hSu; go_simp; (try with_reducible rfl)
      try simp only [Act.put, List.setIfInBounds_toArray, List.set_cons_zero, List.set_cons_succ]
      refine tkW 1 (some 44) (v := ?_) rfl ?_ ?_
      rotate_left
      · intro u hSu; have hSa := blkCell hSu.1; have hSb := blkCell hSu.2; clear hSu; go_simp; (try with_reducible rfl)
      try simp only [Act.put, List.setIfInBounds_toArray, List.set_cons_zero, List.set_cons_succ]
      refine tkW 2 (some 45) (v := ?_) rfl ?_ ?_
      rotate_left
      · intro u hSu; have hSa := blkCell hSu.1; have hSb := blkCell hSu.2; clear hSu; go_simp; (try with_reducible rfl)
      try simp only [Act.put, List.setIfInBounds_toArray, List.set_cons_zero, List.set_cons_succ]
      refine rdH 3 none rfl (fun K hK => ?_)
      refine wantedIf (by rfl) ?_
      refine wp_store_whole 44 (.tmp 4) (.tmp 43) rfl (w.heap.size + 2) #[.int .i64 fr, .int .i64 n, .int .i64 (en + (x.size : Int)), .int .i64 sf, .string (tl ++ x)] _ _ rfl rfl (HD4.out.get 2 _ rfl) (by kernel_rfl) (by kernel_rfl) (by kernel_rfl) ?_
      have hB5 := HD4.out.row 2 #[.int .i64 fr, .int .i64 n, .int .i64 (en + (x.size : Int)), .int .i64 sf, .string (tl ++ x)] _ rfl
      have hSn := And.intro (show _ = some (Obj.cells #[.int .i64 fr, .int .i64 n, .int .i64 (en + (x.size : Int)), .int .i64 sf, .string (tl ++ x)] 44 (0, 0)) from by have h := hB5.get 0 _ rfl; simpa using h) (hB5.get 1 _ rfl)
      refine hK.out _ _ ?_ (fun hHeld => ?_)
      · first | exact hSn | exact ⟨(by have h := HD4.out.get 0 _ rfl; simpa using h), HD4.out.get 1 _ rfl⟩
      clear hK K
      try simp only [Act.put]
      refine tkW 4 (some 5) (v := ?_) rfl ?_ ?_
      rotate_left
      · intro u hSu; have hSa := blkCell hSu.1; have hSb := blkCell hSu.2; clear hSu; go_simp; (try with_reducible rfl)
      try simp only [Act.put, List.setIfInBounds_toArray, List.set_cons_zero, List.set_cons_succ]
      refine tkW 5 (some 6) (v := ?_) rfl ?_ ?_
      rotate_left
      · intro u hSu; have hSa := blkCell hSu.1; have hSb := blkCell hSu.2; clear hSu; go_simp; (try with_reducible rfl)
      try simp only [Act.put, List.setIfInBounds_toArray, List.set_cons_zero, List.set_cons_succ]
      refine wpAnyH_done (by kernel_rfl) ?_ _
      clear hHeld
      go_wp2_with fail
      refine bodyPost_ret (v := .tuple #[.agg #[.int .i64 fr, .int .i64 n, .int .i64 (en + (x.size : Int)), .int .i64 sf, .string (tl ++ x)], .int .i64 (en + 1), .int .i64 0]) (results_cell3 rfl _ _ rfl (load_whole (setRow_heap _ _ _ _ _ _ (HD4.out.get 2 _ rfl)) Try.underlying44 (by kernel_rfl) (by kernel_rfl)) rfl rfl) rfl ?_
      rw [HO.out]
      exact ⟨rfl, hB5.below⟩
  · have HO := Lib.hid (HN.out hR)
    have HP := Lib.hid (HPN.out hR)
    clear HPY HPN HN HFU HOK hR
    go_enter Try.func56, Try.ntmps56
    go_upto_region 1 with fail
    have H0 := Lib.hid (show BxL w.heap.size w [(#[.int .i64 fr, .int .i64 n, .int .i64 en, .int .i64 sf, .string tl], 44), (#[.int .i64 lsn, .int .i64 prev, .int .i64 txn, .int .i64 kind, .int .i64 page, .int .i64 next, .int .i64 nu, .int .i64 ok, .int .i64 os, .string oo, .string on, .int .i64 how, .int .i64 root, .string ek, .int .i64 ep, .int .i64 es, .slice A ts.length c, .slice D ds.length d], 31), (#[.int .i64 0, .int .i64 0, .int .i64 0, .int .i64 0, .string ⟨#[]⟩], 44)] (((w.alloc (.cells #[.int .i64 fr, .int .i64 n, .int .i64 en, .int .i64 sf, .string tl] 44)).alloc (.cells #[.int .i64 lsn, .int .i64 prev, .int .i64 txn, .int .i64 kind, .int .i64 page, .int .i64 next, .int .i64 nu, .int .i64 ok, .int .i64 os, .string oo, .string on, .int .i64 how, .int .i64 root, .string ek, .int .i64 ep, .int .i64 es, .slice A ts.length c, .slice D ds.length d] 31)).alloc (.cells #[.int .i64 0, .int .i64 0, .int .i64 0, .int .i64 0, .string ⟨#[]⟩] 44)) from (((BxL.nil (Below.refl w.heap.size w)).new (by simp) #[.int .i64 fr, .int .i64 n, .int .i64 en, .int .i64 sf, .string tl] 44).new (by simp) #[.int .i64 lsn, .int .i64 prev, .int .i64 txn, .int .i64 kind, .int .i64 page, .int .i64 next, .int .i64 nu, .int .i64 ok, .int .i64 os, .string oo, .string on, .int .i64 how, .int .i64 root, .string ek, .int .i64 ep, .int .i64 es, .slice A ts.length c, .slice D ds.length d] 31).new (by simp) #[.int .i64 0, .int .i64 0, .int .i64 0, .int .i64 0, .string ⟨#[]⟩] 44)
    obtain ⟨W0, hW0⟩ : ∃ W, W = (((w.alloc (.cells #[.int .i64 fr, .int .i64 n, .int .i64 en, .int .i64 sf, .string tl] 44)).alloc (.cells #[.int .i64 lsn, .int .i64 prev, .int .i64 txn, .int .i64 kind, .int .i64 page, .int .i64 next, .int .i64 nu, .int .i64 ok, .int .i64 os, .string oo, .string on, .int .i64 how, .int .i64 root, .string ek, .int .i64 ep, .int .i64 es, .slice A ts.length c, .slice D ds.length d] 31)).alloc (.cells #[.int .i64 0, .int .i64 0, .int .i64 0, .int .i64 0, .string ⟨#[]⟩] 44)) := ⟨_, rfl⟩
    have hs0 : W0.heap.size = w.heap.size + 3 := by rw [hW0]; simp
    rw [← hW0] at H0 ⊢
    have hc0 := blkCell (H0.out.get 0 _ rfl)
    have hc1 := blkCell (H0.out.get 1 _ rfl)
    have hz1 := blkFrozen (H0.out.get 1 _ rfl)
    simp only [Nat.add_zero] at hc0
    clear hW0
    go_upto_region 2 with fail
    have H1 := Lib.hid (show BxL w.heap.size w [(#[.int .i64 fr, .int .i64 n, .int .i64 en, .int .i64 sf, .string tl], 44), (#[.int .i64 (en + 1), .int .i64 prev, .int .i64 txn, .int .i64 kind, .int .i64 page, .int .i64 next, .int .i64 nu, .int .i64 ok, .int .i64 os, .string oo, .string on, .int .i64 how, .int .i64 root, .string ek, .int .i64 ep, .int .i64 es, .slice A ts.length c, .slice D ds.length d], 31), (#[.int .i64 0, .int .i64 0, .int .i64 0, .int .i64 0, .string ⟨#[]⟩], 44)] (W0.setCell ⟨w.heap.size + 1, 0, none⟩ (.int .i64 (en + 1))) from by have h := H0.out.set 1 0 (.int .i64 (en + 1)) _ rfl; simpa using h)
    obtain ⟨W1, hW1⟩ : ∃ W, W = W0.setCell ⟨w.heap.size + 1, 0, none⟩ (.int .i64 (en + 1)) := ⟨_, rfl⟩
    rw [← hW1] at H1 ⊢
    clear hW1 hc0 hc1 hz1 H0 hs0
    have HX1 := Lib.hid (H1.out.get 1 _ rfl)
    go_upto_region 3 with (first
      | (with_reducible refine listLoad (by kernel_rfl) 31 (.tmp 3) rfl (w.heap.size + 1) rfl #[.int .i64 (en + 1), .int .i64 prev, .int .i64 txn, .int .i64 kind, .int .i64 page, .int .i64 next, .int .i64 nu, .int .i64 ok, .int .i64 os, .string oo, .string on, .int .i64 how, .int .i64 root, .string ek, .int .i64 ep, .int .i64 es, .slice A ts.length c, .slice D ds.length d] _ HX1.out _ Try.underlying31 (by kernel_rfl) (by kernel_rfl) ?_)
      | (go_at_call 78; (with_reducible refine (HP.out _ H1.out.below).mono ?_); rintro e w2 ⟨rfl, hb2⟩))
    have H2 := Lib.hid (H1.out.step hb2)
    clear hb2 H1 HX1 HP
    have HX2 := Lib.hid (show w2.heap[w.heap.size]? = some (.cells #[.int .i64 fr, .int .i64 n, .int .i64 en, .int .i64 sf, .string tl] 44 (0, 0)) from by have h := H2.out.get 0 _ rfl; simpa using h)
    go_wp2_with (first
      | (with_reducible refine listLoad (by kernel_rfl) 44 (.tmp 2) rfl w.heap.size rfl #[.int .i64 fr, .int .i64 n, .int .i64 en, .int .i64 sf, .string tl] _ HX2.out _ Try.underlying44 (by kernel_rfl) (by kernel_rfl) ?_)
      | (with_reducible refine listStore (by kernel_rfl) 44 (.tmp 4) (.tmp 20) rfl (w.heap.size + 2) #[.int .i64 fr, .int .i64 n, .int .i64 en, .int .i64 sf, .string tl] _ _ rfl rfl (H2.out.get 2 _ rfl) (by kernel_rfl) (by kernel_rfl) (by kernel_rfl) ?_))
    refine bodyPost_ret (v := .tuple #[.agg #[.int .i64 fr, .int .i64 n, .int .i64 en, .int .i64 sf, .string tl], .int .i64 0, .int .i64 1]) (results_cell3 rfl _ _ rfl (load_whole (setRow_heap _ _ _ _ _ _ (H2.out.get 2 _ rfl)) Try.underlying44 (by kernel_rfl) (by kernel_rfl)) rfl rfl) rfl ?_
    rw [HO.out]
    exact ⟨rfl, (H2.out.row 2 _ _ rfl).below⟩
end Go.Proofs.Ythfglhafphfhiaa
/- The walk over package log: Force. -/
namespace Lg
theorem writeD_left {d : Dk} {a : Int} {b : ByteArray} (h : -9223372036854775808 ≤ d.left ∧ d.left ≤ 9223372036854775807) : -9223372036854775808 ≤ (writeD d a b).1.left ∧ (writeD d a b).1.left ≤ 9223372036854775807 := by
  unfold writeD
  split
  · exact h
  split
  · exact h
  split
  · exact h
  · show _ ≤ (if 0 < d.left then d.left - 1 else d.left) ∧ (if 0 < d.left then d.left - 1 else d.left) ≤ _
    split <;> omega
theorem writeD_len {d : Dk} {a : Int} {b : ByteArray} : (writeD d a b).1.sectors.length = d.sectors.length := by
  unfold writeD
  split
  · rfl
  split
  · rfl
  split
  · rfl
  · simp
theorem putAll_go {base : Int} {all : List ByteArray} {k : Nat} {d d2 : Dk} (hw : writeD d (base + (k : Int)) (all[k]?.getD ⟨#[]⟩) = (d2, 0)) : putAll base all (k + 1) d = putAll base all k d2 := by
  conv => lhs; unfold putAll
  rw [hw, if_pos rfl]
theorem putAll_stop {base : Int} {all : List ByteArray} {k : Nat} {d d2 : Dk} {e : Int} (he : e ≠ 0) (hw : writeD d (base + (k : Int)) (all[k]?.getD ⟨#[]⟩) = (d2, e)) : putAll base all (k + 1) d = (d2, e) := by
  unfold putAll
  rw [hw, if_neg he]
theorem force_same {d : Dk} {l : Lo} (h : l.safe = l.end_) : forceD d l = (d, l, 0) := by unfold forceD; rw [if_pos h]
theorem force_stop {d d2 : Dk} {l : Lo} {e : Int} (h : ¬ l.safe = l.end_) (he : e ≠ 0) (hp : putAll (l.from_ + firstS l) (allS l) (allS l).length d = (d2, e)) : forceD d l = (d2, l, e) := by
  unfold forceD
  rw [if_neg h]
  simp only [hp]
  rw [if_neg he]
theorem force_all {d d2 : Dk} {l : Lo} (h : ¬ l.safe = l.end_) (hp : putAll (l.from_ + firstS l) (allS l) (allS l).length d = (d2, 0)) : forceD d l = (d2, forcedL l, 0) := by
  unfold forceD
  rw [if_neg h]
  simp only [hp]
  rw [if_pos trivial]
theorem allS_len (l : Lo) : (allS l).length ≤ l.tail.size / 128 + 2 := by
  unfold allS
  have := cutB_length l.tail
  split
  · rw [List.length_append, List.length_singleton]; omega
  · omega
end Lg
namespace Go.Proofs.Ythfglhafphfhiaa
open Go.RowKit
/-- What Force answers. -/
def ForceOut (x : Lg.Dk × Lg.Lo × Int) (A : Option Addr) (w : World) (e : Ending) (w' : World) : Prop :=
  ∃ A' c', e = .returned (.tuple #[diskV x.1 A' c', logV x.2.1, .int .i64 x.2.2]) ∧ DiskR w' x.1 A' c' ∧ (A' = A ∨ NewT w.heap.size w' 9 A') ∧ Below w.heap.size w w'
set_option maxRecDepth 100000 in
set_option maxHeartbeats 4000000 in
theorem force_none (L : List ByteArray) (left : Int) (down : Bool) (A : Option Addr) (c : Nat) (fr n en : Int) (tl : ByteArray) (o : Lg.Dk × Lg.Lo × Int) (ho : o = (⟨L, left, down⟩, ⟨fr, n, en, en, tl⟩, 0)) (w : World) (h : DiskR w ⟨L, left, down⟩ A c) :
    Calls Try.prog 13 #[.agg #[.slice A L.length c, .int .i64 left, .bool down], .agg #[.int .i64 fr, .int .i64 n, .int .i64 en, .int .i64 en, .string tl]] w (ForceOut o A w) := by
  have HO := Lib.hid (fun w' (hb : Below w.heap.size w w') => show ForceOut o A w (.returned (.tuple #[.agg #[.slice A L.length c, .int .i64 left, .bool down], .agg #[.int .i64 fr, .int .i64 n, .int .i64 en, .int .i64 en, .string tl], .int .i64 0])) w' from by
    subst ho; exact ⟨A, c, rfl, ⟨h.secs.below hb, h.small⟩, .inl rfl, hb⟩)
  have hself : (en == en) = true := by simp
  clear ho h
  go_enter Try.func13, Try.ntmps13
  go_upto_region 1 with fail
  have H0 := Lib.hid (show BxL w.heap.size w [(#[.slice A L.length c, .int .i64 left, .bool down], 42), (#[.int .i64 fr, .int .i64 n, .int .i64 en, .int .i64 en, .string tl], 44), (#[.slice none 0 0, .int .i64 0, .bool false], 42), (#[.int .i64 0, .int .i64 0, .int .i64 0, .int .i64 0, .string ⟨#[]⟩], 44)] ((((w.alloc (.cells #[.slice A L.length c, .int .i64 left, .bool down] 42)).alloc (.cells #[.int .i64 fr, .int .i64 n, .int .i64 en, .int .i64 en, .string tl] 44)).alloc (.cells #[.slice none 0 0, .int .i64 0, .bool false] 42)).alloc (.cells #[.int .i64 0, .int .i64 0, .int .i64 0, .int .i64 0, .string ⟨#[]⟩] 44)) from ((((BxL.nil (Below.refl w.heap.size w)).new (by simp) #[.slice A L.length c, .int .i64 left, .bool down] 42).new (by simp) #[.int .i64 fr, .int .i64 n, .int .i64 en, .int .i64 en, .string tl] 44).new (by simp) #[.slice none 0 0, .int .i64 0, .bool false] 42).new (by simp) #[.int .i64 0, .int .i64 0, .int .i64 0, .int .i64 0, .string ⟨#[]⟩] 44)
  have hs0 : ((((w.alloc (.cells #[.slice A L.length c, .int .i64 left, .bool down] 42)).alloc (.cells #[.int .i64 fr, .int .i64 n, .int .i64 en, .int .i64 en, .string tl] 44)).alloc (.cells #[.slice none 0 0, .int .i64 0, .bool false] 42)).alloc (.cells #[.int .i64 0, .int .i64 0, .int .i64 0, .int .i64 0, .string ⟨#[]⟩] 44)).heap.size = w.heap.size + 4 := by simp
  obtain ⟨W0, hW0⟩ : ∃ W, W = (((w.alloc (.cells #[.slice A L.length c, .int .i64 left, .bool down] 42)).alloc (.cells #[.int .i64 fr, .int .i64 n, .int .i64 en, .int .i64 en, .string tl] 44)).alloc (.cells #[.slice none 0 0, .int .i64 0, .bool false] 42)).alloc (.cells #[.int .i64 0, .int .i64 0, .int .i64 0, .int .i64 0, .string ⟨#[]⟩] 44) := ⟨_, rfl⟩
  rw [← hW0] at H0 hs0 ⊢
  clear hW0
  have hc1 := blkCell (H0.out.get 1 _ rfl)
  go_upto_region 2 with fail
  clear hc1 hself
  have HD := Lib.hid H0.out.drew
  refine wp_region_held_drew (S := (fun u => u.heap[w.heap.size]? = some (.cells #[.slice A L.length c, .int .i64 left, .bool down] 42 (0, 0)) ∧ u.heap[w.heap.size + 1]? = some (.cells #[.int .i64 fr, .int .i64 n, .int .i64 en, .int .i64 en, .string tl] 44 (0, 0)))) (by kernel_rfl) ?_ (fun hHeld => ?_)
  · exact ⟨(HD.out.get0), (HD.out.get1)⟩
  refine tkW 0 (some 17) (v := ?_) rfl ?_ ?_
  rotate_left
  · intro u hSu; have hSa := blkCell hSu.1; have hSb := blkCell hSu.2; clear hSu; go_simp; (try with_reducible rfl)
  try simp only [Act.put, List.setIfInBounds_toArray, List.set_cons_zero, List.set_cons_succ]
  refine tkW 1 (some 18) (v := ?_) rfl ?_ ?_
  rotate_left
  · intro u hSu; have hSa := blkCell hSu.1; have hSb := blkCell hSu.2; clear hSu; go_simp; (try with_reducible rfl)
  try simp only [Act.put, List.setIfInBounds_toArray, List.set_cons_zero, List.set_cons_succ]
  refine rdH 2 none rfl (fun K hK => ?_)
  refine wantedIf (by rfl) ?_
  refine wp_store_whole 42 (.tmp 4) (.tmp 17) rfl (w.heap.size + 2) #[.slice A L.length c, .int .i64 left, .bool down] _ _ rfl rfl (HD.out.get 2 _ rfl) (by kernel_rfl) (by kernel_rfl) (by kernel_rfl) ?_
  have HE := Lib.hid (HD.out.row 2 #[.slice A L.length c, .int .i64 left, .bool down] _ rfl)
  have hSn := And.intro (HE.out.get0) (HE.out.get1)
  refine hK.out _ _ ?_ (fun hHeld => ?_)
  · exact hSn
  clear hK K
  try simp only [Act.put]
  refine rdH 3 none rfl (fun K hK => ?_)
  refine wantedIf (by rfl) ?_
  refine wp_store_whole 44 (.tmp 5) (.tmp 18) rfl (w.heap.size + 3) #[.int .i64 fr, .int .i64 n, .int .i64 en, .int .i64 en, .string tl] _ _ rfl rfl (HE.out.get 3 _ rfl) (by kernel_rfl) (by kernel_rfl) (by kernel_rfl) ?_
  have HG := Lib.hid (HE.out.row 3 #[.int .i64 fr, .int .i64 n, .int .i64 en, .int .i64 en, .string tl] _ rfl)
  clear hSn
  have hSn := And.intro (HG.out.get0) (HG.out.get1)
  refine hK.out _ _ ?_ (fun hHeld => ?_)
  · exact hSn
  clear hK K
  try simp only [Act.put]
  refine tkW 4 (some 6) (v := ?_) rfl ?_ ?_
  rotate_left
  · intro u hSu; have hSa := blkCell hSu.1; have hSb := blkCell hSu.2; clear hSu; go_simp; (try with_reducible rfl)
  try simp only [Act.put, List.setIfInBounds_toArray, List.set_cons_zero, List.set_cons_succ]
  refine wpAnyH_done (by kernel_rfl) ?_ _
  clear hHeld hSn
  go_wp2_with fail
  refine bodyPost_ret (v := .tuple #[.agg #[.slice A L.length c, .int .i64 left, .bool down], .agg #[.int .i64 fr, .int .i64 n, .int .i64 en, .int .i64 en, .string tl], .int .i64 0]) (results_cells rfl _ _ rfl rfl (load_whole (HG.out.get 2 _ rfl) Try.underlying42 (by kernel_rfl) (by kernel_rfl)) (load_whole (HG.out.get 3 _ rfl) Try.underlying44 (by kernel_rfl) (by kernel_rfl)) rfl) rfl ?_
  exact HO.out _ HG.out.below
set_option maxRecDepth 100000 in
set_option maxHeartbeats 4000000 in
theorem force_go (d : Lg.Dk) (hlb : -9223372036854775808 ≤ d.left ∧ d.left ≤ 9223372036854775807) (A : Option Addr) (c : Nat) (fr n en sf : Int) (tl : ByteArray) (hse : ¬ sf = en) (he0 : 0 ≤ en) (he1 : en ≤ 1000000000) (_hn0 : -1000000000 ≤ n) (_hn1 : n ≤ 1000000000) (hf0 : -1000000000 ≤ fr) (hf1 : fr ≤ 1000000000) (ht : tl.size ≤ 1000000) (hte : (tl.size : Int) ≤ en) (hmod : en % 128 ≤ (tl.size : Int)) (w : World) (h : DiskR w d A c) :
    Calls Try.prog 13 #[.agg #[.slice A d.sectors.length c, .int .i64 d.left, .bool d.down], .agg #[.int .i64 fr, .int .i64 n, .int .i64 en, .int .i64 sf, .string tl]] w (ForceOut (Lg.forceD d ⟨fr, n, en, sf, tl⟩) A w) := by
  have HST := Lib.hid (fun d2 e (he : e ≠ 0) hp => @Lg.force_stop d d2 ⟨fr, n, en, sf, tl⟩ e hse he hp)
  have HAL := Lib.hid (fun d2 hp => @Lg.force_all d d2 ⟨fr, n, en, sf, tl⟩ hse hp)
  have HO := Lib.hid (fun A' c' w' x (hx : Lg.forceD d ⟨fr, n, en, sf, tl⟩ = x) (h1 : DiskR w' x.1 A' c') (h2 : A' = A ∨ NewT w.heap.size w' 9 A') (h3 : Below w.heap.size w w') => show ForceOut (Lg.forceD d ⟨fr, n, en, sf, tl⟩) A w (.returned (.tuple #[diskV x.1 A' c', logV x.2.1, .int .i64 x.2.2])) w' from ⟨A', c', by rw [hx], by rw [hx]; exact h1, h2, h3⟩)
  have hal := Lg.allS_len ⟨fr, n, en, sf, tl⟩
  have hcb := Lg.cutB_length tl
  have HCUT := Lib.hid (fun W => cut_any tl ht W)
  obtain ⟨C, hC⟩ : ∃ C, C = Lg.cutB tl := ⟨_, rfl⟩
  obtain ⟨all, hall⟩ : ∃ all, all = Lg.allS ⟨fr, n, en, sf, tl⟩ := ⟨_, rfl⟩
  have HDEF := Lib.hid (show all = if (en - (tl.size : Int)) / 128 + (C.length : Int) < n then C ++ [Lg.zero128] else C from by rw [hall, hC]; rfl)
  rw [← hall] at HST HAL hal
  rw [← hC] at HCUT hcb
  have hbase : Lg.firstS ⟨fr, n, en, sf, tl⟩ = (en - (tl.size : Int)) / 128 := rfl
  rw [hbase] at HST HAL
  generalize Lg.forceD d ⟨fr, n, en, sf, tl⟩ = o at HST HAL HO ⊢
  generalize ForceOut o A w = Q at HO ⊢
  have HREP : Hid (∀ W, Calls Try.prog 33 #[.string ⟨#[0]⟩, .int .i64 128] W fun e w' => e = .returned (.string Lg.zero128) ∧ Below W.heap.size W w') := Lib.hid (fun W => by
    have h1 := Try.strings_Repeat ⟨#[0]⟩ 128 W (by omega) (by show 1 * 128 ≤ _; omega)
    have e : (⟨(Lib.repeatL (⟨#[0]⟩ : ByteArray).data.toList 128).toArray⟩ : ByteArray) = Lg.zero128 := Lg.repeat_zero 128
    rw [e] at h1
    exact h1)
  have hzs := Lg.zero128_size
  have hcs : ∀ b ∈ all, b.size = 128 := by
    rw [HDEF.out, hC]
    intro b hb
    split at hb
    · rcases List.mem_append.1 hb with h1 | h1
      · exact Lg.cutB_size tl b h1
      · rw [List.mem_singleton.1 h1]; exact hzs
    · exact Lg.cutB_size tl b hb
  have HSZ := Lib.hid hcs
  generalize Lg.zero128 = z at HREP HDEF hzs
  have HR := Lib.hid h
  have hne1 : (sf == en) = false := by simpa using hse
  have hcl : C.length ≤ 10000 := by omega
  have hall2 : all.length ≤ 10000 := by simp only at hal; omega
  have HLB := Lib.hid hlb
  obtain ⟨F, hF⟩ : ∃ F : Int, F = (en - (tl.size : Int)) / 128 := ⟨_, rfl⟩
  have hF0 : 0 ≤ F := by omega
  have hF1 : F ≤ 10000000 := by omega
  have hq0 : 0 ≤ en - (tl.size : Int) := by omega
  have hwq : IntKind.i64.wrap (en - (tl.size : Int)) = en - (tl.size : Int) := IntWalk.i64_in _ (by omega)
  have HFE := Lib.hid hF
  rw [← hF] at HST HAL HDEF
  clear h hse hC hall hal hcb hbase hcs hzs hlb
  go_enter Try.func13, Try.ntmps13
  go_upto_region 1 with fail
  have H0 := Lib.hid (show BxL w.heap.size w [(#[.slice A d.sectors.length c, .int .i64 d.left, .bool d.down], 42), (#[.int .i64 fr, .int .i64 n, .int .i64 en, .int .i64 sf, .string tl], 44), (#[.slice none 0 0, .int .i64 0, .bool false], 42), (#[.int .i64 0, .int .i64 0, .int .i64 0, .int .i64 0, .string ⟨#[]⟩], 44)] ((((w.alloc (.cells #[.slice A d.sectors.length c, .int .i64 d.left, .bool d.down] 42)).alloc (.cells #[.int .i64 fr, .int .i64 n, .int .i64 en, .int .i64 sf, .string tl] 44)).alloc (.cells #[.slice none 0 0, .int .i64 0, .bool false] 42)).alloc (.cells #[.int .i64 0, .int .i64 0, .int .i64 0, .int .i64 0, .string ⟨#[]⟩] 44)) from ((((BxL.nil (Below.refl w.heap.size w)).new (by simp) #[.slice A d.sectors.length c, .int .i64 d.left, .bool d.down] 42).new (by simp) #[.int .i64 fr, .int .i64 n, .int .i64 en, .int .i64 sf, .string tl] 44).new (by simp) #[.slice none 0 0, .int .i64 0, .bool false] 42).new (by simp) #[.int .i64 0, .int .i64 0, .int .i64 0, .int .i64 0, .string ⟨#[]⟩] 44)
  have hs0 : ((((w.alloc (.cells #[.slice A d.sectors.length c, .int .i64 d.left, .bool d.down] 42)).alloc (.cells #[.int .i64 fr, .int .i64 n, .int .i64 en, .int .i64 sf, .string tl] 44)).alloc (.cells #[.slice none 0 0, .int .i64 0, .bool false] 42)).alloc (.cells #[.int .i64 0, .int .i64 0, .int .i64 0, .int .i64 0, .string ⟨#[]⟩] 44)).heap.size = w.heap.size + 4 := by simp
  obtain ⟨W0, hW0⟩ : ∃ W, W = (((w.alloc (.cells #[.slice A d.sectors.length c, .int .i64 d.left, .bool d.down] 42)).alloc (.cells #[.int .i64 fr, .int .i64 n, .int .i64 en, .int .i64 sf, .string tl] 44)).alloc (.cells #[.slice none 0 0, .int .i64 0, .bool false] 42)).alloc (.cells #[.int .i64 0, .int .i64 0, .int .i64 0, .int .i64 0, .string ⟨#[]⟩] 44) := ⟨_, rfl⟩
  rw [← hW0] at H0 hs0 ⊢
  clear hW0
  have hc1 := blkCell (H0.out.get 1 _ rfl)
  go_upto_region 4 with fail
  rw [← HFE.out]
  clear hF hq0 hwq hne1
  go_upto_region 5 with (go_at_call 32; (with_reducible refine (HCUT.out _).mono ?_); rintro e w1 ⟨v8, rfl, ho8, hb1⟩; obtain ⟨A8, c8, rfl⟩ := ownLen ho8; have hc1 := blkCell ((H0.out.step hb1).get 1 _ rfl))
  have H1 := Lib.hid (H0.out.step hb1)
  have HO8 := Lib.hid (ownMono ho8 (show w.heap.size + 4 ≤ W0.heap.size by omega))
  have hs1 : w.heap.size + 4 ≤ w1.heap.size := by have := hb1.size; omega
  clear ho8 hb1 HCUT H0 hs0
  have hwf : IntKind.i64.wrap (F + (C.length : Int)) = F + (C.length : Int) := IntWalk.i64_in _ (by omega)
  go_upto_if 35 with fail
  go_cut [8] (fun s8 wc => ∃ A8 c8, s8 = .slice A8 all.length c8 ∧ OwnL strC 1 9 (w.heap.size + 4) wc (.slice A8 all.length c8) all ∧ BxL w.heap.size w [(#[.slice A d.sectors.length c, .int .i64 d.left, .bool d.down], 42), (#[.int .i64 fr, .int .i64 n, .int .i64 en, .int .i64 sf, .string tl], 44), (#[.slice none 0 0, .int .i64 0, .bool false], 42), (#[.int .i64 0, .int .i64 0, .int .i64 0, .int .i64 0, .string ⟨#[]⟩], 44)] wc)
  case first =>
    by_cases hfit : F + (C.length : Int) < n
    · have hAL : all = C ++ [z] := by rw [HDEF.out, if_pos hfit]
      have HALL := Lib.hid hAL
      clear hAL
      go_wp2_with (first
        | (go_at_call 33; (with_reducible refine (HREP.out _).mono ?_); rintro e w2 ⟨rfl, hb2⟩; have H2 := Lib.hid (H1.out.step hb2); have HO2 := Lib.hid (ownBelow HO8.out hb2); have HB2 := Lib.hid hb2; clear hb2)
        | (at_builtin; refine wpList_push (by kernel_rfl) (.tmp 36) (.tmp 38) 40 9 Try.underlying40 info_string rfl (by omega) (by omega) rfl (w.heap.size + 4) _ C.length (C.flatMap strC) rfl (ownBelow HO2.out (allocB _ _)) w2.heap.size (strC z) 9 rfl (heap_alloc_new w2 _) rfl (by simp [strC, Value.oneCell']) (by omega) (by have := HB2.out.size; simp; omega) ?_; intro v7 w7 ho hg hb; obtain ⟨A7, c7, rfl⟩ := ownLen ho; have H7 := Lib.hid ((H2.out.step (allocB w2 (.cells #[.string z] 9))).under (M := w.heap.size + 4) (Nat.le_refl _) hb); have HO7 := Lib.hid (OwnL.push (enc := strC) (x := z) ho); have HG7 := Lib.hid hg; clear ho hg hb))
      go_meet
      case rel =>
        refine ⟨A7, c7, ?_, ?_, H7.out⟩
        · rw [HALL.out, List.length_append]; rfl
        · have h7 := HO7.out
          have e7 : (C ++ [z]).length = C.length + 1 := by simp
          rw [HALL.out, e7]
          exact h7
    · have hAL : all = C := by rw [HDEF.out, if_neg hfit]
      have HALL := Lib.hid hAL
      clear hAL
      go_wp2_with fail
      go_meet
      case rel =>
        refine ⟨A8, c8, ?_, ?_, H1.out⟩
        · rw [HALL.out]
        · rw [HALL.out]; exact HO8.out
  case rest =>
    obtain ⟨A8, c8, rfl, ho8, hbx⟩ := hcut
    obtain ⟨wa, rfl⟩ : ∃ wm : World, wm = wc := ⟨_, rfl⟩
    have HOA := Lib.hid ho8
    have HBA := Lib.hid hbx
    clear ho8 hbx HO8 H1 HDEF HREP hs1 hwf hcl
    have hwl : IntKind.i64.wrap ((all.length : Int) - 1) = (all.length : Int) - 1 := IntWalk.i64_in _ (by omega)
    go_wp2_with fail
    go_loopw [9] (fun i wr => ∃ (x : Int) (d2 : Lg.Dk) (A2 : Option Addr) (c2 : Nat), i = .int .i64 x ∧ -1 ≤ x ∧ x < all.length ∧ Lg.putAll (fr + F) all all.length d = Lg.putAll (fr + F) all (x + 1).toNat d2 ∧ BxL w.heap.size w [(#[.slice A2 d2.sectors.length c2, .int .i64 d2.left, .bool d2.down], 42), (#[.int .i64 fr, .int .i64 n, .int .i64 en, .int .i64 sf, .string tl], 44), (#[.slice none 0 0, .int .i64 0, .bool false], 42), (#[.int .i64 0, .int .i64 0, .int .i64 0, .int .i64 0, .string ⟨#[]⟩], 44)] wr ∧ DiskR wr d2 A2 c2 ∧ (A2 = A ∨ NewT (w.heap.size + 4) wr 9 A2) ∧ (-9223372036854775808 ≤ d2.left ∧ d2.left ≤ 9223372036854775807) ∧ d2.sectors.length = d.sectors.length ∧ OwnL strC 1 9 (w.heap.size + 4) wr (.slice A8 all.length c8) all) (fun i _ => (intOf i + 1).toNat)
    case atStart => exact ⟨(all.length : Int) - 1, d, A, c, rfl, by omega, by omega, by rw [show ((all.length : Int) - 1 + 1).toNat = all.length by omega], HBA.out, ⟨HR.out.secs.below HBA.out.below, HR.out.small⟩, .inl rfl, HLB.out, rfl, HOA.out⟩
    case round =>
      obtain ⟨x, d2, A2, c2, rfl, hx1, hx2, hput, hbx, hdr, haw, hlb2, hle2, hown⟩ := hrel
      have HPUT := Lib.hid hput
      have HBX := Lib.hid hbx
      have HDR := Lib.hid hdr
      have HAW := Lib.hid haw
      have HOW := Lib.hid hown
      have HLE := Lib.hid hle2
      have HLB2 := Lib.hid hlb2
      have HFAR := Lib.hid (show 0 < d2.sectors.length → ∀ ad, A2 = some ad → ad.block < w.heap.size ∨ w.heap.size + 4 ≤ ad.block from fun h0 ad e => by
        rcases HAW.out with h1 | h1
        · rw [h1] at e
          exact .inl (HR.out.secs.old (by rw [← HLE.out]; exact h0) ad e)
        · exact .inr (h1 ad e).1)
      clear hput hbx hdr haw hown hle2 hlb2 HBA HOA
      by_cases h0 : x = -1
      · subst h0
        have HFIN := Lib.hid (HAL.out d2 (HPUT.out.trans rfl))
        clear hx1 hx2 hwl
        obtain ⟨m, hm⟩ := Int.eq_ofNat_of_zero_le (show 0 ≤ en % 128 by omega)
        have hm2 : (m : Int) ≤ (tl.size : Int) := by omega
        have hwm : IntKind.i64.wrap ((tl.size : Int) - (m : Int)) = (tl.size : Int) - (m : Int) := IntWalk.i64_in _ (by omega)
        have hm3 : (0 : Int) ≤ (tl.size : Int) - (m : Int) := by omega
        have hm4 : (tl.size : Int) - (m : Int) ≤ (tl.size : Int) := by omega
        have hm5 : ((tl.size : Int) - (m : Int)).toNat = tl.size - m := by omega
        have HTL := Lib.hid (show Lg.forcedL ⟨fr, n, en, sf, tl⟩ = ⟨fr, n, en, en, tl.extract (tl.size - m) tl.size⟩ from by
          unfold Lg.forcedL
          simp only [hm, Int.toNat_natCast])
        have hc1 := blkCell HBX.out.get1
        have hz1 := blkFrozen HBX.out.get1
        go_upto_region 15 with fail
        have HB2 := Lib.hid (show BxL w.heap.size w [(#[.slice A2 d2.sectors.length c2, .int .i64 d2.left, .bool d2.down], 42), (#[.int .i64 fr, .int .i64 n, .int .i64 en, .int .i64 en, .string tl], 44), (#[.slice none 0 0, .int .i64 0, .bool false], 42), (#[.int .i64 0, .int .i64 0, .int .i64 0, .int .i64 0, .string ⟨#[]⟩], 44)] (wr.setCell ⟨w.heap.size + 1, 3, none⟩ (.int .i64 en)) from by have h := HBX.out.set 1 3 (.int .i64 en) _ rfl; simpa using h)
        have HAP2 := Lib.hid ((Apart.refl w.heap.size (w.heap.size + 4) wr).cell (w.heap.size + 1) 3 (.int .i64 en) (by omega) (by omega))
        obtain ⟨W2, hW2⟩ : ∃ W, W = wr.setCell ⟨w.heap.size + 1, 3, none⟩ (.int .i64 en) := ⟨_, rfl⟩
        rw [← hW2] at HB2 HAP2 ⊢
        clear hW2 hc1 hz1
        have hc1 := blkCell HB2.out.get1
        have hz1 := blkFrozen HB2.out.get1
        go_upto_region 16 with fail
        have HB3 := Lib.hid (show BxL w.heap.size w [(#[.slice A2 d2.sectors.length c2, .int .i64 d2.left, .bool d2.down], 42), (#[.int .i64 fr, .int .i64 n, .int .i64 en, .int .i64 en, .string (tl.extract (tl.size - m) tl.size)], 44), (#[.slice none 0 0, .int .i64 0, .bool false], 42), (#[.int .i64 0, .int .i64 0, .int .i64 0, .int .i64 0, .string ⟨#[]⟩], 44)] (W2.setCell ⟨w.heap.size + 1, 4, none⟩ (.string (tl.extract (tl.size - m) tl.size))) from by have h := HB2.out.set 1 4 (.string (tl.extract (tl.size - m) tl.size)) _ rfl; simpa using h)
        have HAP3 := Lib.hid (HAP2.out.cell (w.heap.size + 1) 4 (.string (tl.extract (tl.size - m) tl.size)) (by omega) (by omega))
        obtain ⟨W3, hW3⟩ : ∃ W, W = W2.setCell ⟨w.heap.size + 1, 4, none⟩ (.string (tl.extract (tl.size - m) tl.size)) := ⟨_, rfl⟩
        rw [← hW3] at HB3 HAP3 ⊢
        clear hW3 hc1 hz1 hm2 hwm hm3 hm4 hm5 hm HB2 HAP2
        obtain ⟨tl2, htl2⟩ : ∃ b, b = tl.extract (tl.size - m) tl.size := ⟨_, rfl⟩
        rw [← htl2] at HB3 HTL
        clear htl2 hmod
        have HD := Lib.hid HB3.out.drew
        refine wp_region_held_drew (S := (fun u => u.heap[w.heap.size]? = some (.cells #[.slice A2 d2.sectors.length c2, .int .i64 d2.left, .bool d2.down] 42 (0, 0)) ∧ u.heap[w.heap.size + 1]? = some (.cells #[.int .i64 fr, .int .i64 n, .int .i64 en, .int .i64 en, .string tl2] 44 (0, 0)))) (by kernel_rfl) ?_ (fun hHeld => ?_)
        · exact ⟨(HD.out.get0), (HD.out.get1)⟩
        refine tkW 0 (some 82) (v := ?_) rfl ?_ ?_
        rotate_left
        · intro u hSu; have hSa := blkCell hSu.1; have hSb := blkCell hSu.2; clear hSu; go_simp; (try with_reducible rfl)
        try simp only [Act.put, List.setIfInBounds_toArray, List.set_cons_zero, List.set_cons_succ]
        refine tkW 1 (some 83) (v := ?_) rfl ?_ ?_
        rotate_left
        · intro u hSu; have hSa := blkCell hSu.1; have hSb := blkCell hSu.2; clear hSu; go_simp; (try with_reducible rfl)
        try simp only [Act.put, List.setIfInBounds_toArray, List.set_cons_zero, List.set_cons_succ]
        refine rdH 2 none rfl (fun K hK => ?_)
        refine wantedIf (by rfl) ?_
        refine wp_store_whole 42 (.tmp 4) (.tmp 82) rfl (w.heap.size + 2) #[.slice A2 d2.sectors.length c2, .int .i64 d2.left, .bool d2.down] _ _ rfl rfl (HD.out.get 2 _ rfl) (by kernel_rfl) (by kernel_rfl) (by kernel_rfl) ?_
        have HE := Lib.hid (HD.out.row 2 #[.slice A2 d2.sectors.length c2, .int .i64 d2.left, .bool d2.down] _ rfl)
        have hSn := And.intro (HE.out.get0) (HE.out.get1)
        refine hK.out _ _ ?_ (fun hHeld => ?_)
        · exact hSn
        clear hK K
        try simp only [Act.put]
        refine rdH 3 none rfl (fun K hK => ?_)
        refine wantedIf (by rfl) ?_
        refine wp_store_whole 44 (.tmp 5) (.tmp 83) rfl (w.heap.size + 3) #[.int .i64 fr, .int .i64 n, .int .i64 en, .int .i64 en, .string tl2] _ _ rfl rfl (HE.out.get 3 _ rfl) (by kernel_rfl) (by kernel_rfl) (by kernel_rfl) ?_
        have HG := Lib.hid (HE.out.row 3 #[.int .i64 fr, .int .i64 n, .int .i64 en, .int .i64 en, .string tl2] _ rfl)
        clear hSn
        have hSn := And.intro (HG.out.get0) (HG.out.get1)
        refine hK.out _ _ ?_ (fun hHeld => ?_)
        · exact hSn
        clear hK K
        try simp only [Act.put]
        refine tkW 4 (some 6) (v := ?_) rfl ?_ ?_
        rotate_left
        · intro u hSu; have hSa := blkCell hSu.1; have hSb := blkCell hSu.2; clear hSu; go_simp; (try with_reducible rfl)
        try simp only [Act.put, List.setIfInBounds_toArray, List.set_cons_zero, List.set_cons_succ]
        refine wpAnyH_done (by kernel_rfl) ?_ _
        clear hHeld hSn
        go_wp2_with fail
        refine bodyPost_ret (v := .tuple #[.agg #[.slice A2 d2.sectors.length c2, .int .i64 d2.left, .bool d2.down], .agg #[.int .i64 fr, .int .i64 n, .int .i64 en, .int .i64 en, .string tl2], .int .i64 0]) (results_cells rfl _ _ rfl rfl (load_whole (HG.out.get 2 _ rfl) Try.underlying42 (by kernel_rfl) (by kernel_rfl)) (load_whole (HG.out.get 3 _ rfl) Try.underlying44 (by kernel_rfl) (by kernel_rfl)) rfl) rfl ?_
        exact HO.out A2 c2 _ (d2, ⟨fr, n, en, en, tl2⟩, 0) (HFIN.out.trans (by rw [HTL.out])) ⟨HDR.out.secs.apart (((HAP3.out.drew).row _ _ (by omega) (by omega)).row _ _ (by omega) (by omega)) HFAR.out, HDR.out.small⟩ (HAW.out.imp id (fun h => (h.apart (lo := w.heap.size) (hi := w.heap.size + 4) (((HAP3.out.drew).row _ _ (by omega) (by omega)).row _ _ (by omega) (by omega)) (Nat.le_refl _)).mono (by omega))) HG.out.below
      · obtain ⟨k, rfl⟩ := Int.eq_ofNat_of_zero_le (show 0 ≤ x by omega)
        have hkl : k < all.length := by omega
        have hkI : (k : Int) < (all.length : Int) := by omega
        have hk0 : (0 : Int) ≤ (k : Int) := by omega
        obtain ⟨g8, cap, hv, hg8, hgl, hcap, hcell, -, -⟩ := ownAt HOW.out hkl
        injection hv with hv1 hv2 hv3
        subst hv1 hv3
        rw [strC_map, List.getElem?_map, List.getElem?_eq_getElem hkl] at hcell
        simp only [Option.map_some] at hcell
        have hys := HSZ.out all[k] (List.getElem_mem hkl)
        have HY := Lib.hid (show all[k]?.getD ⟨#[]⟩ = all[k] by rw [List.getElem?_eq_getElem hkl]; rfl)
        generalize all[k] = y at hcell hys HY
        have HCELL := Lib.hid hcell
        rw [show ((k : Int) + 1).toNat = k + 1 by omega] at HPUT
        have HWR := Lib.hid (fun W hW => dwrite_any d2 HLB2.out A2 c2 (fr + F + (k : Int)) y W hW)
        have hwl2 := @Lg.writeD_left d2 (fr + F + (k : Int)) y HLB2.out
        have hwn := @Lg.writeD_len d2 (fr + F + (k : Int)) y
        rcases hx : Lg.writeD d2 (fr + F + (k : Int)) y with ⟨d3, e3⟩
        have HGO := Lib.hid (fun (he : e3 = 0) => Lg.putAll_go (base := fr + F) (all := all) (k := k) (d := d2) (d2 := d3) (by rw [HY.out, hx, he]))
        have HSTP := Lib.hid (fun (he : e3 ≠ 0) => Lg.putAll_stop (base := fr + F) (all := all) (k := k) (d := d2) (d2 := d3) he (by rw [HY.out, hx]))
        rw [hx] at HWR hwl2 hwn
        simp only at hwl2 hwn
        have HWN := Lib.hid (hwn.trans HLE.out)
        have HWL := Lib.hid hwl2
        clear hx hwl2 hwn hcell hys h0 hwl
        have hs1 : IntKind.i64.wrap (fr + F) = fr + F := IntWalk.i64_in _ (by omega)
        have hs2 : IntKind.i64.wrap (fr + F + (k : Int)) = fr + F + (k : Int) := IntWalk.i64_in _ (by omega)
        go_upto_region 10 with fail
        go_cut [10, 11] (fun p q wc => ∃ (g : Nat) (A3 : Option Addr) (c3 : Nat), p = .pointer (some ⟨g, 0, none⟩) ∧ q = .int .i64 e3 ∧ BxL w.heap.size w [(#[.slice A2 d2.sectors.length c2, .int .i64 d2.left, .bool d2.down], 42), (#[.int .i64 fr, .int .i64 n, .int .i64 en, .int .i64 sf, .string tl], 44), (#[.slice none 0 0, .int .i64 0, .bool false], 42), (#[.int .i64 0, .int .i64 0, .int .i64 0, .int .i64 0, .string ⟨#[]⟩], 44)] wc ∧ w.heap.size + 4 ≤ g ∧ wc.heap[g]? = some (.cells #[.slice A3 d3.sectors.length c3, .int .i64 d3.left, .bool d3.down] 42 (0, 0)) ∧ DiskR wc d3 A3 c3 ∧ (A3 = A ∨ NewT (w.heap.size + 4) wc 9 A3) ∧ OwnL strC 1 9 (w.heap.size + 4) wc (.slice (some ⟨g8, 0, none⟩) all.length c8) all)
        case first =>
          have HBd := Lib.hid HBX.out.drew
          have HOd := Lib.hid (ownBelow HOW.out (Below.refl _ wr).drew)
          have HRd := Lib.hid (HDR.out.below (Below.refl _ wr).drew)
          have hsz := HBX.out.lt (i := 3) (by simp)
          have hsd : wr.heap.size ≤ wr.drew.heap.size := Nat.le_refl _
          refine wp_region_held_drew (S := (fun u => u.heap[w.heap.size]? = some (.cells #[.slice A2 d2.sectors.length c2, .int .i64 d2.left, .bool d2.down] 42 (0, 0)) ∧ u.heap[w.heap.size + 1]? = some (.cells #[.int .i64 fr, .int .i64 n, .int .i64 en, .int .i64 sf, .string tl] 44 (0, 0)) ∧ u.cell? ⟨g8, k, none⟩ = some (.string y))) (by kernel_rfl) ?_ (fun hHeld => ?_)
          · first | exact hSn | exact ⟨HBd.out.get0, HBd.out.get1, HCELL.out⟩
          refine tkW 0 (some 48) (v := ?_) rfl ?_ ?_
          rotate_left
          · intro u hSu; obtain ⟨hSa, hSb, hSc⟩ := hSu; have hSa := blkCell hSa; have hSb := blkCell hSb; go_simp; (try with_reducible rfl)
          try simp only [Act.put, List.setIfInBounds_toArray, List.set_cons_zero, List.set_cons_succ]
          refine tkW 1 (some 49) (v := ?_) rfl ?_ ?_
          rotate_left
          · intro u hSu; obtain ⟨hSa, hSb, hSc⟩ := hSu; have hSa := blkCell hSa; have hSb := blkCell hSb; go_simp; (try with_reducible rfl)
          try simp only [Act.put, List.setIfInBounds_toArray, List.set_cons_zero, List.set_cons_succ]
          refine tkW 2 (some 50) (v := ?_) rfl ?_ ?_
          rotate_left
          · intro u hSu; obtain ⟨hSa, hSb, hSc⟩ := hSu; have hSa := blkCell hSa; have hSb := blkCell hSb; go_simp; (try with_reducible rfl)
          try simp only [Act.put, List.setIfInBounds_toArray, List.set_cons_zero, List.set_cons_succ]
          refine tkW 3 (some 51) (v := ?_) rfl ?_ ?_
          rotate_left
          · intro u hSu; obtain ⟨hSa, hSb, hSc⟩ := hSu; have hSa := blkCell hSa; have hSb := blkCell hSb; go_simp; (try with_reducible rfl)
          try simp only [Act.put, List.setIfInBounds_toArray, List.set_cons_zero, List.set_cons_succ]
          refine tkW 4 (some 52) (v := ?_) rfl ?_ ?_
          rotate_left
          · intro u hSu; obtain ⟨hSa, hSb, hSc⟩ := hSu; have hSa := blkCell hSa; have hSb := blkCell hSb; go_simp; (try with_reducible rfl)
          try simp only [Act.put, List.setIfInBounds_toArray, List.set_cons_zero, List.set_cons_succ]
          refine tkW 5 (some 53) (v := ?_) rfl ?_ ?_
          rotate_left
          · intro u hSu; obtain ⟨hSa, hSb, hSc⟩ := hSu; have hSa := blkCell hSa; have hSb := blkCell hSb; go_simp; (try with_reducible rfl)
          try simp only [Act.put, List.setIfInBounds_toArray, List.set_cons_zero, List.set_cons_succ]
          refine tkW 6 (some 54) (v := ?_) rfl ?_ ?_
          rotate_left
          · intro u hSu; obtain ⟨hSa, hSb, hSc⟩ := hSu; have hSa := blkCell hSa; have hSb := blkCell hSb; go_simp; (try with_reducible rfl)
          try simp only [Act.put, List.setIfInBounds_toArray, List.set_cons_zero, List.set_cons_succ]
          refine tkW 7 (some 55) (v := ?_) rfl ?_ ?_
          rotate_left
          · intro u hSu; obtain ⟨hSa, hSb, hSc⟩ := hSu; have hSa := blkCell hSa; have hSb := blkCell hSb; go_simp; (try with_reducible rfl)
          try simp only [Act.put, List.setIfInBounds_toArray, List.set_cons_zero, List.set_cons_succ]
          refine tkW 8 (some 56) (v := ?_) rfl ?_ ?_
          rotate_left
          · intro u hSu; obtain ⟨hSa, hSb, hSc⟩ := hSu; have hSa := blkCell hSa; have hSb := blkCell hSb; go_simp; (try with_reducible rfl)
          try simp only [Act.put, List.setIfInBounds_toArray, List.set_cons_zero, List.set_cons_succ]
          refine tkW 9 (some 57) (v := ?_) rfl ?_ ?_
          rotate_left
          · intro u hSu; obtain ⟨hSa, hSb, hSc⟩ := hSu; have hSa := blkCell hSa; have hSb := blkCell hSb; go_simp; (try with_reducible rfl)
          try simp only [Act.put, List.setIfInBounds_toArray, List.set_cons_zero, List.set_cons_succ]
          refine tkW 10 (some 58) (v := ?_) rfl ?_ ?_
          rotate_left
          · intro u hSu; obtain ⟨hSa, hSb, hSc⟩ := hSu; have hSa := blkCell hSa; have hSb := blkCell hSb; go_simp; (try with_reducible rfl)
          try simp only [Act.put, List.setIfInBounds_toArray, List.set_cons_zero, List.set_cons_succ]
          refine wpAnyH_ready (rs := [11, 15]) (by kernel_rfl) (by simp) ?_
          refine (AllReadyH.cons (o := { dst := some 59, op := _, type := _, pos := _, after := _, guard := _ }) rfl (fun K hK => ?_) (AllReadyH.cons (o := { dst := some 10, op := _, type := _, pos := _, after := _, guard := _ }) rfl (fun K hK => ?_) AllReadyH.nil))
          ·
            go_simp
            refine (HWR.out _ HRd.out).mono ?_; rintro e w5 ⟨A3, c3, rfl, hd3, ha3, hb5⟩; have HB5 := Lib.hid (HBd.out.step hb5); have HO5 := Lib.hid (ownBelow HOd.out hb5); have hCb := (hb5.cell (p := ⟨g8, k, none⟩) (by first | exact hgl | (simp; omega))).trans HCELL.out; have hSn := And.intro HB5.out.get0 (And.intro HB5.out.get1 hCb)
            refine hK.out _ _ ?_ (fun hHeld => ?_)
            · first | exact hSn | exact ⟨HBd.out.get0, HBd.out.get1, HCELL.out⟩
            clear hK K
            refine tkW 12 (some 47) (v := ?_) rfl ?_ ?_
            rotate_left
            · intro u hSu; obtain ⟨hSa, hSb, hSc⟩ := hSu; have hSa := blkCell hSa; have hSb := blkCell hSb; go_simp; (try with_reducible rfl)
            try simp only [Act.put, List.setIfInBounds_toArray, List.set_cons_zero, List.set_cons_succ]
            refine tkW 13 (some 60) (v := ?_) rfl ?_ ?_
            rotate_left
            · intro u hSu; obtain ⟨hSa, hSb, hSc⟩ := hSu; have hSa := blkCell hSa; have hSb := blkCell hSb; go_simp; (try with_reducible rfl)
            try simp only [Act.put, List.setIfInBounds_toArray, List.set_cons_zero, List.set_cons_succ]
            refine tkW 14 (some 61) (v := ?_) rfl ?_ ?_
            rotate_left
            · intro u hSu; obtain ⟨hSa, hSb, hSc⟩ := hSu; have hSa := blkCell hSa; have hSb := blkCell hSb; go_simp; (try with_reducible rfl)
            try simp only [Act.put, List.setIfInBounds_toArray, List.set_cons_zero, List.set_cons_succ]
            refine rdH 15 (some 10) rfl (fun K hK => ?_)
            go_simp
            have HB6 := Lib.hid (HB5.out.step (allocB w5 (.cells #[.slice none 0 0, .int .i64 0, .bool false] 42))); have HO6 := Lib.hid (ownBelow HO5.out (allocB w5 (.cells #[.slice none 0 0, .int .i64 0, .bool false] 42))); have hd6 := hd3.below (allocB w5 (.cells #[.slice none 0 0, .int .i64 0, .bool false] 42)); have hCc := ((allocB w5 (.cells #[.slice none 0 0, .int .i64 0, .bool false] 42)).cell (p := ⟨g8, k, none⟩) (Nat.lt_of_lt_of_le hgl hb5.size)).trans hCb; have HG5 := heap_alloc_new w5 (.cells #[.slice none 0 0, .int .i64 0, .bool false] 42); clear hSn; have hSn := And.intro HB6.out.get0 (And.intro HB6.out.get1 hCc)
            refine hK.out _ _ ?_ (fun hHeld => ?_)
            · first | exact hSn | exact ⟨HBd.out.get0, HBd.out.get1, HCELL.out⟩
            clear hK K
            try simp only [Act.put, List.setIfInBounds_toArray, List.set_cons_zero, List.set_cons_succ]
            refine rdH 16 none rfl (fun K hK => ?_)
            refine wantedIf (by rfl) ?_
            refine wp_store_whole 42 (.tmp 10) (.tmp 60) rfl w5.heap.size #[.slice A3 d3.sectors.length c3, .int .i64 d3.left, .bool d3.down] _ _ rfl rfl HG5 (by kernel_rfl) (by kernel_rfl) (by kernel_rfl) ?_
            have hg4 : w.heap.size + 4 ≤ w5.heap.size := (by have := hb5.size; omega)
            have HAP := Lib.hid ((Apart.refl w5.heap.size (w5.heap.size + 1) (w5.alloc (.cells #[.slice none 0 0, .int .i64 0, .bool false] 42))).row w5.heap.size #[.slice A3 d3.sectors.length c3, .int .i64 d3.left, .bool d3.down] (Nat.le_refl _) (Nat.lt_succ_self _))
            have HB7 := Lib.hid (HB6.out.under (M := w5.heap.size) (by show w.heap.size + 4 ≤ _; exact hg4) (show Below w5.heap.size (w5.alloc (.cells #[.slice none 0 0, .int .i64 0, .bool false] 42)) ((w5.alloc (.cells #[.slice none 0 0, .int .i64 0, .bool false] 42)).setRow w5.heap.size #[.slice A3 d3.sectors.length c3, .int .i64 d3.left, .bool d3.down]) from ⟨rfl, rfl, rfl, HAP.out.size, fun j hj => heap_setRow_other (w5.alloc (.cells #[.slice none 0 0, .int .i64 0, .bool false] 42)) w5.heap.size #[.slice A3 d3.sectors.length c3, .int .i64 d3.left, .bool d3.down] j (by omega)⟩))
            have hd7 : DiskR ((w5.alloc (.cells #[.slice none 0 0, .int .i64 0, .bool false] 42)).setRow w5.heap.size #[.slice A3 d3.sectors.length c3, .int .i64 d3.left, .bool d3.down]) d3 A3 c3 := ⟨hd6.secs.apart HAP.out (fun h0 ad e => .inl (hd3.secs.old h0 ad e)), hd6.small⟩
            have HG7 : ((w5.alloc (.cells #[.slice none 0 0, .int .i64 0, .bool false] 42)).setRow w5.heap.size #[.slice A3 d3.sectors.length c3, .int .i64 d3.left, .bool d3.down]).heap[w5.heap.size]? = some (.cells #[.slice A3 d3.sectors.length c3, .int .i64 d3.left, .bool d3.down] 42 (0, 0)) := setRow_heap _ _ _ _ _ _ HG5
            have HO7 := ownOther HO6.out HG5 (by decide) #[.slice A3 d3.sectors.length c3, .int .i64 d3.left, .bool d3.down]
            have hC7 := (cellOther (cs := #[.slice A3 d3.sectors.length c3, .int .i64 d3.left, .bool d3.down]) hCc HG5 (ownCell HO6.out HG5 (by decide)))
            clear hSn
            have hSn := And.intro HB7.out.get0 (And.intro HB7.out.get1 hC7)
            refine hK.out _ _ ?_ (fun hHeld => ?_)
            · first | exact hSn | exact ⟨HBd.out.get0, HBd.out.get1, HCELL.out⟩
            clear hK K
            try simp only [Act.put]
            refine tkW 17 (some 11) (v := ?_) rfl ?_ ?_
            rotate_left
            · intro u hSu; obtain ⟨hSa, hSb, hSc⟩ := hSu; have hSa := blkCell hSa; have hSb := blkCell hSb; go_simp; (try with_reducible rfl)
            try simp only [Act.put, List.setIfInBounds_toArray, List.set_cons_zero, List.set_cons_succ]
            refine wpAnyH_done (by kernel_rfl) ?_ _
            clear hHeld hSn
            go_wp2_with fail
            go_meet
            case rel => exact ⟨_, A3, c3, rfl, rfl, HB7.out, hg4, HG7, hd7, (ha3.elim (fun h1 => by rw [h1]; exact HAW.out.imp id (fun h2 => (((h2.below (Below.refl _ wr).drew).below hb5).below (allocB w5 (.cells #[.slice none 0 0, .int .i64 0, .bool false] 42))).row _ _)) (fun h1 => .inr (((h1.below (allocB w5 (.cells #[.slice none 0 0, .int .i64 0, .bool false] 42))).row _ _).mono (by first | (simp; omega) | omega)))), HO7⟩
          ·
            go_simp
            have HBa := Lib.hid (HBd.out.step (allocB wr.drew (.cells #[.slice none 0 0, .int .i64 0, .bool false] 42))); have HOa := Lib.hid (ownBelow HOd.out (allocB wr.drew (.cells #[.slice none 0 0, .int .i64 0, .bool false] 42))); have HRa := Lib.hid (HRd.out.below (allocB wr.drew (.cells #[.slice none 0 0, .int .i64 0, .bool false] 42))); have HCa := Lib.hid (((allocB wr.drew (.cells #[.slice none 0 0, .int .i64 0, .bool false] 42)).cell (p := ⟨g8, k, none⟩) hgl).trans HCELL.out); have hSn := And.intro HBa.out.get0 (And.intro HBa.out.get1 HCa.out)
            refine hK.out _ _ ?_ (fun hHeld => ?_)
            · first | exact hSn | exact ⟨HBd.out.get0, HBd.out.get1, HCELL.out⟩
            clear hK K
            try simp only [Act.put, List.setIfInBounds_toArray, List.set_cons_zero, List.set_cons_succ]
            refine rdH 11 (some 59) rfl (fun K hK => ?_)
            go_simp
            refine (HWR.out _ HRa.out).mono ?_; rintro e w5 ⟨A3, c3, rfl, hd3, ha3, hb5⟩; have HB5 := Lib.hid (HBa.out.step hb5); have HO5 := Lib.hid (ownBelow HOa.out hb5); have hCb := (hb5.cell (p := ⟨g8, k, none⟩) (by first | exact hgl | (simp; omega))).trans HCa.out; have hSn := And.intro HB5.out.get0 (And.intro HB5.out.get1 hCb); have HG5 := blkNew hb5
            refine hK.out _ _ ?_ (fun hHeld => ?_)
            · first | exact hSn | exact ⟨HBd.out.get0, HBd.out.get1, HCELL.out⟩
            clear hK K
            refine tkW 12 (some 47) (v := ?_) rfl ?_ ?_
            rotate_left
            · intro u hSu; obtain ⟨hSa, hSb, hSc⟩ := hSu; have hSa := blkCell hSa; have hSb := blkCell hSb; go_simp; (try with_reducible rfl)
            try simp only [Act.put, List.setIfInBounds_toArray, List.set_cons_zero, List.set_cons_succ]
            refine tkW 13 (some 60) (v := ?_) rfl ?_ ?_
            rotate_left
            · intro u hSu; obtain ⟨hSa, hSb, hSc⟩ := hSu; have hSa := blkCell hSa; have hSb := blkCell hSb; go_simp; (try with_reducible rfl)
            try simp only [Act.put, List.setIfInBounds_toArray, List.set_cons_zero, List.set_cons_succ]
            refine tkW 14 (some 61) (v := ?_) rfl ?_ ?_
            rotate_left
            · intro u hSu; obtain ⟨hSa, hSb, hSc⟩ := hSu; have hSa := blkCell hSa; have hSb := blkCell hSb; go_simp; (try with_reducible rfl)
            try simp only [Act.put, List.setIfInBounds_toArray, List.set_cons_zero, List.set_cons_succ]
            refine rdH 16 none rfl (fun K hK => ?_)
            refine wantedIf (by rfl) ?_
            refine wp_store_whole 42 (.tmp 10) (.tmp 60) rfl wr.drew.heap.size #[.slice A3 d3.sectors.length c3, .int .i64 d3.left, .bool d3.down] _ _ rfl rfl HG5 (by kernel_rfl) (by kernel_rfl) (by kernel_rfl) ?_
            have hg4 : w.heap.size + 4 ≤ wr.drew.heap.size := (by omega)
            have HAP := Lib.hid ((Apart.refl wr.drew.heap.size (wr.drew.heap.size + 1) w5).row wr.drew.heap.size #[.slice A3 d3.sectors.length c3, .int .i64 d3.left, .bool d3.down] (Nat.le_refl _) (Nat.lt_succ_self _))
            have HB7 := Lib.hid (HB5.out.under (M := wr.drew.heap.size) (by show w.heap.size + 4 ≤ _; exact hg4) (show Below wr.drew.heap.size w5 (w5.setRow wr.drew.heap.size #[.slice A3 d3.sectors.length c3, .int .i64 d3.left, .bool d3.down]) from ⟨rfl, rfl, rfl, HAP.out.size, fun j hj => heap_setRow_other w5 wr.drew.heap.size #[.slice A3 d3.sectors.length c3, .int .i64 d3.left, .bool d3.down] j (by omega)⟩))
            have hd7 : DiskR (w5.setRow wr.drew.heap.size #[.slice A3 d3.sectors.length c3, .int .i64 d3.left, .bool d3.down]) d3 A3 c3 := ⟨hd3.secs.apart HAP.out (fun h0 ad e => ha3.elim (fun h1 => by rw [h1] at e; have := HDR.out.secs.old (by rw [HLE.out, ← HWN.out]; exact h0) ad e; left; exact this) (fun h1 => by have := h1 ad e; right; have := this.1; simp at this ⊢; omega)), hd3.small⟩
            have HG7 : (w5.setRow wr.drew.heap.size #[.slice A3 d3.sectors.length c3, .int .i64 d3.left, .bool d3.down]).heap[wr.drew.heap.size]? = some (.cells #[.slice A3 d3.sectors.length c3, .int .i64 d3.left, .bool d3.down] 42 (0, 0)) := setRow_heap _ _ _ _ _ _ HG5
            have HO7 := ownOther HO5.out HG5 (by decide) #[.slice A3 d3.sectors.length c3, .int .i64 d3.left, .bool d3.down]
            have hC7 := (cellOther (cs := #[.slice A3 d3.sectors.length c3, .int .i64 d3.left, .bool d3.down]) hCb HG5 (ownCell HO5.out HG5 (by decide)))
            clear hSn
            have hSn := And.intro HB7.out.get0 (And.intro HB7.out.get1 hC7)
            refine hK.out _ _ ?_ (fun hHeld => ?_)
            · first | exact hSn | exact ⟨HBd.out.get0, HBd.out.get1, HCELL.out⟩
            clear hK K
            try simp only [Act.put]
            refine tkW 17 (some 11) (v := ?_) rfl ?_ ?_
            rotate_left
            · intro u hSu; obtain ⟨hSa, hSb, hSc⟩ := hSu; have hSa := blkCell hSa; have hSb := blkCell hSb; go_simp; (try with_reducible rfl)
            try simp only [Act.put, List.setIfInBounds_toArray, List.set_cons_zero, List.set_cons_succ]
            refine wpAnyH_done (by kernel_rfl) ?_ _
            clear hHeld hSn
            go_wp2_with fail
            go_meet
            case rel => exact ⟨_, A3, c3, rfl, rfl, HB7.out, hg4, HG7, hd7, (ha3.elim (fun h1 => by rw [h1]; exact HAW.out.imp id (fun h2 => (((h2.below (Below.refl _ wr).drew).below (allocB wr.drew (.cells #[.slice none 0 0, .int .i64 0, .bool false] 42))).below hb5).row _ _)) (fun h1 => .inr ((h1.row _ _).mono (by first | (simp; omega) | omega)))), HO7⟩
        case rest =>
          obtain ⟨g, A3, c3, rfl, rfl, hb3, hg4, hg3, hd3, ha3, ho3⟩ := hcut
          obtain ⟨wb, rfl⟩ : ∃ wm : World, wm = wc := ⟨_, rfl⟩
          have HB3 := Lib.hid hb3
          have HG3 := Lib.hid hg3
          have HD3 := Lib.hid hd3
          have HO3 := Lib.hid ho3
          have HA3 := Lib.hid ha3
          have HFR := Lib.hid (show 0 < d3.sectors.length → ∀ ad, A3 = some ad → ad.block < w.heap.size ∨ w.heap.size + 4 ≤ ad.block from fun h0 ad e => HA3.out.elim (fun h1 => by rw [h1] at e; exact .inl (HR.out.secs.old (by rw [← HWN.out]; exact h0) ad e)) (fun h1 => .inr (h1 ad e).1))
          clear hb3 hg3 hd3 ho3 ha3 HBX HOW HDR HAW HFAR HWR HCELL hs1 hs2
          go_upto_region 12 with (first
            | (with_reducible refine listLoad (by kernel_rfl) 42 (.tmp 10) rfl g rfl #[.slice A3 d3.sectors.length c3, .int .i64 d3.left, .bool d3.down] _ HG3.out _ Try.underlying42 (by kernel_rfl) (by kernel_rfl) ?_)
            | (with_reducible refine listStore (by kernel_rfl) 42 (.tmp 2) (.tmp 62) rfl w.heap.size #[.slice A3 d3.sectors.length c3, .int .i64 d3.left, .bool d3.down] _ _ rfl rfl HB3.out.get0 (by kernel_rfl) (by kernel_rfl) (by kernel_rfl) ?_))
          have HB4 := Lib.hid (show BxL w.heap.size w [(#[.slice A3 d3.sectors.length c3, .int .i64 d3.left, .bool d3.down], 42), (#[.int .i64 fr, .int .i64 n, .int .i64 en, .int .i64 sf, .string tl], 44), (#[.slice none 0 0, .int .i64 0, .bool false], 42), (#[.int .i64 0, .int .i64 0, .int .i64 0, .int .i64 0, .string ⟨#[]⟩], 44)] (wb.setRow w.heap.size #[.slice A3 d3.sectors.length c3, .int .i64 d3.left, .bool d3.down]) from by have h := HB3.out.row 0 #[.slice A3 d3.sectors.length c3, .int .i64 d3.left, .bool d3.down] _ rfl; simpa using h)
          have HAP4 := Lib.hid ((Apart.refl w.heap.size (w.heap.size + 4) wb).row w.heap.size #[.slice A3 d3.sectors.length c3, .int .i64 d3.left, .bool d3.down] (Nat.le_refl _) (by omega))
          have HO4 := Lib.hid (rowApart HO3.out (Nat.le_refl _) HAP4.out)
          have HD4 := Lib.hid (show DiskR (wb.setRow w.heap.size #[.slice A3 d3.sectors.length c3, .int .i64 d3.left, .bool d3.down]) d3 A3 c3 from ⟨HD3.out.secs.apart HAP4.out HFR.out, HD3.out.small⟩)
          have HA4 := Lib.hid (HA3.out.imp id (fun h => h.row w.heap.size #[.slice A3 d3.sectors.length c3, .int .i64 d3.left, .bool d3.down]))
          obtain ⟨W4, hW4⟩ : ∃ W, W = wb.setRow w.heap.size #[.slice A3 d3.sectors.length c3, .int .i64 d3.left, .bool d3.down] := ⟨_, rfl⟩
          rw [← hW4] at HB4 HAP4 HO4 HD4 HA4 ⊢
          clear hW4 HB3 HG3 HD3 HO3 HAP4
          by_cases he : e3 = 0
          · have HG := Lib.hid (HPUT.out.trans (HGO.out he))
            subst he
            clear HGO HSTP
            have hwk : IntKind.i64.wrap ((k : Int) - 1) = (k : Int) - 1 := IntWalk.i64_in _ (by omega)
            go_wp2_with fail
            go_roundw
            case rel => exact ⟨(k : Int) - 1, d3, A3, c3, rfl, by omega, by omega, by rw [show ((k : Int) - 1 + 1).toNat = k by omega]; exact HG.out, HB4.out, HD4.out, HA4.out, HWL.out, HWN.out, HO4.out⟩
            case measure => first | (simp [intOf]; done) | (simp [intOf]; omega)
          · have HFIN := Lib.hid (HST.out d3 e3 he (HPUT.out.trans (HSTP.out he)))
            have he1 : (e3 == 0) = false := by simpa using he
            have he2 : (e3 != 0) = true := by simpa using he
            clear HGO HSTP he
            go_upto_region 13 with fail
            have HD := Lib.hid HB4.out.drew
            refine wp_region_held_drew (S := (fun u => u.heap[w.heap.size]? = some (.cells #[.slice A3 d3.sectors.length c3, .int .i64 d3.left, .bool d3.down] 42 (0, 0)) ∧ u.heap[w.heap.size + 1]? = some (.cells #[.int .i64 fr, .int .i64 n, .int .i64 en, .int .i64 sf, .string tl] 44 (0, 0)))) (by kernel_rfl) ?_ (fun hHeld => ?_)
            · exact ⟨(HD.out.get0), (HD.out.get1)⟩
            refine tkW 0 (some 65) (v := ?_) rfl ?_ ?_
            rotate_left
            · intro u hSu; have hSa := blkCell hSu.1; have hSb := blkCell hSu.2; clear hSu; go_simp; (try with_reducible rfl)
            try simp only [Act.put, List.setIfInBounds_toArray, List.set_cons_zero, List.set_cons_succ]
            refine tkW 1 (some 66) (v := ?_) rfl ?_ ?_
            rotate_left
            · intro u hSu; have hSa := blkCell hSu.1; have hSb := blkCell hSu.2; clear hSu; go_simp; (try with_reducible rfl)
            try simp only [Act.put, List.setIfInBounds_toArray, List.set_cons_zero, List.set_cons_succ]
            refine tkW 2 (some 67) (v := ?_) rfl ?_ ?_
            rotate_left
            · intro u hSu; have hSa := blkCell hSu.1; have hSb := blkCell hSu.2; clear hSu; go_simp; (try with_reducible rfl)
            try simp only [Act.put, List.setIfInBounds_toArray, List.set_cons_zero, List.set_cons_succ]
            refine rdH 3 none rfl (fun K hK => ?_)
            refine wantedIf (by rfl) ?_
            refine wp_store_whole 42 (.tmp 4) (.tmp 65) rfl (w.heap.size + 2) #[.slice A3 d3.sectors.length c3, .int .i64 d3.left, .bool d3.down] _ _ rfl rfl (HD.out.get 2 _ rfl) (by kernel_rfl) (by kernel_rfl) (by kernel_rfl) ?_
            have HE := Lib.hid (HD.out.row 2 #[.slice A3 d3.sectors.length c3, .int .i64 d3.left, .bool d3.down] _ rfl)
            have hSn := And.intro (HE.out.get0) (HE.out.get1)
            refine hK.out _ _ ?_ (fun hHeld => ?_)
            · exact hSn
            clear hK K
            try simp only [Act.put]
            refine rdH 4 none rfl (fun K hK => ?_)
            refine wantedIf (by rfl) ?_
            refine wp_store_whole 44 (.tmp 5) (.tmp 66) rfl (w.heap.size + 3) #[.int .i64 fr, .int .i64 n, .int .i64 en, .int .i64 sf, .string tl] _ _ rfl rfl (HE.out.get 3 _ rfl) (by kernel_rfl) (by kernel_rfl) (by kernel_rfl) ?_
            have HG := Lib.hid (HE.out.row 3 #[.int .i64 fr, .int .i64 n, .int .i64 en, .int .i64 sf, .string tl] _ rfl)
            clear hSn
            have hSn := And.intro (HG.out.get0) (HG.out.get1)
            refine hK.out _ _ ?_ (fun hHeld => ?_)
            · exact hSn
            clear hK K
            try simp only [Act.put]
            refine tkW 5 (some 6) (v := ?_) rfl ?_ ?_
            rotate_left
            · intro u hSu; have hSa := blkCell hSu.1; have hSb := blkCell hSu.2; clear hSu; go_simp; (try with_reducible rfl)
            try simp only [Act.put, List.setIfInBounds_toArray, List.set_cons_zero, List.set_cons_succ]
            refine wpAnyH_done (by kernel_rfl) ?_ _
            clear hHeld hSn
            go_wp2_with fail
            refine bodyPost_ret (v := .tuple #[.agg #[.slice A3 d3.sectors.length c3, .int .i64 d3.left, .bool d3.down], .agg #[.int .i64 fr, .int .i64 n, .int .i64 en, .int .i64 sf, .string tl], .int .i64 e3]) (results_cells rfl _ _ rfl rfl (load_whole (HG.out.get 2 _ rfl) Try.underlying42 (by kernel_rfl) (by kernel_rfl)) (load_whole (HG.out.get 3 _ rfl) Try.underlying44 (by kernel_rfl) (by kernel_rfl)) rfl) rfl ?_
            exact HO.out A3 c3 _ (d3, ⟨fr, n, en, sf, tl⟩, e3) HFIN.out ⟨HD4.out.secs.apart (((Apart.refl _ _ _).drew.row _ _ (by omega) (by omega)).row _ _ (by omega) (by omega)) HFR.out, HD4.out.small⟩ (HA4.out.imp id (fun h => (h.apart (lo := w.heap.size) (hi := w.heap.size + 4) (((Apart.refl _ _ _).drew.row _ _ (by omega) (by omega)).row _ _ (by omega) (by omega)) (Nat.le_refl _)).mono (by omega))) HG.out.below
/-- Force, of any disk and log that calls made. -/
theorem force_any (d : Lg.Dk) (hlb : -9223372036854775808 ≤ d.left ∧ d.left ≤ 9223372036854775807) (A : Option Addr) (c : Nat) (l : Lg.Lo) (he0 : 0 ≤ l.end_) (he1 : l.end_ ≤ 1000000000) (hn0 : -1000000000 ≤ l.n) (hn1 : l.n ≤ 1000000000) (hf0 : -1000000000 ≤ l.from_) (hf1 : l.from_ ≤ 1000000000) (ht : l.tail.size ≤ 1000000) (hte : (l.tail.size : Int) ≤ l.end_) (hmod : l.end_ % 128 ≤ (l.tail.size : Int)) (w : World) (h : DiskR w d A c) :
    Calls Try.prog 13 #[diskV d A c, logV l] w (ForceOut (Lg.forceD d l) A w) := by
  obtain ⟨fr, n, en, sf, tl⟩ := l
  by_cases hse : sf = en
  · subst hse
    exact force_none d.sectors d.left d.down A c fr n sf tl _ (Lg.force_same rfl) w h
  · exact force_go d hlb A c fr n en sf tl hse he0 he1 hn0 hn1 hf0 hf1 ht hte hmod w h
end Go.Proofs.Ythfglhafphfhiaa
