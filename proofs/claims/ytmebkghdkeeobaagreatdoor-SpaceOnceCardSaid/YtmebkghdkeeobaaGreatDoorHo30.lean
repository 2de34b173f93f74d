import Derived.Test.YtmebkghdkeeobaaGreatDoorHo00
import Derived.Test.YtmebkghdkeeobaaGreatDoorHo29
set_option maxRecDepth 100000
set_option maxHeartbeats 16000000
set_option linter.unusedSimpArgs false
namespace Go.Proofs.YtmebkghdkeeobaaGreatDoor
open Go.RowKit Sc
structure Sac where
  fr : Bool
  n : Int
def sacC (a : Sac) : List Value := [.bool a.fr, .int .i64 a.n]
theorem sacC_len (a : Sac) : (sacC a).length = 2 := rfl
def usedA (u : Nat → Nat) (n : Nat) : Array Value := ((List.range n).map fun q => Value.int .i64 (u q : Int)).toArray
theorem usedA_at (u : Nat → Nat) {n q : Nat} (h : q < n) : (usedA u n)[q]? = some (.int .i64 (u q : Int)) := by
  unfold usedA
  rw [List.getElem?_toArray, List.getElem?_map, List.getElem?_range h]; rfl
theorem usedA_size (u : Nat → Nat) (n : Nat) : (usedA u n).size = n := by unfold usedA; simp
theorem usedA_set (u : Nat → Nat) {n q : Nat} (_h : q < n) (v : Nat) : (usedA u n).setIfInBounds q (.int .i64 (v : Int)) = usedA (fun x => if x = q then v else u x) n := by
  apply Array.ext_getElem?
  intro i
  rw [Array.getElem?_setIfInBounds, usedA_size]
  by_cases hi : i < n
  · rw [usedA_at (fun x => if x = q then v else u x) hi]
    by_cases e : q = i
    · subst e; simp [hi]
    · rw [if_neg e, usedA_at _ hi, if_neg (fun h => e h.symm)]
  · rw [Array.getElem?_eq_none (xs := usedA (fun x => if x = q then v else u x) n) (by rw [usedA_size]; omega), if_neg (by omega)]
    exact Array.getElem?_eq_none (by rw [usedA_size]; omega)
theorem usedA_zero (n : Nat) : madeCells #[Value.int .i64 0] n = usedA (fun _ => 0) n := by
  apply Array.ext_getElem?
  intro i
  by_cases hi : i < n
  · rw [made_at _ _ _ hi, usedA_at _ hi]
    show some (#[Value.int .i64 0][i % 1]!) = _
    rw [Nat.mod_one]; rfl
  · rw [Array.getElem?_eq_none (by rw [size_madeCells]; omega), Array.getElem?_eq_none (by rw [usedA_size]; omega)]
theorem make_used (n : Nat) (hn : n ≤ 60) (W : World) : (Instr.makeSlice 47 (.int .i64 (n : Int)) (.int .i64 (n : Int))).run Tryz.prog W = .ok (.slice (some ⟨W.heap.size, 0, none⟩) n n) (W.alloc (.cells (usedA (fun _ => 0) n) 3)) := by
  obtain ⟨i0, hi, hz0, hz1, hz2⟩ := info_parts info_num
  have h := run_make (P := Tryz.prog) W 47 3 i0 (.int .i64 0) Tryz.underlying47 hi hz0 .i64 .i64 (n : Int) (n : Int) (by omega) (by omega) (by rw [hz2]; omega) (by omega)
  rw [hz1, Int.toNat_natCast, Nat.mul_one] at h
  rw [← usedA_zero]
  exact h
theorem inUse_split (u : Nat → Nat) {i : Nat} (hu : 0 < u i) : ∀ n, i < n → ∃ t, inUse u n = inUse u i ++ (i : Int) :: t
  | 0, h => absurd h (by omega)
  | n + 1, h => by
    by_cases e : i = n
    · subst e; exact ⟨[], inUse_yes hu⟩
    · obtain ⟨t, ht⟩ := inUse_split u hu n (by omega)
      by_cases hn : 0 < u n
      · exact ⟨t ++ [(n : Int)], by rw [inUse_yes hn, ht]; simp⟩
      · exact ⟨t, by rw [inUse_no hn, ht]⟩
theorem inUse_at {u : Nat → Nat} {i n : Nat} (hu : 0 < u i) (hi : i < n) : ∃ h : (inUse u i).length < (inUse u n).length, (inUse u n)[(inUse u i).length] = (i : Int) := by
  obtain ⟨t, ht⟩ := inUse_split u hu n hi
  have hl : (inUse u i).length < (inUse u n).length := by rw [ht]; simp
  refine ⟨hl, ?_⟩
  have h2 : (inUse u n)[(inUse u i).length]? = some (i : Int) := by rw [ht]; simp
  rw [List.getElem?_eq_getElem hl] at h2
  exact Option.some.inj h2
structure OnI (n k g8 gk gu : Nat) (w wr : World) (j : Nat) (s : Tx.St) (p : SP) (fs : List Fr) (C : Nat → ByteArray) (b : ByteArray) (u : Nat → Nat) : Prop where
  st : wr.heap[g8]? = some (.cells (stA s p) 36 (0, 0))
  kd : wr.heap[gk]? = some (.cells #[.int .i64 2, .int .i64 3, .int .i64 4] 3 (0, 0))
  us : wr.heap[gu]? = some (.cells (usedA u n) 3 (0, 0))
  pr : PoolR wr s p fs
  ss : SS 3000 n k [1] (3786 + 5048 * (j : Int)) s fs C
  si : SI n C b u
  be : Below w.heap.size w wr
theorem OnI.below {n k g8 gk gu : Nat} {w wr v : World} {j : Nat} {s : Tx.St} {p : SP} {fs : List Fr} {C : Nat → ByteArray} {b : ByteArray} {u : Nat → Nat} (h : OnI n k g8 gk gu w wr j s p fs C b u) (hb : Below wr.heap.size wr v) : OnI n k g8 gk gu w v j s p fs C b u :=
  ⟨blkOld h.st hb, blkOld h.kd hb, blkOld h.us hb, h.pr.below hb, h.ss, h.si, joinB h.be hb⟩
theorem OnI.put {n k g8 gk gu : Nat} {w wr : World} {j j2 : Nat} {s s2 : Tx.St} {p p2 : SP} {fs fs2 : List Fr} {C C2 : Nat → ByteArray} {b b2 : ByteArray} {u u2 : Nat → Nat} (h : OnI n k g8 gk gu w wr j s p fs C b u)
    (hp : PoolR wr s2 p2 fs2) (hs : SS 3000 n k [1] (3786 + 5048 * (j2 : Int)) s2 fs2 C2) (hi : SI n C2 b2 u2) (hu : usedA u n = usedA u2 n) (h1 : w.heap.size ≤ g8) (h2 : gk ≠ g8) (h3 : gu ≠ g8) : OnI n k g8 gk gu w (wr.setRow g8 (stA s2 p2)) j2 s2 p2 fs2 C2 b2 u2 :=
  ⟨setRow_heap _ _ _ _ _ _ h.st, (heap_setRow_other _ _ _ _ h2).trans h.kd, by rw [← hu]; exact (heap_setRow_other _ _ _ _ h3).trans h.us, hp.other (t := 36) h.st (by decide) (by decide) (by decide) _, hs, hi, rowB h1 h.be _⟩
theorem OnI.num {n k g8 gk gu : Nat} {w wr : World} {j : Nat} {s : Tx.St} {p : SP} {fs : List Fr} {C : Nat → ByteArray} {b : ByteArray} {u : Nat → Nat} {v0 : Nat → Nat} (hus : wr.heap[gu]? = some (.cells (usedA v0 n) 3 (0, 0))) (hst : wr.heap[g8]? = some (.cells (stA s p) 36 (0, 0))) (hkd : wr.heap[gk]? = some (.cells #[.int .i64 2, .int .i64 3, .int .i64 4] 3 (0, 0)))
    (hp : PoolR wr s p fs) (hs : SS 3000 n k [1] (3786 + 5048 * (j : Int)) s fs C) (hi : SI n C b u) (hb : Below w.heap.size w wr) {q : Nat} (hq : q < n) (x : Nat) (hu : usedA (fun y => if y = q then x else v0 y) n = usedA u n) (h1 : w.heap.size ≤ gu) (h2 : gk ≠ gu) (h3 : g8 ≠ gu) : OnI n k g8 gk gu w (wr.setCell ⟨gu, q, none⟩ (.int .i64 (x : Int))) j s p fs C b u :=
  ⟨(Below.heap_setCell _ _ _ _ h3).trans hst, (Below.heap_setCell _ _ _ _ h2).trans hkd, by have h9 := blkSet q hus (.int .i64 (x : Int)); rw [usedA_set v0 hq x, hu] at h9; exact h9, hp.set (t := 3) hus (by decide) (by decide) (by decide) q _, hs, hi, hb.setCell (p := ⟨gu, q, none⟩) h1 _⟩
set_option maxRecDepth 100000 in
set_option maxHeartbeats 32000000 in
theorem lonce_any (x0 x1 : Nat) (h0 : x0 < 256) (h1 : x1 < 256) (acts : List Sac) (A : Option Addr) (c : Nat) (w : World) (hr : Reads w A c acts.length (acts.flatMap sacC)) :
    Calls Tryz.prog 4 #[.int .u8 (x0 : Int), .int .u8 (x1 : Int), .slice A acts.length c] w fun e w' => e = .returned (.bool true) ∧ Below w.heap.size w w' := by
  have HAW := Lib.hid (fun W => lawake_any W)
  by_cases hmany : acts.length ≤ 40
  · have hm0 : ¬ (40 : Int) < (acts.length : Int) := by omega
    have HRD := Lib.hid (fun W (hb : Below w.heap.size w W) => hr.below hb)
    obtain ⟨n, hn⟩ : ∃ n, n = 1 + x0 % 30 := ⟨_, rfl⟩
    obtain ⟨k, hk⟩ : ∃ k, k = 1 + x1 % 8 := ⟨_, rfl⟩
    have hn1 : 1 ≤ n ∧ n ≤ 30 := by omega
    have hk1 : 1 ≤ k ∧ k ≤ 8 := by omega
    have hc0 : IntKind.i64.wrap (x0 : Int) = (x0 : Int) := IntWalk.i64_in _ (by omega)
    have hc1 : IntKind.i64.wrap (x1 : Int) = (x1 : Int) := IntWalk.i64_in _ (by omega)
    have ht0 : Int.tmod (x0 : Int) 30 = ((x0 % 30 : Nat) : Int) := by rw [Int.tmod_eq_emod_of_nonneg (by omega)]; omega
    have ht1 : Int.tmod (x1 : Int) 8 = ((x1 % 8 : Nat) : Int) := by rw [Int.tmod_eq_emod_of_nonneg (by omega)]; omega
    have hw0 : IntKind.i64.wrap ((x0 % 30 : Nat) : Int) = ((x0 % 30 : Nat) : Int) := IntWalk.i64_in _ (by omega)
    have hw1 : IntKind.i64.wrap ((x1 % 8 : Nat) : Int) = ((x1 % 8 : Nat) : Int) := IntWalk.i64_in _ (by omega)
    have ha0 : IntKind.i64.wrap (1 + ((x0 % 30 : Nat) : Int)) = (n : Int) := by rw [IntWalk.i64_in _ (by omega)]; omega
    have ha1 : IntKind.i64.wrap (1 + ((x1 % 8 : Nat) : Int)) = (k : Int) := by rw [IntWalk.i64_in _ (by omega)]; omega
    generalize ((x0 % 30 : Nat) : Int) = m0 at ht0 hw0 ha0
    generalize ((x1 % 8 : Nat) : Int) = m1 at ht1 hw1 ha1
    have HFM := Lib.hid (fun W => lformat_any n k (by omega) (by omega) W)
    have hmk := fun W => make_used n (by omega) W
    clear hn hk hr
    go_enter Tryz.func4, Tryz.ntmps4
    go_upto_region 7 with (first
      | (go_at_call 7; (refine (HFM.out _).mono ?_); rintro e v1 ⟨s0, p0, fs0, C0, rfl, hp1, hs1, hu1, hb1⟩)
      | (with_reducible refine wpList_store_new rfl 36 (.tmp 8) (.tmp 46) rfl (stA s0 p0) _ _ rfl (by kernel_rfl) (by kernel_rfl) (by kernel_rfl) (by kernel_rfl) ?_))
    have HB2 := Lib.hid (joinB hb1 (allocB v1 (.cells (stA s0 p0) 36)))
    have HG2 := Lib.hid (heap_alloc_new v1 (.cells (stA s0 p0) 36))
    have HP2 := Lib.hid (hp1.below (allocB v1 (.cells (stA s0 p0) 36)))
    have HS2 := Lib.hid hs1
    have HU2 := Lib.hid hu1
    have hlo : w.heap.size ≤ v1.heap.size := hb1.size
    obtain ⟨g8, hg⟩ : ∃ g, g = v1.heap.size := ⟨_, rfl⟩
    obtain ⟨w2, hw2⟩ : ∃ W, W = v1.alloc (.cells (stA s0 p0) 36) := ⟨_, rfl⟩
    rw [← hg, ← hw2] at HG2
    rw [← hw2] at HB2 HP2
    rw [← hw2, ← hg]
    rw [← hg] at hlo
    have hg2 : g8 < w2.heap.size := heapLt HG2.out
    clear hw2 hg hb1 hp1 hs1 hu1 HFM hc0 hc1 ht0 ht1 hw0 hw1 ha0 ha1
    try simp only [Act.put]
    go_upto_region 8 with fail
    have HG3 := Lib.hid (heap_alloc_new w2 (.cells #[.int .i64 2, .int .i64 3, .int .i64 4] 3))
    have hb3 := allocB w2 (.cells #[.int .i64 2, .int .i64 3, .int .i64 4] 3)
    obtain ⟨gk, hg⟩ : ∃ g, g = w2.heap.size := ⟨_, rfl⟩
    obtain ⟨w3, hw3⟩ : ∃ W, W = w2.alloc (.cells #[.int .i64 2, .int .i64 3, .int .i64 4] 3) := ⟨_, rfl⟩
    rw [← hg, ← hw3] at HG3
    rw [← hw3] at hb3
    rw [← hw3, ← hg]
    rw [← hg] at hg2
    have hg3 : gk < w3.heap.size := heapLt HG3.out
    have HB3 := Lib.hid (joinB HB2.out hb3)
    have HST3 := Lib.hid (blkOld HG2.out hb3)
    have HP3 := Lib.hid (HP2.out.below hb3)
    clear hw3 hg hb3 HB2 HG2 HP2
    try simp only [Act.put]
    go_upto_region 9 with fail
    have HG4 := Lib.hid (heap_alloc_new w3 (.cells (usedA (fun _ => 0) n) 3))
    have hb4 := allocB w3 (.cells (usedA (fun _ => 0) n) 3)
    obtain ⟨gu, hg⟩ : ∃ g, g = w3.heap.size := ⟨_, rfl⟩
    obtain ⟨w4, hw4⟩ : ∃ W, W = w3.alloc (.cells (usedA (fun _ => 0) n) 3) := ⟨_, rfl⟩
    rw [← hg, ← hw4] at HG4
    rw [← hw4] at hb4
    rw [← hw4, ← hg]
    rw [← hg] at hg3
    have HB4 := Lib.hid (joinB HB3.out hb4)
    have HST4 := Lib.hid (blkOld HST3.out hb4)
    have HKD4 := Lib.hid (blkOld HG3.out hb4)
    have HP4 := Lib.hid (HP3.out.below hb4)
    clear hw4 hg hb4 HB3 HST3 HG3 HP3 hmk
    try simp only [Act.put]
    have hcu := show w4.cell? ⟨gu, 0, none⟩ = some (.int .i64 0) from by rw [blkCell HG4.out, usedA_at _ (by omega)]; rfl
    have hzu := blkFrozen HG4.out 0
    have hn0 : (0 : Int) < (n : Int) := by omega
    have HI0 := Lib.hid (show OnI n k g8 gk gu w (w4.setCell ⟨gu, 0, none⟩ (.int .i64 1)) 0 s0 p0 fs0 C0 (freshB ((n + 7) / 8)) useN from OnI.num HG4.out HST4.out HKD4.out HP4.out (HS2.out.more (by decide)) HU2.out HB4.out (q := 0) (by omega) 1 rfl (by omega) (by omega) (by omega))
    go_upto_region 10 with fail
    generalize w4.setCell ⟨gu, 0, none⟩ (.int .i64 1) = w5 at HI0 ⊢
    clear hcu hzu HG4 HST4 HKD4 HP4 HS2 HU2 HB4
    try simp only [Act.put]
    have HNE := Lib.hid (show w.heap.size ≤ g8 ∧ g8 < gk ∧ gk < gu from by omega)
    clear hlo hg2 hg3
    go_wp2_with fail
    go_loopw [13] (fun x wr => ∃ (j : Nat) (s : Tx.St) (p : SP) (fs : List Fr) (C : Nat → ByteArray) (b : ByteArray) (u : Nat → Nat), j ≤ acts.length ∧ x = .int .i64 (j : Int) ∧ OnI n k g8 gk gu w wr j s p fs C b u) (fun x _ => acts.length - (intOf x).toNat)
    case atStart => exact ⟨0, s0, p0, fs0, C0, _, useN, Nat.zero_le _, rfl, HI0.out⟩
    case round =>
      clear HI0
      obtain ⟨j, s, p, fs, C, b, u, hj, rfl, hI⟩ := hrel
      have HI := Lib.hid hI
      have hj0 : (0 : Int) ≤ (j : Int) := by omega
      by_cases hlt : j < acts.length
      · have hji : (j : Int) < (acts.length : Int) := by omega
        have hwj : IntKind.i64.wrap ((j : Int) + 1) = (j : Int) + 1 := IntWalk.i64_in _ (by omega)
        obtain ⟨ab, ao, rfl, hca, hba, hxa⟩ := read_at sacC_len (HRD.out wr hI.be) hlt
        have hy0 : wr.cell? ⟨ab, ao + j * 2, none⟩ = some (.bool acts[j].fr) := by have := hxa 0 _ rfl; simpa using this
        have hy1 : wr.cell? ⟨ab, ao + j * 2 + 1, none⟩ = some (.int .i64 acts[j].n) := hxa 1 _ rfl
        generalize acts[j] = act at hy0 hy1
        obtain ⟨af, an⟩ := act
        simp only at hy0 hy1
        have HC5 := Lib.hid (show 3786 + 5048 * (j : Int) + 5048 ≤ (3000 : Nat) * 128 from by omega)
        have hjj : 3786 + 5048 * ((j + 1 : Nat) : Int) = 3786 + 5048 * (j : Int) + 5048 := by omega
        have HJJ := Lib.hid hjj
        clear hjj
        have h0n : (0 : Int) < (n : Int) := by omega
        have hnn : (n : Int) ≠ 0 := by omega
        obtain ⟨m, hm⟩ : ∃ m, m = Int.tmod an (n : Int) := ⟨_, rfl⟩
        have hm1 : -(n : Int) < m ∧ m < (n : Int) := by rw [hm]; exact ⟨Int.lt_tmod_of_pos an h0n, Int.tmod_lt_of_pos an h0n⟩
        have hmI : Int.tmod an (n : Int) = m := hm.symm
        have hmw : IntKind.i64.wrap m = m := IntWalk.i64_in _ (by omega)
        have hma : IntKind.i64.wrap (m + (n : Int)) = m + (n : Int) := IntWalk.i64_in _ (by omega)
        obtain ⟨kk, hkk⟩ : ∃ kk : Nat, (kk : Int) = Int.tmod (m + (n : Int)) (n : Int) := ⟨(Int.tmod (m + (n : Int)) (n : Int)).toNat, Int.toNat_of_nonneg (Int.tmod_nonneg _ (by omega))⟩
        have hkn : (kk : Int) < (n : Int) := by rw [hkk]; exact Int.tmod_lt_of_pos _ h0n
        have hkI : Int.tmod (m + (n : Int)) (n : Int) = (kk : Int) := hkk.symm
        have hkw : IntKind.i64.wrap (kk : Int) = (kk : Int) := IntWalk.i64_in _ (by omega)
        have hkn2 : kk < n := by omega
        have hk0i : (0 : Int) ≤ (kk : Int) := by omega
        clear hm hkk hxa hca hba hI
        cases af with
        | true =>
          by_cases hk0 : (kk : Int) = 0
          · skip
            have hkg2 : ¬ 0 < kk := by omega
            have hk0c : (kk == 0) = true := beq_iff_eq.2 (by omega)
            have hk0b : ((kk : Int) == 0) = true := beq_iff_eq.2 hk0
            have hkg : ¬ (0 : Int) < (kk : Int) := by omega
            clear hk0
            have HCL := Lib.hid (fun W (hh : OnI n k g8 gk gu w W j s p fs C b u) => sfree_arg s p fs C hh.ss 1 b u hh.si (kk : Int) (.inl (by omega)) W hh.pr)
            go_upto_region 15 with fail
            clear hmI hmw hma hkI hkw hm1 h0n hnn
            go_upto_region 16 with (first
              | (with_reducible refine listLoad (by kernel_rfl) 36 (.tmp 8) rfl g8 rfl (stA s p) _ HI.out.st _ Tryz.underlying36 (by kernel_rfl) (by kernel_rfl) ?_)
              | (go_at_call 10; (refine (HCL.out wr HI.out).mono ?_); rintro e v1 ⟨rfl, hb1⟩)
              | (with_reducible refine wpList_store_new rfl 36 (.tmp 15) (.tmp 83) rfl (stA s p) _ _ rfl (by kernel_rfl) (by kernel_rfl) (by kernel_rfl) (by kernel_rfl) ?_))
            have hb2 := joinB hb1 (allocB v1 (.cells (stA s p) 36))
            have HI2 := Lib.hid (HI.out.below hb2)
            have HG2 := Lib.hid (heap_alloc_new v1 (.cells (stA s p) 36))
            have hgg : g8 < v1.heap.size ∧ gu < v1.heap.size := by have := heapLt (blkOld HI.out.st hb1); have := heapLt (blkOld HI.out.us hb1); omega
            obtain ⟨g15, hg⟩ : ∃ g, g = v1.heap.size := ⟨_, rfl⟩
            obtain ⟨w2, hw2⟩ : ∃ W, W = v1.alloc (.cells (stA s p) 36) := ⟨_, rfl⟩
            rw [← hw2] at HI2
            rw [← hg, ← hw2] at HG2
            rw [← hw2, ← hg]
            rw [← hg] at hgg
            clear hw2 hg hb1 hb2 HCL HI
            try simp only [Act.put]
            go_wp2_with (first
              | (with_reducible refine listLoad (by kernel_rfl) 36 (.tmp 15) rfl g15 rfl (stA s p) _ HG2.out _ Tryz.underlying36 (by kernel_rfl) (by kernel_rfl) ?_)
              | (with_reducible refine listStore (by kernel_rfl) 36 (.tmp 8) (.tmp 122) rfl g8 (stA s p) _ _ rfl rfl HI2.out.st (by kernel_rfl) (by kernel_rfl) (by kernel_rfl) ?_))
            go_roundw
            case rel => exact ⟨j + 1, s, p, fs, C, b, u, by omega, by go_num, HI2.out.put HI2.out.pr (HI2.out.ss.more (by rw [HJJ.out]; omega)) HI2.out.si rfl (by have := HNE.out; omega) (by have := HNE.out; omega) (by have := HNE.out; omega)⟩
            case measure => simp [intOf]; omega
          · by_cases hyes : 0 < u kk
            · skip
              have hkg2 : 0 < kk := by omega
              have hk0c : (kk == 0) = false := beq_eq_false_iff_ne.2 (by omega)
              have hug2 : 0 < u kk := hyes
              have hk0b : ((kk : Int) == 0) = false := beq_eq_false_iff_ne.2 (by omega)
              have hkg : (0 : Int) < (kk : Int) := by omega
              have hug : (0 : Int) < (u kk : Int) := by omega
              have HCL := Lib.hid (fun W (hh : OnI n k g8 gk gu w W j s p fs C b u) => sfree_any s p fs C hh.ss HC5.out 1 (by simp) ⟨by decide, by decide⟩ b u hh.si kk hkn2 (by omega) hyes W hh.pr)
              go_upto_region 15 with fail
              clear hmI hmw hma hkI hkw hm1 h0n hnn
              go_upto_region 16 with (first
                | (with_reducible refine listLoad (by kernel_rfl) 36 (.tmp 8) rfl g8 rfl (stA s p) _ HI.out.st _ Tryz.underlying36 (by kernel_rfl) (by kernel_rfl) ?_)
                | (go_at_call 10; (refine (HCL.out wr HI.out).mono ?_); rintro e v1 ⟨s2, p2, fs2, C2, rfl, hp1, hs1, hu1, hb1⟩)
                | (with_reducible refine wpList_store_new rfl 36 (.tmp 15) (.tmp 83) rfl (stA s2 p2) _ _ rfl (by kernel_rfl) (by kernel_rfl) (by kernel_rfl) (by kernel_rfl) ?_))
              have hb2 := joinB hb1 (allocB v1 (.cells (stA s2 p2) 36))
              have HI2 := Lib.hid (HI.out.below hb2)
              have HG2 := Lib.hid (heap_alloc_new v1 (.cells (stA s2 p2) 36))
              have hgg : g8 < v1.heap.size ∧ gu < v1.heap.size := by have := heapLt (blkOld HI.out.st hb1); have := heapLt (blkOld HI.out.us hb1); omega
              have HP2 := Lib.hid (hp1.below (allocB v1 (.cells (stA s2 p2) 36)))
              have HS2 := Lib.hid hs1
              have HU2 := Lib.hid hu1
              clear hp1 hs1 hu1
              obtain ⟨g15, hg⟩ : ∃ g, g = v1.heap.size := ⟨_, rfl⟩
              obtain ⟨w2, hw2⟩ : ∃ W, W = v1.alloc (.cells (stA s2 p2) 36) := ⟨_, rfl⟩
              rw [← hw2] at HI2 HP2
              rw [← hg, ← hw2] at HG2
              rw [← hw2, ← hg]
              rw [← hg] at hgg
              clear hw2 hg hb1 hb2 HCL HI
              try simp only [Act.put]
              have hcu := show w2.cell? ⟨gu, kk, none⟩ = some (.int .i64 (u kk : Int)) from by rw [blkCell HI2.out.us, usedA_at _ hkn2]
              have hzu := blkFrozen HI2.out.us kk
              go_upto_region 20 with fail
              have HG3 := Lib.hid ((Below.heap_setCell w2 ⟨gu, kk, none⟩ (.int .i64 0) g15 (by show g15 ≠ gu; omega)).trans HG2.out)
              have HUS := Lib.hid (show (w2.setCell ⟨gu, kk, none⟩ (.int .i64 0)).heap[gu]? = some (.cells (usedA (fun y => if y = kk then 0 else u y) n) 3 (0, 0)) from by have h9 := blkSet kk HI2.out.us (.int .i64 ((0 : Nat) : Int)); rw [usedA_set u hkn2 0] at h9; exact h9)
              have HST := Lib.hid ((Below.heap_setCell w2 ⟨gu, kk, none⟩ (.int .i64 0) g8 (by show g8 ≠ gu; have := HNE.out; omega)).trans HI2.out.st)
              have HKD := Lib.hid ((Below.heap_setCell w2 ⟨gu, kk, none⟩ (.int .i64 0) gk (by show gk ≠ gu; have := HNE.out; omega)).trans HI2.out.kd)
              have HBE := Lib.hid (HI2.out.be.setCell (p := ⟨gu, kk, none⟩) (by have := HNE.out; show w.heap.size ≤ gu; omega) (.int .i64 0))
              have HPR := Lib.hid ((HP2.out).set (t := 3) HI2.out.us (by decide) (by decide) (by decide) kk (.int .i64 0))
              have HSI := Lib.hid (show SI n C2 (flipB b kk) (fun y => if y = kk then 0 else u y) from HU2.out)
              have HSS := Lib.hid (show SS 3000 n k [1] (3786 + 5048 * ((j + 1 : Nat) : Int)) s2 fs2 C2 from by rw [HJJ.out]; exact HS2.out)
              generalize w2.setCell ⟨gu, kk, none⟩ (.int .i64 0) = w3 at HG3 HUS HST HKD HBE HPR ⊢
              clear hcu hzu HG2 HI2 HP2 HS2 HU2
              try simp only [Act.put]
              go_wp2_with (first
                | (with_reducible refine listLoad (by kernel_rfl) 36 (.tmp 15) rfl g15 rfl (stA s2 p2) _ HG3.out _ Tryz.underlying36 (by kernel_rfl) (by kernel_rfl) ?_)
                | (with_reducible refine listStore (by kernel_rfl) 36 (.tmp 8) (.tmp 122) rfl g8 (stA s2 p2) _ _ rfl rfl HST.out (by kernel_rfl) (by kernel_rfl) (by kernel_rfl) ?_))
              go_roundw
              case rel => exact ⟨j + 1, s2, p2, fs2, C2, (flipB b kk), (fun y => if y = kk then 0 else u y), by omega, by go_num, setRow_heap _ _ _ _ _ _ HST.out, (heap_setRow_other _ _ _ _ (by have := HNE.out; omega)).trans HKD.out, (heap_setRow_other _ _ _ _ (by have := HNE.out; omega)).trans HUS.out, HPR.out.other (t := 36) HST.out (by decide) (by decide) (by decide) _, HSS.out, HSI.out, rowB (by have := HNE.out; omega) HBE.out _⟩
              case measure => simp [intOf]; omega
            · skip
              have hkg2 : 0 < kk := by omega
              have hk0c : (kk == 0) = false := beq_eq_false_iff_ne.2 (by omega)
              have hug2 : ¬ 0 < u kk := hyes
              have hk0b : ((kk : Int) == 0) = false := beq_eq_false_iff_ne.2 (by omega)
              have hkg : (0 : Int) < (kk : Int) := by omega
              have hug : ¬ (0 : Int) < (u kk : Int) := by omega
              have HCL := Lib.hid (fun W (hh : OnI n k g8 gk gu w W j s p fs C b u) => sfree_none s p fs C hh.ss 1 b u hh.si kk hkn2 (by omega) hyes W hh.pr)
              go_upto_region 15 with fail
              clear hmI hmw hma hkI hkw hm1 h0n hnn
              go_upto_region 16 with (first
                | (with_reducible refine listLoad (by kernel_rfl) 36 (.tmp 8) rfl g8 rfl (stA s p) _ HI.out.st _ Tryz.underlying36 (by kernel_rfl) (by kernel_rfl) ?_)
                | (go_at_call 10; (refine (HCL.out wr HI.out).mono ?_); rintro e v1 ⟨rfl, hb1⟩)
                | (with_reducible refine wpList_store_new rfl 36 (.tmp 15) (.tmp 83) rfl (stA s p) _ _ rfl (by kernel_rfl) (by kernel_rfl) (by kernel_rfl) (by kernel_rfl) ?_))
              have hb2 := joinB hb1 (allocB v1 (.cells (stA s p) 36))
              have HI2 := Lib.hid (HI.out.below hb2)
              have HG2 := Lib.hid (heap_alloc_new v1 (.cells (stA s p) 36))
              have hgg : g8 < v1.heap.size ∧ gu < v1.heap.size := by have := heapLt (blkOld HI.out.st hb1); have := heapLt (blkOld HI.out.us hb1); omega
              obtain ⟨g15, hg⟩ : ∃ g, g = v1.heap.size := ⟨_, rfl⟩
              obtain ⟨w2, hw2⟩ : ∃ W, W = v1.alloc (.cells (stA s p) 36) := ⟨_, rfl⟩
              rw [← hw2] at HI2
              rw [← hg, ← hw2] at HG2
              rw [← hw2, ← hg]
              rw [← hg] at hgg
              clear hw2 hg hb1 hb2 HCL HI
              try simp only [Act.put]
              have hcu := show w2.cell? ⟨gu, kk, none⟩ = some (.int .i64 (u kk : Int)) from by rw [blkCell HI2.out.us, usedA_at _ hkn2]
              have hzu := blkFrozen HI2.out.us kk
              go_upto_region 20 with fail
              have HG3 := Lib.hid ((Below.heap_setCell w2 ⟨gu, kk, none⟩ (.int .i64 0) g15 (by show g15 ≠ gu; omega)).trans HG2.out)
              have HUS := Lib.hid (show (w2.setCell ⟨gu, kk, none⟩ (.int .i64 0)).heap[gu]? = some (.cells (usedA (fun y => if y = kk then 0 else u y) n) 3 (0, 0)) from by have h9 := blkSet kk HI2.out.us (.int .i64 ((0 : Nat) : Int)); rw [usedA_set u hkn2 0] at h9; exact h9)
              have HST := Lib.hid ((Below.heap_setCell w2 ⟨gu, kk, none⟩ (.int .i64 0) g8 (by show g8 ≠ gu; have := HNE.out; omega)).trans HI2.out.st)
              have HKD := Lib.hid ((Below.heap_setCell w2 ⟨gu, kk, none⟩ (.int .i64 0) gk (by show gk ≠ gu; have := HNE.out; omega)).trans HI2.out.kd)
              have HBE := Lib.hid (HI2.out.be.setCell (p := ⟨gu, kk, none⟩) (by have := HNE.out; show w.heap.size ≤ gu; omega) (.int .i64 0))
              have HPR := Lib.hid ((HI2.out.pr).set (t := 3) HI2.out.us (by decide) (by decide) (by decide) kk (.int .i64 0))
              have HSI := Lib.hid (show SI n C b (fun y => if y = kk then 0 else u y) from by have e : (fun y => if y = kk then 0 else u y) = u := (by funext y; by_cases e : y = kk; (· subst e; rw [if_pos rfl]; omega); (· rw [if_neg e])); rw [e]; exact HI2.out.si)
              have HSS := Lib.hid (show SS 3000 n k [1] (3786 + 5048 * ((j + 1 : Nat) : Int)) s fs C from HI2.out.ss.more (by rw [HJJ.out]; omega))
              generalize w2.setCell ⟨gu, kk, none⟩ (.int .i64 0) = w3 at HG3 HUS HST HKD HBE HPR ⊢
              clear hcu hzu HG2 HI2
              try simp only [Act.put]
              go_wp2_with (first
                | (with_reducible refine listLoad (by kernel_rfl) 36 (.tmp 15) rfl g15 rfl (stA s p) _ HG3.out _ Tryz.underlying36 (by kernel_rfl) (by kernel_rfl) ?_)
                | (with_reducible refine listStore (by kernel_rfl) 36 (.tmp 8) (.tmp 122) rfl g8 (stA s p) _ _ rfl rfl HST.out (by kernel_rfl) (by kernel_rfl) (by kernel_rfl) ?_))
              go_roundw
              case rel => exact ⟨j + 1, s, p, fs, C, b, (fun y => if y = kk then 0 else u y), by omega, by go_num, setRow_heap _ _ _ _ _ _ HST.out, (heap_setRow_other _ _ _ _ (by have := HNE.out; omega)).trans HKD.out, (heap_setRow_other _ _ _ _ (by have := HNE.out; omega)).trans HUS.out, HPR.out.other (t := 36) HST.out (by decide) (by decide) (by decide) _, HSS.out, HSI.out, rowB (by have := HNE.out; omega) HBE.out _⟩
              case measure => simp [intOf]; omega
        | false =>
          have h3n : (0 : Int) < 3 := by decide
          obtain ⟨m3, hm3⟩ : ∃ m3, m3 = Int.tmod an 3 := ⟨_, rfl⟩
          have hm31 : -(3 : Int) < m3 ∧ m3 < 3 := by rw [hm3]; exact ⟨Int.lt_tmod_of_pos an h3n, Int.tmod_lt_of_pos an h3n⟩
          have hm3I : Int.tmod an 3 = m3 := hm3.symm
          have hm3w : IntKind.i64.wrap m3 = m3 := IntWalk.i64_in _ (by omega)
          have hm3a : IntKind.i64.wrap (m3 + 3) = m3 + 3 := IntWalk.i64_in _ (by omega)
          clear hm3
          go_wp2_with fail
          obtain ⟨wo, rfl⟩ : ∃ wm : World, wm = wr := ⟨_, rfl⟩
          have HY1 := Lib.hid (And.intro hy1 (show ab < wo.heap.size from by
            rcases Nat.lt_or_ge ab wo.heap.size with h9 | h9
            · exact h9
            · rw [World.cell?, Array.getElem?_eq_none h9] at hy1; cases hy1))
          clear hy0 hy1
          go_loopw [17] (fun x wv => ∃ low : Nat, low ≤ n ∧ x = .int .i64 (low : Int) ∧ Upto u low ∧ Below wo.heap.size wo wv) (fun x _ => n - (intOf x).toNat)
          case atStart => exact ⟨0, Nat.zero_le _, rfl, fun _ h => absurd h (by omega), Below.refl _ _⟩
          case round =>
            obtain ⟨low, hlow, rfl, hup, hbv⟩ := hrel
            obtain ⟨vr, rfl⟩ : ∃ wm : World, wm = wr := ⟨_, rfl⟩
            have HUP := Lib.hid hup
            have HI1 := Lib.hid (HI.out.below hbv)
            have hy1v := show vr.cell? ⟨ab, ao + j * 2 + 1, none⟩ = some (.int .i64 an) from by rw [hbv.cell (p := ⟨ab, ao + j * 2 + 1, none⟩) HY1.out.2]; exact HY1.out.1
            have HBV := Lib.hid hbv
            clear hup hbv
            by_cases hlown : low < n
            · have hli : (low : Int) < (n : Int) := by omega
              have hl0 : (0 : Int) ≤ (low : Int) := by omega
              have hcl := show vr.cell? ⟨gu, low, none⟩ = some (.int .i64 (u low : Int)) from by rw [blkCell HI1.out.us, usedA_at _ hlown]
              by_cases hul : 0 < u low
              · have hui : (0 : Int) < (u low : Int) := by omega
                have hwl : IntKind.i64.wrap ((low : Int) + 1) = (low : Int) + 1 := IntWalk.i64_in _ (by omega)
                have HUM := Lib.hid (upto_more HUP.out hul)
                go_wp2_with fail
                go_roundw
                case rel => exact ⟨low + 1, by omega, by go_num, HUM.out, HBV.out⟩
                case measure => simp [intOf]; omega
              · have hno := hul
                have hui : ¬ (0 : Int) < (u low : Int) := by omega
                obtain ⟨kq, hkq⟩ : ∃ kq : Nat, (kq : Int) = Int.tmod (m3 + 3) 3 := ⟨(Int.tmod (m3 + 3) 3).toNat, Int.toNat_of_nonneg (Int.tmod_nonneg _ (by omega))⟩
                have hkq3 : (kq : Int) < 3 := by rw [hkq]; exact Int.tmod_lt_of_pos _ (by decide)
                have hkqI : Int.tmod (m3 + 3) 3 = (kq : Int) := hkq.symm
                have hkqw : IntKind.i64.wrap (kq : Int) = (kq : Int) := IntWalk.i64_in _ (by omega)
                have hkq0 : (0 : Int) ≤ (kq : Int) := by omega
                have hck : vr.cell? ⟨gk, kq, none⟩ = some (.int .i64 ((2 + kq : Nat) : Int)) := by
                  rw [blkCell HI1.out.kd]
                  have : kq = 0 ∨ kq = 1 ∨ kq = 2 := by omega
                  rcases this with rfl | rfl | rfl <;> rfl
                have hya := hy1v
                have hkd4 : 2 ≤ 2 + kq ∧ 2 + kq ≤ 4 := by omega
                clear hkq hy1v
                generalize 2 + kq = kd at hck hkd4
                have hlc : (low == n) = false := beq_eq_false_iff_ne.2 (by omega)
                have hlb : ((low : Int) == (n : Int)) = false := beq_eq_false_iff_ne.2 (by omega)
                have hlg2 : low < n := hlown
                have hll2 : (low != low) = false := bne_self_eq_false _
                have hlg : (low : Int) < (n : Int) := by omega
                have hll : ((low : Int) != (low : Int)) = false := bne_self_eq_false _
                have HCL := Lib.hid (fun W (hh : OnI n k g8 gk gu w W j s p fs C b u) => salloc_any s p fs C hh.ss HC5.out 1 (by simp) ⟨by decide, by decide⟩ b u hh.si kd hkd4 low hlown HUP.out hno W hh.pr)
                have hlow0 : (0 : Int) ≤ (low : Int) := by omega
                go_upto_region 25 with fail
                go_upto_region 26 with (first
                  | (with_reducible refine listLoad (by kernel_rfl) 36 (.tmp 8) rfl g8 rfl (stA s p) _ HI1.out.st _ Tryz.underlying36 (by kernel_rfl) (by kernel_rfl) ?_)
                  | (go_at_call 12; (refine (HCL.out vr HI1.out).mono ?_); rintro e v1 ⟨s2, p2, fs2, C2, rfl, hp1, hs1, hu1, hb1⟩)
                  | (with_reducible refine wpList_store_new rfl 36 (.tmp 19) (.tmp 151) rfl (stA s2 p2) _ _ rfl (by kernel_rfl) (by kernel_rfl) (by kernel_rfl) (by kernel_rfl) ?_))
                have hb2 := joinB hb1 (allocB v1 (.cells (stA s2 p2) 36))
                have HI2 := Lib.hid (HI1.out.below hb2)
                have HG2 := Lib.hid (heap_alloc_new v1 (.cells (stA s2 p2) 36))
                have hgg : g8 < v1.heap.size ∧ gu < v1.heap.size := by have := heapLt (blkOld HI1.out.st hb1); have := heapLt (blkOld HI1.out.us hb1); omega
                have HP2 := Lib.hid (hp1.below (allocB v1 (.cells (stA s2 p2) 36)))
                have HS2 := Lib.hid hs1
                have HU2 := Lib.hid hu1
                clear hp1 hs1 hu1
                obtain ⟨g15, hg⟩ : ∃ g, g = v1.heap.size := ⟨_, rfl⟩
                obtain ⟨w2, hw2⟩ : ∃ W, W = v1.alloc (.cells (stA s2 p2) 36) := ⟨_, rfl⟩
                rw [← hw2] at HI2 HP2
                rw [← hg, ← hw2] at HG2
                rw [← hw2, ← hg]
                rw [← hg] at hgg
                clear hw2 hg hb1 hb2 HCL HI1 hck hya
                try simp only [Act.put]
                have hcu := show w2.cell? ⟨gu, low, none⟩ = some (.int .i64 (u low : Int)) from by rw [blkCell HI2.out.us, usedA_at _ hlown]
                have hzu := blkFrozen HI2.out.us low
                go_upto_region 30 with fail
                have HG3 := Lib.hid ((Below.heap_setCell w2 ⟨gu, low, none⟩ (.int .i64 (kd : Int)) g15 (by show g15 ≠ gu; omega)).trans HG2.out)
                have HUS := Lib.hid (show (w2.setCell ⟨gu, low, none⟩ (.int .i64 (kd : Int))).heap[gu]? = some (.cells (usedA (fun y => if y = low then kd else u y) n) 3 (0, 0)) from by have h9 := blkSet low HI2.out.us (.int .i64 (kd : Int)); rw [usedA_set u hlown kd] at h9; exact h9)
                have HST := Lib.hid ((Below.heap_setCell w2 ⟨gu, low, none⟩ (.int .i64 (kd : Int)) g8 (by show g8 ≠ gu; have := HNE.out; omega)).trans HI2.out.st)
                have HKD := Lib.hid ((Below.heap_setCell w2 ⟨gu, low, none⟩ (.int .i64 (kd : Int)) gk (by show gk ≠ gu; have := HNE.out; omega)).trans HI2.out.kd)
                have HBE := Lib.hid (HI2.out.be.setCell (p := ⟨gu, low, none⟩) (by have := HNE.out; show w.heap.size ≤ gu; omega) (.int .i64 (kd : Int)))
                have HPR := Lib.hid (HP2.out.set (t := 3) HI2.out.us (by decide) (by decide) (by decide) low (.int .i64 (kd : Int)))
                have HSS := Lib.hid (show SS 3000 n k [1] (3786 + 5048 * ((j + 1 : Nat) : Int)) s2 fs2 C2 from by rw [HJJ.out]; exact HS2.out)
                generalize w2.setCell ⟨gu, low, none⟩ (.int .i64 (kd : Int)) = w3 at HG3 HUS HST HKD HBE HPR ⊢
                clear hcu hzu HG2 HI2 HP2 HS2
                try simp only [Act.put]
                go_wp2_with (first
                  | (with_reducible refine listLoad (by kernel_rfl) 36 (.tmp 19) rfl g15 rfl (stA s2 p2) _ HG3.out _ Tryz.underlying36 (by kernel_rfl) (by kernel_rfl) ?_)
                  | (with_reducible refine listStore (by kernel_rfl) 36 (.tmp 8) (.tmp 182) rfl g8 (stA s2 p2) _ _ rfl rfl HST.out (by kernel_rfl) (by kernel_rfl) (by kernel_rfl) ?_))
                go_roundw
                case rel => exact ⟨j + 1, s2, p2, fs2, C2, (flipB b low), (fun y => if y = low then kd else u y), by omega, by go_num, setRow_heap _ _ _ _ _ _ HST.out, (heap_setRow_other _ _ _ _ (by have := HNE.out; omega)).trans HKD.out, (heap_setRow_other _ _ _ _ (by have := HNE.out; omega)).trans HUS.out, HPR.out.other (t := 36) HST.out (by decide) (by decide) (by decide) _, HSS.out, HU2.out, rowB (by have := HNE.out; omega) HBE.out _⟩
                case measure => simp [intOf]; omega
            · skip
              have hli : ¬ (low : Int) < (n : Int) := by omega
              obtain ⟨kq, hkq⟩ : ∃ kq : Nat, (kq : Int) = Int.tmod (m3 + 3) 3 := ⟨(Int.tmod (m3 + 3) 3).toNat, Int.toNat_of_nonneg (Int.tmod_nonneg _ (by omega))⟩
              have hkq3 : (kq : Int) < 3 := by rw [hkq]; exact Int.tmod_lt_of_pos _ (by decide)
              have hkqI : Int.tmod (m3 + 3) 3 = (kq : Int) := hkq.symm
              have hkqw : IntKind.i64.wrap (kq : Int) = (kq : Int) := IntWalk.i64_in _ (by omega)
              have hkq0 : (0 : Int) ≤ (kq : Int) := by omega
              have hck : vr.cell? ⟨gk, kq, none⟩ = some (.int .i64 ((2 + kq : Nat) : Int)) := by
                rw [blkCell HI1.out.kd]
                have : kq = 0 ∨ kq = 1 ∨ kq = 2 := by omega
                rcases this with rfl | rfl | rfl <;> rfl
              have hya := hy1v
              have hkd4 : 2 ≤ 2 + kq ∧ 2 + kq ≤ 4 := by omega
              clear hkq hy1v
              generalize 2 + kq = kd at hck hkd4
              have hlc : (low == n) = true := beq_iff_eq.2 (by omega)
              have hlb : ((low : Int) == (n : Int)) = true := beq_iff_eq.2 (by omega)
              have hlg2 : ¬ low < n := by omega
              have hlg : ¬ (low : Int) < (n : Int) := by omega
              have HCL := Lib.hid (fun W (hh : OnI n k g8 gk gu w W j s p fs C b u) => salloc_full s p fs C hh.ss b u hh.si 1 kd hkd4 (by have h9 := HUP.out; rw [show low = n from by omega] at h9; exact h9) W hh.pr)
              have hlow0 : (0 : Int) ≤ (low : Int) := by omega
              go_upto_region 25 with fail
              go_upto_region 26 with (first
                | (with_reducible refine listLoad (by kernel_rfl) 36 (.tmp 8) rfl g8 rfl (stA s p) _ HI1.out.st _ Tryz.underlying36 (by kernel_rfl) (by kernel_rfl) ?_)
                | (go_at_call 12; (refine (HCL.out vr HI1.out).mono ?_); rintro e v1 ⟨rfl, hb1⟩)
                | (with_reducible refine wpList_store_new rfl 36 (.tmp 19) (.tmp 151) rfl (stA s p) _ _ rfl (by kernel_rfl) (by kernel_rfl) (by kernel_rfl) (by kernel_rfl) ?_))
              have hb2 := joinB hb1 (allocB v1 (.cells (stA s p) 36))
              have HI2 := Lib.hid (HI1.out.below hb2)
              have HG2 := Lib.hid (heap_alloc_new v1 (.cells (stA s p) 36))
              have hgg : g8 < v1.heap.size ∧ gu < v1.heap.size := by have := heapLt (blkOld HI1.out.st hb1); have := heapLt (blkOld HI1.out.us hb1); omega
              obtain ⟨g15, hg⟩ : ∃ g, g = v1.heap.size := ⟨_, rfl⟩
              obtain ⟨w2, hw2⟩ : ∃ W, W = v1.alloc (.cells (stA s p) 36) := ⟨_, rfl⟩
              rw [← hw2] at HI2
              rw [← hg, ← hw2] at HG2
              rw [← hw2, ← hg]
              rw [← hg] at hgg
              clear hw2 hg hb1 hb2 HCL HI1 hck hya
              try simp only [Act.put]
              go_wp2_with (first
                | (with_reducible refine listLoad (by kernel_rfl) 36 (.tmp 19) rfl g15 rfl (stA s p) _ HG2.out _ Tryz.underlying36 (by kernel_rfl) (by kernel_rfl) ?_)
                | (with_reducible refine listStore (by kernel_rfl) 36 (.tmp 8) (.tmp 182) rfl g8 (stA s p) _ _ rfl rfl HI2.out.st (by kernel_rfl) (by kernel_rfl) (by kernel_rfl) ?_))
              go_roundw
              case rel => exact ⟨j + 1, s, p, fs, C, b, u, by omega, by go_num, HI2.out.put HI2.out.pr (HI2.out.ss.more (by rw [HJJ.out]; omega)) HI2.out.si rfl (by have := HNE.out; omega) (by have := HNE.out; omega) (by have := HNE.out; omega)⟩
              case measure => simp [intOf]; omega
      · obtain rfl : j = acts.length := by omega
        clear hlt
        obtain ⟨wo, rfl⟩ : ∃ wm : World, wm = wr := ⟨_, rfl⟩
        go_wp2_with fail
        go_loopw [22] (fun x wv => ∃ (i : Nat) (s2 : Tx.St) (p2 : SP) (fs2 : List Fr), i ≤ n ∧ x = .int .i64 (i : Int) ∧ OnI n k g8 gk gu w wv acts.length s2 p2 fs2 C b u) (fun x _ => n - (intOf x).toNat)
        case atStart => exact ⟨0, s, p, fs, Nat.zero_le _, rfl, HI.out⟩
        case round =>
          obtain ⟨i, s2, p2, fs2, hin0, rfl, hI2⟩ := hrel
          obtain ⟨vr, rfl⟩ : ∃ wm : World, wm = wr := ⟨_, rfl⟩
          have HI2 := Lib.hid hI2
          clear HI hI2
          by_cases hin : i < n
          · have hii : (i : Int) < (n : Int) := by omega
            have hi0 : (0 : Int) ≤ (i : Int) := by omega
            have hwi : IntKind.i64.wrap ((i : Int) + 1) = (i : Int) + 1 := IntWalk.i64_in _ (by omega)
            have HGE := Lib.hid (fun W (hh : OnI n k g8 gk gu w W acts.length s2 p2 fs2 C b u) => pget_any s2 p2 fs2 C hh.ss.pi i hin W hh.pr)
            have hsz := (HI2.out.ss.pi.nm i hin).size
            have HKI := Lib.hid (fun W => show Calls Tryz.prog 19 #[.string (C i)] W fun e w' => e = .returned (.int .i64 (u i : Int)) ∧ Below W.heap.size W w' from by
              have h9 := kind_any (C i) (by omega) W
              have e9 : (leafP (C i)).kind = u i := by
                rcases Nat.eq_zero_or_pos i with e | e
                · subst e; rw [HI2.out.si.k0, HI2.out.si.u0]
                · exact HI2.out.si.kp i e hin
              rw [e9] at h9
              exact h9)
            have HSO := Lib.hid (fun (hi1 : 1 ≤ i) W => show Calls Tryz.prog 20 #[.string (C i)] W fun e w' => e = .returned (.int .i64 0) ∧ Below W.heap.size W w' from by
              have h9 := slots_any (C i) (by omega) W
              rw [HI2.out.si.rp i hi1 hin] at h9
              exact h9)
            clear hsz
            go_upto_region 35 with (first
              | (with_reducible refine listLoad (by kernel_rfl) 36 (.tmp 8) rfl g8 rfl (stA s2 p2) _ HI2.out.st _ Tryz.underlying36 (by kernel_rfl) (by kernel_rfl) ?_)
              | (go_at_call 17; (refine (HGE.out vr HI2.out).mono ?_); rintro e v1 ⟨s3, p3, fs3, rfl, hp1, hi1, hk1, hb1⟩)
              | (with_reducible refine wpList_store_new rfl 36 (.tmp 23) (.tmp 192) rfl (stA s3 p3) _ _ rfl (by kernel_rfl) (by kernel_rfl) (by kernel_rfl) (by kernel_rfl) ?_))
            have hb2 := joinB hb1 (allocB v1 (.cells (stA s3 p3) 36))
            have HI3 := Lib.hid (HI2.out.below hb2)
            have HG2 := Lib.hid (heap_alloc_new v1 (.cells (stA s3 p3) 36))
            have HP2 := Lib.hid (hp1.below (allocB v1 (.cells (stA s3 p3) 36)))
            have HS3 := Lib.hid (HI2.out.ss.hk hk1 hi1)
            obtain ⟨g15, hg⟩ : ∃ g, g = v1.heap.size := ⟨_, rfl⟩
            obtain ⟨w2, hw2⟩ : ∃ W, W = v1.alloc (.cells (stA s3 p3) 36) := ⟨_, rfl⟩
            rw [← hw2] at HI3 HP2
            rw [← hg, ← hw2] at HG2
            rw [← hw2, ← hg]
            clear hw2 hg hb1 hb2 hp1 hi1 hk1 HGE HI2
            try simp only [Act.put]
            have hcl := show w2.cell? ⟨gu, i, none⟩ = some (.int .i64 (u i : Int)) from by rw [blkCell HI3.out.us, usedA_at _ hin]
            generalize (u i : Int) = y at hcl HKI
            have hyy : (y != y) = false := bne_self_eq_false _
            go_cut [214] (fun x wc => x = .bool false ∧ Below w2.heap.size w2 wc)
            case first =>
              have HS8 := Lib.hid (fun (v : World) (hv : Below w2.heap.size w2 v) => show v.cell? ⟨gu, i, none⟩ = some (.int .i64 y) from by rw [hv.cell (p := ⟨gu, i, none⟩) (heapLt HI3.out.us)]; exact hcl)
              have hQ : Below w2.heap.size w2 w2.drew := (Below.refl _ w2).drew
              have hSn := HS8.out _ hQ
              by_cases hi1 : 1 ≤ i
              · have hig : 0 < i := hi1
                have higi : (0 : Int) < (i : Int) := by omega
                have HSP := Lib.hid (HSO.out hi1)
                refine wp_region_held_drew (S := (fun v => v.cell? ⟨gu, i, none⟩ = some (.int .i64 y))) (by kernel_rfl) ?_ (fun hHeld => ?_)
                · exact hSn
                generalize w2.drew = w8 at hSn hQ ⊢
                refine tkW 0 (some 195) (v := ?_) rfl ?_ ?_
                rotate_left
                · intro v hSv; have hcz := hSv; clear hSv; go_simp; (try with_reducible rfl)
                try simp only [Act.put, List.setIfInBounds_toArray, List.set_cons_zero, List.set_cons_succ]
                refine tkW 1 (some 196) (v := ?_) rfl ?_ ?_
                rotate_left
                · intro v hSv; have hcz := hSv; clear hSv; go_simp; (try with_reducible rfl)
                try simp only [Act.put, List.setIfInBounds_toArray, List.set_cons_zero, List.set_cons_succ]
                refine tkW 2 (some 197) (v := ?_) rfl ?_ ?_
                rotate_left
                · intro v hSv; have hcz := hSv; clear hSv; go_simp; (try with_reducible rfl)
                try simp only [Act.put, List.setIfInBounds_toArray, List.set_cons_zero, List.set_cons_succ]
                refine tkW 3 (some 198) (v := ?_) rfl ?_ ?_
                rotate_left
                · intro v hSv; have hcz := hSv; clear hSv; go_simp; (try with_reducible rfl)
                try simp only [Act.put, List.setIfInBounds_toArray, List.set_cons_zero, List.set_cons_succ]
                refine tkW 5 (some 200) (v := ?_) rfl ?_ ?_
                rotate_left
                · intro v hSv; have hcz := hSv; clear hSv; go_simp; (try with_reducible rfl)
                try simp only [Act.put, List.setIfInBounds_toArray, List.set_cons_zero, List.set_cons_succ]
                refine tkW 6 (some 201) (v := ?_) rfl ?_ ?_
                rotate_left
                · intro v hSv; have hcz := hSv; clear hSv; go_simp; (try with_reducible rfl)
                try simp only [Act.put, List.setIfInBounds_toArray, List.set_cons_zero, List.set_cons_succ]
                refine tkW 7 (some 202) (v := ?_) rfl ?_ ?_
                rotate_left
                · intro v hSv; have hcz := hSv; clear hSv; go_simp; (try with_reducible rfl)
                try simp only [Act.put, List.setIfInBounds_toArray, List.set_cons_zero, List.set_cons_succ]
                refine tkW 8 (some 203) (v := ?_) rfl ?_ ?_
                rotate_left
                · intro v hSv; have hcz := hSv; clear hSv; go_simp; (try with_reducible rfl)
                try simp only [Act.put, List.setIfInBounds_toArray, List.set_cons_zero, List.set_cons_succ]
                refine rdH 4 (some 199) rfl (fun K hK => ?_)
                go_simp
                (refine (HKI.out _).mono ?_); rintro e w9 ⟨rfl, hb9⟩; have hQ2 := joinB hQ hb9; clear hQ hSn hb9; have hQ := hQ2; clear hQ2; have hSn := HS8.out _ hQ
                refine hK.out _ _ ?_ (fun hHeld => ?_)
                · exact hSn
                clear hK K
                try simp only [Act.put, List.setIfInBounds_toArray, List.set_cons_zero, List.set_cons_succ]
                refine tkW 9 (some 204) (v := ?_) rfl ?_ ?_
                rotate_left
                · intro v hSv; have hcz := hSv; clear hSv; go_simp; (try with_reducible rfl)
                try simp only [Act.put, List.setIfInBounds_toArray, List.set_cons_zero, List.set_cons_succ]
                refine tkW 10 (some 205) (v := ?_) rfl ?_ ?_
                rotate_left
                · intro v hSv; have hcz := hSv; clear hSv; go_simp; (try with_reducible rfl)
                try simp only [Act.put, List.setIfInBounds_toArray, List.set_cons_zero, List.set_cons_succ]
                refine tkW 11 (some 206) (v := ?_) rfl ?_ ?_
                rotate_left
                · intro v hSv; have hcz := hSv; clear hSv; go_simp; (try with_reducible rfl)
                try simp only [Act.put, List.setIfInBounds_toArray, List.set_cons_zero, List.set_cons_succ]
                refine tkW 12 (some 207) (v := ?_) rfl ?_ ?_
                rotate_left
                · intro v hSv; have hcz := hSv; clear hSv; go_simp; (try with_reducible rfl)
                try simp only [Act.put, List.setIfInBounds_toArray, List.set_cons_zero, List.set_cons_succ]
                refine tkW 13 (some 208) (v := ?_) rfl ?_ ?_
                rotate_left
                · intro v hSv; have hcz := hSv; clear hSv; go_simp; (try with_reducible rfl)
                try simp only [Act.put, List.setIfInBounds_toArray, List.set_cons_zero, List.set_cons_succ]
                refine tkW 14 (some 209) (v := ?_) rfl ?_ ?_
                rotate_left
                · intro v hSv; have hcz := hSv; clear hSv; go_simp; (try with_reducible rfl)
                try simp only [Act.put, List.setIfInBounds_toArray, List.set_cons_zero, List.set_cons_succ]
                refine tkW 15 (some 210) (v := ?_) rfl ?_ ?_
                rotate_left
                · intro v hSv; have hcz := hSv; clear hSv; go_simp; (try with_reducible rfl)
                try simp only [Act.put, List.setIfInBounds_toArray, List.set_cons_zero, List.set_cons_succ]
                refine rdH 16 (some 211) rfl (fun K hK => ?_)
                go_simp
                (refine (HSP.out _).mono ?_); rintro e w9 ⟨rfl, hb9⟩; have hQ2 := joinB hQ hb9; clear hQ hSn hb9; have hQ := hQ2; clear hQ2; have hSn := HS8.out _ hQ
                refine hK.out _ _ ?_ (fun hHeld => ?_)
                · exact hSn
                clear hK K
                try simp only [Act.put, List.setIfInBounds_toArray, List.set_cons_zero, List.set_cons_succ]
                refine tkW 17 (some 212) (v := ?_) rfl ?_ ?_
                rotate_left
                · intro v hSv; have hcz := hSv; clear hSv; go_simp; (try with_reducible rfl)
                try simp only [Act.put, List.setIfInBounds_toArray, List.set_cons_zero, List.set_cons_succ]
                refine tkW 18 (some 213) (v := ?_) rfl ?_ ?_
                rotate_left
                · intro v hSv; have hcz := hSv; clear hSv; go_simp; (try with_reducible rfl)
                try simp only [Act.put, List.setIfInBounds_toArray, List.set_cons_zero, List.set_cons_succ]
                refine tkW 19 (some 214) (v := ?_) rfl ?_ ?_
                rotate_left
                · intro v hSv; have hcz := hSv; clear hSv; go_simp; (try with_reducible rfl)
                try simp only [Act.put, List.setIfInBounds_toArray, List.set_cons_zero, List.set_cons_succ]
                refine wpAnyH_done (by kernel_rfl) ?_ _
                clear hHeld
                go_wp2_with fail
                go_meet
                case rel => exact ⟨rfl, hQ⟩
              · have hig : ¬ 0 < i := by omega
                have higi : ¬ (0 : Int) < (i : Int) := by omega
                refine wp_region_held_drew (S := (fun v => v.cell? ⟨gu, i, none⟩ = some (.int .i64 y))) (by kernel_rfl) ?_ (fun hHeld => ?_)
                · exact hSn
                generalize w2.drew = w8 at hSn hQ ⊢
                refine tkW 0 (some 195) (v := ?_) rfl ?_ ?_
                rotate_left
                · intro v hSv; have hcz := hSv; clear hSv; go_simp; (try with_reducible rfl)
                try simp only [Act.put, List.setIfInBounds_toArray, List.set_cons_zero, List.set_cons_succ]
                refine tkW 1 (some 196) (v := ?_) rfl ?_ ?_
                rotate_left
                · intro v hSv; have hcz := hSv; clear hSv; go_simp; (try with_reducible rfl)
                try simp only [Act.put, List.setIfInBounds_toArray, List.set_cons_zero, List.set_cons_succ]
                refine tkW 2 (some 197) (v := ?_) rfl ?_ ?_
                rotate_left
                · intro v hSv; have hcz := hSv; clear hSv; go_simp; (try with_reducible rfl)
                try simp only [Act.put, List.setIfInBounds_toArray, List.set_cons_zero, List.set_cons_succ]
                refine tkW 3 (some 198) (v := ?_) rfl ?_ ?_
                rotate_left
                · intro v hSv; have hcz := hSv; clear hSv; go_simp; (try with_reducible rfl)
                try simp only [Act.put, List.setIfInBounds_toArray, List.set_cons_zero, List.set_cons_succ]
                refine tkW 5 (some 200) (v := ?_) rfl ?_ ?_
                rotate_left
                · intro v hSv; have hcz := hSv; clear hSv; go_simp; (try with_reducible rfl)
                try simp only [Act.put, List.setIfInBounds_toArray, List.set_cons_zero, List.set_cons_succ]
                refine tkW 6 (some 201) (v := ?_) rfl ?_ ?_
                rotate_left
                · intro v hSv; have hcz := hSv; clear hSv; go_simp; (try with_reducible rfl)
                try simp only [Act.put, List.setIfInBounds_toArray, List.set_cons_zero, List.set_cons_succ]
                refine tkW 7 (some 202) (v := ?_) rfl ?_ ?_
                rotate_left
                · intro v hSv; have hcz := hSv; clear hSv; go_simp; (try with_reducible rfl)
                try simp only [Act.put, List.setIfInBounds_toArray, List.set_cons_zero, List.set_cons_succ]
                refine tkW 8 (some 203) (v := ?_) rfl ?_ ?_
                rotate_left
                · intro v hSv; have hcz := hSv; clear hSv; go_simp; (try with_reducible rfl)
                try simp only [Act.put, List.setIfInBounds_toArray, List.set_cons_zero, List.set_cons_succ]
                refine rdH 4 (some 199) rfl (fun K hK => ?_)
                go_simp
                (refine (HKI.out _).mono ?_); rintro e w9 ⟨rfl, hb9⟩; have hQ2 := joinB hQ hb9; clear hQ hSn hb9; have hQ := hQ2; clear hQ2; have hSn := HS8.out _ hQ
                refine hK.out _ _ ?_ (fun hHeld => ?_)
                · exact hSn
                clear hK K
                try simp only [Act.put, List.setIfInBounds_toArray, List.set_cons_zero, List.set_cons_succ]
                refine tkW 9 (some 204) (v := ?_) rfl ?_ ?_
                rotate_left
                · intro v hSv; have hcz := hSv; clear hSv; go_simp; (try with_reducible rfl)
                try simp only [Act.put, List.setIfInBounds_toArray, List.set_cons_zero, List.set_cons_succ]
                refine tkW 10 (some 205) (v := ?_) rfl ?_ ?_
                rotate_left
                · intro v hSv; have hcz := hSv; clear hSv; go_simp; (try with_reducible rfl)
                try simp only [Act.put, List.setIfInBounds_toArray, List.set_cons_zero, List.set_cons_succ]
                refine tkW 11 (some 206) (v := ?_) rfl ?_ ?_
                rotate_left
                · intro v hSv; have hcz := hSv; clear hSv; go_simp; (try with_reducible rfl)
                try simp only [Act.put, List.setIfInBounds_toArray, List.set_cons_zero, List.set_cons_succ]
                refine tkW 12 (some 207) (v := ?_) rfl ?_ ?_
                rotate_left
                · intro v hSv; have hcz := hSv; clear hSv; go_simp; (try with_reducible rfl)
                try simp only [Act.put, List.setIfInBounds_toArray, List.set_cons_zero, List.set_cons_succ]
                refine tkW 13 (some 208) (v := ?_) rfl ?_ ?_
                rotate_left
                · intro v hSv; have hcz := hSv; clear hSv; go_simp; (try with_reducible rfl)
                try simp only [Act.put, List.setIfInBounds_toArray, List.set_cons_zero, List.set_cons_succ]
                refine tkW 14 (some 209) (v := ?_) rfl ?_ ?_
                rotate_left
                · intro v hSv; have hcz := hSv; clear hSv; go_simp; (try with_reducible rfl)
                try simp only [Act.put, List.setIfInBounds_toArray, List.set_cons_zero, List.set_cons_succ]
                refine tkO 15 (some 210) rfl ?_
                try simp only [Act.put, List.setIfInBounds_toArray, List.set_cons_zero, List.set_cons_succ]
                refine tkO 16 (some 211) rfl ?_
                try simp only [Act.put, List.setIfInBounds_toArray, List.set_cons_zero, List.set_cons_succ]
                refine tkO 17 (some 212) rfl ?_
                try simp only [Act.put, List.setIfInBounds_toArray, List.set_cons_zero, List.set_cons_succ]
                refine tkW 18 (some 213) (v := ?_) rfl ?_ ?_
                rotate_left
                · intro v hSv; have hcz := hSv; clear hSv; go_simp; (try with_reducible rfl)
                try simp only [Act.put, List.setIfInBounds_toArray, List.set_cons_zero, List.set_cons_succ]
                refine tkW 19 (some 214) (v := ?_) rfl ?_ ?_
                rotate_left
                · intro v hSv; have hcz := hSv; clear hSv; go_simp; (try with_reducible rfl)
                try simp only [Act.put, List.setIfInBounds_toArray, List.set_cons_zero, List.set_cons_succ]
                refine wpAnyH_done (by kernel_rfl) ?_ _
                clear hHeld
                go_wp2_with fail
                go_meet
                case rel => exact ⟨rfl, hQ⟩
            case rest =>
              obtain ⟨rfl, hbc⟩ := hcut
              obtain ⟨w4, rfl⟩ : ∃ wm : World, wm = wc := ⟨_, rfl⟩
              have HI4 := Lib.hid (HI3.out.below hbc)
              have HG4 := Lib.hid (blkOld HG2.out hbc)
              have HP4 := Lib.hid (HP2.out.below hbc)
              clear hbc HI3 HG2 HP2 hcl hyy
              go_wp2_with (first
                | (with_reducible refine listLoad (by kernel_rfl) 36 (.tmp 23) rfl g15 rfl (stA s3 p3) _ HG4.out _ Tryz.underlying36 (by kernel_rfl) (by kernel_rfl) ?_)
                | (with_reducible refine listStore (by kernel_rfl) 36 (.tmp 8) (.tmp 215) rfl g8 (stA s3 p3) _ _ rfl rfl HI4.out.st (by kernel_rfl) (by kernel_rfl) (by kernel_rfl) ?_))
              go_roundw
              case rel => exact ⟨i + 1, s3, p3, fs3, by omega, by go_num, HI4.out.put HP4.out HS3.out HI4.out.si rfl (by have := HNE.out; omega) (by have := HNE.out; omega) (by have := HNE.out; omega)⟩
              case measure => simp [intOf]; omega
          · obtain rfl : i = n := by omega
            have HUD := Lib.hid (fun W (hh : OnI i k g8 gk gu w W acts.length s2 p2 fs2 C b u) => sused_all s2 p2 fs2 C hh.ss b u hh.si W hh.pr)
            go_upto_region 39 with (first
              | (with_reducible refine listLoad (by kernel_rfl) 36 (.tmp 8) rfl g8 rfl (stA s2 p2) _ HI2.out.st _ Tryz.underlying36 (by kernel_rfl) (by kernel_rfl) ?_)
              | (go_at_call 14; (refine (HUD.out vr HI2.out).mono ?_); rintro e v1 ⟨s3, p3, fs3, vv, rfl, hp1, hs1, hv1, hb1⟩)
              | (with_reducible refine wpList_store_new rfl 36 (.tmp 26) (.tmp 219) rfl (stA s3 p3) _ _ rfl (by kernel_rfl) (by kernel_rfl) (by kernel_rfl) (by kernel_rfl) ?_))
            have hb2 := joinB hb1 (allocB v1 (.cells (stA s3 p3) 36))
            have HUS := Lib.hid (HI2.out.below hb2).us
            have HBE := Lib.hid (HI2.out.below hb2).be
            obtain ⟨A3, c3, rfl, hread⟩ := OwnL.form hv1
            have HR := Lib.hid (hread.below (allocB v1 (.cells (stA s3 p3) 36)))
            obtain ⟨g15, hg⟩ : ∃ g, g = v1.heap.size := ⟨_, rfl⟩
            obtain ⟨w2, hw2⟩ : ∃ W, W = v1.alloc (.cells (stA s3 p3) 36) := ⟨_, rfl⟩
            rw [← hw2] at HUS HBE HR
            rw [← hw2, ← hg]
            clear hw2 hg hb1 hb2 hp1 hs1 hv1 hread HUD HI2
            try simp only [Act.put]
            have hMn := inUse_len u i
            have HAT := Lib.hid (fun (q : Nat) (hq : q < i) (huq : 0 < u q) => inUse_at huq hq)
            have HLY := Lib.hid (fun (q : Nat) (huq : 0 < u q) => show (inUse u (q + 1)).length = (inUse u q).length + 1 from by rw [inUse_yes huq, List.length_append]; rfl)
            have HLN := Lib.hid (fun (q : Nat) (huq : ¬ 0 < u q) => show (inUse u (q + 1)).length = (inUse u q).length from by rw [inUse_no huq])
            have HL0 := Lib.hid (show (inUse u 0).length = 0 from rfl)
            generalize hlf : (fun q => (inUse u q).length) = lf
            have HLF := Lib.hid (fun q => congrFun hlf q)
            clear hlf
            go_wp2_with fail
            go_loopw [29, 30] (fun x z wv => ∃ q : Nat, q ≤ i ∧ z = .int .i64 (q : Int) ∧ x = .int .i64 (((inUse u q).length : Nat) : Int) ∧ Below w2.heap.size w2 wv) (fun _ z _ => i - (intOf z).toNat)
            case atStart => exact ⟨0, Nat.zero_le _, rfl, by rw [HL0.out]; rfl, Below.refl _ _⟩
            case round =>
              obtain ⟨q, hq, rfl, rfl, hbw⟩ := hrel
              obtain ⟨v3, rfl⟩ : ∃ wm : World, wm = wr := ⟨_, rfl⟩
              have HBW := Lib.hid hbw
              have hq0 : (0 : Int) ≤ (q : Int) := by omega
              by_cases hqi : q < i
              · have hqii : (q : Int) < (i : Int) := by omega
                have hwq : IntKind.i64.wrap ((q : Int) + 1) = (q : Int) + 1 := IntWalk.i64_in _ (by omega)
                have hcl := show v3.cell? ⟨gu, q, none⟩ = some (.int .i64 (u q : Int)) from by rw [blkCell (blkOld HUS.out hbw), usedA_at _ hqi]
                have hlq := inUse_len u q
                by_cases huq : 0 < u q
                · have huqi : (0 : Int) < (u q : Int) := by omega
                  obtain ⟨hml, hat⟩ := HAT.out q hqi huq
                  obtain ⟨b3, o3, rfl, hc3, hb3, hx3⟩ := read_at numC_len (HR.out.below hbw) hml
                  have hy3 : v3.cell? ⟨b3, o3 + (inUse u q).length, none⟩ = some (.int .i64 (q : Int)) := by have := hx3 0 _ rfl; rw [hat] at this; simpa using this
                  have HL1 := Lib.hid (HLY.out q huq)
                  clear hx3 hc3 hb3 hat hbw
                  generalize (inUse u q).length = m at hml hy3 HL1 hlq ⊢
                  generalize (inUse u i).length = M at hml HR hMn ⊢
                  have hmM : ¬ M ≤ m := by omega
                  have hmMi : ¬ (M : Int) ≤ (m : Int) := by omega
                  have hmMj : (m : Int) < (M : Int) := by omega
                  have hm0 : (0 : Int) ≤ (m : Int) := by omega
                  have hwm : IntKind.i64.wrap ((m : Int) + 1) = (m : Int) + 1 := IntWalk.i64_in _ (by omega)
                  have hqq : (q != q) = false := bne_self_eq_false _
                  have hqqi : ((q : Int) != (q : Int)) = false := bne_self_eq_false _
                  go_wp2_with fail
                  go_roundw
                  case rel => exact ⟨q + 1, by omega, by go_num, by rw [HL1.out]; go_num, HBW.out⟩
                  case measure => simp [intOf]; omega
                · have huqi : ¬ (0 : Int) < (u q : Int) := by omega
                  have HL1 := Lib.hid (HLN.out q huq)
                  clear hbw
                  generalize (inUse u q).length = m at HL1 hlq ⊢
                  go_wp2_with fail
                  go_roundw
                  case rel => exact ⟨q + 1, by omega, by go_num, by rw [HL1.out], HBW.out⟩
                  case measure => simp [intOf]; omega
              · obtain rfl : q = i := by omega
                clear hbw
                generalize (inUse u q).length = M at HR hMn ⊢
                have hMM : (M == M) = true := beq_self_eq_true _
                have hMMi : ((M : Int) == (M : Int)) = true := beq_self_eq_true _
                go_wp2_with (go_at_call 6; (refine (HAW.out _).mono ?_); rintro e v5 ⟨rfl, hb5⟩)
                go_ret
                exact ⟨rfl, HBE.out.trans ((joinB HBW.out hb5).mono HBE.out.size)⟩
  · have hm0 : (40 : Int) < (acts.length : Int) := by omega
    clear hr
    go_enter Tryz.func4, Tryz.ntmps4
    go_wp2_with (go_at_call 6; (refine (HAW.out _).mono ?_); rintro e v1 ⟨rfl, hb1⟩)
    go_ret
    exact ⟨rfl, hb1⟩
end Go.Proofs.YtmebkghdkeeobaaGreatDoor
