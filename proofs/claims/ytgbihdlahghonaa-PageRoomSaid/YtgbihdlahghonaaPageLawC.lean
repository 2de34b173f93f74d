/- The walk of PageRoom. -/
import Derived.Test.YtgbihdlahghonaaPagePlain8
import Derived.Test.YtgbihdlahghonaaPageLawA
namespace Go.Proofs.Ytgbihdlahghonaa
open Go.RowKit

theorem zerosB_back (m n c X : Nat) (hm : m ≤ n) (W : World) (h : ∀ j, j < n → W.cell? ⟨X, j, none⟩ = some (.int .u8 0)) : (convert 30 9 (.slice (some ⟨X, 0, none⟩) m c)).run Try.prog W = .ok (.string (zerosB m)) W := by
  have h := run_convert_bytes_back (P := Try.prog) W 30 9 5 ⟨X, 0, none⟩ c (List.replicate m 0) Try.underlying30 Try.underlying5 Try.underlying9 (fun j hj => by
    have hj' : j < m := by simpa using hj
    rw [show (⟨X, 0, none⟩ : Addr).add j = ⟨X, 0 + j, none⟩ from Addr.add_mid X 0 j, Nat.zero_add, h j (by omega)]
    simp)
  rw [List.length_replicate] at h
  exact h
theorem bytes_back (l : List UInt8) (c X : Nat) (W : World) (h : ∀ j (hj : j < l.length), W.cell? ⟨X, j, none⟩ = some (.int .u8 (l[j].toNat : Int))) : (convert 30 9 (.slice (some ⟨X, 0, none⟩) l.length c)).run Try.prog W = .ok (.string ⟨l.toArray⟩) W :=
  run_convert_bytes_back (P := Try.prog) W 30 9 5 ⟨X, 0, none⟩ c l Try.underlying30 Try.underlying5 Try.underlying9 (fun j hj => by
    rw [show (⟨X, 0, none⟩ : Addr).add j = ⟨X, 0 + j, none⟩ from Addr.add_mid X 0 j, Nat.zero_add]; exact h j hj)

set_option maxRecDepth 100000 in
set_option maxHeartbeats 8000000 in
theorem roomy_any (p : ByteArray) (at_ by_ : Int) (hp : p.size ≤ 140737488355328) (hat : 0 ≤ at_ ∧ at_ ≤ 65535) (hby : 0 ≤ by_ ∧ by_ ≤ 255) (w : World) :
    Calls Try.prog 4 #[.string p, .int .u16 at_, .int .u8 by_] w fun e w' => e = .returned (.bool true) ∧ Below w.heap.size w w' := by
  have HW := Lib.hid (fun W => awake_any W)
  by_cases hlong : 600 < p.size
  · have h600 : (600 : Int) < (p.size : Int) := by omega
    clear hlong
    go_enter Try.func4, Try.ntmps4
    go_wp2_with (first | (go_at_call 14; refine (HW.out _).mono ?_; rintro e w1 ⟨rfl, hb1⟩))
    go_ret
    exact ⟨rfl, hb1⟩
  have h600 : (p.size : Int) ≤ 600 := by omega
  have hm : p.size ≤ 1048576 := by omega
  have HR := Lib.hid (fun W => right_any p hm W)
  cases hb : isPg p with
  | false =>
    rw [hb] at HR
    clear hlong hb
    go_enter Try.func4, Try.ntmps4
    go_wp2_with (first | (go_at_call 14; refine (HW.out _).mono ?_; rintro e w1 ⟨rfl, hb1⟩) | (go_at_call 17; refine (HR.out _).mono ?_; rintro e w2 ⟨rfl, hb2⟩))
    go_ret
    exact ⟨rfl, andThen hb2 hb1⟩
  | true =>
  rw [hb] at HR
  clear hlong
  obtain ⟨n, hn, hn4⟩ := room_bounds hb
  obtain ⟨hP1, hP2, hP3⟩ := room_put hb n hn
  have hfl := Pg.freeN_le (leafP p).recs
  have hln := (leafP_good p).fine.len
  obtain ⟨s1, s2, s3, s4⟩ := sealB_is hb
  have HRo := Lib.hid (fun W => room_any p hm W)
  rw [hn] at HRo
  have HFr := Lib.hid (fun W => free_any p hm W)
  have HSl := Lib.hid (fun W => slots_any p hm W)
  have HP1 := Lib.hid (fun W => pput_any p (Pg.freeN (leafP p).recs : Nat) (zerosB n) hm W)
  have HP2 := Lib.hid (fun W => pput_any p (Pg.freeN (leafP p).recs : Nat) (zerosB (n + 1)) hm W)
  have HSe := Lib.hid (fun W => seal_any p hm W)
  have HSd := Lib.hid (fun W => sealed_any (sealB p) (by omega) W)
  rw [s3] at HSd
  have HL1 := Lib.hid (fun W => plain_any p hm W)
  have HL2 := Lib.hid (fun W => plain_any (sealB p) (by omega) W)
  have hpl : lsnB (sealB p) ((leafP (sealB p)).lsn : Nat) = lsnB p ((leafP p).lsn : Nat) := by
    unfold lsnB
    rw [s1, s2, hb]
  rw [hpl] at HL2
  generalize lsnB p ((leafP p).lsn : Nat) = pl at HL1 HL2
  generalize putO p (Pg.freeN (leafP p).recs : Nat) (zerosB n) = o1 at HP1 hP1 hP2
  generalize putO p (Pg.freeN (leafP p).recs : Nat) (zerosB (n + 1)) = o2 at HP2 hP3
  generalize Pg.freeN (leafP p).recs = f at HFr HP1 HP2 hfl
  generalize (leafP p).recs.length = len at HSl hfl hln
  obtain ⟨q1, e1⟩ := o1
  obtain ⟨q2, e2⟩ := o2
  have HT : ∀ b : ByteArray, ∀ (k : Nat) (c d : UInt8) (l1 l2 : List UInt8), (sealB p).data.toList = l1 ++ c :: l2 → b.data.toList = l1 ++ d :: l2 → l1.length = k → c ≠ d → sealedP b = false := fun b k c d l1 l2 h1 h2 h3 h4 => turned_no s3 s4 h1 h2 h3 h4
  generalize sealB p = s at HSe HSd HL2 s3 s4 HT
  have HT' := Lib.hid HT
  have HS3 := Lib.hid s3
  clear HT s1 s2 s3 hb hn hpl
  have he1 : (n ≠ 0 → e1 = 0) ∧ (n = 0 → e1 = 1) := ⟨hP1, hP2⟩
  have he2 : ¬ e2 = 0 := hP3
  have he2' : (e2 == 0) = false := by simpa using he2
  clear hP1 hP2 hP3 he2
  have hmk : ∀ W : World, (Instr.makeSlice 30 (.int .i64 ((n : Int) + 1)) (.int .i64 ((n : Int) + 1))).run Try.prog W = .ok (.slice (some ⟨W.heap.size, 0, none⟩) (n + 1) (n + 1)) (W.alloc (.cells (madeCells #[Value.int .u8 0] (n + 1)) 5)) := fun W => make_zeros (n + 1) (by omega) W
  go_enter Try.func4, Try.ntmps4
  go_upto_region 7 with (first | (go_at_call 17; refine (HR.out _).mono ?_; rintro e w2 ⟨rfl, hb2⟩) | (go_at_call 29; refine (HRo.out _).mono ?_; rintro e w3 ⟨rfl, hb3⟩) | (go_at_call 27; refine (HFr.out _).mono ?_; rintro e w4 ⟨rfl, hb4⟩) | (go_at_call 25; refine (HSl.out _).mono ?_; rintro e w5 ⟨rfl, hb5⟩))
  clear hmk
  obtain ⟨X, hX⟩ : ∃ X, X = w5.heap.size := ⟨_, rfl⟩
  obtain ⟨W, hWd⟩ : ∃ W, W = w5.alloc (.cells (madeCells #[Value.int .u8 0] (n + 1)) 5) := ⟨_, rfl⟩
  have hcl : ∀ j, j < n + 1 → W.cell? ⟨X, j, none⟩ = some (.int .u8 0) := fun j hj => by
    rw [hWd, hX, World.cell?_alloc_new]
    simp [madeCells, hj, Nat.mod_one]
  have hbW : Below w.heap.size w W := by
    rw [hWd]
    exact below_past_alloc (andThen (andThen (andThen hb2 hb3) hb4) hb5)
  have hXW : X < W.heap.size := by rw [hWd, hX]; simp
  rw [← hWd, ← hX]
  clear hWd hX hb2 hb3 hb4 hb5
  have HC := Lib.hid (fun (V : World) (hV : Below W.heap.size W V) (m c : Nat) (hmn : m ≤ n + 1) => zerosB_back m (n + 1) c X hmn V (fun j hj => by rw [hV.cell (p := ⟨X, j, none⟩) hXW]; exact hcl j hj))
  clear hcl
  have hc1 := HC.out W (Below.refl _ _) n (n + 1) (by omega)
  go_upto_region 8 with (first | (go_at_call 35; refine (HP1.out _).mono ?_; rintro e w6 ⟨rfl, hb6⟩))
  have hc2 := HC.out w6 hb6 (n + 1) (n + 1) (Nat.le_refl _)
  clear hc1
  go_upto_region 9 with (first | (go_at_call 35; refine (HP2.out _).mono ?_; rintro e w7 ⟨rfl, hb7⟩))
  clear hc2
  have hb67 := andThen hbW (andThen hb6 hb7)
  clear hbW hb6 hb7 hXW
  go_cut [83] (fun t wc => t = .bool false ∧ Below w.heap.size w wc)
  case first =>
    by_cases h0 : n = 0
    · have h1 := he1.2 h0
      clear he1
      subst h1
      subst h0
      go_wp2_with fail
      go_meet
      case rel => exact ⟨by simp, hb67⟩
    · have h1 := he1.1 h0
      have h2 : (0 : Int) < (n : Int) := by omega
      have h3 : ((n : Int) == 0) = false := by simp; omega
      clear he1 h0
      subst h1
      go_wp2_with fail
      go_meet
      case rel => exact ⟨by simp, hb67⟩
  case rest =>
    obtain ⟨rfl, hbc⟩ := hcut
    clear hb67 he1 he2' HC
    have hcv : ∀ V : World, _ := fun V => Lib.run_convert_string_bytes (P := Try.prog) V 9 30 5 s Try.underlying9 Try.underlying30 Try.underlying5
    go_upto_region 15 with (first | (go_at_call 33; refine (HSe.out _).mono ?_; rintro e w6 ⟨rfl, hb6⟩) | (go_at_call 31; refine (HSd.out _).mono ?_; rintro e w7 ⟨rfl, hb7⟩) | (go_at_call 36; ((with_reducible refine (HL2.out _).mono ?_); rintro e w8 ⟨rfl, hb8⟩)) | (go_at_call 36; ((with_reducible refine (HL1.out _).mono ?_); rintro e w9 ⟨rfl, hb9⟩)))
    have hb9c := andThen (andThen (andThen (andThen hbc hb6) hb7) hb8) hb9
    clear hcv hbc hb6 hb7 hb8 hb9
    obtain ⟨a, rfl⟩ := Int.eq_ofNat_of_zero_le hat.1
    obtain ⟨k, hk⟩ : ∃ k, k = a % 512 := ⟨_, rfl⟩
    have hki : (a : Int) % 512 = (k : Int) := by omega
    have hk5 : k < 512 := by omega
    have hk6 : (k : Int) < 512 := by omega
    have hsl := size_list s
    obtain ⟨c, hc⟩ : ∃ c, s.data.toList[k]? = some c := ⟨_, List.getElem?_eq_getElem (by omega)⟩
    obtain ⟨b8, hb8⟩ : ∃ b8 : UInt8, by_ = (b8.toNat : Int) := ⟨UInt8.ofNat by_.toNat, by rw [UInt8.toNat_ofNat']; omega⟩
    have hsplit : s.data.toList = s.data.toList.take k ++ c :: s.data.toList.drop (k + 1) := by
      obtain ⟨hk7, hc2⟩ := List.getElem?_eq_some_iff.1 hc
      rw [← hc2, ← List.drop_eq_getElem_cons hk7, List.take_append_drop]
    obtain ⟨l1, hl1⟩ : ∃ l1, l1 = s.data.toList.take k := ⟨_, rfl⟩
    obtain ⟨l2, hl2⟩ : ∃ l2, l2 = s.data.toList.drop (k + 1) := ⟨_, rfl⟩
    rw [← hl1, ← hl2] at hsplit
    have hl1k : l1.length = k := by rw [hl1, List.length_take]; omega
    have hl2k : l2.length = 511 - k := by rw [hl2, List.length_drop]; omega
    obtain ⟨d, hd⟩ : ∃ d : UInt8, d = c ^^^ b8 := ⟨_, rfl⟩
    have hxor : bits .xor .u8 (c.toNat : Int) by_ = (d.toNat : Int) := by
      rw [hb8, hd, UInt8.toNat_xor]
      exact u8_xor_nat _ _ c.toNat_lt b8.toNat_lt
    obtain ⟨V, hV⟩ : ∃ V, V = Lib.bytesWorld w9 5 s := ⟨_, rfl⟩
    have hVc : ∀ j, j < 512 → V.cell? ⟨w9.heap.size, j, none⟩ = some (.int .u8 ((s.data.toList.getD j 0).toNat : Int)) := fun j hj => by
      rw [hV]; exact Lib.bytesWorld_cell w9 5 s j (by omega)
    have hVk : V.cell? ⟨w9.heap.size, k, none⟩ = some (.int .u8 (c.toNat : Int)) := by
      rw [hVc k hk5, List.getD_eq_getElem?_getD, hc]; rfl
    have hVf : V.frozen? ⟨w9.heap.size, k, none⟩ = false := by
      have hbs : 512 ≤ (Lib.bytesCells w9 5 s).size := by
        unfold Lib.bytesCells
        rw [Array.size_append, Array.size_map]
        have : s.data.size = 512 := s4
        omega
      rw [hV]
      unfold World.frozen?
      rw [show (⟨w9.heap.size, k, none⟩ : Addr).block = w9.heap.size from rfl, Lib.bytesWorld_at_new]
      show (decide (_ ≤ k) && _) = false
      rw [decide_eq_false (by omega), Bool.false_and]
    have hVb : Below w9.heap.size w9 V := by rw [hV]; exact below_bytes _ _ _
    have hVs : w9.heap.size < V.heap.size := by rw [hV, Lib.bytesWorld_size]; omega
    rw [← hV]
    clear hV
    obtain ⟨Y, hY⟩ : ∃ Y, Y = w9.heap.size := ⟨_, rfl⟩
    rw [← hY] at hVc hVk hVf hVs ⊢
    have hYw : w.heap.size ≤ Y := by rw [hY]; exact hb9c.size
    have hbV := andThen hb9c hVb
    clear hY hVb hb9c
    have hlen : (l1 ++ d :: l2).length = 512 := by rw [List.length_append, List.length_cons, hl1k, hl2k]; omega
    have hnew : ∀ j (hj : j < (l1 ++ d :: l2).length), (V.setCell ⟨Y, k, none⟩ (.int .u8 (d.toNat : Int))).cell? ⟨Y, j, none⟩ = some (.int .u8 ((l1 ++ d :: l2)[j].toNat : Int)) := fun j hj => by
      have hj5 : j < 512 := by omega
      by_cases hjk : j = k
      · subst hjk
        have e1 : (l1 ++ d :: l2)[j] = d := by
          rw [List.getElem_append_right (by omega)]
          simp [hl1k]
        rw [e1]
        exact World.cell?_setCell_same V ⟨Y, j, none⟩ _ hVk
      · have e1 : (V.setCell ⟨Y, k, none⟩ (.int .u8 (d.toNat : Int))).cell? ⟨Y, j, none⟩ = V.cell? ⟨Y, j, none⟩ := World.cell?_setCell_other V ⟨Y, k, none⟩ ⟨Y, j, none⟩ _ (by intro e; injection e with _ e2 _; exact hjk e2.symm)
        rw [e1, hVc j hj5]
        have e2 : (l1 ++ d :: l2)[j]? = (l1 ++ c :: l2)[j]? := by
          rw [List.getElem?_append, List.getElem?_append]
          split
          · rfl
          · rename_i h9
            obtain ⟨m, hm9⟩ : ∃ m, j - l1.length = m + 1 := ⟨j - l1.length - 1, by omega⟩
            rw [hm9, List.getElem?_cons_succ, List.getElem?_cons_succ]
        have e3 : s.data.toList.getD j 0 = (l1 ++ d :: l2)[j] := by
          rw [List.getD_eq_getElem?_getD, hsplit, ← e2, List.getElem?_eq_getElem hj]; rfl
        rw [e3]
    have HB := Lib.hid (fun (U : World) (hU : Below V.heap.size V (V)) (hbU : Below (V.setCell ⟨Y, k, none⟩ (.int .u8 (d.toNat : Int))).heap.size (V.setCell ⟨Y, k, none⟩ (.int .u8 (d.toNat : Int))) U) (cc : Nat) => bytes_back (l1 ++ d :: l2) cc Y U (fun j hj => by
      rw [hbU.cell (p := ⟨Y, j, none⟩) (by simpa using hVs)]; exact hnew j hj))
    rw [hlen] at HB
    obtain ⟨b', hb'⟩ : ∃ b' : ByteArray, b' = ⟨(l1 ++ d :: l2).toArray⟩ := ⟨_, rfl⟩
    rw [← hb'] at HB
    have hbz : b'.size = 512 := by rw [hb', ← size_list]; exact hlen
    have HSx := Lib.hid (fun W => sealed_any b' (by omega) W)
    have hres : sealedP b' = (by_ == 0) := by
      by_cases h0 : b8 = 0
      · have hd0 : d = c := by rw [hd, h0]; simp
        have hbs : b' = s := by
          apply bytes_eq
          rw [hb', hsplit, hd0]
        rw [hbs, HS3.out, hb8, h0]; rfl
      · have hcd : c ≠ d := fun e => h0 (by
          have h7 : c ^^^ b8 = c := by rw [← hd]; exact e.symm
          have h8 : c ^^^ b8 = c ^^^ 0 := by rw [h7]; simp
          have h9 := congrArg UInt8.toNat h8
          rw [UInt8.toNat_xor, UInt8.toNat_xor, Nat.xor_comm c.toNat, Nat.xor_comm c.toNat] at h9
          exact UInt8.toNat_inj.1 (Oct.xor_cancel h9))
        rw [HT'.out b' k c d l1 l2 hsplit (by rw [hb']) hl1k hcd, hb8]
        have : b8.toNat ≠ 0 := fun e => h0 (UInt8.toNat_inj.1 (by rw [e]; rfl))
        simp; omega
    rw [hres] at HSx
    clear hres hbz hb' hlen hnew hVc hd hb8 hsplit hl1 hl2 hl1k hl2k hc hsl hk hk5 s4
    go_wp2_with (first | (go_at_call 14; refine (HW.out _).mono ?_; rintro e w10 ⟨rfl, hb10⟩; have hcb := HB.out w10 (Below.refl _ _) hb10) | (go_at_call 31; refine (HSx.out _).mono ?_; rintro e w11 ⟨rfl, hb11⟩))
    go_ret
    exact ⟨by simp, andThen (andThen (hbV.setCell hYw _) hb10) hb11⟩
end Go.Proofs.Ytgbihdlahghonaa
