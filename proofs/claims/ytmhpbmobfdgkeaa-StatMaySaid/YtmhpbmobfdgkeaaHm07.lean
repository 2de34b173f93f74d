/- The walk over package stat: of. -/
import Derived.Test.YtmhpbmobfdgkeaaHm06
namespace Go.Proofs.Ytmhpbmobfdgkeaa
open Go.RowKit
theorem says_congr {p q : Prop} (h : p ↔ q) {w : World} {e : Ending} {w' : World} (hs : Says p w e w') : Says q w e w' := by
  obtain ⟨b, he, hb, hw⟩ := hs
  exact ⟨b, he, hb.trans h, hw⟩
theorem reads_take {α : Type} {enc : α → List Value} {k : Nat} {w : World} {A : Option Addr} {c : Nat} {l : List α} (_hk : ∀ x, (enc x).length = k) (h : Reads w A c l.length (l.flatMap enc)) (m : Nat) (hm : m ≤ l.length) : Reads w A c m ((l.take m).flatMap enc) := fun h0 => by
  obtain ⟨b, off, e, h1, h2, h3⟩ := h.at_ (by omega)
  refine ⟨b, off, e, by omega, h2, fun j v hj => h3 j v ?_⟩
  have h4 : l.flatMap enc = (l.take m).flatMap enc ++ (l.drop m).flatMap enc := by rw [← List.flatMap_append, List.take_append_drop]
  rw [h4, List.getElem?_append_left (List.getElem?_eq_some_iff.1 hj).1]
  exact hj
theorem grown_below {w w' : World} (h : w.grownBy w' none) : Below w.heap.size w w' := ⟨h.os, h.tape, h.output, h.size, fun k hk => h.block k hk (by simp)⟩
set_option maxRecDepth 100000 in
set_option maxHeartbeats 8000000 in
theorem of_any (l : List Sp.Val) (hl : l.length ≤ 1000) (A : Option Addr) (c : Nat) (w : World) (hr : Reads w A c l.length (l.flatMap valC)) :
    Calls Try.prog 19 #[.slice A l.length c] w (fun e w' => ∃ p : PCol, e = .returned (.agg (colA p)) ∧ p.c = Sp.colS l ∧ PColN w.heap.size w' p ∧ Below w.heap.size w w') := by
  have HR := Lib.hid hr
  clear hr
  obtain ⟨F, hF⟩ : ∃ F, F = l.filter Sp.known := ⟨_, rfl⟩
  have hFF : l.filter (fun x => !(!Sp.known x)) = F := by rw [hF]; congr 1; funext x; simp
  obtain ⟨O, hO⟩ : ∃ O, O = Sp.others l := ⟨_, rfl⟩
  have hSO : Sp.sortO Sp.ordV F = O := by rw [hO, hF]; rfl
  have hFl : F.length = O.length := by rw [← hSO, Sp.sort_len]
  have hOl : O.length ≤ l.length := by rw [← hFl, hF]; exact List.length_filter_le _ _
  obtain ⟨Q, hQ⟩ : ∃ Q, Q = Sp.cntV O := ⟨_, rfl⟩
  have hQl : Q.length ≤ O.length := by rw [hQ]; exact cnt_len O
  have HDE := Lib.hid (fun v1 W B (h1 : OwnL valC 3 36 B W v1 l) h2 => deleteV_any (fun x => !Sp.known x) 35 #[] (enters_of Try.func35 (by kernel_rfl) rfl) l (by omega) B v1 W h1 h2 (fun x _ W' => (of1_any x W').mono (fun e w' h => says_congr (by have := @Sp.known_iff x; simp; rw [← Bool.not_eq_true, this]; simp) h)))
  rw [hFF] at HDE
  have HDE2 := Lib.hid (show ∀ v1 W B, OwnL valC 3 36 B W v1 l → B ≤ W.heap.size → Calls Try.prog 33 #[v1, .func (.func 35) #[] #[]] W (fun e w' => ∃ A' c', e = .returned (.slice A' O.length c') ∧ OwnL valC 3 36 B w' (.slice A' O.length c') F ∧ Below B W w') from fun v1 W B h1 h2 => (HDE.out v1 W B h1 h2).mono (fun e w' h => by
    obtain ⟨u, he, ho, hb⟩ := h
    obtain ⟨A', c', rfl⟩ := ownLen ho
    have ho' : w'.ownsRow B 36 3 (.slice A' F.length c') F.length (F.flatMap valC) := ho
    rw [hFl] at he ho'
    exact ⟨A', c', he, by show w'.ownsRow B 36 3 _ F.length _; rw [hFl]; exact ho', hb⟩))
  have HSO := Lib.hid (show ∀ A' c' W B, OwnL valC 3 36 B W (.slice A' O.length c') F → B ≤ W.heap.size → Calls Try.prog 37 #[.slice A' O.length c', .func (.func 13) #[] #[]] W (fun e w' => e = .returned (.tuple #[]) ∧ OwnL valC 3 36 B w' (.slice A' O.length c') O ∧ Below B W w') from fun A' c' W B h1 h2 => (sortV_any F (by omega) B _ W h1 h2).mono (fun e w' h => by rw [hSO] at h; exact h))
  have HCN := Lib.hid (show ∀ A' c' W, Reads W A' c' O.length (O.flatMap valC) → Calls Try.prog 38 #[.slice A' O.length c'] W (fun e w' => ∃ A2 c2, e = .returned (.slice A2 Q.length c2) ∧ OwnL oftC 4 48 W.heap.size w' (.slice A2 Q.length c2) Q ∧ Below W.heap.size W w') from fun A' c' W h1 => (counted_any O (by omega) A' c' W h1).mono (fun e w' h => by
    obtain ⟨v, he, ho, hb⟩ := h
    rw [← hQ] at ho
    obtain ⟨A2, c2, rfl⟩ := ownLen ho
    exact ⟨A2, c2, he, ho, hb⟩))
  have HCS := Lib.hid (show Sp.colS l = ⟨(l.length : Int) - (O.length : Int), (Q.length : Int), Sp.endsV O, Sp.comV Q⟩ from by unfold Sp.colS; rw [← hO, ← hQ])
  have HQE := Lib.hid (show O.length = 0 → Sp.endsV O = [] ∧ Sp.comV Q = [] from fun h => by
    have h0 : O = [] := List.eq_nil_of_length_eq_zero h
    subst h0
    have h1 : Q = [] := hQ
    subst h1
    exact ⟨rfl, by simp [Sp.comV, Sp.oftF, Sp.sortO]⟩)
  obtain ⟨F2, hF2⟩ : ∃ F2, F2 = Sp.oftF Q := ⟨_, rfl⟩
  obtain ⟨S2, hS2⟩ : ∃ S2, S2 = Sp.sortO Sp.ordO F2 := ⟨_, rfl⟩
  have hS2l : S2.length = F2.length := by rw [hS2, Sp.sort_len]
  have hF2l : F2.length ≤ Q.length := by rw [hF2]; exact List.length_filter_le _ _
  have HCO := Lib.hid (show Sp.comV Q = S2.take 4 from by unfold Sp.comV; rw [← hF2, ← hS2])
  have HDO := Lib.hid (show ∀ v1 W B, OwnL oftC 4 48 B W v1 Q → B ≤ W.heap.size → Calls Try.prog 39 #[v1, .func (.func 41) #[] #[]] W (fun e w' => ∃ A' c', e = .returned (.slice A' S2.length c') ∧ OwnL oftC 4 48 B w' (.slice A' S2.length c') F2 ∧ Below B W w') from fun v1 W B h1 h2 => (deleteO_any (fun o => decide (o.n < 2)) 41 #[] (enters_of Try.func41 (by kernel_rfl) rfl) Q (by omega) B v1 W h1 h2 (fun x _ W' => (of2_any x W').mono (fun e w' h => says_congr (by simp) h))).mono (fun e w' h => by
    obtain ⟨u, he, ho, hb⟩ := h
    have ho2 : OwnL oftC 4 48 B w' u F2 := by rw [hF2]; exact ho
    obtain ⟨A', c', rfl⟩ := ownLen ho2
    have ho' : w'.ownsRow B 48 4 (.slice A' F2.length c') F2.length (F2.flatMap oftC) := ho2
    rw [← hS2l] at he ho'
    exact ⟨A', c', he, by show w'.ownsRow B 48 4 _ F2.length _; rw [← hS2l]; exact ho', hb⟩))
  have HSO2 := Lib.hid (show ∀ A' c' W B, OwnL oftC 4 48 B W (.slice A' S2.length c') F2 → B ≤ W.heap.size → Calls Try.prog 42 #[.slice A' S2.length c', .func (.func 43) #[] #[]] W (fun e w' => e = .returned (.tuple #[]) ∧ OwnL oftC 4 48 B w' (.slice A' S2.length c') S2 ∧ Below B W w') from fun A' c' W B h1 h2 => (sortO_any F2 (by omega) B _ W h1 h2).mono (fun e w' h => by rw [← hS2] at h; exact h))
  have hS2b : S2.length ≤ Q.length := by omega
  clear hFF hSO hF hO hQ HDE hF2 hS2 hS2l hFl
  go_enter Try.func19, Try.ntmps19
  go_upto_region 1 with fail
  have H0 := Lib.hid (show BxL w.heap.size w [(#[.int .i64 0, .int .i64 0, .slice none 0 0, .slice none 0 0], 39)] (w.alloc (.cells #[.int .i64 0, .int .i64 0, .slice none 0 0, .slice none 0 0] 39)) from ((BxL.nil (Below.refl w.heap.size w)).new (by simp) #[.int .i64 0, .int .i64 0, .slice none 0 0, .slice none 0 0] 39))
  obtain ⟨W0, hW0⟩ : ∃ W, W = (w.alloc (.cells #[.int .i64 0, .int .i64 0, .slice none 0 0, .slice none 0 0] 39)) := ⟨_, rfl⟩
  rw [← hW0] at H0 ⊢
  clear hW0
  have HCL := Lib.hid (cloneV_any l (by omega) A c W0 (HR.out.below H0.out.below))
  clear HR
  go_upto_region 6 with (first
    | (go_at_call 34; (with_reducible refine HCL.out.mono ?_); rintro e w1 ⟨v1, rfl, ho1, hb1⟩)
    | (go_at_call 33; (with_reducible refine (HDE2.out v1 _ _ ho1 hb1.size).mono ?_); rintro e w2 ⟨OA, oc, rfl, ho2, hb2⟩)
    | (go_at_call 37; (with_reducible refine (HSO.out OA oc _ _ ho2 (Nat.le_trans hb1.size hb2.size)).mono ?_); rintro e w3 ⟨rfl, ho3, hb3⟩)
    | (go_at_call 38; (with_reducible refine (HCN.out OA oc _ (own_reads ho3)).mono ?_); rintro e w4 ⟨QA, qc, rfl, ho4, hb4⟩)
    | (with_reducible refine wpList_store_new rfl 39 (.tmp 6) (.tmp 24) rfl #[.int .i64 ((l.length : Int) - (O.length : Int)), .int .i64 (Q.length : Int), (.slice none 0 0), (.slice none 0 0)] _ _ rfl (by kernel_rfl) (by kernel_rfl) (by kernel_rfl) (by kernel_rfl) ?_))
  obtain ⟨gx, hgx⟩ : ∃ g, g = w4.heap.size := ⟨_, rfl⟩
  have HOA := Lib.hid (ownBelow ho3 hb4)
  have HQA := Lib.hid (own_reads ho4)
  have hW04 : Below W0.heap.size W0 w4 := ((hb1.trans hb2).trans hb3).trans (hb4.mono (Nat.le_trans hb1.size (Nat.le_trans hb2.size hb3.size)))
  have HZ4 := Lib.hid (H0.out.step hW04)
  have HGW := Lib.hid (show w.heap.size < gx from by have := hW04.size; have := H0.out.lt (i := 0) (by simp); omega)
  have HXB := Lib.hid (heap_alloc_new w4 (.cells #[.int .i64 ((l.length : Int) - (O.length : Int)), .int .i64 (Q.length : Int), (.slice none 0 0), (.slice none 0 0)] 39))
  have hB5 := allocB w4 (.cells #[.int .i64 ((l.length : Int) - (O.length : Int)), .int .i64 (Q.length : Int), (.slice none 0 0), (.slice none 0 0)] 39)
  obtain ⟨W5, hW5⟩ : ∃ W, W = w4.alloc (.cells #[.int .i64 ((l.length : Int) - (O.length : Int)), .int .i64 (Q.length : Int), (.slice none 0 0), (.slice none 0 0)] 39) := ⟨_, rfl⟩
  rw [← hgx, ← hW5] at HXB
  rw [← hgx, ← hW5] at hB5
  rw [← hW5, ← hgx]
  have HB5 := Lib.hid hB5
  clear hW5 hB5 ho1 ho2 ho3 ho4 hb1 hb2 hb3 hb4 hW04 HCL HDE2 HSO HCN H0
  have HGX := Lib.hid hgx
  clear hgx
  simp only [Act.put]
  by_cases hn : O.length = 0
  · obtain ⟨he1, he2⟩ := HQE.out hn
    have HE := Lib.hid (show Sp.colS l = ⟨(l.length : Int) - (O.length : Int), (Q.length : Int), [], []⟩ from by rw [HCS.out, he1, he2])
    have HN0 := Lib.hid hn
    have HZ5 := Lib.hid (blkOld HZ4.out.get0 (by rw [← HGX.out]; exact HB5.out))
    have hq : ((O.length : Int) == 0) = true := by rw [hn]; rfl
    have HBW := Lib.hid (HZ4.out.below.trans (HB5.out.mono (Nat.le_of_lt HGW.out)))
    clear HQE HCS he1 he2 hn HGX HOA HQA
    go_wp2_with (first | (with_reducible refine listLoad (by kernel_rfl) 39 (.tmp 6) rfl gx rfl #[.int .i64 ((l.length : Int) - (O.length : Int)), .int .i64 (Q.length : Int), (.slice none 0 0), (.slice none 0 0)] _ HXB.out _ Try.underlying39 (by kernel_rfl) (by kernel_rfl) ?_) | (with_reducible refine listStore (by kernel_rfl) 39 (.tmp 2) (.tmp 27) rfl w.heap.size #[.int .i64 ((l.length : Int) - (O.length : Int)), .int .i64 (Q.length : Int), (.slice none 0 0), (.slice none 0 0)] _ _ rfl rfl HZ5.out (by kernel_rfl) (by kernel_rfl) (by kernel_rfl) ?_))
    refine bodyPost_ret (v := .agg #[.int .i64 ((l.length : Int) - (O.length : Int)), .int .i64 (Q.length : Int), (.slice none 0 0), (.slice none 0 0)]) (results_cell rfl _ _ rfl (load_whole (setRow_heap _ _ _ _ _ _ HZ5.out) Try.underlying39 (by kernel_rfl) (by kernel_rfl))) rfl ?_
    exact ⟨⟨⟨(l.length : Int) - (O.length : Int), (Q.length : Int), [], []⟩, none, 0, none, 0⟩, rfl, HE.out.symm, ⟨⟨Reads.none_ _ _ _ _, Reads.none_ _ _ _ _⟩, NewT.none_ _ _ _, NewT.none_ _ _ _⟩, belowRow (Nat.le_refl _) HBW.out _⟩
  · have hq : ((O.length : Int) == 0) = false := beq_eq_false_iff_ne.2 (by omega)
    obtain ⟨og, rfl, hog⟩ : ∃ g, OA = some ⟨g, 0, none⟩ ∧ g < gx := by
      rcases HOA.out.2 with ⟨h, h0⟩ | ⟨g, cap, cur, hv, hg, hh, _⟩
      · exact absurd h0 hn
      · injection hv with h1 h2 h3
        exact ⟨g, h1, by rw [HGX.out]; exact heapLt hh⟩
    have HRO := Lib.hid (show ∀ j (hj : j < O.length) u, Below gx w4 u → u.rangeAt og (j * 3) (valC O[j]) from fun j hj u hu i v hi => by
      rw [hu.cell (p := ⟨og, j * 3 + i, none⟩) hog]
      exact own_range valC_len HOA.out j hj i v hi)
    have HN0 := Lib.hid hn
    have HX5 := Lib.hid (And.intro HXB.out HB5.out)
    clear HQE hn HOA HXB HB5 hog
    go_wp2_with fail
    clear hq
    go_loopw [7] (fun i wr => ∃ (j : Nat) (EA : Option Addr) (ec : Nat), j ≤ 7 ∧ i = .int .i64 ((j : Int) + 1) ∧ wr.ownsRow (gx + 1) 36 3 (.slice EA j ec) j ((Sp.endsK O j).flatMap valC) ∧ wr.heap[gx]? = some (.cells #[.int .i64 ((l.length : Int) - (O.length : Int)), .int .i64 (Q.length : Int), (.slice EA j ec), (.slice none 0 0)] 39 (0, 0)) ∧ Below gx w4 wr) (fun i _ => 8 - (intOf i).toNat)
    case atStart => exact ⟨0, none, 0, by omega, rfl, ownNil _ _ _ _, HX5.out.1, HX5.out.2⟩
    case round =>
      clear HX5
      obtain ⟨j, EA, ec, hj, rfl, ho, hbox, hbw⟩ := hrel
      have HBX := Lib.hid hbox
      have HO := Lib.hid ho
      have HBW := Lib.hid hbw
      clear ho hbox hbw
      by_cases hlt : j < 7
      · have hj8 : (j : Int) + 1 < 8 := by omega
        have hwj : IntKind.i64.wrap ((j : Int) + 1 + 1) = (j : Int) + 1 + 1 := IntWalk.i64_in _ (by omega)
        obtain ⟨t, ht⟩ : ∃ t, t = (j + 1) * O.length / 8 := ⟨_, rfl⟩
        have hmb : (j + 1) * O.length ≤ 7 * O.length := Nat.mul_le_mul_right _ (by omega)
        have ht1 : t < O.length := by rw [ht]; have := HN0.out; omega
        have hmI : ((j : Int) + 1) * (O.length : Int) = (((j + 1) * O.length : Nat) : Int) := by rw [Int.natCast_mul]; rfl
        have hm1 : IntKind.i64.wrap (((j : Int) + 1) * (O.length : Int)) = (((j + 1) * O.length : Nat) : Int) := by rw [hmI]; exact IntWalk.i64_in _ (by omega)
        have hm2 : Int.tdiv (((j + 1) * O.length : Nat) : Int) 8 = (t : Int) := by rw [ht]; rfl
        have hm3 : IntKind.i64.wrap (t : Int) = (t : Int) := IntWalk.i64_in _ (by omega)
        have hm4 : (0 : Int) ≤ (t : Int) := by omega
        have hm5 : (t : Int) < (O.length : Int) := by omega
        have HNX := Lib.hid (show Sp.endsK O (j + 1) = Sp.endsK O j ++ [O[t]] from by rw [Sp.endsK_succ, ← ht, List.getD_eq_getElem?_getD, List.getElem?_eq_getElem ht1]; rfl)
        have HY := Lib.hid (HRO.out t ht1)
        generalize O[t] = x at HNX HY
        obtain ⟨ak, an, sa⟩ := x
        obtain ⟨q, hqe⟩ : ∃ q, q = (j + 1) * O.length := ⟨_, rfl⟩
        rw [← hqe] at hm1 hm2 hmI
        have HT := Lib.hid ht
        clear ht hmb hqe hmI
        go_upto_region 11 with fail
        have hSn : wr.drew.heap[gx]? = some (.cells #[.int .i64 ((l.length : Int) - (O.length : Int)), .int .i64 (Q.length : Int), (.slice EA j ec), (.slice none 0 0)] 39 (0, 0)) ∧ Below gx w4 wr.drew := ⟨HBX.out, HBW.out.drew⟩
        have hO9 := ownBelow HO.out (Below.refl _ wr).drew
        refine wp_region_Z (S := (fun u => u.heap[gx]? = some (.cells #[.int .i64 ((l.length : Int) - (O.length : Int)), .int .i64 (Q.length : Int), (.slice EA j ec), (.slice none 0 0)] 39 (0, 0)) ∧ Below gx w4 u)) 12 (by kernel_rfl) ?_ (fun hHeld => ?_)
        · exact hSn
        generalize wr.drew = w9 at hSn hO9 ⊢
        refine wpAnyZ_take (i := 0) (oi := { dst := some 32, op := _, type := _, pos := _, after := _, guard := _ }) (v := ?_) (p := [12]) rfl (by kernel_rfl) (by kernel_rfl) (by kernel_rfl) (by kernel_rfl) (by kernel_rfl) (by kernel_rfl) (fun _ _ _ h => h) (Or.inl ⟨by rfl, ?_⟩) (by assumption) ?_
        rotate_left
        · intro u hSu; obtain ⟨hSa, hSb⟩ := hSu; have hSv := blkCell hSa; clear hSa hSb; go_simp; (try with_reducible rfl)
        try simp only [Act.put, List.setIfInBounds_toArray, List.set_cons_zero, List.set_cons_succ]
        refine wpAnyZ_take (i := 1) (oi := { dst := some 33, op := _, type := _, pos := _, after := _, guard := _ }) (v := ?_) (p := [12]) rfl (by kernel_rfl) (by kernel_rfl) (by kernel_rfl) (by kernel_rfl) (by kernel_rfl) (by kernel_rfl) (fun _ _ _ h => h) (Or.inl ⟨by rfl, ?_⟩) (by assumption) ?_
        rotate_left
        · intro u hSu; obtain ⟨hSa, hSb⟩ := hSu; have hSv := blkCell hSa; clear hSa hSb; go_simp; (try with_reducible rfl)
        try simp only [Act.put, List.setIfInBounds_toArray, List.set_cons_zero, List.set_cons_succ]
        refine wpAnyZ_take (i := 2) (oi := { dst := some 34, op := _, type := _, pos := _, after := _, guard := _ }) (v := ?_) (p := [12]) rfl (by kernel_rfl) (by kernel_rfl) (by kernel_rfl) (by kernel_rfl) (by kernel_rfl) (by kernel_rfl) (fun _ _ _ h => h) (Or.inl ⟨by rfl, ?_⟩) (by assumption) ?_
        rotate_left
        · intro u hSu; obtain ⟨hSa, hSb⟩ := hSu; have hSv := blkCell hSa; clear hSa hSb; go_simp; (try with_reducible rfl)
        try simp only [Act.put, List.setIfInBounds_toArray, List.set_cons_zero, List.set_cons_succ]
        refine wpAnyZ_take (i := 3) (oi := { dst := some 35, op := _, type := _, pos := _, after := _, guard := _ }) (v := ?_) (p := [12]) rfl (by kernel_rfl) (by kernel_rfl) (by kernel_rfl) (by kernel_rfl) (by kernel_rfl) (by kernel_rfl) (fun _ _ _ h => h) (Or.inl ⟨by rfl, ?_⟩) (by assumption) ?_
        rotate_left
        · intro u hSu; obtain ⟨hSa, hSb⟩ := hSu; have hSv := blkCell hSa; clear hSa hSb; go_simp; (try with_reducible rfl)
        try simp only [Act.put, List.setIfInBounds_toArray, List.set_cons_zero, List.set_cons_succ]
        refine wpAnyZ_take (i := 4) (oi := { dst := some 36, op := _, type := _, pos := _, after := _, guard := _ }) (v := ?_) (p := [12]) rfl (by kernel_rfl) (by kernel_rfl) (by kernel_rfl) (by kernel_rfl) (by kernel_rfl) (by kernel_rfl) (fun _ _ _ h => h) (Or.inl ⟨by rfl, ?_⟩) (by assumption) ?_
        rotate_left
        · intro u hSu; obtain ⟨hSa, hSb⟩ := hSu; have hSv := blkCell hSa; clear hSa hSb; go_simp; (try with_reducible rfl)
        try simp only [Act.put, List.setIfInBounds_toArray, List.set_cons_zero, List.set_cons_succ]
        refine wpAnyZ_take (i := 5) (oi := { dst := some 37, op := _, type := _, pos := _, after := _, guard := _ }) (v := ?_) (p := [12]) rfl (by kernel_rfl) (by kernel_rfl) (by kernel_rfl) (by kernel_rfl) (by kernel_rfl) (by kernel_rfl) (fun _ _ _ h => h) (Or.inl ⟨by rfl, ?_⟩) (by assumption) ?_
        rotate_left
        · intro u hSu; obtain ⟨hSa, hSb⟩ := hSu; have hSv := blkCell hSa; clear hSa hSb; go_simp; (try with_reducible rfl)
        try simp only [Act.put, List.setIfInBounds_toArray, List.set_cons_zero, List.set_cons_succ]
        refine wpAnyZ_take (i := 6) (oi := { dst := some 38, op := _, type := _, pos := _, after := _, guard := _ }) (v := ?_) (p := [12]) rfl (by kernel_rfl) (by kernel_rfl) (by kernel_rfl) (by kernel_rfl) (by kernel_rfl) (by kernel_rfl) (fun _ _ _ h => h) (Or.inl ⟨by rfl, ?_⟩) (by assumption) ?_
        rotate_left
        · intro u hSu; obtain ⟨hSa, hSb⟩ := hSu; have hSv := blkCell hSa; clear hSa hSb; go_simp; (try with_reducible rfl)
        try simp only [Act.put, List.setIfInBounds_toArray, List.set_cons_zero, List.set_cons_succ]
        refine wpAnyZ_take (i := 7) (oi := { dst := some 39, op := _, type := _, pos := _, after := _, guard := _ }) (v := ?_) (p := [12]) rfl (by kernel_rfl) (by kernel_rfl) (by kernel_rfl) (by kernel_rfl) (by kernel_rfl) (by kernel_rfl) (fun _ _ _ h => h) (Or.inl ⟨by rfl, ?_⟩) (by assumption) ?_
        rotate_left
        · intro u hSu; obtain ⟨hSa, hSb⟩ := hSu; have hSv := blkCell hSa; clear hSa hSb; go_simp; (try with_reducible rfl)
        try simp only [Act.put, List.setIfInBounds_toArray, List.set_cons_zero, List.set_cons_succ]
        refine wpAnyZ_take (i := 8) (oi := { dst := some 40, op := _, type := _, pos := _, after := _, guard := _ }) (v := .agg #[.int .i64 ak, .int .i64 an, .string sa]) (p := [12]) rfl (by kernel_rfl) (by kernel_rfl) (by kernel_rfl) (by kernel_rfl) (by kernel_rfl) (by kernel_rfl) (fun _ _ _ h => h) (yieldsIf_load_mid (by rfl) 36 (.tmp 39) rfl og (t * 3) (by rfl) [.int .i64 ak, .int .i64 an, .string sa] _ (fun u hu => HY.out u hu.2) Try.underlying36 (by kernel_rfl) (by kernel_rfl)) (by assumption) ?_
        try simp only [Act.put, List.setIfInBounds_toArray, List.set_cons_zero, List.set_cons_succ]
        refine wpAnyZ_ready (rs := [9]) (by kernel_rfl) (by simp) ?_
        refine AllReadyZ.cons (o := { dst := some 41, op := _, type := _, pos := _, after := _, guard := _ }) rfl (fun K hK => ?_) ?_
        rotate_left
        · exact AllReadyZ.nil
        go_simp
        have hOb := ownBelow hO9 (allocB w9 (.cells #[.int .i64 ak, .int .i64 an, .string sa] 36))
        have hGb := heap_alloc_new w9 (.cells #[.int .i64 ak, .int .i64 an, .string sa] 36)
        have hSa : _ ∧ _ := ⟨blkOld hSn.1 (allocB w9 (.cells #[.int .i64 ak, .int .i64 an, .string sa] 36)), hSn.2.trans ((allocB w9 (.cells #[.int .i64 ak, .int .i64 an, .string sa] 36)).mono (by rw [HGX.out]; exact hSn.2.size))⟩
        clear hSn
        have hSn := hSa
        clear hSa
        refine hK.out _ _ ?_ (fun hHeld => ?_)
        · exact hSn
        clear hK K
        try simp only [Act.put, List.setIfInBounds_toArray, List.set_cons_zero, List.set_cons_succ]
        refine wpAnyZ_ready (rs := [10]) (by kernel_rfl) (by simp) ?_
        refine AllReadyZ.cons (o := { dst := some 42, op := _, type := _, pos := _, after := _, guard := _ }) rfl (fun K hK => ?_) ?_
        rotate_left
        · exact AllReadyZ.nil
        refine wantedIf (by rfl) ?_
        refine wp_push _ (.tmp 33) (.tmp 41) 32 36 Try.underlying32 info_val rfl (by omega) (by omega) rfl (gx + 1) _ j ((Sp.endsK O j).flatMap valC) rfl hOb w9.heap.size (valC ⟨ak, an, sa⟩) 36 rfl hGb rfl (valC_one _) (by omega) (by have := hSn.2.size; have := heapLt hSn.1; omega) ?_
        intro v7 w7 ho7 hg7 hb7
        obtain ⟨A7, c7, rfl⟩ := ownLen ho7
        have hSa : w7.heap[gx]? = some (.cells #[.int .i64 ((l.length : Int) - (O.length : Int)), .int .i64 (Q.length : Int), (.slice EA j ec), (.slice none 0 0)] 39 (0, 0)) ∧ Below gx w4 w7 := ⟨(hb7.block gx (Nat.lt_succ_self _)).trans hSn.1, hSn.2.trans (hb7.mono (Nat.le_succ _))⟩
        clear hSn
        have hSn := hSa
        clear hSa
        have hcx7 := blkCell hSn.1
        have hz7 := blkFrozen hSn.1
        refine hK.out _ _ ?_ (fun hHeld => ?_)
        · exact hSn
        clear hK K
        try simp only [Act.put, List.setIfInBounds_toArray, List.set_cons_zero, List.set_cons_succ]
        refine wpAnyZ_take (i := 11) (oi := { dst := some 43, op := _, type := _, pos := _, after := _, guard := _ }) (v := ?_) (p := [12]) rfl (by kernel_rfl) (by kernel_rfl) (by kernel_rfl) (by kernel_rfl) (by kernel_rfl) (by kernel_rfl) (fun _ _ _ h => h) (Or.inl ⟨by rfl, ?_⟩) (by assumption) ?_
        rotate_left
        · intro u hSu; obtain ⟨hSa, hSb⟩ := hSu; have hSv := blkCell hSa; clear hSa hSb; go_simp; (try with_reducible rfl)
        try simp only [Act.put, List.setIfInBounds_toArray, List.set_cons_zero, List.set_cons_succ]
        refine wpAnyZ_ready (rs := [12]) (by kernel_rfl) (by simp) ?_
        refine AllReadyZ.last (o := { dst := none, op := _, type := _, pos := _, after := _, guard := _ }) rfl (by kernel_rfl) (fun K hK => ?_) ?_
        rotate_left
        · exact AllReadyZ.nil
        go_simp
        refine hK.out _ _ ?_
        clear hK K
        try simp only [Act.put]
        refine wpAnyZ_done (by kernel_rfl) ?_ _
        clear hHeld
        go_wp2_with fail
        go_roundw
        case rel =>
          refine ⟨j + 1, A7, c7, by omega, by simp only [Value.int.injEq, true_and]; omega, ?_, ?_, ?_⟩
          · rw [HNX.out, List.flatMap_append]
            have := ownSet ho7 ⟨gx, 2, none⟩ (.slice A7 (j + 1) c7) (by show gx < gx + 1; omega)
            simpa using this
          · have := blkSet 2 hSn.1 (.slice A7 (j + 1) c7)
            simpa using this
          · exact hSn.2.trans ((Below.refl _ _).setCell (p := ⟨gx, 2, none⟩) (Nat.le_refl _) _)
        case measure => simp [intOf]; omega
      · obtain rfl : j = 7 := by omega
        obtain ⟨t, ht⟩ : ∃ t, t = O.length - 1 := ⟨_, rfl⟩
        have ht1 : t < O.length := by have := HN0.out; omega
        have hm1 : IntKind.i64.wrap ((O.length : Int) - 1) = (t : Int) := by rw [show (O.length : Int) - 1 = (t : Int) by omega]; exact IntWalk.i64_in _ (by omega)
        have hm4 : (0 : Int) ≤ (t : Int) := by omega
        have hm5 : (t : Int) < (O.length : Int) := by omega
        have HNX := Lib.hid (show Sp.endsV O = Sp.endsK O 7 ++ [O[t]] from by unfold Sp.endsV; rw [if_neg HN0.out, ← ht, List.getD_eq_getElem?_getD, List.getElem?_eq_getElem ht1]; rfl)
        have HY := Lib.hid (HRO.out t ht1)
        generalize O[t] = x at HNX HY
        obtain ⟨ak, an, sa⟩ := x
        clear ht
        go_upto_region 12 with fail
        have hSn : wr.drew.heap[gx]? = some (.cells #[.int .i64 ((l.length : Int) - (O.length : Int)), .int .i64 (Q.length : Int), (.slice EA 7 ec), (.slice none 0 0)] 39 (0, 0)) ∧ Below gx w4 wr.drew := ⟨HBX.out, HBW.out.drew⟩
        have hO9 := ownBelow HO.out (Below.refl _ wr).drew
        refine wp_region_Z (S := (fun u => u.heap[gx]? = some (.cells #[.int .i64 ((l.length : Int) - (O.length : Int)), .int .i64 (Q.length : Int), (.slice EA 7 ec), (.slice none 0 0)] 39 (0, 0)) ∧ Below gx w4 u)) 10 (by kernel_rfl) ?_ (fun hHeld => ?_)
        · exact hSn
        generalize wr.drew = w9 at hSn hO9 ⊢
        refine wpAnyZ_take (i := 0) (oi := { dst := some 44, op := _, type := _, pos := _, after := _, guard := _ }) (v := ?_) (p := [10]) rfl (by kernel_rfl) (by kernel_rfl) (by kernel_rfl) (by kernel_rfl) (by kernel_rfl) (by kernel_rfl) (fun _ _ _ h => h) (Or.inl ⟨by rfl, ?_⟩) (by assumption) ?_
        rotate_left
        · intro u hSu; obtain ⟨hSa, hSb⟩ := hSu; have hSv := blkCell hSa; clear hSa hSb; go_simp; (try with_reducible rfl)
        try simp only [Act.put, List.setIfInBounds_toArray, List.set_cons_zero, List.set_cons_succ]
        refine wpAnyZ_take (i := 1) (oi := { dst := some 45, op := _, type := _, pos := _, after := _, guard := _ }) (v := ?_) (p := [10]) rfl (by kernel_rfl) (by kernel_rfl) (by kernel_rfl) (by kernel_rfl) (by kernel_rfl) (by kernel_rfl) (fun _ _ _ h => h) (Or.inl ⟨by rfl, ?_⟩) (by assumption) ?_
        rotate_left
        · intro u hSu; obtain ⟨hSa, hSb⟩ := hSu; have hSv := blkCell hSa; clear hSa hSb; go_simp; (try with_reducible rfl)
        try simp only [Act.put, List.setIfInBounds_toArray, List.set_cons_zero, List.set_cons_succ]
        refine wpAnyZ_take (i := 2) (oi := { dst := some 46, op := _, type := _, pos := _, after := _, guard := _ }) (v := ?_) (p := [10]) rfl (by kernel_rfl) (by kernel_rfl) (by kernel_rfl) (by kernel_rfl) (by kernel_rfl) (by kernel_rfl) (fun _ _ _ h => h) (Or.inl ⟨by rfl, ?_⟩) (by assumption) ?_
        rotate_left
        · intro u hSu; obtain ⟨hSa, hSb⟩ := hSu; have hSv := blkCell hSa; clear hSa hSb; go_simp; (try with_reducible rfl)
        try simp only [Act.put, List.setIfInBounds_toArray, List.set_cons_zero, List.set_cons_succ]
        refine wpAnyZ_take (i := 3) (oi := { dst := some 47, op := _, type := _, pos := _, after := _, guard := _ }) (v := ?_) (p := [10]) rfl (by kernel_rfl) (by kernel_rfl) (by kernel_rfl) (by kernel_rfl) (by kernel_rfl) (by kernel_rfl) (fun _ _ _ h => h) (Or.inl ⟨by rfl, ?_⟩) (by assumption) ?_
        rotate_left
        · intro u hSu; obtain ⟨hSa, hSb⟩ := hSu; have hSv := blkCell hSa; clear hSa hSb; go_simp; (try with_reducible rfl)
        try simp only [Act.put, List.setIfInBounds_toArray, List.set_cons_zero, List.set_cons_succ]
        refine wpAnyZ_take (i := 4) (oi := { dst := some 48, op := _, type := _, pos := _, after := _, guard := _ }) (v := ?_) (p := [10]) rfl (by kernel_rfl) (by kernel_rfl) (by kernel_rfl) (by kernel_rfl) (by kernel_rfl) (by kernel_rfl) (fun _ _ _ h => h) (Or.inl ⟨by rfl, ?_⟩) (by assumption) ?_
        rotate_left
        · intro u hSu; obtain ⟨hSa, hSb⟩ := hSu; have hSv := blkCell hSa; clear hSa hSb; go_simp; (try with_reducible rfl)
        try simp only [Act.put, List.setIfInBounds_toArray, List.set_cons_zero, List.set_cons_succ]
        refine wpAnyZ_take (i := 5) (oi := { dst := some 49, op := _, type := _, pos := _, after := _, guard := _ }) (v := ?_) (p := [10]) rfl (by kernel_rfl) (by kernel_rfl) (by kernel_rfl) (by kernel_rfl) (by kernel_rfl) (by kernel_rfl) (fun _ _ _ h => h) (Or.inl ⟨by rfl, ?_⟩) (by assumption) ?_
        rotate_left
        · intro u hSu; obtain ⟨hSa, hSb⟩ := hSu; have hSv := blkCell hSa; clear hSa hSb; go_simp; (try with_reducible rfl)
        try simp only [Act.put, List.setIfInBounds_toArray, List.set_cons_zero, List.set_cons_succ]
        refine wpAnyZ_take (i := 6) (oi := { dst := some 50, op := _, type := _, pos := _, after := _, guard := _ }) (v := .agg #[.int .i64 ak, .int .i64 an, .string sa]) (p := [10]) rfl (by kernel_rfl) (by kernel_rfl) (by kernel_rfl) (by kernel_rfl) (by kernel_rfl) (by kernel_rfl) (fun _ _ _ h => h) (yieldsIf_load_mid (by rfl) 36 (.tmp 49) rfl og (t * 3) (by rfl) [.int .i64 ak, .int .i64 an, .string sa] _ (fun u hu => HY.out u hu.2) Try.underlying36 (by kernel_rfl) (by kernel_rfl)) (by assumption) ?_
        try simp only [Act.put, List.setIfInBounds_toArray, List.set_cons_zero, List.set_cons_succ]
        refine wpAnyZ_ready (rs := [7]) (by kernel_rfl) (by simp) ?_
        refine AllReadyZ.cons (o := { dst := some 51, op := _, type := _, pos := _, after := _, guard := _ }) rfl (fun K hK => ?_) ?_
        rotate_left
        · exact AllReadyZ.nil
        go_simp
        have hOb := ownBelow hO9 (allocB w9 (.cells #[.int .i64 ak, .int .i64 an, .string sa] 36))
        have hGb := heap_alloc_new w9 (.cells #[.int .i64 ak, .int .i64 an, .string sa] 36)
        have hSa : _ ∧ _ := ⟨blkOld hSn.1 (allocB w9 (.cells #[.int .i64 ak, .int .i64 an, .string sa] 36)), hSn.2.trans ((allocB w9 (.cells #[.int .i64 ak, .int .i64 an, .string sa] 36)).mono (by rw [HGX.out]; exact hSn.2.size))⟩
        clear hSn
        have hSn := hSa
        clear hSa
        refine hK.out _ _ ?_ (fun hHeld => ?_)
        · exact hSn
        clear hK K
        try simp only [Act.put, List.setIfInBounds_toArray, List.set_cons_zero, List.set_cons_succ]
        refine wpAnyZ_ready (rs := [8]) (by kernel_rfl) (by simp) ?_
        refine AllReadyZ.cons (o := { dst := some 52, op := _, type := _, pos := _, after := _, guard := _ }) rfl (fun K hK => ?_) ?_
        rotate_left
        · exact AllReadyZ.nil
        refine wantedIf (by rfl) ?_
        refine wp_push _ (.tmp 45) (.tmp 51) 32 36 Try.underlying32 info_val rfl (by omega) (by omega) rfl (gx + 1) _ 7 ((Sp.endsK O 7).flatMap valC) rfl hOb w9.heap.size (valC ⟨ak, an, sa⟩) 36 rfl hGb rfl (valC_one _) (by omega) (by have := hSn.2.size; have := heapLt hSn.1; omega) ?_
        intro v7 w7 ho7 hg7 hb7
        obtain ⟨A7, c7, rfl⟩ := ownLen ho7
        have hSa : w7.heap[gx]? = some (.cells #[.int .i64 ((l.length : Int) - (O.length : Int)), .int .i64 (Q.length : Int), (.slice EA 7 ec), (.slice none 0 0)] 39 (0, 0)) ∧ Below gx w4 w7 := ⟨(hb7.block gx (Nat.lt_succ_self _)).trans hSn.1, hSn.2.trans (hb7.mono (Nat.le_succ _))⟩
        clear hSn
        have hSn := hSa
        clear hSa
        have hcx7 := blkCell hSn.1
        have hz7 := blkFrozen hSn.1
        refine hK.out _ _ ?_ (fun hHeld => ?_)
        · exact hSn
        clear hK K
        try simp only [Act.put, List.setIfInBounds_toArray, List.set_cons_zero, List.set_cons_succ]
        refine wpAnyZ_take (i := 9) (oi := { dst := some 53, op := _, type := _, pos := _, after := _, guard := _ }) (v := ?_) (p := [10]) rfl (by kernel_rfl) (by kernel_rfl) (by kernel_rfl) (by kernel_rfl) (by kernel_rfl) (by kernel_rfl) (fun _ _ _ h => h) (Or.inl ⟨by rfl, ?_⟩) (by assumption) ?_
        rotate_left
        · intro u hSu; obtain ⟨hSa, hSb⟩ := hSu; have hSv := blkCell hSa; clear hSa hSb; go_simp; (try with_reducible rfl)
        try simp only [Act.put, List.setIfInBounds_toArray, List.set_cons_zero, List.set_cons_succ]
        refine wpAnyZ_ready (rs := [10]) (by kernel_rfl) (by simp) ?_
        refine AllReadyZ.last (o := { dst := none, op := _, type := _, pos := _, after := _, guard := _ }) rfl (by kernel_rfl) (fun K hK => ?_) ?_
        rotate_left
        · exact AllReadyZ.nil
        go_simp
        refine hK.out _ _ ?_
        clear hK K
        try simp only [Act.put]
        refine wpAnyZ_done (by kernel_rfl) ?_ _
        clear hHeld HRO HY
        have HE8 := Lib.hid (show World.ownsRow (w7.setCell ⟨gx, 2, none⟩ (.slice A7 (7 + 1) c7)) (gx + 1) 36 3 (.slice A7 (7 + 1) c7) (7 + 1) ((Sp.endsV O).flatMap valC) from by
          rw [HNX.out, List.flatMap_append]
          have := ownSet ho7 ⟨gx, 2, none⟩ (.slice A7 (7 + 1) c7) (by show gx < gx + 1; omega)
          simpa using this)
        have HX8 := Lib.hid (show (w7.setCell ⟨gx, 2, none⟩ (.slice A7 (7 + 1) c7)).heap[gx]? = some (.cells #[.int .i64 ((l.length : Int) - (O.length : Int)), .int .i64 (Q.length : Int), (.slice A7 (7 + 1) c7), (.slice none 0 0)] 39 (0, 0)) from by
          have := blkSet 2 hSn.1 (.slice A7 (7 + 1) c7)
          simpa using this)
        have HB8 := Lib.hid (hSn.2.trans ((Below.refl _ _).setCell (p := ⟨gx, 2, none⟩) (Nat.le_refl _) (.slice A7 (7 + 1) c7)))
        obtain ⟨W8, hW8⟩ : ∃ W, W = w7.setCell ⟨gx, 2, none⟩ (.slice A7 (7 + 1) c7) := ⟨_, rfl⟩
        rw [← hW8] at HE8 HX8 HB8 ⊢
        clear hW8 ho7 hSn hcx7 hz7 hb7 hg7 hGb hOb hO9 HNX HBX HO HBW hm1 hm4 hm5
        have HCLO := Lib.hid (cloneO_any Q (by omega) QA qc W8 (HQA.out.below (by rw [← HGX.out]; exact HB8.out)))
        go_upto_region 15 with (first
          | (go_at_call 40; (with_reducible refine HCLO.out.mono ?_); rintro e w11 ⟨v1, rfl, ho1, hb1⟩)
          | (go_at_call 39; (with_reducible refine (HDO.out v1 _ _ ho1 hb1.size).mono ?_); rintro e w12 ⟨FA, fc, rfl, ho2, hb2⟩)
          | (go_at_call 42; (with_reducible refine (HSO2.out FA fc _ _ ho2 (Nat.le_trans hb1.size hb2.size)).mono ?_); rintro e w13 ⟨rfl, ho3, hb3⟩))
        have hb13 : Below W8.heap.size W8 w13 := (hb1.trans hb2).trans hb3
        have HEB := Lib.hid (ownBelow HE8.out hb13)
        have HXB := Lib.hid (blkOld HX8.out hb13)
        have HBB := Lib.hid (HB8.out.trans (hb13.mono (by rw [HGX.out]; exact HB8.out.size)))
        obtain ⟨m, hm⟩ : ∃ m, m = min S2.length 4 := ⟨_, rfl⟩
        have hcm : S2.take m = Sp.comV Q := by rw [HCO.out, hm]; exact (List.take_eq_take_iff.2 (by omega))
        have HRD := Lib.hid (reads_take oftC_len (own_reads ho3) m (by omega))
        have HLM := Lib.hid (show (Sp.comV Q).length = m from by rw [← hcm, List.length_take]; omega)
        rw [hcm] at HRD
        have HNF := Lib.hid (show FA = none → m = 0 from fun h => by
          rcases ho3.2 with ⟨_, h0⟩ | ⟨g, cap, cur, hv, _⟩
          · omega
          · subst h; cases hv)
        have hfc : S2.length ≤ fc := by
          rcases ho3.2 with ⟨_, h0⟩ | ⟨g, cap, cur, hv, _, _, h1, _⟩
          · omega
          · injection hv with _ _ h3; omega
        have hmI : min (S2.length : Int) 4 = (m : Int) := by omega
        have hm0 : (0 : Int) ≤ (m : Int) := by omega
        have hml : (m : Int) ≤ (S2.length : Int) := by omega
        have hmc : (m : Int) ≤ (fc : Int) := by omega
        have hm4 : m ≤ 4 := by omega
        obtain ⟨D, hD⟩ : ∃ D, D = Sp.comV Q := ⟨_, rfl⟩
        obtain ⟨E, hE⟩ : ∃ E, E = Sp.endsV O := ⟨_, rfl⟩
        have HEL := Lib.hid (show E.length = 7 + 1 from by rw [hE]; exact Sp.endsV_len (by have := HN0.out; omega))
        rw [← hD] at HRD HLM
        rw [← hE] at HEB
        rw [← hD, ← hE] at HCS
        clear hm hcm ho1 ho2 ho3 hb1 hb2 hb3 hb13 HE8 HX8 HB8 HCLO HDO HSO2 HQA hD hE HCO
        obtain ⟨i0, hi, hz0, hz1, hz2⟩ := info_parts info_oft
        have hSn : w13.drew.heap[gx]? = some (.cells #[.int .i64 ((l.length : Int) - (O.length : Int)), .int .i64 (Q.length : Int), (.slice A7 (7 + 1) c7), (.slice none 0 0)] 39 (0, 0)) := HXB.out
        have hR9 := HRD.out.below (Below.refl _ w13).drew
        have hE9 := ownBelow HEB.out (Below.refl _ w13).drew
        have hB9 : Below gx w4 w13.drew := HBB.out.drew
        refine wp_region_Z (S := (fun u => u.heap[gx]? = some (.cells #[.int .i64 ((l.length : Int) - (O.length : Int)), .int .i64 (Q.length : Int), (.slice A7 (7 + 1) c7), (.slice none 0 0)] 39 (0, 0)))) 9 (by kernel_rfl) ?_ (fun hHeld => ?_)
        · exact hSn
        generalize w13.drew = w9 at hSn hR9 hE9 hB9 ⊢
        refine wpAnyZ_take (i := 0) (oi := { dst := some 59, op := _, type := _, pos := _, after := _, guard := _ }) (v := ?_) (p := [9]) rfl (by kernel_rfl) (by kernel_rfl) (by kernel_rfl) (by kernel_rfl) (by kernel_rfl) (by kernel_rfl) (fun _ _ _ h => h) (Or.inl ⟨by rfl, ?_⟩) (by assumption) ?_
        rotate_left
        · intro u hSu; have hSv := blkCell hSu; clear hSu; go_simp; (try with_reducible rfl)
        try simp only [Act.put, List.setIfInBounds_toArray, List.set_cons_zero, List.set_cons_succ]
        refine wpAnyZ_take (i := 1) (oi := { dst := some 60, op := _, type := _, pos := _, after := _, guard := _ }) (v := ?_) (p := [9]) rfl (by kernel_rfl) (by kernel_rfl) (by kernel_rfl) (by kernel_rfl) (by kernel_rfl) (by kernel_rfl) (fun _ _ _ h => h) (Or.inl ⟨by rfl, ?_⟩) (by assumption) ?_
        rotate_left
        · intro u hSu; have hSv := blkCell hSu; clear hSu; go_simp; (try with_reducible rfl)
        try simp only [Act.put, List.setIfInBounds_toArray, List.set_cons_zero, List.set_cons_succ]
        refine wpAnyZ_take (i := 2) (oi := { dst := some 61, op := _, type := _, pos := _, after := _, guard := _ }) (v := ?_) (p := [9]) rfl (by kernel_rfl) (by kernel_rfl) (by kernel_rfl) (by kernel_rfl) (by kernel_rfl) (by kernel_rfl) (fun _ _ _ h => h) (Or.inl ⟨by rfl, ?_⟩) (by assumption) ?_
        rotate_left
        · intro u hSu; have hSv := blkCell hSu; clear hSu; go_simp; (try with_reducible rfl)
        try simp only [Act.put, List.setIfInBounds_toArray, List.set_cons_zero, List.set_cons_succ]
        refine wpAnyZ_take (i := 3) (oi := { dst := some 62, op := _, type := _, pos := _, after := _, guard := _ }) (v := ?_) (p := [9]) rfl (by kernel_rfl) (by kernel_rfl) (by kernel_rfl) (by kernel_rfl) (by kernel_rfl) (by kernel_rfl) (fun _ _ _ h => h) (Or.inl ⟨by rfl, ?_⟩) (by assumption) ?_
        rotate_left
        · intro u hSu; have hSv := blkCell hSu; clear hSu; go_simp; (try with_reducible rfl)
        try simp only [Act.put, List.setIfInBounds_toArray, List.set_cons_zero, List.set_cons_succ]
        refine wpAnyZ_take (i := 4) (oi := { dst := some 63, op := _, type := _, pos := _, after := _, guard := _ }) (v := ?_) (p := [9]) rfl (by kernel_rfl) (by kernel_rfl) (by kernel_rfl) (by kernel_rfl) (by kernel_rfl) (by kernel_rfl) (fun _ _ _ h => h) (Or.inl ⟨by rfl, ?_⟩) (by assumption) ?_
        rotate_left
        · intro u hSu; have hSv := blkCell hSu; clear hSu; go_simp; (try with_reducible rfl)
        try simp only [Act.put, List.setIfInBounds_toArray, List.set_cons_zero, List.set_cons_succ]
        refine wpAnyZ_take (i := 5) (oi := { dst := some 64, op := _, type := _, pos := _, after := _, guard := _ }) (v := ?_) (p := [9]) rfl (by kernel_rfl) (by kernel_rfl) (by kernel_rfl) (by kernel_rfl) (by kernel_rfl) (by kernel_rfl) (fun _ _ _ h => h) (Or.inl ⟨by rfl, ?_⟩) (by assumption) ?_
        rotate_left
        · intro u hSu; have hSv := blkCell hSu; clear hSu; go_simp; (try with_reducible rfl)
        try simp only [Act.put, List.setIfInBounds_toArray, List.set_cons_zero, List.set_cons_succ]
        refine wpAnyZ_take (i := 6) (oi := { dst := some 65, op := _, type := _, pos := _, after := _, guard := _ }) (v := ?_) (p := [9]) rfl (by kernel_rfl) (by kernel_rfl) (by kernel_rfl) (by kernel_rfl) (by kernel_rfl) (by kernel_rfl) (fun _ _ _ h => h) (Or.inl ⟨by rfl, ?_⟩) (by assumption) ?_
        rotate_left
        · intro u hSu; have hSv := blkCell hSu; clear hSu; go_simp; (try with_reducible rfl)
        try simp only [Act.put, List.setIfInBounds_toArray, List.set_cons_zero, List.set_cons_succ]
        refine wpAnyZ_ready (rs := [7]) (by kernel_rfl) (by simp) ?_
        refine AllReadyZ.cons (o := { dst := some 66, op := _, type := _, pos := _, after := _, guard := _ }) rfl (fun K hK => ?_) ?_
        rotate_left
        · exact AllReadyZ.nil
        refine wantedIf (by rfl) ?_
        refine wp_appR _ (.tmp 60) (.tmp 65) 37 48 i0 (.agg (oftA ⟨Sp.nullV, 0⟩)) 4 40 Try.underlying37 hi hz0 hz1 hz2 rfl (by omega) rfl (gx + 1) _ 0 [] rfl (ownNil _ _ _ _) FA m fc (D.flatMap oftC) rfl hR9 (by rw [flat_len oftC_len, HLM.out]) (oftC_all _) (by omega) (by omega) (by have := heapLt hSn; omega) ?_
        intro v7 w7 ho7 hg7 hb7
        rw [List.nil_append, Nat.zero_add] at ho7
        obtain ⟨A3, c3, rfl⟩ := ownLen ho7
        have hb8 := grown_below hg7
        have hSa : w7.heap[gx]? = some (.cells #[.int .i64 ((l.length : Int) - (O.length : Int)), .int .i64 (Q.length : Int), (.slice A7 (7 + 1) c7), (.slice none 0 0)] 39 (0, 0)) := blkOld hSn hb8
        clear hSn
        have hSn := hSa
        clear hSa
        have hcx7 := blkCell hSn
        have hz7 := blkFrozen hSn
        refine hK.out _ _ ?_ (fun hHeld => ?_)
        · exact hSn
        clear hK K
        try simp only [Act.put, List.setIfInBounds_toArray, List.set_cons_zero, List.set_cons_succ]
        refine wpAnyZ_take (i := 8) (oi := { dst := some 67, op := _, type := _, pos := _, after := _, guard := _ }) (v := ?_) (p := [9]) rfl (by kernel_rfl) (by kernel_rfl) (by kernel_rfl) (by kernel_rfl) (by kernel_rfl) (by kernel_rfl) (fun _ _ _ h => h) (Or.inl ⟨by rfl, ?_⟩) (by assumption) ?_
        rotate_left
        · intro u hSu; have hSv := blkCell hSu; clear hSu; go_simp; (try with_reducible rfl)
        try simp only [Act.put, List.setIfInBounds_toArray, List.set_cons_zero, List.set_cons_succ]
        refine wpAnyZ_ready (rs := [9]) (by kernel_rfl) (by simp) ?_
        refine AllReadyZ.last (o := { dst := none, op := _, type := _, pos := _, after := _, guard := _ }) rfl (by kernel_rfl) (fun K hK => ?_) ?_
        rotate_left
        · exact AllReadyZ.nil
        go_simp
        refine hK.out _ _ ?_
        clear hK K
        try simp only [Act.put]
        refine wpAnyZ_done (by kernel_rfl) ?_ _
        clear hHeld
        have HX9 := Lib.hid (show (w7.setCell ⟨gx, 3, none⟩ (.slice A3 m c3)).heap[gx]? = some (.cells #[.int .i64 ((l.length : Int) - (O.length : Int)), .int .i64 (Q.length : Int), (.slice A7 (7 + 1) c7), (.slice A3 m c3)] 39 (0, 0)) from by
          have := blkSet 3 hSn (.slice A3 m c3)
          simpa using this)
        have HE9 := Lib.hid (ownSet (ownBelow hE9 hb8) ⟨gx, 3, none⟩ (.slice A3 m c3) (by show gx < gx + 1; omega))
        have HD9 := Lib.hid (ownSet ho7 ⟨gx, 3, none⟩ (.slice A3 m c3) (by show gx < gx + 1; omega))
        have HB9 := Lib.hid ((hB9.trans (hb8.mono (by rw [HGX.out]; exact hB9.size))).trans ((Below.refl _ _).setCell (p := ⟨gx, 3, none⟩) (Nat.le_refl _) (.slice A3 m c3)))
        obtain ⟨W9, hW9⟩ : ∃ W, W = w7.setCell ⟨gx, 3, none⟩ (.slice A3 m c3) := ⟨_, rfl⟩
        rw [← hW9] at HX9 HE9 HD9 HB9 ⊢
        clear hW9 hSn hR9 hE9 hB9 ho7 hg7 hb7 hb8 hcx7 hz7 HRD HXB HEB HBB
        have HZ9 := Lib.hid (show W9.heap[w.heap.size]? = some (.cells #[.int .i64 0, .int .i64 0, .slice none 0 0, .slice none 0 0] 39 (0, 0)) from (HB9.out.block _ HGW.out).trans HZ4.out.get0)
        have HW9 := Lib.hid (HZ4.out.below.trans (HB9.out.mono (Nat.le_of_lt HGW.out)))
        go_wp2_with (first | (with_reducible refine listLoad (by kernel_rfl) 39 (.tmp 6) rfl gx rfl #[.int .i64 ((l.length : Int) - (O.length : Int)), .int .i64 (Q.length : Int), (.slice A7 (7 + 1) c7), (.slice A3 m c3)] _ HX9.out _ Try.underlying39 (by kernel_rfl) (by kernel_rfl) ?_) | (with_reducible refine listStore (by kernel_rfl) 39 (.tmp 2) (.tmp 68) rfl w.heap.size #[.int .i64 ((l.length : Int) - (O.length : Int)), .int .i64 (Q.length : Int), (.slice A7 (7 + 1) c7), (.slice A3 m c3)] _ _ rfl rfl HZ9.out (by kernel_rfl) (by kernel_rfl) (by kernel_rfl) ?_))
        refine bodyPost_ret (v := .agg #[.int .i64 ((l.length : Int) - (O.length : Int)), .int .i64 (Q.length : Int), (.slice A7 (7 + 1) c7), (.slice A3 m c3)]) (results_cell rfl _ _ rfl (load_whole (setRow_heap _ _ _ _ _ _ HZ9.out) Try.underlying39 (by kernel_rfl) (by kernel_rfl))) rfl ?_
        have hge := HGW.out
        have hne : ∀ {t : TypeId} {A' : Option Addr}, NewT (gx + 1) W9 t A' → ∀ ad, A' = some ad → ad.block ≠ w.heap.size := fun h ad e => by have := (h ad e).1; omega
        have hE := HE9.out
        have hD := HD9.out
        refine ⟨⟨⟨(l.length : Int) - (O.length : Int), (Q.length : Int), E, D⟩, A7, c7, A3, c3⟩, by simp only [colA, HEL.out, HLM.out], HCS.out.symm, ⟨⟨?_, ?_⟩, ?_, ?_⟩, belowRow (Nat.le_refl _) HW9.out _⟩
        · show Reads _ A7 c7 E.length _
          rw [HEL.out]
          exact (own_reads hE).offRow _ _ (fun _ => hne (NewT.own hE))
        · show Reads _ A3 c3 D.length _
          rw [HLM.out]
          exact (own_reads hD).offRow _ _ (fun _ => hne (NewT.own hD))
        · exact ((NewT.own hE).mono (by omega)).row _ _
        · exact ((NewT.own hD).mono (by omega)).row _ _
end Go.Proofs.Ytmhpbmobfdgkeaa
/- The walk over package stat: Of. -/
namespace Go.Proofs.Ytmhpbmobfdgkeaa
open Go.RowKit
theorem info_col : (Try.prog.info? 39).map (fun i => (i.zero, i.size, i.bytes)) = some (some (.agg #[.int .i64 0, .int .i64 0, .slice none 0 0, .slice none 0 0]), 4, 64) := by kernel_rfl
/-- A table's columns, the first j of them. -/
def colsTo (rows : List (List Sp.Val)) (j : Nat) : List Sp.ColS := (List.range j).map (fun i => Sp.colS (Sp.colAt rows i))
theorem colsTo_succ (rows : List (List Sp.Val)) (j : Nat) : colsTo rows (j + 1) = colsTo rows j ++ [Sp.colS (Sp.colAt rows j)] := by unfold colsTo; rw [List.range_succ, List.map_append]; rfl
/-- The rows of a call's argument. -/
structure RowsR (w : World) (A : Option Addr) (c : Nat) (rows : List PRow) : Prop where
  rd : Reads w A c rows.length (rows.flatMap rowC)
  row : ∀ r ∈ rows, PRowR w r
theorem RowsR.below {w w' : World} {A : Option Addr} {c : Nat} {rows : List PRow} (h : RowsR w A c rows) (hb : Below w.heap.size w w') : RowsR w' A c rows := ⟨h.rd.below hb, fun r hr => (h.row r hr).below hb⟩
set_option maxRecDepth 100000 in
set_option maxHeartbeats 8000000 in
theorem Of_any (t : ByteArray) (rows : List PRow) (hl : rows.length ≤ 1000) (hrl : ∀ r ∈ rows, r.l.length ≤ 140737488355328) (width pages : Int) (hwd : -9223372036854775808 ≤ width ∧ width ≤ 9223372036854775807) (A : Option Addr) (c : Nat) (w : World) (hr : RowsR w A c rows) :
    Calls Try.prog 9 #[.string t, .slice A rows.length c, .int .i64 width, .int .i64 pages] w (fun e w' => ∃ p : PStat, e = .returned (.agg (statA p)) ∧ p.plain = Sp.statOf t (rows.map (·.l)) width pages ∧ PStatR w' p ∧ Below w.heap.size w w') := by
  have HR := Lib.hid hr
  have HRL := Lib.hid hrl
  clear hr hrl
  obtain ⟨L, hL⟩ : ∃ L, L = rows.map (·.l) := ⟨_, rfl⟩
  have hLl : L.length = rows.length := by rw [hL, List.length_map]
  have HAL := Lib.hid (show ∀ i, (Sp.colAt L i).length = rows.length from fun i => by unfold Sp.colAt; rw [List.length_map, hLl])
  obtain ⟨W, hW⟩ : ∃ W, W = Sp.widthS width := ⟨_, rfl⟩
  have hW16 : W ≤ 16 := by rw [hW]; unfold Sp.widthS; omega
  have hWI : min (max width 0) 16 = (W : Int) := by rw [hW]; unfold Sp.widthS; omega
  obtain ⟨pg, hpg⟩ : ∃ pg, pg = max pages 0 := ⟨_, rfl⟩
  have HPL := Lib.hid (show Sp.statOf t L width pages = ⟨t, (rows.length : Int), pg, colsTo L W⟩ from by unfold Sp.statOf colsTo; rw [← hW, ← hpg, hLl])
  rw [← hL]
  have HCOL := Lib.hid (show ∀ (i : Nat) (hi : i < 16) W', Below w.heap.size w W' → Calls Try.prog 20 #[.slice A rows.length c, .int .i64 (i : Int)] W' (fun e w' => ∃ A' c', e = .returned (.slice A' rows.length c') ∧ Reads w' A' c' rows.length ((Sp.colAt L i).flatMap valC) ∧ Below W'.heap.size W' w') from fun i hi W' hb => by rw [hL]; exact column_any rows hl HRL.out i (by omega) A c W' (HR.out.below hb).rd (HR.out.below hb).row)
  have HOFC := Lib.hid (show ∀ (i : Nat) A' c' W', Reads W' A' c' rows.length ((Sp.colAt L i).flatMap valC) → Calls Try.prog 19 #[.slice A' rows.length c'] W' (fun e w' => ∃ p : PCol, e = .returned (.agg (colA p)) ∧ p.c = Sp.colS (Sp.colAt L i) ∧ PColN W'.heap.size w' p ∧ Below W'.heap.size W' w') from fun i A' c' W' h => by
    have h1 := of_any (Sp.colAt L i) (by rw [HAL.out]; exact hl) A' c' W' (by rw [HAL.out]; exact h)
    rw [HAL.out] at h1
    exact h1)
  have hpgI : max pages 0 = pg := hpg.symm
  clear hL hLl hW hpg HRL HR
  go_enter Try.func9, Try.ntmps9
  go_upto_region 1 with fail
  have H0 := Lib.hid (show BxL w.heap.size w [(#[.string ⟨#[]⟩, .int .i64 0, .int .i64 0, .slice none 0 0], 28)] (w.alloc (.cells #[.string ⟨#[]⟩, .int .i64 0, .int .i64 0, .slice none 0 0] 28)) from ((BxL.nil (Below.refl w.heap.size w)).new (by simp) #[.string ⟨#[]⟩, .int .i64 0, .int .i64 0, .slice none 0 0] 28))
  obtain ⟨W0, hW0⟩ : ∃ W, W = (w.alloc (.cells #[.string ⟨#[]⟩, .int .i64 0, .int .i64 0, .slice none 0 0] 28)) := ⟨_, rfl⟩
  rw [← hW0] at H0 ⊢
  clear hW0
  go_upto_region 2 with (with_reducible refine wpList_store_new rfl 28 (.tmp 9) (.tmp 16) rfl #[.string t, .int .i64 (rows.length : Int), .int .i64 pg, (.slice none 0 0)] _ _ rfl (by kernel_rfl) (by kernel_rfl) (by kernel_rfl) (by kernel_rfl) ?_)
  clear hpgI
  obtain ⟨gx, hgx⟩ : ∃ g, g = W0.heap.size := ⟨_, rfl⟩
  have HXB := Lib.hid (heap_alloc_new W0 (.cells #[.string t, .int .i64 (rows.length : Int), .int .i64 pg, (.slice none 0 0)] 28))
  have hB5 := allocB W0 (.cells #[.string t, .int .i64 (rows.length : Int), .int .i64 pg, (.slice none 0 0)] 28)
  have HGW := Lib.hid (show w.heap.size < gx from by have := H0.out.lt (i := 0) (by simp); omega)
  obtain ⟨W5, hW5⟩ : ∃ W, W = W0.alloc (.cells #[.string t, .int .i64 (rows.length : Int), .int .i64 pg, (.slice none 0 0)] 28) := ⟨_, rfl⟩
  rw [← hgx, ← hW5] at HXB hB5
  rw [← hW5, ← hgx]
  have HX5 := Lib.hid (And.intro HXB.out hB5)
  have HGX := Lib.hid hgx
  clear hgx hW5 hB5 HXB
  simp only [Act.put]
  go_wp2_with fail
  clear hWI
  go_loopw [20] (fun i wr => ∃ (j : Nat) (EA : Option Addr) (ec : Nat) (ps : List PCol), j ≤ W ∧ i = .int .i64 (j : Int) ∧ ps.length = j ∧ ps.map (·.c) = colsTo L j ∧ wr.ownsRow (gx + 1) 39 4 (.slice EA j ec) j (ps.flatMap colC) ∧ (∀ p ∈ ps, PColN (gx + 1) wr p) ∧ wr.heap[gx]? = some (.cells #[.string t, .int .i64 (rows.length : Int), .int .i64 pg, (.slice EA j ec)] 28 (0, 0)) ∧ Below gx W0 wr) (fun i _ => W - (intOf i).toNat)
  case atStart => exact ⟨0, none, 0, [], Nat.zero_le _, rfl, rfl, rfl, ownNil _ _ _ _, fun p hp => (by cases hp), HX5.out.1, HX5.out.2⟩
  case round =>
    clear HX5
    obtain ⟨j, EA, ec, ps, hj, rfl, hpl, hpc, ho, hps, hbox, hbw⟩ := hrel
    have HPL2 := Lib.hid hpl
    have HPC := Lib.hid hpc
    have HO := Lib.hid ho
    have HPS := Lib.hid hps
    have HBX := Lib.hid hbox
    have HBW := Lib.hid hbw
    clear hpl hpc ho hps hbox hbw
    have hj0 : (0 : Int) ≤ (j : Int) := by omega
    by_cases hlt : j < W
    · have hji : (j : Int) < (W : Int) := by omega
      have hwj : IntKind.i64.wrap ((j : Int) + 1) = (j : Int) + 1 := IntWalk.i64_in _ (by omega)
      have HCJ := Lib.hid (HCOL.out j (by omega))
      have HOJ := Lib.hid (HOFC.out j)
      have HNX := Lib.hid (colsTo_succ L j)
      generalize Sp.colS (Sp.colAt L j) = col at HOJ HNX
      go_upto_region 5 with fail
      have hSn : wr.drew.heap[gx]? = some (.cells #[.string t, .int .i64 (rows.length : Int), .int .i64 pg, (.slice EA j ec)] 28 (0, 0)) := HBX.out
      have hO9 := ownBelow HO.out (Below.refl _ wr).drew
      have hP9 : ∀ p ∈ ps, PColN (gx + 1) wr.drew p := fun p hp => (HPS.out p hp).below (Below.refl _ wr).drew
      have hB9 : Below gx W0 wr.drew := HBW.out.drew
      refine wp_region_Z (S := (fun u => u.heap[gx]? = some (.cells #[.string t, .int .i64 (rows.length : Int), .int .i64 pg, (.slice EA j ec)] 28 (0, 0)))) 9 (by kernel_rfl) ?_ (fun hHeld => ?_)
      · exact hSn
      generalize wr.drew = w9 at hSn hO9 hP9 hB9 ⊢
      refine wpAnyZ_take (i := 0) (oi := { dst := some 23, op := _, type := _, pos := _, after := _, guard := _ }) (v := ?_) (p := [9]) rfl (by kernel_rfl) (by kernel_rfl) (by kernel_rfl) (by kernel_rfl) (by kernel_rfl) (by kernel_rfl) (fun _ _ _ h => h) (Or.inl ⟨by rfl, ?_⟩) (by assumption) ?_
      rotate_left
      · intro u hSu; have hSv := blkCell hSu; clear hSu; go_simp; (try with_reducible rfl)
      try simp only [Act.put, List.setIfInBounds_toArray, List.set_cons_zero, List.set_cons_succ]
      refine wpAnyZ_take (i := 1) (oi := { dst := some 24, op := _, type := _, pos := _, after := _, guard := _ }) (v := ?_) (p := [9]) rfl (by kernel_rfl) (by kernel_rfl) (by kernel_rfl) (by kernel_rfl) (by kernel_rfl) (by kernel_rfl) (fun _ _ _ h => h) (Or.inl ⟨by rfl, ?_⟩) (by assumption) ?_
      rotate_left
      · intro u hSu; have hSv := blkCell hSu; clear hSu; go_simp; (try with_reducible rfl)
      try simp only [Act.put, List.setIfInBounds_toArray, List.set_cons_zero, List.set_cons_succ]
      refine wpAnyZ_take (i := 2) (oi := { dst := some 25, op := _, type := _, pos := _, after := _, guard := _ }) (v := ?_) (p := [9]) rfl (by kernel_rfl) (by kernel_rfl) (by kernel_rfl) (by kernel_rfl) (by kernel_rfl) (by kernel_rfl) (fun _ _ _ h => h) (Or.inl ⟨by rfl, ?_⟩) (by assumption) ?_
      rotate_left
      · intro u hSu; have hSv := blkCell hSu; clear hSu; go_simp; (try with_reducible rfl)
      try simp only [Act.put, List.setIfInBounds_toArray, List.set_cons_zero, List.set_cons_succ]
      refine wpAnyZ_take (i := 3) (oi := { dst := some 26, op := _, type := _, pos := _, after := _, guard := _ }) (v := ?_) (p := [9]) rfl (by kernel_rfl) (by kernel_rfl) (by kernel_rfl) (by kernel_rfl) (by kernel_rfl) (by kernel_rfl) (fun _ _ _ h => h) (Or.inl ⟨by rfl, ?_⟩) (by assumption) ?_
      rotate_left
      · intro u hSu; have hSv := blkCell hSu; clear hSu; go_simp; (try with_reducible rfl)
      try simp only [Act.put, List.setIfInBounds_toArray, List.set_cons_zero, List.set_cons_succ]
      refine wpAnyZ_ready (rs := [4]) (by kernel_rfl) (by simp) ?_
      refine AllReadyZ.cons (o := { dst := some 27, op := _, type := _, pos := _, after := _, guard := _ }) rfl (fun K hK => ?_) ?_
      rotate_left
      · exact AllReadyZ.nil
      go_simp
      (with_reducible refine (HCJ.out _ (H0.out.below.trans (hB9.mono (Nat.le_of_lt HGW.out)))).mono ?_); rintro e w1 ⟨A1, c1, rfl, hr1, hb1⟩
      have hSa := blkOld hSn hb1
      have hOa := ownBelow hO9 hb1
      have hPa : ∀ p ∈ ps, PColN (gx + 1) w1 p := fun p hp => (hP9 p hp).below hb1
      have hBa := hB9.trans (hb1.mono (by rw [HGX.out]; exact hB9.size))
      clear hSn hO9 hP9 hB9
      have hSn := hSa
      have hO9 := hOa
      have hP9 := hPa
      have hB9 := hBa
      clear hSa hOa hPa hBa
      refine hK.out _ _ ?_ (fun hHeld => ?_)
      · exact hSn
      clear hK K
      try simp only [Act.put, List.setIfInBounds_toArray, List.set_cons_zero, List.set_cons_succ]
      refine wpAnyZ_ready (rs := [5]) (by kernel_rfl) (by simp) ?_
      refine AllReadyZ.cons (o := { dst := some 28, op := _, type := _, pos := _, after := _, guard := _ }) rfl (fun K hK => ?_) ?_
      rotate_left
      · exact AllReadyZ.nil
      go_simp
      (with_reducible refine (HOJ.out A1 c1 _ hr1).mono ?_); rintro e w2 ⟨p2, rfl, hc2, hn2, hb2⟩
      have hn3 := hn2.mono (show gx + 1 ≤ w1.heap.size from heapLt hSn)
      have hSa := blkOld hSn hb2
      have hOa := ownBelow hO9 hb2
      have hPa : ∀ p ∈ ps, PColN (gx + 1) w2 p := fun p hp => (hP9 p hp).below hb2
      have hBa := hB9.trans (hb2.mono (by rw [HGX.out]; exact hB9.size))
      clear hSn hO9 hP9 hB9
      have hSn := hSa
      have hO9 := hOa
      have hP9 := hPa
      have hB9 := hBa
      clear hSa hOa hPa hBa
      obtain ⟨⟨nu, di, es, cs⟩, E, ec2, C, cc⟩ := p2
      dsimp only [colA]
      refine hK.out _ _ ?_ (fun hHeld => ?_)
      · exact hSn
      clear hK K
      try simp only [Act.put, List.setIfInBounds_toArray, List.set_cons_zero, List.set_cons_succ]
      refine wpAnyZ_ready (rs := [6]) (by kernel_rfl) (by simp) ?_
      refine AllReadyZ.cons (o := { dst := some 29, op := _, type := _, pos := _, after := _, guard := _ }) rfl (fun K hK => ?_) ?_
      rotate_left
      · exact AllReadyZ.nil
      go_simp
      have hAl := allocB w2 (.cells #[.int .i64 nu, .int .i64 di, .slice E es.length ec2, .slice C cs.length cc] 39)
      have hGb := heap_alloc_new w2 (.cells #[.int .i64 nu, .int .i64 di, .slice E es.length ec2, .slice C cs.length cc] 39)
      have hn4 := hn3.below hAl
      have hSa := blkOld hSn hAl
      have hOa := ownBelow hO9 hAl
      have hPa : ∀ p ∈ ps, PColN (gx + 1) (w2.alloc (.cells #[.int .i64 nu, .int .i64 di, .slice E es.length ec2, .slice C cs.length cc] 39)) p := fun p hp => (hP9 p hp).below hAl
      have hBa := hB9.trans (hAl.mono (by rw [HGX.out]; exact hB9.size))
      clear hSn hO9 hP9 hB9
      have hSn := hSa
      have hO9 := hOa
      have hP9 := hPa
      have hB9 := hBa
      clear hSa hOa hPa hBa
      refine hK.out _ _ ?_ (fun hHeld => ?_)
      · exact hSn
      clear hK K
      try simp only [Act.put, List.setIfInBounds_toArray, List.set_cons_zero, List.set_cons_succ]
      refine wpAnyZ_ready (rs := [7]) (by kernel_rfl) (by simp) ?_
      refine AllReadyZ.cons (o := { dst := some 30, op := _, type := _, pos := _, after := _, guard := _ }) rfl (fun K hK => ?_) ?_
      rotate_left
      · exact AllReadyZ.nil
      refine wantedIf (by rfl) ?_
      refine wp_push _ (.tmp 24) (.tmp 29) 26 39 Try.underlying26 info_col rfl (by omega) (by omega) rfl (gx + 1) _ j (ps.flatMap colC) rfl hO9 w2.heap.size (colC ⟨⟨nu, di, es, cs⟩, E, ec2, C, cc⟩) 39 rfl hGb rfl (colC_one _) (by omega) (by have := heapLt hSn; omega) ?_
      intro v7 w7 ho7 hg7 hb7
      obtain ⟨A7, c7, rfl⟩ := ownLen ho7
      have hP7 : ∀ p ∈ ps, PColN (gx + 1) w7 p := fun p hp => (hP9 p hp).grown hO9 (by decide) (by decide) hg7
      have hn7 := hn4.grown hO9 (by decide) (by decide) hg7
      have hSa : w7.heap[gx]? = some (.cells #[.string t, .int .i64 (rows.length : Int), .int .i64 pg, (.slice EA j ec)] 28 (0, 0)) := (hb7.block gx (Nat.lt_succ_self _)).trans hSn
      have hB7 := hB9.trans (hb7.mono (Nat.le_succ _))
      clear hSn
      have hSn := hSa
      clear hSa
      have hcx7 := blkCell hSn
      have hz7 := blkFrozen hSn
      refine hK.out _ _ ?_ (fun hHeld => ?_)
      · exact hSn
      clear hK K
      try simp only [Act.put, List.setIfInBounds_toArray, List.set_cons_zero, List.set_cons_succ]
      refine wpAnyZ_take (i := 8) (oi := { dst := some 31, op := _, type := _, pos := _, after := _, guard := _ }) (v := ?_) (p := [9]) rfl (by kernel_rfl) (by kernel_rfl) (by kernel_rfl) (by kernel_rfl) (by kernel_rfl) (by kernel_rfl) (fun _ _ _ h => h) (Or.inl ⟨by rfl, ?_⟩) (by assumption) ?_
      rotate_left
      · intro u hSu; have hSv := blkCell hSu; clear hSu; go_simp; (try with_reducible rfl)
      try simp only [Act.put, List.setIfInBounds_toArray, List.set_cons_zero, List.set_cons_succ]
      refine wpAnyZ_ready (rs := [9]) (by kernel_rfl) (by simp) ?_
      refine AllReadyZ.last (o := { dst := none, op := _, type := _, pos := _, after := _, guard := _ }) rfl (by kernel_rfl) (fun K hK => ?_) ?_
      rotate_left
      · exact AllReadyZ.nil
      go_simp
      refine hK.out _ _ ?_
      clear hK K
      try simp only [Act.put]
      refine wpAnyZ_done (by kernel_rfl) ?_ _
      clear hHeld
      go_wp2_with fail
      go_roundw
      case rel =>
        refine ⟨j + 1, A7, c7, ps ++ [⟨⟨nu, di, es, cs⟩, E, ec2, C, cc⟩], by omega, by go_num, by rw [List.length_append, HPL2.out]; rfl, ?_, ?_, ?_, ?_, ?_⟩
        · rw [List.map_append, HPC.out, HNX.out, ← hc2]; rfl
        · have := ownSet ho7 ⟨gx, 3, none⟩ (.slice A7 (j + 1) c7) (by show gx < gx + 1; omega)
          rw [List.flatMap_append]
          simpa using this
        · intro p hp
          rcases List.mem_append.1 hp with h1 | h1
          · exact (hP7 p h1).set gx 3 _ (Nat.lt_succ_self _)
          · rw [List.mem_singleton.1 h1]
            exact hn7.set gx 3 _ (Nat.lt_succ_self _)
        · have := blkSet 3 hSn (.slice A7 (j + 1) c7)
          simpa using this
        · exact hB7.trans ((Below.refl _ _).setCell (p := ⟨gx, 3, none⟩) (Nat.le_refl _) _)
      case measure => simp [intOf]; omega
    · obtain rfl : j = W := by omega
      skip
      have HZ9 := Lib.hid (show wr.heap[w.heap.size]? = some (.cells #[.string ⟨#[]⟩, .int .i64 0, .int .i64 0, .slice none 0 0] 28 (0, 0)) from (HBW.out.block _ HGW.out).trans H0.out.get0)
      have HW9 := Lib.hid (H0.out.below.trans (HBW.out.mono (Nat.le_of_lt HGW.out)))
      go_wp2_with (first | (with_reducible refine listLoad (by kernel_rfl) 28 (.tmp 9) rfl gx rfl #[.string t, .int .i64 (rows.length : Int), .int .i64 pg, (.slice EA j ec)] _ HBX.out _ Try.underlying28 (by kernel_rfl) (by kernel_rfl) ?_) | (with_reducible refine listStore (by kernel_rfl) 28 (.tmp 8) (.tmp 33) rfl w.heap.size #[.string t, .int .i64 (rows.length : Int), .int .i64 pg, (.slice EA j ec)] _ _ rfl rfl HZ9.out (by kernel_rfl) (by kernel_rfl) (by kernel_rfl) ?_))
      refine bodyPost_ret (v := .agg #[.string t, .int .i64 (rows.length : Int), .int .i64 pg, (.slice EA j ec)]) (results_cell rfl _ _ rfl (load_whole (setRow_heap _ _ _ _ _ _ HZ9.out) Try.underlying28 (by kernel_rfl) (by kernel_rfl))) rfl ?_
      have hge := HGW.out
      have ho := HO.out
      have hne : ∀ ad, EA = some ad → ad.block ≠ w.heap.size := fun ad e => by have := (NewT.own ho ad e).1; omega
      refine ⟨⟨t, (rows.length : Int), pg, ps, EA, ec⟩, by simp only [statA, HPL2.out], by rw [HPL.out]; unfold PStat.plain; simp only; rw [HPC.out], ⟨?_, fun q hq => ((HPS.out q hq).row _ _ (by omega)).rr⟩, belowRow (Nat.le_refl _) HW9.out _⟩
      show Reads _ EA ec ps.length _
      rw [HPL2.out]
      exact (own_reads ho).offRow _ _ (fun _ => hne)
end Go.Proofs.Ytmhpbmobfdgkeaa
