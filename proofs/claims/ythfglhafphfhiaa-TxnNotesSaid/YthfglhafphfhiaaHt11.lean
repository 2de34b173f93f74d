/- The walks over the library's Clone and Delete of transactions; words for memory. -/
import Derived.Test.YthfglhafphfhiaaHt10
import Derived.Lib.SliceRun
import Derived.Deep.RegionLaw
import Derived.Test.YthfglhafphfhiaaHt09
namespace Go.Proofs.Ythfglhafphfhiaa
open Go.RowKit
theorem info_tx : (Try.prog.info? 66).map (fun i => (i.zero, i.size, i.bytes)) = some (some (.agg #[.int .i64 0, .int .i64 0, .int .i64 0, .bool false]), 4, 32) := by kernel_rfl
theorem txC_one (t : Rc.TxnAt) : ∀ u ∈ txC t, u.oneCell' = true := by
  intro u hu
  simp only [txC, List.mem_cons, List.not_mem_nil, or_false] at hu
  rcases hu with rfl | rfl | rfl | rfl <;> rfl
theorem txC_all (l : List Rc.TxnAt) : ∀ u ∈ l.flatMap txC, u.oneCell' = true := by
  intro u hu
  obtain ⟨t, _, ht⟩ := List.mem_flatMap.1 hu
  exact txC_one t u ht
/-- One cell of a row of the call's own is written. -/
theorem ownSetAt {w : World} {B size n c g : Nat} {e : TypeId} {xs : List Value} (h : w.ownsRow B e size (.slice (some ⟨g, 0, none⟩) n c) n xs) (j : Nat) (hj : j < n * size) :
    w.cell? ⟨g, j, none⟩ = xs[j]? ∧ w.frozen? ⟨g, j, none⟩ = false ∧ ∀ x, (w.setCell ⟨g, j, none⟩ x).ownsRow B e size (.slice (some ⟨g, 0, none⟩) n c) n (xs.set j x) := by
  obtain ⟨hl, h2⟩ := h
  rcases h2 with ⟨h0, _⟩ | ⟨g', cap, cur, hv, hg, hh, hn, hcap, hsz, htake⟩
  · cases h0
  · injection hv with hv1 hv2 hv3
    injection hv1 with hv1
    injection hv1 with hv1 _ _
    subst hv1 hv3
    have hnc : n * size ≤ c * size := Nat.mul_le_mul_right _ hn
    refine ⟨?_, blkFrozen hh j, fun x => ⟨by rw [List.length_set]; exact hl, .inr ⟨g, c, cur.setIfInBounds j x, rfl, hg, blkSet j hh x, hn, hcap, by rw [Array.size_setIfInBounds]; exact hsz, ?_⟩⟩⟩
    · rw [blkCell hh j, ← htake, List.getElem?_take, if_pos hj, Array.getElem?_toList]
    · rw [← htake]
      refine List.ext_getElem? fun i => ?_
      rw [List.getElem?_set, List.getElem?_take, List.length_take, List.getElem?_take, Array.toList_setIfInBounds, List.getElem?_set]
      have hs : cur.toList.length = cur.size := by simp
      by_cases h1 : j = i
      · subst h1
        rw [if_pos rfl, if_pos rfl, if_pos hj, if_pos (by omega), if_pos (by omega)]
      · rw [if_neg h1, if_neg h1]
theorem flat_set {α : Type} {enc : α → List Value} {k : Nat} (hk : ∀ x, (enc x).length = k) : ∀ (l : List α) (j f : Nat) (y : α) (x : Value) (hj : j < l.length), f < k → enc y = (enc l[j]).set f x → (l.flatMap enc).set (j * k + f) x = (l.set j y).flatMap enc := by
  intro l
  induction l with
  | nil => intro j f y x hj; simp at hj
  | cons a l ih =>
    intro j f y x hj hf he
    cases j with
    | zero =>
      simp only [List.getElem_cons_zero] at he
      rw [List.flatMap_cons, List.set_cons_zero, List.flatMap_cons, he, Nat.zero_mul, Nat.zero_add, List.set_append_left _ _ (by rw [hk]; exact hf)]
    | succ j =>
      simp only [List.getElem_cons_succ] at he
      rw [List.flatMap_cons, List.set_cons_succ, List.flatMap_cons, List.set_append_right _ _ (by rw [hk, Nat.succ_mul]; omega)]
      congr 1
      rw [show (j + 1) * k + f - (enc a).length = j * k + f by rw [hk, Nat.succ_mul]; omega]
      exact ih j f y x (by simpa using hj) hf he
theorem setCells_blk {g : Nat} {T : TypeId} {fr : Nat × Nat} : ∀ (vs : List Value) (o : Nat) (cs : Array Value) (w : World), w.heap[g]? = some (.cells cs T fr) → ∃ cs' : Array Value, (w.setCells g o vs).heap[g]? = some (.cells cs' T fr) ∧ cs'.size = cs.size ∧ ∀ j, cs'[j]? = if o ≤ j ∧ j < o + vs.length ∧ j < cs.size then vs[j - o]? else cs[j]? := by
  intro vs
  induction vs with
  | nil => intro o cs w h; exact ⟨cs, h, rfl, fun j => by rw [if_neg (by simp; omega)]⟩
  | cons v vs ih =>
    intro o cs w h
    obtain ⟨cs', h1, h2, h3⟩ := ih (o + 1) _ _ (blkSet o h v)
    refine ⟨cs', h1, by rw [h2, Array.size_setIfInBounds], fun j => ?_⟩
    rw [h3, Array.size_setIfInBounds, Array.getElem?_setIfInBounds]
    by_cases hj : j = o
    · subst hj
      rw [if_neg (by omega), if_pos rfl]
      by_cases hb : j < cs.size
      · rw [if_pos hb, if_pos ⟨Nat.le_refl _, by simp, hb⟩, Nat.sub_self]; rfl
      · rw [if_neg hb, if_neg (by omega), Array.getElem?_eq_none (by omega)]
    · by_cases hc : o + 1 ≤ j ∧ j < o + 1 + vs.length ∧ j < cs.size
      · rw [if_pos hc, if_pos (by simp; omega)]
        obtain ⟨m, rfl⟩ : ∃ m, j = o + 1 + m := ⟨j - (o + 1), by omega⟩
        rw [show o + 1 + m - (o + 1) = m by omega, show o + 1 + m - o = m + 1 by omega, List.getElem?_cons_succ]
      · rw [if_neg hc, if_neg (fun e => hj e.symm), if_neg (by simp; omega)]
theorem setCells_below {B g : Nat} (hg : B ≤ g) : ∀ (vs : List Value) (o : Nat) (w : World), Below B w (w.setCells g o vs) := by
  intro vs
  induction vs with
  | nil => intro o w; exact Below.refl _ _
  | cons v vs ih =>
    intro o w
    exact ((Below.refl B w).setCell (p := ⟨g, o, none⟩) hg v).trans (ih (o + 1) _)
set_option maxRecDepth 100000 in
theorem tclone_any (l : List Rc.TxnAt) (hl : l.length ≤ 1000000) (A : Option Addr) (c : Nat) (w : World) (hr : TxR w A c l) :
    Calls Try.prog 25 #[.slice A l.length c] w fun e w' => ∃ v, e = .returned v ∧ OwnL txC 4 66 w.heap.size w' v l ∧ Below w.heap.size w w' := by
  obtain ⟨i0, hi, hz0, hz1, hz2⟩ := info_parts info_tx
  have HR := Lib.hid hr
  cases A with
  | none =>
    have hl0 : l = [] := by
      rcases Nat.eq_zero_or_pos l.length with h0 | h0
      · exact List.eq_nil_of_length_eq_zero h0
      · obtain ⟨b, off, e, _⟩ := hr h0
        cases e
    subst hl0
    clear hr HR
    have hq : ∀ w, (binOp .eql 22 (.slice none 0 c) (.slice none 0 0)).run Try.prog w = .ok (.bool true) w := fun w => Lib.run_eql_slice_nil w 22 66 none 0 c 0 0 Try.underlying22
    simp only [List.length_nil]
    go_enter Try.func25, Try.ntmps25
    go_wp2_with fail
    go_ret
    exact ⟨_, rfl, ownNil _ _ _ _, Below.refl _ _⟩
  | some ad =>
    have HRD := Lib.hid (hr.below (allocB w (.cells #[] 66)))
    have hq : ∀ w, (binOp .eql 22 (.slice (some ad) l.length c) (.slice none 0 0)).run Try.prog w = .ok (.bool false) w := fun w => Lib.run_eql_slice_nil w 22 66 (some ad) l.length c 0 0 Try.underlying22
    clear hr
    go_enter Try.func25, Try.ntmps25
    go_wp2_with (at_builtin; refine listWants (by kernel_rfl) fun K hK => wp_appR (w.alloc (.cells #[] 66)) (.tmp 5) (.tmp 6) 22 66 i0 (.agg #[.int .i64 0, .int .i64 0, .int .i64 0, .bool false]) 4 32 Try.underlying22 hi hz0 hz1 hz2 rfl (by omega) rfl w.heap.size _ 0 [] rfl (ownEmpty w 66 4) (some ad) l.length c (l.flatMap txC) rfl HRD.out (by rw [flat_len txC_len]) (txC_all l) (by omega) (by omega) (by simp) ?_; intro v2 w2 ho hg hb; refine hK _ _ ?_)
    go_ret
    rw [List.nil_append, Nat.zero_add] at ho
    exact ⟨_, rfl, ho, (allocB w (.cells #[] 66)).trans hb⟩
/-- Cells of n transactions that are nothing. -/
def txZ (n : Nat) : List Value := (Builtin.zeroCells (Value.cells (.agg #[.int .i64 0, .int .i64 0, .int .i64 0, .bool false])) n).toList
theorem txZ_len (n : Nat) : (txZ n).length = n * 4 := by simp [txZ, Builtin.zeroCells, Value.cells]
/-- The last elements' cells are cleared. -/
theorem run_clear_tx (w : World) (b o n c : Nat) (hn : 0 < n) (hc : ∀ j, j < n * 4 → (w.cell? ⟨b, o + j, none⟩).isSome = true) (hf : ∀ j, j < n * 4 → w.frozen? ⟨b, o + j, none⟩ = false) (ty : TypeId) :
    (Builtin.clear_ #[22] ty #[.slice (some ⟨b, o, none⟩) n c]).run Try.prog w = .ok (.tuple #[]) (w.setCells b o (txZ n)) := by
  have hv : ∀ w, (zeroValue 66).run Try.prog w = .ok (.agg #[.int .i64 0, .int .i64 0, .int .i64 0, .bool false]) w := Try.zeroValue66
  have hst := run_storeCells_cells (P := Try.prog) b o (txZ n) 0 w (by rw [txZ_len]; simpa using hc) (by rw [txZ_len]; simpa using hf) (by
    intro v hv'
    simp [txZ, Builtin.zeroCells, Value.cells] at hv'
    obtain ⟨i, _, rfl⟩ := hv'
    have hi4 : i % 4 < 4 := Nat.mod_lt _ (by omega)
    generalize i % 4 = k at hi4
    rcases k with _ | _ | _ | _ | k
    · rfl
    · rfl
    · rfl
    · rfl
    · omega)
  simp only [Nat.add_zero] at hst
  unfold txZ at hst ⊢
  obtain ⟨m, rfl⟩ : ∃ m, n = m + 1 := ⟨n - 1, by omega⟩
  simp [Builtin.clear_, run_underlying Try.underlying22, hv, hst]
set_option maxRecDepth 100000 in
set_option maxHeartbeats 2000000 in
/-- One transaction is taken out of a row of the call's own. -/
theorem tdelete_any (l : List Rc.TxnAt) (hl : l.length ≤ 1000000) (i : Nat) (hi : i < l.length) (B g c : Nat) (w : World) (ho : OwnL txC 4 66 B w (.slice (some ⟨g, 0, none⟩) l.length c) l) :
    Calls Try.prog 24 #[.slice (some ⟨g, 0, none⟩) l.length c, .int .i64 (i : Int), .int .i64 ((i : Int) + 1)] w fun e w' => ∃ v, e = .returned v ∧ OwnL txC 4 66 B w' v (l.take i ++ l.drop (i + 1)) ∧ Below B w w' := by
  obtain ⟨i0, hi0, hz0, hz1, hz2⟩ := info_parts info_tx
  obtain ⟨n, hn⟩ : ∃ n, n = l.length := ⟨_, rfl⟩
  obtain ⟨j, hj⟩ : ∃ j, j = i + 1 := ⟨_, rfl⟩
  have hjI : ((i : Int) + 1) = (j : Int) := by omega
  rw [hjI]
  have HO := Lib.hid ho
  obtain ⟨hxl, h2⟩ := ho
  rcases h2 with ⟨h0, _⟩ | ⟨g', cap, cur, hv, hgB, hh, hnc, hcap, hsz, htake⟩
  · cases h0
  injection hv with hv1 hv2 hv3
  injection hv1 with hv1
  injection hv1 with hv1 _ _
  subst hv1 hv3
  rw [← hn] at hnc htake hxl hl hi ⊢
  have HH := Lib.hid hh
  have HT := Lib.hid htake
  have hij : i ≤ j := by omega
  have hjn : j ≤ n := by omega
  have hne : ((i : Int) == (j : Int)) = false := by simp; omega
  have hijI : (i : Int) ≤ (j : Int) := by omega
  have hjnI : (j : Int) ≤ (n : Int) := by omega
  have hncI : (n : Int) ≤ (c : Int) := by omega
  have hjcI : (j : Int) ≤ (c : Int) := by omega
  have hicI : (i : Int) ≤ (c : Int) := by omega
  have hmx : c ≤ maxLen := hcap
  have HN := Lib.hid hn
  have HJ := Lib.hid hj
  clear hxl hh htake hcap HO hn hj hjI
  go_enter Try.func24, Try.ntmps24
  obtain ⟨news, hnews⟩ : ∃ news, news = (l.drop j).flatMap txC := ⟨_, rfl⟩
  have hnl : news.length = (n - j) * 4 := by rw [hnews, flat_len txC_len, List.length_drop, HN.out]
  have HNE := Lib.hid hnews
  have H1C := Lib.hid (show ∀ u ∈ news, u.oneCell' = true from by rw [hnews]; exact txC_all _)
  obtain ⟨AD, hAD, hsrc⟩ : ∃ AD : Addr, (if c = j then (some ⟨g, 0, none⟩ : Option Addr) else some ⟨g, j * 4, none⟩) = some AD ∧ ∀ t u, news[t]? = some u → w.drew.cell? (AD.add t) = some u := by
    by_cases hcj : c = j
    · refine ⟨_, by rw [if_pos hcj], fun t u hu => ?_⟩
      have h0 : news.length = 0 := by rw [hnl]; omega
      rw [List.length_eq_zero_iff.1 h0] at hu
      simp at hu
    · refine ⟨_, by rw [if_neg hcj], fun t u hu => ?_⟩
      have ht : t < (n - j) * 4 := by rw [← hnl]; exact (List.getElem?_eq_some_iff.1 hu).1
      rw [Addr.add_mid]
      show w.cell? ⟨g, j * 4 + t, none⟩ = some u
      rw [blkCell HH.out, ← hu, hnews]
      have h5 : (l.flatMap txC)[j * 4 + t]? = ((l.drop j).flatMap txC)[t]? := by
        have h6 : l.flatMap txC = (l.take j).flatMap txC ++ (l.drop j).flatMap txC := by rw [← List.flatMap_append, List.take_append_drop]
        have h7 : ((l.take j).flatMap txC).length = j * 4 := by rw [flat_len txC_len, List.length_take]; have := HN.out; omega
        rw [h6, List.getElem?_append_right (by omega), h7, Nat.add_sub_cancel_left]
      rw [← h5, ← HT.out, List.getElem?_take, if_pos (by omega), Array.getElem?_toList]
  have HSRC := Lib.hid hsrc
  have HSP := Lib.hid (show ∀ t, t < news.length → (w.drew.cell? ⟨g, 0 + i * 4 + t, none⟩).isSome = true ∧ w.drew.frozen? ⟨g, 0 + i * 4 + t, none⟩ = false from fun t ht => by
    rw [hnl] at ht
    refine ⟨?_, blkFrozen (show w.drew.heap[g]? = _ from HH.out) _⟩
    show (w.cell? ⟨g, 0 + i * 4 + t, none⟩).isSome = true
    rw [blkCell HH.out, Array.getElem?_eq_getElem (by omega)]
    rfl)
  obtain ⟨m, hm⟩ : ∃ m, m = i + (n - j) := ⟨_, rfl⟩
  have hmn : m < n := by have := HJ.out; omega
  have hmn1 : m + 1 = n := by have := HJ.out; omega
  obtain ⟨W1, hW1⟩ : ∃ W1, W1 = w.drew.setCells g (0 + i * 4) news := ⟨_, rfl⟩
  obtain ⟨cur1, k1, k2, k3⟩ := setCells_blk news (0 + i * 4) cur w.drew HH.out
  rw [← hW1] at k1
  have hcl := fun ty => run_clear_tx W1 g (m * 4) (n - m) (c - m) (by omega) (fun t ht => by rw [blkCell k1, Array.getElem?_eq_getElem (by omega)]; rfl) (fun t ht => blkFrozen k1 _) ty
  have HK1 := Lib.hid k1
  have HK2 := Lib.hid k2
  have HK3 := Lib.hid k3
  have HW1 := Lib.hid hW1
  have HM := Lib.hid hm
  have HNL := Lib.hid hnl
  have hroom : i + (n - j) ≤ c := by omega
  have hmc : (m : Int) ≤ (n : Int) := by omega
  have hmcc : (m : Int) ≤ (c : Int) := by omega
  have hmn2 : ¬ c = m := by omega
  clear hnews hsrc hm hmn1 hW1 k1 k2 k3 hnl hmn
  go_upto_region 5 with fail
  refine wp_region_held_drew (S := (fun _ => True)) (by kernel_rfl) ?_ (fun hHeld => ?_)
  · trivial
  refine tkW 0 (some 20) (v := ?_) rfl ?_ ?_
  rotate_left
  · intro u hSu; clear hSu; go_simp; (try with_reducible rfl)
  try simp only [Act.put, List.setIfInBounds_toArray, List.set_cons_zero, List.set_cons_succ]
  refine tkW 1 (some 21) (v := ?_) rfl ?_ ?_
  rotate_left
  · intro u hSu; clear hSu; go_simp; (try with_reducible rfl)
  try simp only [Act.put, List.setIfInBounds_toArray, List.set_cons_zero, List.set_cons_succ]
  refine tkW 2 (some 22) (v := ?_) rfl ?_ ?_
  rotate_left
  · intro u hSu; clear hSu; go_simp; (try with_reducible rfl)
  try simp only [Act.put, List.setIfInBounds_toArray, List.set_cons_zero, List.set_cons_succ]
  refine tkW 3 (some 23) (v := ?_) rfl ?_ ?_
  rotate_left
  · intro u hSu; clear hSu; go_simp; (try with_reducible rfl)
  try simp only [Act.put, List.setIfInBounds_toArray, List.set_cons_zero, List.set_cons_succ]
  refine tkW 4 (some 24) (v := ?_) rfl ?_ ?_
  rotate_left
  · intro u hSu; clear hSu; go_simp; (try with_reducible rfl)
  try simp only [Act.put, List.setIfInBounds_toArray, List.set_cons_zero, List.set_cons_succ]
  refine tkW 5 (some 25) (v := ?_) rfl ?_ ?_
  rotate_left
  · intro u hSu; clear hSu; go_simp; (try with_reducible rfl)
  try simp only [Act.put, List.setIfInBounds_toArray, List.set_cons_zero, List.set_cons_succ]
  refine rdH 6 (some 26) rfl (fun K hK => ?_)
  try rw [hAD]
  refine step_append_room rfl (.tmp 22) (.tmp 25) 22 rfl 66 i0 4 Try.underlying22 hi0 hz1 g 0 i c rfl AD (n - j) (c - j) news rfl HNL.out HSRC.out H1C.out hroom HSP.out ?_
  rw [← HW1.out, ← HM.out]
  refine hK.out _ _ ?_ (fun hHeld => ?_)
  · trivial
  clear hK K
  try simp only [Act.put, List.setIfInBounds_toArray, List.set_cons_zero, List.set_cons_succ]
  refine tkW 7 (some 0) (v := ?_) rfl ?_ ?_
  rotate_left
  · intro u hSu; clear hSu; go_simp; (try with_reducible rfl)
  try simp only [Act.put, List.setIfInBounds_toArray, List.set_cons_zero]
  refine wpAnyH_done (by kernel_rfl) ?_ _
  clear hHeld
  go_wp2_with fail
  go_ret
  obtain ⟨cur2, q1, q2, q3⟩ := setCells_blk (txZ (n - m)) (m * 4) cur1 W1 HK1.out
  have hnn := HN.out
  have hjj := HJ.out
  have hmm := HM.out
  have hk2 := HK2.out
  refine ⟨_, rfl, ?_, ?_⟩
  · have hlen : (l.take i ++ l.drop (i + 1)).length = m := by rw [List.length_append, List.length_take, List.length_drop]; omega
    show World.ownsRow _ B 66 4 _ (l.take i ++ l.drop (i + 1)).length ((l.take i ++ l.drop (i + 1)).flatMap txC)
    rw [hlen]
    refine ⟨by rw [flat_len txC_len, hlen], .inr ⟨g, c, cur2, rfl, hgB, q1, by omega, hmx, by rw [q2, hk2]; exact hsz, ?_⟩⟩
    have e1 : ((l.take i).flatMap txC).length = i * 4 := by rw [flat_len txC_len, List.length_take]; omega
    have e2 : l.flatMap txC = (l.take i).flatMap txC ++ (l.drop i).flatMap txC := by rw [← List.flatMap_append, List.take_append_drop]
    refine List.ext_getElem? fun t => ?_
    rw [List.getElem?_take]
    by_cases ht : t < m * 4
    · rw [if_pos ht, Array.getElem?_toList, q3, if_neg (by omega), HK3.out, List.flatMap_append]
      by_cases hti : t < i * 4
      · rw [if_neg (by omega), List.getElem?_append_left (by omega)]
        have h8 := congrArg (fun L => L[t]?) HT.out
        simp only [List.getElem?_take] at h8
        rw [if_pos (by omega), Array.getElem?_toList, e2, List.getElem?_append_left (by omega)] at h8
        exact h8
      · have hnl := HNL.out
        rw [if_pos (by omega), List.getElem?_append_right (by omega), e1, HNE.out, hjj]
        congr 1
        omega
    · rw [if_neg ht, List.getElem?_eq_none (by rw [flat_len txC_len, hlen]; omega)]
  · rw [HW1.out]
    exact (((Below.refl B w).drew).trans (setCells_below hgB _ _ _)).trans (setCells_below hgB _ _ _)
end Go.Proofs.Ythfglhafphfhiaa
/- The walk over package txn: Note. -/
namespace Tx
open Rc
theorem noteT_no {l : List TxnAt} {r : Rec} (h : ¬ noted r) : noteT l r = l := by unfold noteT; rw [if_pos h]
theorem noteT_gone {l : List TxnAt} {r : Rec} (h : noted r) (hp : placeT l r.txn = none) (hk : r.kind = 7) : noteT l r = l := by unfold noteT; rw [if_neg (fun hn => hn h), hp]; simp only; rw [if_pos hk]
theorem noteT_new {l : List TxnAt} {r : Rec} (h : noted r) (hp : placeT l r.txn = none) (hk : ¬ r.kind = 7) : noteT l r = (l ++ [(⟨r.txn, 0, 0, false⟩ : TxnAt)]).set l.length (tuneT r ⟨r.txn, 0, 0, false⟩) := by
  unfold noteT; rw [if_neg (fun hn => hn h), hp]; simp only; rw [if_neg hk, List.set_append_right _ _ (Nat.le_refl _), Nat.sub_self]; rfl
theorem noteT_end {l : List TxnAt} {r : Rec} {i : Nat} (h : noted r) (hp : placeT l r.txn = some i) (hk : r.kind = 7) : noteT l r = l.take i ++ l.drop (i + 1) := by unfold noteT; rw [if_neg (fun hn => hn h), hp]; simp only; rw [if_pos hk]
theorem noteT_old {l : List TxnAt} {r : Rec} {i : Nat} (h : noted r) (hp : placeT l r.txn = some i) (hk : ¬ r.kind = 7) (hi : i < l.length) : noteT l r = l.set i (tuneT r l[i]) := by
  unfold noteT; rw [if_neg (fun hn => hn h), hp]; simp only; rw [if_neg hk, List.getElem?_eq_getElem hi, Option.getD_some, List.set_eq_take_append_cons_drop, if_pos hi]
end Tx
namespace Go.Proofs.Ythfglhafphfhiaa
open Go.RowKit
theorem rowSet {w : World} {B g N c : Nat} {M : List Rc.TxnAt} (h : w.ownsRow B 66 4 (.slice (some ⟨g, 0, none⟩) N c) N (M.flatMap txC)) (hN : M.length = N) (k : Nat) (hk : k < M.length) (f : Nat) (hf : f < 4) (x : Value) (y : Rc.TxnAt) (he : txC y = (txC M[k]).set f x) :
    w.cell? ⟨g, k * 4 + f, none⟩ = (txC M[k])[f]? ∧ w.frozen? ⟨g, k * 4 + f, none⟩ = false ∧ (w.setCell ⟨g, k * 4 + f, none⟩ x).ownsRow B 66 4 (.slice (some ⟨g, 0, none⟩) N c) N ((M.set k y).flatMap txC) := by
  obtain ⟨h1, h2, h3⟩ := ownSetAt h (k * 4 + f) (by omega)
  refine ⟨by rw [h1, flat_at txC_len M k f hk hf], h2, ?_⟩
  rw [← flat_set txC_len M k f y x hk hf he]
  exact h3 x
theorem ownSome {w : World} {B size n : Nat} {e : TypeId} {v : Value} {xs : List Value} (h : w.ownsRow B e size v n xs) (hn : 0 < n) : ∃ g c, v = .slice (some ⟨g, 0, none⟩) n c ∧ B ≤ g := by
  rcases h.2 with ⟨_, h0⟩ | ⟨g, cap, cur, hv, hg, _⟩
  · omega
  · exact ⟨g, cap, hv, hg⟩
/-- What Note answers: a list, the old one or one in memory of its own. -/
def NoteOut (l : List Rc.TxnAt) (A : Option Addr) (w : World) (e : Ending) (w' : World) : Prop :=
  ∃ A' c', e = .returned (.slice A' l.length c') ∧ TxR w' A' c' l ∧ (A' = A ∨ NewT w.heap.size w' 66 A') ∧ Below w.heap.size w w'
theorem note_own {l : List Rc.TxnAt} {A : Option Addr} {w w' : World} {g N c B : Nat} (h : w'.ownsRow B 66 4 (.slice (some ⟨g, 0, none⟩) N c) N (l.flatMap txC)) (hN : l.length = N) (hB : w.heap.size ≤ B) (hb : Below w.heap.size w w') : NoteOut l A w (.returned (.slice (some ⟨g, 0, none⟩) N c)) w' := by
  subst hN
  exact ⟨_, _, rfl, own_reads h, .inr ((NewT.own h).mono hB), hb⟩
set_option maxRecDepth 100000 in
set_option maxHeartbeats 4000000 in
theorem tnote_any (l : List Rc.TxnAt) (hl : l.length ≤ 900000) (A : Option Addr) (c : Nat) (r : Rc.Rec) (AT AD : Option Addr) (n1 c1 m1 d1 : Nat) (w : World) (hr : TxR w A c l) :
    Calls Try.prog 8 #[.slice A l.length c, recV r (.slice AT n1 c1) (.slice AD m1 d1)] w (NoteOut (Tx.noteT l r) A w) := by
  have HR := Lib.hid hr
  have HSAME := Lib.hid (fun w' (h : Tx.noteT l r = l) (hb : Below w.heap.size w w') => show NoteOut (Tx.noteT l r) A w (.returned (.slice A l.length c)) w' from by rw [h]; exact ⟨A, c, rfl, hr.below hb, .inl rfl, hb⟩)
  have HOWN := Lib.hid (fun (M : List Rc.TxnAt) (g N c B : Nat) w' (h : Tx.noteT l r = M) (ho : w'.ownsRow B 66 4 (.slice (some ⟨g, 0, none⟩) N c) N (M.flatMap txC)) (hN : M.length = N) (hB : w.heap.size ≤ B) (hb : Below w.heap.size w w') => show NoteOut (Tx.noteT l r) A w (.returned (.slice (some ⟨g, 0, none⟩) N c)) w' from by rw [h]; exact note_own ho hN hB hb)
  have HDEL := Lib.hid (fun (M : List Rc.TxnAt) (v : Value) (B : Nat) w' (h : Tx.noteT l r = M) (ho : OwnL txC 4 66 B w' v M) (hB : w.heap.size ≤ B) (hb : Below w.heap.size w w') => show NoteOut (Tx.noteT l r) A w (.returned v) w' from by
    rw [h]
    obtain ⟨A2, c2, rfl⟩ := ownLen ho
    exact ⟨_, _, rfl, own_reads ho, .inr ((NewT.own ho).mono hB), hb⟩)
  have N0 := Lib.hid (@Tx.noteT_no l r)
  have N1 := Lib.hid (@Tx.noteT_gone l r)
  have N2 := Lib.hid (@Tx.noteT_new l r)
  have N3 := Lib.hid (fun i => @Tx.noteT_end l r i)
  have N4 := Lib.hid (fun i => @Tx.noteT_old l r i)
  have HPL := Lib.hid (fun n W (hb : Below w.heap.size w W) => tplace_any l n (by omega) A c W (hr.below hb))
  have HCL := Lib.hid (fun W (hb : Below w.heap.size w W) => tclone_any l (by omega) A c W (hr.below hb))
  generalize Tx.noteT l r = R at *
  generalize NoteOut R A w = Q at HSAME HOWN HDEL ⊢
  clear hr
  obtain ⟨lsn, prev, txn, kind, page, next, nu, ⟨ok, os, oo, on⟩, how, root, ⟨ek, ep, es⟩, ts, ds⟩ := r
  dsimp only [recV, recA]
  obtain ⟨W0, hW0⟩ : ∃ W, W = w.alloc (.cells #[.int .i64 lsn, .int .i64 prev, .int .i64 txn, .int .i64 kind, .int .i64 page, .int .i64 next, .int .i64 nu, .int .i64 ok, .int .i64 os, .string oo, .string on, .int .i64 how, .int .i64 root, .string ek, .int .i64 ep, .int .i64 es, .slice AT n1 c1, .slice AD m1 d1] 31) := ⟨_, rfl⟩
  have H0 := Lib.hid (show W0.heap[w.heap.size]? = some (.cells #[.int .i64 lsn, .int .i64 prev, .int .i64 txn, .int .i64 kind, .int .i64 page, .int .i64 next, .int .i64 nu, .int .i64 ok, .int .i64 os, .string oo, .string on, .int .i64 how, .int .i64 root, .string ek, .int .i64 ep, .int .i64 es, .slice AT n1 c1, .slice AD m1 d1] 31 (0, 0)) from by rw [hW0]; exact heap_alloc_new _ _)
  have B0 := Lib.hid (show Below w.heap.size w W0 from by rw [hW0]; exact allocB _ _)
  have hc0 := blkCell H0.out
  by_cases hno : Tx.noted ⟨lsn, prev, txn, kind, page, next, nu, ⟨ok, os, oo, on⟩, how, root, ⟨ek, ep, es⟩, ts, ds⟩
  rotate_left
  · have HS := Lib.hid (N0.out hno)
    unfold Tx.noted at hno
    simp only at hno
    clear N0 N1 N2 N3 N4 HPL HCL HOWN HDEL HR
    by_cases h1 : txn < 1
    · go_enter Try.func8, Try.ntmps8
      go_upto_region 1 with fail
      rw [← hW0]
      clear hW0
      go_wp2_with fail
      exact HSAME.out _ HS.out B0.out
    by_cases h2 : kind < 1
    · go_enter Try.func8, Try.ntmps8
      go_upto_region 1 with fail
      rw [← hW0]
      clear hW0
      go_wp2_with fail
      exact HSAME.out _ HS.out B0.out
    by_cases h3 : kind = 8
    · have h3' : (kind == 8) = true := by simpa using h3
      clear hno h3
      go_enter Try.func8, Try.ntmps8
      go_upto_region 1 with fail
      rw [← hW0]
      clear hW0
      go_wp2_with fail
      exact HSAME.out _ HS.out B0.out
    · have h3' : (kind == 8) = false := by simpa using h3
      have h4 : 9 ≤ kind := by omega
      clear hno h3
      go_enter Try.func8, Try.ntmps8
      go_upto_region 1 with fail
      rw [← hW0]
      clear hW0
      go_wp2_with fail
      exact HSAME.out _ HS.out B0.out
  have HNO := Lib.hid hno
  unfold Tx.noted at hno
  simp only at hno
  have h1 : ¬ txn < 1 := by omega
  have h2 : ¬ kind < 1 := by omega
  have h3 : (kind == 8) = false := by simp; omega
  have h4 : ¬ 9 ≤ kind := by omega
  have HKR := Lib.hid (show 1 ≤ kind ∧ kind ≤ 7 from hno.2)
  have HPL0 := HPL.out txn W0 B0.out
  unfold PlaceOut at HPL0
  clear N0 hno
  cases hp : Tx.placeT l txn with
  | none =>
    rw [hp] at HPL0
    simp only [Tx.placeI] at HPL0
    by_cases hk7 : kind = 7
    · have HS := Lib.hid (N1.out HNO.out hp hk7)
      have hk7' : (kind == 7) = true := by simpa using hk7
      clear N1 N2 N3 N4 HPL HCL HOWN HDEL HR hp hk7
      go_enter Try.func8, Try.ntmps8
      go_upto_region 1 with fail
      rw [← hW0]
      clear hW0
      go_upto_region 4 with (go_at_call 23; (with_reducible refine HPL0.mono ?_); rintro e w1 ⟨rfl, hb1⟩; have hc1 := blkCell (blkOld H0.out hb1))
      have H1 := Lib.hid (blkOld H0.out hb1)
      have B1 := Lib.hid (joinB B0.out hb1)
      clear hb1 hc1 hc0
      have hc2 := blkCell H1.out
      go_wp2_with fail
      exact HSAME.out _ HS.out B1.out
    · have HRES := Lib.hid (N2.out HNO.out hp hk7)
      have hk7' : (kind == 7) = false := by simpa using hk7
      clear N1 N2 N3 N4 HPL HDEL HR hp HSAME
      go_enter Try.func8, Try.ntmps8
      go_upto_region 1 with fail
      rw [← hW0]
      clear hW0
      go_upto_region 4 with (go_at_call 23; (with_reducible refine HPL0.mono ?_); rintro e w1 ⟨rfl, hb1⟩; have hc1 := blkCell (blkOld H0.out hb1))
      have H1 := Lib.hid (blkOld H0.out hb1)
      have B1 := Lib.hid (joinB B0.out hb1)
      clear hb1 hc1 hc0
      have hc2 := blkCell H1.out
      have HCL1 := HCL.out w1 B1.out
      clear HCL
      have hlN : (l.length : Int) < ((l.length + 1 : Nat) : Int) := by omega
      go_upto_region 12 with (first
        | (go_at_call 25; (with_reducible refine HCL1.mono ?_); rintro e w2 ⟨v2, rfl, ho2, hb2⟩; obtain ⟨A2, c2, rfl⟩ := ownLen ho2; have H2 := Lib.hid (blkOld H1.out hb2); have hc3 := blkCell H2.out; have hs2 := hb2.size)
        | (at_builtin; refine wpList_push (by kernel_rfl) (.tmp 48) (.tmp 52) 22 66 Try.underlying22 info_tx rfl (by omega) (by omega) rfl w1.heap.size _ l.length (l.flatMap txC) rfl (ownBelow ho2 (allocB w2 _)) w2.heap.size (txC ⟨txn, 0, 0, false⟩) 66 rfl (heap_alloc_new w2 _) rfl (txC_one _) (by omega) (by simp; omega) ?_; intro v3 w3 ho3 hg3 hb3))
      have hs1 : w.heap.size + 1 ≤ w1.heap.size := by have := heapLt H1.out; omega
      have HX := Lib.hid (show w3.heap[w.heap.size]? = some (.cells #[.int .i64 lsn, .int .i64 prev, .int .i64 txn, .int .i64 kind, .int .i64 page, .int .i64 next, .int .i64 nu, .int .i64 ok, .int .i64 os, .string oo, .string on, .int .i64 how, .int .i64 root, .string ek, .int .i64 ep, .int .i64 es, .slice AT n1 c1, .slice AD m1 d1] 31 (0, 0)) from (hb3.block _ (by omega)).trans (blkOld H2.out (allocB w2 _)))
      have HB := Lib.hid (show Below w.heap.size w w3 from ((B1.out.trans (hb2.mono (by omega))).trans ((allocB w2 _).mono (by omega))).trans (hb3.mono (by omega)))
      obtain ⟨g, cap, rfl, hgB0⟩ := ownSome ho3 (by omega)
      have hgB : w.heap.size + 1 ≤ g := by omega
      obtain ⟨L, hL⟩ : ∃ L : List Rc.TxnAt, L = l ++ [⟨txn, 0, 0, false⟩] := ⟨_, rfl⟩
      have hLf : l.flatMap txC ++ txC ⟨txn, 0, 0, false⟩ = L.flatMap txC := by rw [hL, List.flatMap_append]; simp
      rw [hLf] at ho3
      obtain ⟨N, hN⟩ : ∃ N, N = l.length + 1 := ⟨_, rfl⟩
      rw [← hN] at ho3
      rw [← hN]
      obtain ⟨k, hk⟩ : ∃ k, k = l.length := ⟨_, rfl⟩
      rw [← hk]
      have HO := Lib.hid (ownMono ho3 hs1)
      have HLN := Lib.hid (show L.length = N from by rw [hL, hN, List.length_append, List.length_singleton])
      have hkL : k < L.length := by rw [hL, hk, List.length_append, List.length_singleton]; omega
      have HRES2 := Lib.hid (show R = L.set k (Tx.tuneT ⟨lsn, prev, txn, kind, page, next, nu, ⟨ok, os, oo, on⟩, how, root, ⟨ek, ep, es⟩, ts, ds⟩ L[k]) from by
        have e : L[k] = ⟨txn, 0, 0, false⟩ := by subst hL hk; simp
        rw [e, hL, hk]; exact HRES.out)
      clear HRES
      have HRES := HRES2
      clear HRES2 hL hLf hN hk ho3 hg3 hb3 ho2 hb2 hc3 hs2 hc2 H2 H1 B1 hs1 hlN hgB0 B0 H0 HCL1 HPL0
      obtain ⟨W, hWW⟩ : ∃ W, W = w3 := ⟨_, rfl⟩
      rw [← hWW] at HX HB HO
      rw [← hWW]
      clear hWW
      obtain ⟨t, ht⟩ : ∃ t, t = L[k] := ⟨_, rfl⟩
      obtain ⟨tn, tl, tx, td⟩ := t
      obtain ⟨s1, s2, s3⟩ := rowSet HO.out HLN.out k hkL 1 (by omega) (.int .i64 lsn) ⟨tn, lsn, tx, td⟩ (by rw [← ht]; rfl)
      rw [← ht] at s1
      simp only [txC] at s1
      have HT := Lib.hid ht
      have HO2 := Lib.hid s3
      have hcw := blkCell HX.out
      have hgne : w.heap.size ≠ g := by omega
      have hkN := HLN.out
      rw [hkN] at hkL
      have hkI : (k : Int) < (N : Int) := by omega
      have hk0 : (0 : Int) ≤ (k : Int) := by omega
      clear ht s3 hkN
      go_upto_region 14 with fail
      have HX2 := Lib.hid (show (W.setCell ⟨g, k * 4 + 1, none⟩ (.int .i64 lsn)).heap[w.heap.size]? = some (.cells #[.int .i64 lsn, .int .i64 prev, .int .i64 txn, .int .i64 kind, .int .i64 page, .int .i64 next, .int .i64 nu, .int .i64 ok, .int .i64 os, .string oo, .string on, .int .i64 how, .int .i64 root, .string ek, .int .i64 ep, .int .i64 es, .slice AT n1 c1, .slice AD m1 d1] 31 (0, 0)) from (Below.heap_setCell _ _ _ _ hgne).trans HX.out)
      have HB2 := Lib.hid (HB.out.trans ((Below.refl w.heap.size W).setCell (p := ⟨g, k * 4 + 1, none⟩) (by show w.heap.size ≤ g; omega) (.int .i64 lsn)))
      obtain ⟨W2, hW2⟩ : ∃ W2, W2 = W.setCell ⟨g, k * 4 + 1, none⟩ (.int .i64 lsn) := ⟨_, rfl⟩
      rw [← hW2] at HX2 HB2 HO2
      rw [← hW2]
      clear hW2 HX HB HO hcw s1 s2
      have hcw2 := blkCell HX2.out
      have HLN2 := Lib.hid (show (L.set k ⟨tn, lsn, tx, td⟩).length = N from by rw [List.length_set]; exact HLN.out)
      have HK2 := Lib.hid (show k < (L.set k ⟨tn, lsn, tx, td⟩).length from by have := HLN2.out; omega)
      have hsk : ∀ y, (L.set k ⟨tn, lsn, tx, td⟩).set k y = L.set k y := fun y => List.set_set ..
      have HGE := Lib.hid (show (L.set k ⟨tn, lsn, tx, td⟩)[k]'HK2.out = ⟨tn, lsn, tx, td⟩ from by simp)
      have HFIN := Lib.hid (fun y w' (hy : y = Tx.tuneT ⟨lsn, prev, txn, kind, page, next, nu, ⟨ok, os, oo, on⟩, how, root, ⟨ek, ep, es⟩, ts, ds⟩ ⟨tn, tl, tx, td⟩) (ho : w'.ownsRow (w.heap.size + 1) 66 4 (.slice (some ⟨g, 0, none⟩) N cap) N ((L.set k y).flatMap txC)) (hb : Below w.heap.size w w') => HOWN.out (L.set k y) g N cap (w.heap.size + 1) w' (by rw [hy, HT.out]; exact HRES.out) ho (by rw [List.length_set]; exact HLN.out) (by omega) hb)
      clear HRES HOWN HT
      have hkk : kind = 1 ∨ kind = 2 ∨ kind = 3 ∨ kind = 4 ∨ kind = 5 ∨ kind = 6 := by have := HKR.out; omega
      clear HKR h2 h3 h4 hk7 HNO
      rcases hkk with rfl | rfl | rfl | rfl | rfl | rfl
      · obtain ⟨u1, u2, u3⟩ := rowSet HO2.out HLN2.out k HK2.out 2 (by omega) (.int .i64 lsn) ⟨tn, lsn, lsn, td⟩ (by rw [HGE.out]; rfl)
        rw [HGE.out] at u1
        simp only [txC] at u1
        rw [hsk] at u3
        have HO3 := Lib.hid (HFIN.out ⟨tn, lsn, lsn, td⟩ _ rfl u3 (HB2.out.trans ((Below.refl w.heap.size W2).setCell (p := ⟨g, k * 4 + 2, none⟩) (by show w.heap.size ≤ g; omega) (.int .i64 lsn))))
        clear u3 hsk
        go_wp2_with fail
        exact HO3.out
      · obtain ⟨u1, u2, u3⟩ := rowSet HO2.out HLN2.out k HK2.out 2 (by omega) (.int .i64 lsn) ⟨tn, lsn, lsn, td⟩ (by rw [HGE.out]; rfl)
        rw [HGE.out] at u1
        simp only [txC] at u1
        rw [hsk] at u3
        have HO3 := Lib.hid (HFIN.out ⟨tn, lsn, lsn, td⟩ _ rfl u3 (HB2.out.trans ((Below.refl w.heap.size W2).setCell (p := ⟨g, k * 4 + 2, none⟩) (by show w.heap.size ≤ g; omega) (.int .i64 lsn))))
        clear u3 hsk
        go_wp2_with fail
        exact HO3.out
      · obtain ⟨u1, u2, u3⟩ := rowSet HO2.out HLN2.out k HK2.out 2 (by omega) (.int .i64 next) ⟨tn, lsn, next, td⟩ (by rw [HGE.out]; rfl)
        rw [HGE.out] at u1
        simp only [txC] at u1
        rw [hsk] at u3
        have HO3 := Lib.hid (HFIN.out ⟨tn, lsn, next, td⟩ _ rfl u3 (HB2.out.trans ((Below.refl w.heap.size W2).setCell (p := ⟨g, k * 4 + 2, none⟩) (by show w.heap.size ≤ g; omega) (.int .i64 next))))
        clear u3 hsk
        go_wp2_with fail
        exact HO3.out
      · obtain ⟨u1, u2, u3⟩ := rowSet HO2.out HLN2.out k HK2.out 2 (by omega) (.int .i64 next) ⟨tn, lsn, next, td⟩ (by rw [HGE.out]; rfl)
        rw [HGE.out] at u1
        simp only [txC] at u1
        rw [hsk] at u3
        have HO3 := Lib.hid (HFIN.out ⟨tn, lsn, next, td⟩ _ rfl u3 (HB2.out.trans ((Below.refl w.heap.size W2).setCell (p := ⟨g, k * 4 + 2, none⟩) (by show w.heap.size ≤ g; omega) (.int .i64 next))))
        clear u3 hsk
        go_wp2_with fail
        exact HO3.out
      · obtain ⟨u1, u2, u3⟩ := rowSet HO2.out HLN2.out k HK2.out 3 (by omega) (.bool true) ⟨tn, lsn, tx, true⟩ (by rw [HGE.out]; rfl)
        rw [HGE.out] at u1
        simp only [txC] at u1
        rw [hsk] at u3
        have HO3 := Lib.hid (HFIN.out ⟨tn, lsn, tx, true⟩ _ rfl u3 (HB2.out.trans ((Below.refl w.heap.size W2).setCell (p := ⟨g, k * 4 + 3, none⟩) (by show w.heap.size ≤ g; omega) (.bool true))))
        clear u3 hsk
        go_wp2_with fail
        exact HO3.out
      · have HO3 := Lib.hid (HFIN.out ⟨tn, lsn, tx, td⟩ _ rfl HO2.out HB2.out)
        clear hsk
        go_wp2_with fail
        exact HO3.out
  | some i =>
    rw [hp] at HPL0
    simp only [Tx.placeI] at HPL0
    obtain ⟨hi, -⟩ := Tx.placeT_some hp
    have hi0 : ¬ (i : Int) < 0 := by omega
    by_cases hk7 : kind = 7
    · have HS := Lib.hid (N3.out i HNO.out hp hk7)
      have hk7' : (kind == 7) = true := by simpa using hk7
      clear N1 N2 N3 N4 HPL HOWN HR hp hk7 HSAME
      go_enter Try.func8, Try.ntmps8
      go_upto_region 1 with fail
      rw [← hW0]
      clear hW0
      go_upto_region 4 with (go_at_call 23; (with_reducible refine HPL0.mono ?_); rintro e w1 ⟨rfl, hb1⟩; have hc1 := blkCell (blkOld H0.out hb1))
      have H1 := Lib.hid (blkOld H0.out hb1)
      have B1 := Lib.hid (joinB B0.out hb1)
      clear hb1 hc1 hc0
      have hc2 := blkCell H1.out
      have HCL1 := HCL.out w1 B1.out
      clear HCL
      have hwi : IntKind.i64.wrap ((i : Int) + 1) = (i : Int) + 1 := IntWalk.i64_in _ (by omega)
      go_wp2_with (first
        | (go_at_call 25; (with_reducible refine HCL1.mono ?_); rintro e w2 ⟨v2, rfl, ho2, hb2⟩; obtain ⟨g, cap, rfl, hgB⟩ := ownSome ho2 (by omega); have HD := Lib.hid (tdelete_any l (by omega) i hi w1.heap.size g cap w2 ho2))
        | (go_at_call 24; (with_reducible refine HD.out.mono ?_); rintro e w3 ⟨v3, rfl, ho3, hb3⟩))
      exact HDEL.out _ _ _ _ HS.out ho3 B1.out.size ((B1.out.trans (hb2.mono B1.out.size)).trans (hb3.mono B1.out.size))
    · have HRES := Lib.hid (N4.out i HNO.out hp hk7 hi)
      have hk7' : (kind == 7) = false := by simpa using hk7
      clear N1 N2 N3 N4 HPL HDEL HR hp HSAME
      go_enter Try.func8, Try.ntmps8
      go_upto_region 1 with fail
      rw [← hW0]
      clear hW0
      go_upto_region 4 with (go_at_call 23; (with_reducible refine HPL0.mono ?_); rintro e w1 ⟨rfl, hb1⟩; have hc1 := blkCell (blkOld H0.out hb1))
      have H1 := Lib.hid (blkOld H0.out hb1)
      have B1 := Lib.hid (joinB B0.out hb1)
      clear hb1 hc1 hc0
      have hc2 := blkCell H1.out
      have HCL1 := HCL.out w1 B1.out
      clear HCL
      go_upto_region 12 with (go_at_call 25; (with_reducible refine HCL1.mono ?_); rintro e w2 ⟨v2, rfl, ho2, hb2⟩)
      have hs1 : w.heap.size + 1 ≤ w1.heap.size := by have := heapLt H1.out; omega
      have HX := Lib.hid (blkOld H1.out hb2)
      have HB := Lib.hid (show Below w.heap.size w w2 from B1.out.trans (hb2.mono (by omega)))
      obtain ⟨g, cap, rfl, hgB0⟩ := ownSome ho2 (by omega)
      have hgB : w.heap.size + 1 ≤ g := by omega
      have ho2' := ownMono ho2 hs1
      obtain ⟨L, hL⟩ : ∃ L : List Rc.TxnAt, L = l := ⟨_, rfl⟩
      obtain ⟨N, hN⟩ : ∃ N, N = l.length := ⟨_, rfl⟩
      obtain ⟨k, hk⟩ : ∃ k, k = i := ⟨_, rfl⟩
      rw [← hN] at ho2'
      rw [← hN]
      rw [← hL] at ho2'
      rw [← hk]
      have HO := Lib.hid ho2'
      have HLN := Lib.hid (show L.length = N from by rw [hL, hN])
      have hkL : k < L.length := by rw [hL, hk]; exact hi
      have HRES2 := Lib.hid (show R = L.set k (Tx.tuneT ⟨lsn, prev, txn, kind, page, next, nu, ⟨ok, os, oo, on⟩, how, root, ⟨ek, ep, es⟩, ts, ds⟩ L[k]) from by
        subst hL hk; exact HRES.out)
      clear HRES
      have HRES := HRES2
      clear HRES2 hL hN hk ho2 ho2' hb2 hc2 H1 B1 hs1 hgB0 B0 H0 HCL1 HPL0 hi hi0
      obtain ⟨W, hWW⟩ : ∃ W, W = w2 := ⟨_, rfl⟩
      rw [← hWW] at HX HB HO
      rw [← hWW]
      clear hWW
      obtain ⟨t, ht⟩ : ∃ t, t = L[k] := ⟨_, rfl⟩
      obtain ⟨tn, tl, tx, td⟩ := t
      obtain ⟨s1, s2, s3⟩ := rowSet HO.out HLN.out k hkL 1 (by omega) (.int .i64 lsn) ⟨tn, lsn, tx, td⟩ (by rw [← ht]; rfl)
      rw [← ht] at s1
      simp only [txC] at s1
      have HT := Lib.hid ht
      have HO2 := Lib.hid s3
      have hcw := blkCell HX.out
      have hgne : w.heap.size ≠ g := by omega
      have hkN := HLN.out
      rw [hkN] at hkL
      have hkI : (k : Int) < (N : Int) := by omega
      have hk0 : (0 : Int) ≤ (k : Int) := by omega
      clear ht s3 hkN
      go_upto_region 14 with fail
      have HX2 := Lib.hid (show (W.setCell ⟨g, k * 4 + 1, none⟩ (.int .i64 lsn)).heap[w.heap.size]? = some (.cells #[.int .i64 lsn, .int .i64 prev, .int .i64 txn, .int .i64 kind, .int .i64 page, .int .i64 next, .int .i64 nu, .int .i64 ok, .int .i64 os, .string oo, .string on, .int .i64 how, .int .i64 root, .string ek, .int .i64 ep, .int .i64 es, .slice AT n1 c1, .slice AD m1 d1] 31 (0, 0)) from (Below.heap_setCell _ _ _ _ hgne).trans HX.out)
      have HB2 := Lib.hid (HB.out.trans ((Below.refl w.heap.size W).setCell (p := ⟨g, k * 4 + 1, none⟩) (by show w.heap.size ≤ g; omega) (.int .i64 lsn)))
      obtain ⟨W2, hW2⟩ : ∃ W2, W2 = W.setCell ⟨g, k * 4 + 1, none⟩ (.int .i64 lsn) := ⟨_, rfl⟩
      rw [← hW2] at HX2 HB2 HO2
      rw [← hW2]
      clear hW2 HX HB HO hcw s1 s2
      have hcw2 := blkCell HX2.out
      have HLN2 := Lib.hid (show (L.set k ⟨tn, lsn, tx, td⟩).length = N from by rw [List.length_set]; exact HLN.out)
      have HK2 := Lib.hid (show k < (L.set k ⟨tn, lsn, tx, td⟩).length from by have := HLN2.out; omega)
      have hsk : ∀ y, (L.set k ⟨tn, lsn, tx, td⟩).set k y = L.set k y := fun y => List.set_set ..
      have HGE := Lib.hid (show (L.set k ⟨tn, lsn, tx, td⟩)[k]'HK2.out = ⟨tn, lsn, tx, td⟩ from by simp)
      have HFIN := Lib.hid (fun y w' (hy : y = Tx.tuneT ⟨lsn, prev, txn, kind, page, next, nu, ⟨ok, os, oo, on⟩, how, root, ⟨ek, ep, es⟩, ts, ds⟩ ⟨tn, tl, tx, td⟩) (ho : w'.ownsRow (w.heap.size + 1) 66 4 (.slice (some ⟨g, 0, none⟩) N cap) N ((L.set k y).flatMap txC)) (hb : Below w.heap.size w w') => HOWN.out (L.set k y) g N cap (w.heap.size + 1) w' (by rw [hy, HT.out]; exact HRES.out) ho (by rw [List.length_set]; exact HLN.out) (by omega) hb)
      clear HRES HOWN HT
      have hkk : kind = 1 ∨ kind = 2 ∨ kind = 3 ∨ kind = 4 ∨ kind = 5 ∨ kind = 6 := by have := HKR.out; omega
      clear HKR h2 h3 h4 hk7 HNO
      rcases hkk with rfl | rfl | rfl | rfl | rfl | rfl
      · obtain ⟨u1, u2, u3⟩ := rowSet HO2.out HLN2.out k HK2.out 2 (by omega) (.int .i64 lsn) ⟨tn, lsn, lsn, td⟩ (by rw [HGE.out]; rfl)
        rw [HGE.out] at u1
        simp only [txC] at u1
        rw [hsk] at u3
        have HO3 := Lib.hid (HFIN.out ⟨tn, lsn, lsn, td⟩ _ rfl u3 (HB2.out.trans ((Below.refl w.heap.size W2).setCell (p := ⟨g, k * 4 + 2, none⟩) (by show w.heap.size ≤ g; omega) (.int .i64 lsn))))
        clear u3 hsk
        go_wp2_with fail
        exact HO3.out
      · obtain ⟨u1, u2, u3⟩ := rowSet HO2.out HLN2.out k HK2.out 2 (by omega) (.int .i64 lsn) ⟨tn, lsn, lsn, td⟩ (by rw [HGE.out]; rfl)
        rw [HGE.out] at u1
        simp only [txC] at u1
        rw [hsk] at u3
        have HO3 := Lib.hid (HFIN.out ⟨tn, lsn, lsn, td⟩ _ rfl u3 (HB2.out.trans ((Below.refl w.heap.size W2).setCell (p := ⟨g, k * 4 + 2, none⟩) (by show w.heap.size ≤ g; omega) (.int .i64 lsn))))
        clear u3 hsk
        go_wp2_with fail
        exact HO3.out
      · obtain ⟨u1, u2, u3⟩ := rowSet HO2.out HLN2.out k HK2.out 2 (by omega) (.int .i64 next) ⟨tn, lsn, next, td⟩ (by rw [HGE.out]; rfl)
        rw [HGE.out] at u1
        simp only [txC] at u1
        rw [hsk] at u3
        have HO3 := Lib.hid (HFIN.out ⟨tn, lsn, next, td⟩ _ rfl u3 (HB2.out.trans ((Below.refl w.heap.size W2).setCell (p := ⟨g, k * 4 + 2, none⟩) (by show w.heap.size ≤ g; omega) (.int .i64 next))))
        clear u3 hsk
        go_wp2_with fail
        exact HO3.out
      · obtain ⟨u1, u2, u3⟩ := rowSet HO2.out HLN2.out k HK2.out 2 (by omega) (.int .i64 next) ⟨tn, lsn, next, td⟩ (by rw [HGE.out]; rfl)
        rw [HGE.out] at u1
        simp only [txC] at u1
        rw [hsk] at u3
        have HO3 := Lib.hid (HFIN.out ⟨tn, lsn, next, td⟩ _ rfl u3 (HB2.out.trans ((Below.refl w.heap.size W2).setCell (p := ⟨g, k * 4 + 2, none⟩) (by show w.heap.size ≤ g; omega) (.int .i64 next))))
        clear u3 hsk
        go_wp2_with fail
        exact HO3.out
      · obtain ⟨u1, u2, u3⟩ := rowSet HO2.out HLN2.out k HK2.out 3 (by omega) (.bool true) ⟨tn, lsn, tx, true⟩ (by rw [HGE.out]; rfl)
        rw [HGE.out] at u1
        simp only [txC] at u1
        rw [hsk] at u3
        have HO3 := Lib.hid (HFIN.out ⟨tn, lsn, tx, true⟩ _ rfl u3 (HB2.out.trans ((Below.refl w.heap.size W2).setCell (p := ⟨g, k * 4 + 3, none⟩) (by show w.heap.size ≤ g; omega) (.bool true))))
        clear u3 hsk
        go_wp2_with fail
        exact HO3.out
      · have HO3 := Lib.hid (HFIN.out ⟨tn, lsn, tx, td⟩ _ rfl HO2.out HB2.out)
        clear hsk
        go_wp2_with fail
        exact HO3.out
end Go.Proofs.Ythfglhafphfhiaa
/- Stores in memory; the walks over package txn: Find, Mark. -/
namespace Tx
theorem findS_none {s : St} {n : Int} (h : placeT s.txns n = none) : findS s n = (⟨0, 0, 0, false⟩, false) := by unfold findS; rw [h]
theorem findS_some {s : St} {n : Int} {i : Nat} (h : placeT s.txns n = some i) (hi : i < s.txns.length) : findS s n = (s.txns[i], true) := by unfold findS; rw [h]; simp only; rw [List.getElem?_eq_getElem hi, Option.getD_some]
end Tx
namespace Go.Proofs.Ythfglhafphfhiaa
open Go.RowKit
/-- A part of a block is read. -/
theorem listPart {P : Program} {ops : Array Oper} {rest : List Oper} {op : Oper} {a : Act} {w : World} {Q : Exit → Act → World → Prop} (hw : Region.wanted op (yielded ops a.tmps) = true) (ty : TypeId) (x : Operand) (ho : op.op = .load ty x)
    (b o : Nat) (hx : a.eval x = .pointer (some ⟨b, o, none⟩)) (part cells : Array Value) (t : TypeId) (hg : w.heap[b]? = some (.cells cells t (0, 0))) (hp : (cells.toList.drop o).take part.size = part.toList) (d : TypeDesc)
    (hu : P.underlying ty = some d) (hd : d.isRow = true) (hi : (P.info? ty).map (·.size) = some part.size)
    (h : wpList P ops Q rest (a.put op.dst (.agg part)) w) : wpList P ops Q (op :: rest) a w :=
  listWants hw fun K hK => by
    refine wp_load_mid ty x ho b o hx part.toList d (fun j v hj => ?_) hu hd (by simpa using hi) ?_
    · rw [blkCell hg]
      have h1 : j < part.size := by have := (List.getElem?_eq_some_iff.1 hj).1; simpa using this
      rw [← hp, List.getElem?_take, if_pos h1, List.getElem?_drop, Array.getElem?_toList] at hj
      exact hj
    · simpa using hK _ _ h
/-- A part of a block is written. -/
theorem listPut {P : Program} {ops : Array Oper} {rest : List Oper} {op : Oper} {a : Act} {w : World} {Q : Exit → Act → World → Prop} (hw : Region.wanted op (yielded ops a.tmps) = true) (ty : TypeId) (x y : Operand) (ho : op.op = .store ty x y)
    (b o : Nat) (part cur res : Array Value) (t : TypeId) (hx : a.eval x = .pointer (some ⟨b, o, none⟩)) (hy : a.eval y = .agg part) (hg : w.heap[b]? = some (.cells cur t (0, 0))) (hr : res = (cur.toList.take o ++ part.toList ++ cur.toList.drop (o + part.toList.length)).toArray)
    (hsz : decide (o + part.toList.length ≤ cur.size) = true) (hi : (P.info? ty).map (·.size) = some part.size) (h1 : part.all (·.oneCell') = true) (h : wpList P ops Q rest (a.put op.dst undef) (w.setRow b res)) : wpList P ops Q (op :: rest) a w :=
  listWants hw fun K hK => by
    have hst := run_storeCells_at P b o t part.toList 0 cur w hg (by rw [Nat.add_zero]; exact of_decide_eq_true hsz) (fun v hv => (Array.all_eq_true_iff_forall_mem.1 h1) v (by simpa using hv))
    rw [Nat.add_zero, ← hr] at hst
    have hrun : (storeVar ty ⟨b, o, none⟩ (.agg part)).run P w = .ok () (w.setRow b res) := by
      cases hq : P.info? ty with
      | none => simp [hq] at hi
      | some i =>
        have hs : part.size = i.size := by simp [hq] at hi; omega
        simp [storeVar, sizeOf, typeInfo, hq, Value.cells, hs, hst]
    unfold Oper.wp execOp
    simp only [ho, hx, hy, Instr.storeAt, Instr.sureAddr, Sem.run_bind, Sem.run_pure, Result.andThen_ok, hrun]
    exact hK _ _ h
/-- The places of a store's slices. -/
structure SP where
  A : Option Addr
  c : Nat
  F : Option Addr
  fn : Nat
  fc : Nat
  T : Option Addr
  tc : Nat
abbrev storeV (s : Tx.St) (p : SP) : Value := .agg #[.int .i64 s.zlog, .int .i64 s.zpages, .int .i64 s.zframes, .slice p.A s.disk.sectors.length p.c, .int .i64 s.disk.left, .bool s.disk.down, .int .i64 s.log.from_, .int .i64 s.log.n, .int .i64 s.log.end_, .int .i64 s.log.safe, .string s.log.tail, .slice p.F p.fn p.fc, .int .i64 s.hand, .slice p.T s.txns.length p.tc, .int .i64 s.next]
/-- A store's slices lie in memory, in blocks of their own kinds. -/
structure StoreR (w : World) (s : Tx.St) (p : SP) : Prop where
  dk : DiskR w s.disk p.A p.c
  dt : NewT 0 w 9 p.A
  tx : TxR w p.T p.tc s.txns
  tt : NewT 0 w 66 p.T
theorem StoreR.below {w w' : World} {s : Tx.St} {p : SP} (h : StoreR w s p) (hb : Below w.heap.size w w') : StoreR w' s p := ⟨h.dk.below hb, h.dt.below hb, h.tx.below hb, h.tt.below hb⟩
theorem StoreR.other {w : World} {s : Tx.St} {p : SP} (h : StoreR w s p) {b : Nat} {cur : Array Value} {t : TypeId} {fr : Nat × Nat} (hb : w.heap[b]? = some (.cells cur t fr)) (h1 : t ≠ 9) (h2 : t ≠ 66) (cs : Array Value) : StoreR (w.setRow b cs) s p :=
  ⟨⟨h.dt.readsRow h.dk.secs hb h1 cs, h.dk.small⟩, h.dt.row b cs, h.tt.readsRow h.tx hb h2 cs, h.tt.row b cs⟩
theorem StoreR.set {w : World} {s : Tx.St} {p : SP} (h : StoreR w s p) {b : Nat} {cur : Array Value} {t : TypeId} {fr : Nat × Nat} (hb : w.heap[b]? = some (.cells cur t fr)) (h1 : t ≠ 9) (h2 : t ≠ 66) (j : Nat) (v : Value) : StoreR (w.setCell ⟨b, j, none⟩ v) s p := by
  rw [setCell_eq_setRow w b j cur t fr v hb]
  exact h.other hb h1 h2 _
theorem recR_nil (r : Rc.Rec) (w : World) (h1 : r.txns = []) (h2 : r.dirty = []) : RecR w r none 0 none 0 := by
  refine ⟨?_, ?_, by rw [h1, h2]; exact ⟨Nat.zero_le _, Nat.zero_le _⟩⟩
  · rw [h1]; exact Reads.none_ _ _ _ _
  · rw [h2]; exact Reads.none_ _ _ _ _
set_option maxRecDepth 100000 in
set_option maxHeartbeats 8000000 in
theorem tfind_any (s : Tx.St) (p : SP) (n : Int) (hts : s.txns.length ≤ 800000) (w : World) (h : StoreR w s p) :
    Calls Try.prog 18 #[storeV s p, .int .i64 n] w fun e w' => e = .returned (.tuple #[txV (Tx.findS s n).1, .bool (Tx.findS s n).2]) ∧ Below w.heap.size w w' := by
  have hP := fun W (hb : Below w.heap.size w W) => tplace_any s.txns n (by omega) p.T p.tc W (h.tx.below hb)
  have HTX := Lib.hid h.tx
  clear h
  obtain ⟨zl, zp, zf, ⟨L, lf, dn⟩, ⟨fr, ln, en, sf, tl⟩, hd, ts, nx⟩ := s
  obtain ⟨A, c, FA, fn, fc, TA, tc⟩ := p
  simp only at hP HTX hts
  dsimp only [storeV]
  cases hp : Tx.placeT ts n with
  | none =>
    rw [Tx.findS_none (s := ⟨zl, zp, zf, ⟨L, lf, dn⟩, ⟨fr, ln, en, sf, tl⟩, hd, ts, nx⟩) hp]
    rw [hp] at hP
    unfold PlaceOut at hP
    simp only [Tx.placeI] at hP
    have HP := Lib.hid hP
    clear hP
    go_enter Try.func18, Try.ntmps18
    go_upto_region 1 with fail
    have H0 := Lib.hid (show BxL w.heap.size w [(#[.int .i64 zl, .int .i64 zp, .int .i64 zf, .slice A L.length c, .int .i64 lf, .bool dn, .int .i64 fr, .int .i64 ln, .int .i64 en, .int .i64 sf, .string tl, .slice FA fn fc, .int .i64 hd, .slice TA ts.length tc, .int .i64 nx], 49), (#[.int .i64 0, .int .i64 0, .int .i64 0, .bool false], 66)] ((w.alloc (.cells #[.int .i64 zl, .int .i64 zp, .int .i64 zf, .slice A L.length c, .int .i64 lf, .bool dn, .int .i64 fr, .int .i64 ln, .int .i64 en, .int .i64 sf, .string tl, .slice FA fn fc, .int .i64 hd, .slice TA ts.length tc, .int .i64 nx] 49)).alloc (.cells #[.int .i64 0, .int .i64 0, .int .i64 0, .bool false] 66)) from (((BxL.nil (Below.refl w.heap.size w)).new (by simp) #[.int .i64 zl, .int .i64 zp, .int .i64 zf, .slice A L.length c, .int .i64 lf, .bool dn, .int .i64 fr, .int .i64 ln, .int .i64 en, .int .i64 sf, .string tl, .slice FA fn fc, .int .i64 hd, .slice TA ts.length tc, .int .i64 nx] 49).new (by simp) #[.int .i64 0, .int .i64 0, .int .i64 0, .bool false] 66))
    obtain ⟨W0, hW0⟩ : ∃ W, W = ((w.alloc (.cells #[.int .i64 zl, .int .i64 zp, .int .i64 zf, .slice A L.length c, .int .i64 lf, .bool dn, .int .i64 fr, .int .i64 ln, .int .i64 en, .int .i64 sf, .string tl, .slice FA fn fc, .int .i64 hd, .slice TA ts.length tc, .int .i64 nx] 49)).alloc (.cells #[.int .i64 0, .int .i64 0, .int .i64 0, .bool false] 66)) := ⟨_, rfl⟩
    rw [← hW0] at H0 ⊢
    clear hW0
    have hc0 := blkCell H0.out.get0
    go_wp2_with (first
      | (go_at_call 23; (with_reducible refine (HP.out _ H0.out.below).mono ?_); rintro e w1 ⟨rfl, hb1⟩; have H1 := Lib.hid (H0.out.step hb1))
      | (with_reducible refine listStore (by kernel_rfl) 66 (.tmp 4) (.tmp 18) rfl (w.heap.size + 1) #[.int .i64 0, .int .i64 0, .int .i64 0, .bool false] _ _ rfl rfl H1.out.get1 (by kernel_rfl) (by kernel_rfl) (by kernel_rfl) ?_))
    refine bodyPost_ret (v := .tuple #[.agg #[.int .i64 0, .int .i64 0, .int .i64 0, .bool false], .bool false]) (results_cell2 rfl _ _ rfl (load_whole (setRow_heap _ _ _ _ _ _ H1.out.get1) Try.underlying66 (by kernel_rfl) (by kernel_rfl)) rfl) rfl ?_
    exact ⟨rfl, (H1.out.row 1 _ _ rfl).below⟩
  | some i =>
    obtain ⟨hi, -⟩ := Tx.placeT_some hp
    rw [Tx.findS_some (s := ⟨zl, zp, zf, ⟨L, lf, dn⟩, ⟨fr, ln, en, sf, tl⟩, hd, ts, nx⟩) hp hi]
    simp only
    rw [hp] at hP
    unfold PlaceOut at hP
    simp only [Tx.placeI] at hP
    have HP := Lib.hid hP
    clear hP
    have hi0 : (0 : Int) ≤ (i : Int) := by omega
    have hiI : (i : Int) < (ts.length : Int) := by omega
    obtain ⟨b, off, rfl, hcc, hbl, hcell⟩ := read_at txC_len HTX.out hi
    generalize ts[i] = x at hcell ⊢
    obtain ⟨xa, xb, xc, xd⟩ := x
    have HCELL := Lib.hid hcell
    clear hcell hp hi
    go_enter Try.func18, Try.ntmps18
    go_upto_region 1 with fail
    have H0 := Lib.hid (show BxL w.heap.size w [(#[.int .i64 zl, .int .i64 zp, .int .i64 zf, .slice A L.length c, .int .i64 lf, .bool dn, .int .i64 fr, .int .i64 ln, .int .i64 en, .int .i64 sf, .string tl, .slice FA fn fc, .int .i64 hd, .slice (some ⟨b, off, none⟩) ts.length tc, .int .i64 nx], 49), (#[.int .i64 0, .int .i64 0, .int .i64 0, .bool false], 66)] ((w.alloc (.cells #[.int .i64 zl, .int .i64 zp, .int .i64 zf, .slice A L.length c, .int .i64 lf, .bool dn, .int .i64 fr, .int .i64 ln, .int .i64 en, .int .i64 sf, .string tl, .slice FA fn fc, .int .i64 hd, .slice (some ⟨b, off, none⟩) ts.length tc, .int .i64 nx] 49)).alloc (.cells #[.int .i64 0, .int .i64 0, .int .i64 0, .bool false] 66)) from (((BxL.nil (Below.refl w.heap.size w)).new (by simp) #[.int .i64 zl, .int .i64 zp, .int .i64 zf, .slice A L.length c, .int .i64 lf, .bool dn, .int .i64 fr, .int .i64 ln, .int .i64 en, .int .i64 sf, .string tl, .slice FA fn fc, .int .i64 hd, .slice (some ⟨b, off, none⟩) ts.length tc, .int .i64 nx] 49).new (by simp) #[.int .i64 0, .int .i64 0, .int .i64 0, .bool false] 66))
    obtain ⟨W0, hW0⟩ : ∃ W, W = ((w.alloc (.cells #[.int .i64 zl, .int .i64 zp, .int .i64 zf, .slice A L.length c, .int .i64 lf, .bool dn, .int .i64 fr, .int .i64 ln, .int .i64 en, .int .i64 sf, .string tl, .slice FA fn fc, .int .i64 hd, .slice (some ⟨b, off, none⟩) ts.length tc, .int .i64 nx] 49)).alloc (.cells #[.int .i64 0, .int .i64 0, .int .i64 0, .bool false] 66)) := ⟨_, rfl⟩
    rw [← hW0] at H0 ⊢
    clear hW0
    have hc0 := blkCell H0.out.get0
    go_wp2_with (first
      | (go_at_call 23; (with_reducible refine (HP.out _ H0.out.below).mono ?_); rintro e w1 ⟨rfl, hb1⟩; have H1 := Lib.hid (H0.out.step hb1); have hc1 := blkCell H1.out.get0; have HR1 : w1.rangeAt b (off + i * 4) [.int .i64 xa, .int .i64 xb, .int .i64 xc, .bool xd] := fun j v hj => (by rw [H1.out.below.cell (p := ⟨b, off + i * 4 + j, none⟩) hbl]; exact HCELL.out j v hj); have HRG := Lib.hid HR1; clear HR1)
      | (with_reducible refine wpList_load_mid rfl 66 (.tmp 16) rfl b (off + i * 4) rfl [.int .i64 xa, .int .i64 xb, .int .i64 xc, .bool xd] _ HRG.out Try.underlying66 (by kernel_rfl) (by kernel_rfl) ?_)
      | (with_reducible refine listStore (by kernel_rfl) 66 (.tmp 4) (.tmp 17) rfl (w.heap.size + 1) #[.int .i64 xa, .int .i64 xb, .int .i64 xc, .bool xd] _ _ rfl rfl H1.out.get1 (by kernel_rfl) (by kernel_rfl) (by kernel_rfl) ?_))
    refine bodyPost_ret (v := .tuple #[.agg #[.int .i64 xa, .int .i64 xb, .int .i64 xc, .bool xd], .bool true]) (results_cell2 rfl _ _ rfl (load_whole (setRow_heap _ _ _ _ _ _ H1.out.get1) Try.underlying66 (by kernel_rfl) (by kernel_rfl)) rfl) rfl ?_
    exact ⟨rfl, (H1.out.row 1 _ _ rfl).below⟩
set_option maxRecDepth 100000 in
set_option maxHeartbeats 8000000 in
theorem tmark_any (s : Tx.St) (p : SP) (n : Int) (hts : s.txns.length ≤ 800000) (w : World) (h : StoreR w s p) :
    Calls Try.prog 22 #[storeV s p, .int .i64 n] w fun e w' => e = .returned (.int .i64 (Tx.markS s n)) ∧ Below w.heap.size w w' := by
  have HF := Lib.hid (fun W (hb : Below w.heap.size w W) => tfind_any s p n hts W (h.below hb))
  unfold Tx.markS
  generalize Tx.findS s n = x at HF ⊢
  obtain ⟨⟨xa, xb, xc, xd⟩, ok⟩ := x
  clear h
  obtain ⟨zl, zp, zf, ⟨L, lf, dn⟩, ⟨fr, ln, en, sf, tl⟩, hd, ts, nx⟩ := s
  obtain ⟨A, c, FA, fn, fc, TA, tc⟩ := p
  dsimp only [storeV] at HF ⊢
  go_enter Try.func22, Try.ntmps22
  go_upto_region 1 with fail
  have H0 := Lib.hid (show BxL w.heap.size w [(#[.int .i64 zl, .int .i64 zp, .int .i64 zf, .slice A L.length c, .int .i64 lf, .bool dn, .int .i64 fr, .int .i64 ln, .int .i64 en, .int .i64 sf, .string tl, .slice FA fn fc, .int .i64 hd, .slice TA ts.length tc, .int .i64 nx], 49)] (w.alloc (.cells #[.int .i64 zl, .int .i64 zp, .int .i64 zf, .slice A L.length c, .int .i64 lf, .bool dn, .int .i64 fr, .int .i64 ln, .int .i64 en, .int .i64 sf, .string tl, .slice FA fn fc, .int .i64 hd, .slice TA ts.length tc, .int .i64 nx] 49)) from ((BxL.nil (Below.refl w.heap.size w)).new (by simp) #[.int .i64 zl, .int .i64 zp, .int .i64 zf, .slice A L.length c, .int .i64 lf, .bool dn, .int .i64 fr, .int .i64 ln, .int .i64 en, .int .i64 sf, .string tl, .slice FA fn fc, .int .i64 hd, .slice TA ts.length tc, .int .i64 nx] 49))
  obtain ⟨W0, hW0⟩ : ∃ W, W = (w.alloc (.cells #[.int .i64 zl, .int .i64 zp, .int .i64 zf, .slice A L.length c, .int .i64 lf, .bool dn, .int .i64 fr, .int .i64 ln, .int .i64 en, .int .i64 sf, .string tl, .slice FA fn fc, .int .i64 hd, .slice TA ts.length tc, .int .i64 nx] 49)) := ⟨_, rfl⟩
  rw [← hW0] at H0 ⊢
  clear hW0
  go_upto_region 2 with (first
    | (with_reducible refine listLoad (by kernel_rfl) 49 (.tmp 2) rfl w.heap.size rfl #[.int .i64 zl, .int .i64 zp, .int .i64 zf, .slice A L.length c, .int .i64 lf, .bool dn, .int .i64 fr, .int .i64 ln, .int .i64 en, .int .i64 sf, .string tl, .slice FA fn fc, .int .i64 hd, .slice TA ts.length tc, .int .i64 nx] _ H0.out.get0 _ Try.underlying49 (by kernel_rfl) (by kernel_rfl) ?_)
    | (go_at_call 18; (with_reducible refine (HF.out _ H0.out.below).mono ?_); rintro e w1 ⟨rfl, hb1⟩)
    | (with_reducible refine wpList_store_new rfl 66 (.tmp 5) (.tmp 11) rfl #[.int .i64 xa, .int .i64 xb, .int .i64 xc, .bool xd] _ _ rfl (by kernel_rfl) (by kernel_rfl) (by kernel_rfl) (by kernel_rfl) ?_))
  have hc1 := blkCell (heap_alloc_new w1 (.cells #[.int .i64 xa, .int .i64 xb, .int .i64 xc, .bool xd] 66))
  have HB := Lib.hid (joinB H0.out.below (pastAlloc (o := .cells #[.int .i64 xa, .int .i64 xb, .int .i64 xc, .bool xd] 66) hb1))
  clear hb1
  go_wp2_with fail
  go_ret
  exact ⟨rfl, HB.out⟩
end Go.Proofs.Ythfglhafphfhiaa
/- The walk over package txn: a record is appended, and noted. -/
namespace Go.Proofs.Ythfglhafphfhiaa
open Go.RowKit
/-- What a deed with a store answers: a store, and a fault. -/
def StOut (x : Tx.St × Int) (p : SP) (w : World) (e : Ending) (w' : World) : Prop :=
  ∃ p' : SP, e = .returned (.tuple #[storeV x.1 p', .int .i64 x.2]) ∧ StoreR w' x.1 p' ∧ (p'.F = p.F ∧ p'.fn = p.fn ∧ p'.fc = p.fc) ∧ Below w.heap.size w w'
/-- A record of a transaction. -/
abbrev rbR (lsn prev txn kind next : Int) : Rc.Rec := ⟨lsn, prev, txn, kind, 0, next, 0, Rc.noOp, 0, 0, Rc.noKey, [], []⟩
set_option maxRecDepth 100000 in
set_option maxHeartbeats 8000000 in
theorem tnoted_any (s : Tx.St) (p : SP) (hb : Tx.LogB s) (hts : s.txns.length ≤ 800000) (lsn prev txn kind next : Int) (w : World) (h : StoreR w s p) :
    Calls Try.prog 37 #[storeV s p, .agg #[.int .i64 lsn, .int .i64 prev, .int .i64 txn, .int .i64 kind, .int .i64 0, .int .i64 next, .int .i64 0, .int .i64 0, .int .i64 0, .string ⟨#[]⟩, .string ⟨#[]⟩, .int .i64 0, .int .i64 0, .string ⟨#[]⟩, .int .i64 0, .int .i64 0, .slice none 0 0, .slice none 0 0]] w (StOut (Tx.putS s (rbR lsn prev txn kind next)) p w) := by
  have HA := Lib.hid (fun W => append_any s.log hb.e0 (by have := hb.e1; omega) (by have := hb.n0; omega) (by have := hb.n1; omega) (by have := hb.t0; have := hb.e1; omega) (rbR lsn prev txn kind next) none none 0 0 W (recR_nil _ _ rfl rfl))
  have HS := Lib.hid h
  have hput : ∃ x, x = Tx.putS s (rbR lsn prev txn kind next) ∧ ((Lg.appendD s.log (rbR lsn prev txn kind next)).2.2 = 0 → x = ({ s with log := (Lg.appendD s.log (rbR lsn prev txn kind next)).1, txns := Tx.noteT s.txns (rbR (Lg.appendD s.log (rbR lsn prev txn kind next)).2.1 prev txn kind next) }, 0)) ∧ (¬ (Lg.appendD s.log (rbR lsn prev txn kind next)).2.2 = 0 → x = (s, (Lg.appendD s.log (rbR lsn prev txn kind next)).2.2)) := ⟨_, rfl, (fun h0 => by unfold Tx.putS; rw [if_pos h0]), (fun h0 => by unfold Tx.putS; rw [if_neg h0])⟩
  obtain ⟨x, hx, hx0, hx1⟩ := hput
  rw [← hx]
  clear hx
  generalize Lg.appendD s.log (rbR lsn prev txn kind next) = o at HA hx0 hx1
  obtain ⟨⟨gf, gn, ge, gs, gt⟩, n, e⟩ := o
  simp only at hx0 hx1
  have HNT := Lib.hid (fun W (hb : Below w.heap.size w W) => tnote_any s.txns (by omega) p.T p.tc (rbR n prev txn kind next) none none 0 0 0 0 W (h.tx.below hb))
  clear h hb
  by_cases he : e = 0
  · subst he
    have HX := Lib.hid (hx0 rfl)
    clear hx0 hx1
    have HF := Lib.hid (fun (A' : Option Addr) (c' : Nat) w' (hs : StoreR w' { s with log := ⟨gf, gn, ge, gs, gt⟩, txns := Tx.noteT s.txns (rbR n prev txn kind next) } ⟨p.A, p.c, p.F, p.fn, p.fc, A', c'⟩) (hb : Below w.heap.size w w') => show StOut x p w (.returned (.tuple #[storeV { s with log := ⟨gf, gn, ge, gs, gt⟩, txns := Tx.noteT s.txns (rbR n prev txn kind next) } ⟨p.A, p.c, p.F, p.fn, p.fc, A', c'⟩, .int .i64 0])) w' from by rw [HX.out]; exact ⟨_, rfl, hs, ⟨rfl, rfl, rfl⟩, hb⟩)
    generalize StOut x p w = Q at HF ⊢
    have hnl := Tx.noteT_len s.txns (rbR n prev txn kind next)
    generalize Tx.noteT s.txns (rbR n prev txn kind next) = ts2 at HNT HF hnl
    obtain ⟨zl, zp, zf, ⟨L, lf, dn⟩, ⟨fr, ln, en, sf, tl⟩, hd, ts, nx⟩ := s
    obtain ⟨A, c, FA, fn, fc, TA, tc⟩ := p
    dsimp only [storeV, recV, recA, logV, Rc.noOp, Rc.noKey, List.length_nil] at HA HNT HF ⊢
    clear HX
    go_enter Try.func37, Try.ntmps37
    go_upto_region 1 with fail
    have H0 := Lib.hid (show BxL w.heap.size w [(#[.int .i64 zl, .int .i64 zp, .int .i64 zf, .slice A L.length c, .int .i64 lf, .bool dn, .int .i64 fr, .int .i64 ln, .int .i64 en, .int .i64 sf, .string tl, .slice FA fn fc, .int .i64 hd, .slice TA ts.length tc, .int .i64 nx], 49), (#[.int .i64 lsn, .int .i64 prev, .int .i64 txn, .int .i64 kind, .int .i64 0, .int .i64 next, .int .i64 0, .int .i64 0, .int .i64 0, .string ⟨#[]⟩, .string ⟨#[]⟩, .int .i64 0, .int .i64 0, .string ⟨#[]⟩, .int .i64 0, .int .i64 0, .slice none 0 0, .slice none 0 0], 31), (#[.int .i64 0, .int .i64 0, .int .i64 0, .slice none 0 0, .int .i64 0, .bool false, .int .i64 0, .int .i64 0, .int .i64 0, .int .i64 0, .string ⟨#[]⟩, .slice none 0 0, .int .i64 0, .slice none 0 0, .int .i64 0], 49)] (((w.alloc (.cells #[.int .i64 zl, .int .i64 zp, .int .i64 zf, .slice A L.length c, .int .i64 lf, .bool dn, .int .i64 fr, .int .i64 ln, .int .i64 en, .int .i64 sf, .string tl, .slice FA fn fc, .int .i64 hd, .slice TA ts.length tc, .int .i64 nx] 49)).alloc (.cells #[.int .i64 lsn, .int .i64 prev, .int .i64 txn, .int .i64 kind, .int .i64 0, .int .i64 next, .int .i64 0, .int .i64 0, .int .i64 0, .string ⟨#[]⟩, .string ⟨#[]⟩, .int .i64 0, .int .i64 0, .string ⟨#[]⟩, .int .i64 0, .int .i64 0, .slice none 0 0, .slice none 0 0] 31)).alloc (.cells #[.int .i64 0, .int .i64 0, .int .i64 0, .slice none 0 0, .int .i64 0, .bool false, .int .i64 0, .int .i64 0, .int .i64 0, .int .i64 0, .string ⟨#[]⟩, .slice none 0 0, .int .i64 0, .slice none 0 0, .int .i64 0] 49)) from ((((BxL.nil (Below.refl w.heap.size w)).new (by simp) #[.int .i64 zl, .int .i64 zp, .int .i64 zf, .slice A L.length c, .int .i64 lf, .bool dn, .int .i64 fr, .int .i64 ln, .int .i64 en, .int .i64 sf, .string tl, .slice FA fn fc, .int .i64 hd, .slice TA ts.length tc, .int .i64 nx] 49).new (by simp) #[.int .i64 lsn, .int .i64 prev, .int .i64 txn, .int .i64 kind, .int .i64 0, .int .i64 next, .int .i64 0, .int .i64 0, .int .i64 0, .string ⟨#[]⟩, .string ⟨#[]⟩, .int .i64 0, .int .i64 0, .string ⟨#[]⟩, .int .i64 0, .int .i64 0, .slice none 0 0, .slice none 0 0] 31).new (by simp) #[.int .i64 0, .int .i64 0, .int .i64 0, .slice none 0 0, .int .i64 0, .bool false, .int .i64 0, .int .i64 0, .int .i64 0, .int .i64 0, .string ⟨#[]⟩, .slice none 0 0, .int .i64 0, .slice none 0 0, .int .i64 0] 49))
    obtain ⟨W0, hW0⟩ : ∃ W, W = (((w.alloc (.cells #[.int .i64 zl, .int .i64 zp, .int .i64 zf, .slice A L.length c, .int .i64 lf, .bool dn, .int .i64 fr, .int .i64 ln, .int .i64 en, .int .i64 sf, .string tl, .slice FA fn fc, .int .i64 hd, .slice TA ts.length tc, .int .i64 nx] 49)).alloc (.cells #[.int .i64 lsn, .int .i64 prev, .int .i64 txn, .int .i64 kind, .int .i64 0, .int .i64 next, .int .i64 0, .int .i64 0, .int .i64 0, .string ⟨#[]⟩, .string ⟨#[]⟩, .int .i64 0, .int .i64 0, .string ⟨#[]⟩, .int .i64 0, .int .i64 0, .slice none 0 0, .slice none 0 0] 31)).alloc (.cells #[.int .i64 0, .int .i64 0, .int .i64 0, .slice none 0 0, .int .i64 0, .bool false, .int .i64 0, .int .i64 0, .int .i64 0, .int .i64 0, .string ⟨#[]⟩, .slice none 0 0, .int .i64 0, .slice none 0 0, .int .i64 0] 49)) := ⟨_, rfl⟩
    rw [← hW0] at H0 ⊢
    clear hW0
    go_upto_region 2 with (first
      | (with_reducible refine listPart (by kernel_rfl) 44 (.tmp 10) rfl w.heap.size 6 rfl #[.int .i64 fr, .int .i64 ln, .int .i64 en, .int .i64 sf, .string tl] #[.int .i64 zl, .int .i64 zp, .int .i64 zf, .slice A L.length c, .int .i64 lf, .bool dn, .int .i64 fr, .int .i64 ln, .int .i64 en, .int .i64 sf, .string tl, .slice FA fn fc, .int .i64 hd, .slice TA ts.length tc, .int .i64 nx] _ H0.out.get0 (by kernel_rfl) _ Try.underlying44 (by kernel_rfl) (by kernel_rfl) ?_)
      | (with_reducible refine listLoad (by kernel_rfl) 31 (.tmp 3) rfl (w.heap.size + 1) rfl #[.int .i64 lsn, .int .i64 prev, .int .i64 txn, .int .i64 kind, .int .i64 0, .int .i64 next, .int .i64 0, .int .i64 0, .int .i64 0, .string ⟨#[]⟩, .string ⟨#[]⟩, .int .i64 0, .int .i64 0, .string ⟨#[]⟩, .int .i64 0, .int .i64 0, .slice none 0 0, .slice none 0 0] _ H0.out.get1 _ Try.underlying31 (by kernel_rfl) (by kernel_rfl) ?_)
      | (go_at_call 56; (with_reducible refine (HA.out _).mono ?_); rintro e w1 ⟨he1, hb1⟩; dsimp only [logV] at he1; subst he1)
      | (with_reducible refine wpList_store_new rfl 44 (.tmp 6) (.tmp 14) rfl #[.int .i64 gf, .int .i64 gn, .int .i64 ge, .int .i64 gs, .string gt] _ _ rfl (by kernel_rfl) (by kernel_rfl) (by kernel_rfl) (by kernel_rfl) ?_))
    have H1 := Lib.hid (H0.out.step (pastAlloc (o := .cells #[.int .i64 gf, .int .i64 gn, .int .i64 ge, .int .i64 gs, .string gt] 44) hb1))
    have HG := Lib.hid (heap_alloc_new w1 (.cells #[.int .i64 gf, .int .i64 gn, .int .i64 ge, .int .i64 gs, .string gt] 44))
    have hgb : w.heap.size + 3 ≤ w1.heap.size := Nat.le_trans (H0.out.lt (i := 2) (by simp)) hb1.size
    obtain ⟨gb, hge⟩ : ∃ gb, gb = w1.heap.size := ⟨_, rfl⟩
    obtain ⟨W1, hW1⟩ : ∃ W, W = w1.alloc (.cells #[.int .i64 gf, .int .i64 gn, .int .i64 ge, .int .i64 gs, .string gt] 44) := ⟨_, rfl⟩
    rw [← hge] at HG hgb
    rw [← hW1] at H1 HG
    rw [← hW1, ← hge]
    clear hge hW1 hb1 H0 HA
    have hc1 := blkCell H1.out.get1
    have hz1 := blkFrozen H1.out.get1
    go_upto_region 5 with fail
    have H2 := Lib.hid (H1.out.set 1 0 (.int .i64 n) _ rfl)
    have HG2 := Lib.hid (show (W1.setCell ⟨w.heap.size + 1, 0, none⟩ (.int .i64 n)).heap[gb]? = some (.cells #[.int .i64 gf, .int .i64 gn, .int .i64 ge, .int .i64 gs, .string gt] 44 (0, 0)) from (Below.heap_setCell _ _ _ _ (by show gb ≠ w.heap.size + 1; omega)).trans HG.out)
    obtain ⟨W2, hW2⟩ : ∃ W, W = W1.setCell ⟨w.heap.size + 1, 0, none⟩ (.int .i64 n) := ⟨_, rfl⟩
    rw [← hW2] at H2 HG2
    rw [← hW2]
    clear hW2 hc1 hz1 H1 HG
    go_upto_region 6 with (first
      | (with_reducible refine listLoad (by kernel_rfl) 44 (.tmp 6) rfl gb rfl #[.int .i64 gf, .int .i64 gn, .int .i64 ge, .int .i64 gs, .string gt] _ HG2.out _ Try.underlying44 (by kernel_rfl) (by kernel_rfl) ?_)
      | (with_reducible refine listPut (by kernel_rfl) 44 (.tmp 24) (.tmp 23) rfl w.heap.size 6 #[.int .i64 gf, .int .i64 gn, .int .i64 ge, .int .i64 gs, .string gt] #[.int .i64 zl, .int .i64 zp, .int .i64 zf, .slice A L.length c, .int .i64 lf, .bool dn, .int .i64 fr, .int .i64 ln, .int .i64 en, .int .i64 sf, .string tl, .slice FA fn fc, .int .i64 hd, .slice TA ts.length tc, .int .i64 nx] #[.int .i64 zl, .int .i64 zp, .int .i64 zf, .slice A L.length c, .int .i64 lf, .bool dn, .int .i64 gf, .int .i64 gn, .int .i64 ge, .int .i64 gs, .string gt, .slice FA fn fc, .int .i64 hd, .slice TA ts.length tc, .int .i64 nx] _ rfl rfl H2.out.get0 (by kernel_rfl) (by kernel_rfl) (by kernel_rfl) (by kernel_rfl) ?_))
    have H3 := Lib.hid (H2.out.row 0 #[.int .i64 zl, .int .i64 zp, .int .i64 zf, .slice A L.length c, .int .i64 lf, .bool dn, .int .i64 gf, .int .i64 gn, .int .i64 ge, .int .i64 gs, .string gt, .slice FA fn fc, .int .i64 hd, .slice TA ts.length tc, .int .i64 nx] _ rfl)
    simp only [Nat.add_zero] at H3
    obtain ⟨W3, hW3⟩ : ∃ W, W = W2.setRow w.heap.size #[.int .i64 zl, .int .i64 zp, .int .i64 zf, .slice A L.length c, .int .i64 lf, .bool dn, .int .i64 gf, .int .i64 gn, .int .i64 ge, .int .i64 gs, .string gt, .slice FA fn fc, .int .i64 hd, .slice TA ts.length tc, .int .i64 nx] := ⟨_, rfl⟩
    rw [← hW3] at H3
    rw [← hW3]
    clear hW3 H2 HG2
    have hc3 := blkCell H3.out.get0
    go_upto_region 7 with (first
      | (with_reducible refine listLoad (by kernel_rfl) 31 (.tmp 3) rfl (w.heap.size + 1) rfl #[.int .i64 n, .int .i64 prev, .int .i64 txn, .int .i64 kind, .int .i64 0, .int .i64 next, .int .i64 0, .int .i64 0, .int .i64 0, .string ⟨#[]⟩, .string ⟨#[]⟩, .int .i64 0, .int .i64 0, .string ⟨#[]⟩, .int .i64 0, .int .i64 0, .slice none 0 0, .slice none 0 0] _ H3.out.get1 _ Try.underlying31 (by kernel_rfl) (by kernel_rfl) ?_)
      | (go_at_call 8; (with_reducible refine (HNT.out _ H3.out.below).mono ?_); rintro e w4 ⟨A', c', rfl, hr4, ht4, hb4⟩; have H4 := Lib.hid (H3.out.step hb4); have hc4 := blkCell H4.out.get0; have hz4 := blkFrozen H4.out.get0; clear hc3))
    have HS4 := Lib.hid (show StoreR w4 ⟨zl, zp, zf, ⟨L, lf, dn⟩, ⟨gf, gn, ge, gs, gt⟩, hd, ts2, nx⟩ ⟨A, c, FA, fn, fc, A', c'⟩ from ⟨HS.out.dk.below H4.out.below, HS.out.dt.below H4.out.below, hr4, ht4.elim (fun e => by rw [e]; exact HS.out.tt.below H4.out.below) (fun e => e.mono (Nat.zero_le _))⟩)
    have HS5 := Lib.hid (HS4.out.set H4.out.get0 (by decide) (by decide) 13 (.slice A' ts2.length c'))
    have H5 := Lib.hid (H4.out.set 0 13 (.slice A' ts2.length c') _ rfl)
    simp only [Nat.add_zero] at H5
    obtain ⟨W5, hW5⟩ : ∃ W, W = w4.setCell ⟨w.heap.size, 13, none⟩ (.slice A' ts2.length c') := ⟨_, rfl⟩
    rw [← hW5] at H5 HS5
    rw [← hW5]
    clear hW5 hc4 hz4 H4 HS4 hr4 ht4 hb4 H3 HS HNT
    go_wp2_with (first
      | (with_reducible refine listLoad (by kernel_rfl) 49 (.tmp 2) rfl w.heap.size rfl #[.int .i64 zl, .int .i64 zp, .int .i64 zf, .slice A L.length c, .int .i64 lf, .bool dn, .int .i64 gf, .int .i64 gn, .int .i64 ge, .int .i64 gs, .string gt, .slice FA fn fc, .int .i64 hd, .slice A' ts2.length c', .int .i64 nx] _ H5.out.get0 _ Try.underlying49 (by kernel_rfl) (by kernel_rfl) ?_)
      | (with_reducible refine listStore (by kernel_rfl) 49 (.tmp 4) (.tmp 30) rfl (w.heap.size + 2) #[.int .i64 zl, .int .i64 zp, .int .i64 zf, .slice A L.length c, .int .i64 lf, .bool dn, .int .i64 gf, .int .i64 gn, .int .i64 ge, .int .i64 gs, .string gt, .slice FA fn fc, .int .i64 hd, .slice A' ts2.length c', .int .i64 nx] _ _ rfl rfl H5.out.get2 (by kernel_rfl) (by kernel_rfl) (by kernel_rfl) ?_))
    refine bodyPost_ret (v := .tuple #[.agg #[.int .i64 zl, .int .i64 zp, .int .i64 zf, .slice A L.length c, .int .i64 lf, .bool dn, .int .i64 gf, .int .i64 gn, .int .i64 ge, .int .i64 gs, .string gt, .slice FA fn fc, .int .i64 hd, .slice A' ts2.length c', .int .i64 nx], .int .i64 0]) (results_cell2 rfl _ _ rfl (load_whole (setRow_heap _ _ _ _ _ _ H5.out.get2) Try.underlying49 (by kernel_rfl) (by kernel_rfl)) rfl) rfl ?_
    exact HF.out A' c' _ (HS5.out.other H5.out.get2 (by decide) (by decide) _) ((H5.out.row 2 _ _ rfl).below)
  · have HX := Lib.hid (hx1 he)
    have he1 : (e == 0) = false := by simpa using he
    have he2 : (e != 0) = true := by simpa using he
    clear hx0 hx1 he HNT
    have HF := Lib.hid (fun w' (hb : Below w.heap.size w w') => show StOut x p w (.returned (.tuple #[storeV s p, .int .i64 e])) w' from by rw [HX.out]; exact ⟨_, rfl, HS.out.below hb, ⟨rfl, rfl, rfl⟩, hb⟩)
    generalize StOut x p w = Q at HF ⊢
    clear HX HS hts
    obtain ⟨zl, zp, zf, ⟨L, lf, dn⟩, ⟨fr, ln, en, sf, tl⟩, hd, ts, nx⟩ := s
    obtain ⟨A, c, FA, fn, fc, TA, tc⟩ := p
    dsimp only [storeV, recV, recA, logV, Rc.noOp, Rc.noKey, List.length_nil] at HA HF ⊢
    go_enter Try.func37, Try.ntmps37
    go_upto_region 1 with fail
    have H0 := Lib.hid (show BxL w.heap.size w [(#[.int .i64 zl, .int .i64 zp, .int .i64 zf, .slice A L.length c, .int .i64 lf, .bool dn, .int .i64 fr, .int .i64 ln, .int .i64 en, .int .i64 sf, .string tl, .slice FA fn fc, .int .i64 hd, .slice TA ts.length tc, .int .i64 nx], 49), (#[.int .i64 lsn, .int .i64 prev, .int .i64 txn, .int .i64 kind, .int .i64 0, .int .i64 next, .int .i64 0, .int .i64 0, .int .i64 0, .string ⟨#[]⟩, .string ⟨#[]⟩, .int .i64 0, .int .i64 0, .string ⟨#[]⟩, .int .i64 0, .int .i64 0, .slice none 0 0, .slice none 0 0], 31), (#[.int .i64 0, .int .i64 0, .int .i64 0, .slice none 0 0, .int .i64 0, .bool false, .int .i64 0, .int .i64 0, .int .i64 0, .int .i64 0, .string ⟨#[]⟩, .slice none 0 0, .int .i64 0, .slice none 0 0, .int .i64 0], 49)] (((w.alloc (.cells #[.int .i64 zl, .int .i64 zp, .int .i64 zf, .slice A L.length c, .int .i64 lf, .bool dn, .int .i64 fr, .int .i64 ln, .int .i64 en, .int .i64 sf, .string tl, .slice FA fn fc, .int .i64 hd, .slice TA ts.length tc, .int .i64 nx] 49)).alloc (.cells #[.int .i64 lsn, .int .i64 prev, .int .i64 txn, .int .i64 kind, .int .i64 0, .int .i64 next, .int .i64 0, .int .i64 0, .int .i64 0, .string ⟨#[]⟩, .string ⟨#[]⟩, .int .i64 0, .int .i64 0, .string ⟨#[]⟩, .int .i64 0, .int .i64 0, .slice none 0 0, .slice none 0 0] 31)).alloc (.cells #[.int .i64 0, .int .i64 0, .int .i64 0, .slice none 0 0, .int .i64 0, .bool false, .int .i64 0, .int .i64 0, .int .i64 0, .int .i64 0, .string ⟨#[]⟩, .slice none 0 0, .int .i64 0, .slice none 0 0, .int .i64 0] 49)) from ((((BxL.nil (Below.refl w.heap.size w)).new (by simp) #[.int .i64 zl, .int .i64 zp, .int .i64 zf, .slice A L.length c, .int .i64 lf, .bool dn, .int .i64 fr, .int .i64 ln, .int .i64 en, .int .i64 sf, .string tl, .slice FA fn fc, .int .i64 hd, .slice TA ts.length tc, .int .i64 nx] 49).new (by simp) #[.int .i64 lsn, .int .i64 prev, .int .i64 txn, .int .i64 kind, .int .i64 0, .int .i64 next, .int .i64 0, .int .i64 0, .int .i64 0, .string ⟨#[]⟩, .string ⟨#[]⟩, .int .i64 0, .int .i64 0, .string ⟨#[]⟩, .int .i64 0, .int .i64 0, .slice none 0 0, .slice none 0 0] 31).new (by simp) #[.int .i64 0, .int .i64 0, .int .i64 0, .slice none 0 0, .int .i64 0, .bool false, .int .i64 0, .int .i64 0, .int .i64 0, .int .i64 0, .string ⟨#[]⟩, .slice none 0 0, .int .i64 0, .slice none 0 0, .int .i64 0] 49))
    obtain ⟨W0, hW0⟩ : ∃ W, W = (((w.alloc (.cells #[.int .i64 zl, .int .i64 zp, .int .i64 zf, .slice A L.length c, .int .i64 lf, .bool dn, .int .i64 fr, .int .i64 ln, .int .i64 en, .int .i64 sf, .string tl, .slice FA fn fc, .int .i64 hd, .slice TA ts.length tc, .int .i64 nx] 49)).alloc (.cells #[.int .i64 lsn, .int .i64 prev, .int .i64 txn, .int .i64 kind, .int .i64 0, .int .i64 next, .int .i64 0, .int .i64 0, .int .i64 0, .string ⟨#[]⟩, .string ⟨#[]⟩, .int .i64 0, .int .i64 0, .string ⟨#[]⟩, .int .i64 0, .int .i64 0, .slice none 0 0, .slice none 0 0] 31)).alloc (.cells #[.int .i64 0, .int .i64 0, .int .i64 0, .slice none 0 0, .int .i64 0, .bool false, .int .i64 0, .int .i64 0, .int .i64 0, .int .i64 0, .string ⟨#[]⟩, .slice none 0 0, .int .i64 0, .slice none 0 0, .int .i64 0] 49)) := ⟨_, rfl⟩
    rw [← hW0] at H0 ⊢
    clear hW0
    go_upto_region 2 with (first
      | (with_reducible refine listPart (by kernel_rfl) 44 (.tmp 10) rfl w.heap.size 6 rfl #[.int .i64 fr, .int .i64 ln, .int .i64 en, .int .i64 sf, .string tl] #[.int .i64 zl, .int .i64 zp, .int .i64 zf, .slice A L.length c, .int .i64 lf, .bool dn, .int .i64 fr, .int .i64 ln, .int .i64 en, .int .i64 sf, .string tl, .slice FA fn fc, .int .i64 hd, .slice TA ts.length tc, .int .i64 nx] _ H0.out.get0 (by kernel_rfl) _ Try.underlying44 (by kernel_rfl) (by kernel_rfl) ?_)
      | (with_reducible refine listLoad (by kernel_rfl) 31 (.tmp 3) rfl (w.heap.size + 1) rfl #[.int .i64 lsn, .int .i64 prev, .int .i64 txn, .int .i64 kind, .int .i64 0, .int .i64 next, .int .i64 0, .int .i64 0, .int .i64 0, .string ⟨#[]⟩, .string ⟨#[]⟩, .int .i64 0, .int .i64 0, .string ⟨#[]⟩, .int .i64 0, .int .i64 0, .slice none 0 0, .slice none 0 0] _ H0.out.get1 _ Try.underlying31 (by kernel_rfl) (by kernel_rfl) ?_)
      | (go_at_call 56; (with_reducible refine (HA.out _).mono ?_); rintro e1 w1 ⟨he1, hb1⟩; dsimp only [logV] at he1; subst he1)
      | (with_reducible refine wpList_store_new rfl 44 (.tmp 6) (.tmp 14) rfl #[.int .i64 gf, .int .i64 gn, .int .i64 ge, .int .i64 gs, .string gt] _ _ rfl (by kernel_rfl) (by kernel_rfl) (by kernel_rfl) (by kernel_rfl) ?_))
    have H1 := Lib.hid (H0.out.step (pastAlloc (o := .cells #[.int .i64 gf, .int .i64 gn, .int .i64 ge, .int .i64 gs, .string gt] 44) hb1))
    obtain ⟨W1, hW1⟩ : ∃ W, W = w1.alloc (.cells #[.int .i64 gf, .int .i64 gn, .int .i64 ge, .int .i64 gs, .string gt] 44) := ⟨_, rfl⟩
    rw [← hW1] at H1
    rw [← hW1]
    clear hW1 hb1 H0 HA
    go_wp2_with (first
      | (with_reducible refine listLoad (by kernel_rfl) 49 (.tmp 2) rfl w.heap.size rfl #[.int .i64 zl, .int .i64 zp, .int .i64 zf, .slice A L.length c, .int .i64 lf, .bool dn, .int .i64 fr, .int .i64 ln, .int .i64 en, .int .i64 sf, .string tl, .slice FA fn fc, .int .i64 hd, .slice TA ts.length tc, .int .i64 nx] _ H1.out.get0 _ Try.underlying49 (by kernel_rfl) (by kernel_rfl) ?_)
      | (with_reducible refine listStore (by kernel_rfl) 49 (.tmp 4) (.tmp 19) rfl (w.heap.size + 2) #[.int .i64 zl, .int .i64 zp, .int .i64 zf, .slice A L.length c, .int .i64 lf, .bool dn, .int .i64 fr, .int .i64 ln, .int .i64 en, .int .i64 sf, .string tl, .slice FA fn fc, .int .i64 hd, .slice TA ts.length tc, .int .i64 nx] _ _ rfl rfl H1.out.get2 (by kernel_rfl) (by kernel_rfl) (by kernel_rfl) ?_))
    refine bodyPost_ret (v := .tuple #[.agg #[.int .i64 zl, .int .i64 zp, .int .i64 zf, .slice A L.length c, .int .i64 lf, .bool dn, .int .i64 fr, .int .i64 ln, .int .i64 en, .int .i64 sf, .string tl, .slice FA fn fc, .int .i64 hd, .slice TA ts.length tc, .int .i64 nx], .int .i64 e]) (results_cell2 rfl _ _ rfl (load_whole (setRow_heap _ _ _ _ _ _ H1.out.get2) Try.underlying49 (by kernel_rfl) (by kernel_rfl)) rfl) rfl ?_
    exact HF.out _ ((H1.out.row 2 _ _ rfl).below)
end Go.Proofs.Ythfglhafphfhiaa
