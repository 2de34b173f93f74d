/- The walk over package log: Force. -/
import Derived.Test.YthfglhafphfhiaaGreatGc06
import Derived.Deep.RegionWith
import Derived.Test.YthfglhafphfhiaaGreatGc01
import Derived.Deep.Slices
import Derived.Test.YthfglhafphfhiaaGreatGc03
import Derived.Test.YthfglhafphfhiaaGreatGc02
namespace Lg
theorem writeD_left {d : Dk} {a : Int} {b : ByteArray} (h : -9223372036854775808 ≤ d.left ∧ d.left ≤ 9223372036854775807) : -9223372036854775808 ≤ (writeD d a b).1.left ∧ (writeD d a b).1.left ≤ 9223372036854775807 := by
  unfold writeD
  split
  · exact h
  split
  · exact h
  split
  · exact h
  · show _ ≤ (if 0 < d.left then d.left - 1 else d.left) ∧ (if 0 < d.left then d.left - 1 else d.left) ≤ _
    split <;> omega
theorem writeD_len {d : Dk} {a : Int} {b : ByteArray} : (writeD d a b).1.sectors.length = d.sectors.length := by
  unfold writeD
  split
  · rfl
  split
  · rfl
  split
  · rfl
  · simp
theorem putAll_go {base : Int} {all : List ByteArray} {k : Nat} {d d2 : Dk} (hw : writeD d (base + (k : Int)) (all[k]?.getD ⟨#[]⟩) = (d2, 0)) : putAll base all (k + 1) d = putAll base all k d2 := by
  conv => lhs; unfold putAll
  rw [hw, if_pos rfl]
theorem putAll_stop {base : Int} {all : List ByteArray} {k : Nat} {d d2 : Dk} {e : Int} (he : e ≠ 0) (hw : writeD d (base + (k : Int)) (all[k]?.getD ⟨#[]⟩) = (d2, e)) : putAll base all (k + 1) d = (d2, e) := by
  unfold putAll
  rw [hw, if_neg he]
theorem force_same {d : Dk} {l : Lo} (h : l.safe = l.end_) : forceD d l = (d, l, 0) := by unfold forceD; rw [if_pos h]
theorem force_stop {d d2 : Dk} {l : Lo} {e : Int} (h : ¬ l.safe = l.end_) (he : e ≠ 0) (hp : putAll (l.from_ + firstS l) (allS l) (allS l).length d = (d2, e)) : forceD d l = (d2, l, e) := by
  unfold forceD
  rw [if_neg h]
  simp only [hp]
  rw [if_neg he]
theorem force_all {d d2 : Dk} {l : Lo} (h : ¬ l.safe = l.end_) (hp : putAll (l.from_ + firstS l) (allS l) (allS l).length d = (d2, 0)) : forceD d l = (d2, forcedL l, 0) := by
  unfold forceD
  rw [if_neg h]
  simp only [hp]
  rw [if_pos trivial]
theorem allS_len (l : Lo) : (allS l).length ≤ l.tail.size / 128 + 2 := by
  unfold allS
  have := cutB_length l.tail
  split
  · rw [List.length_append, List.length_singleton]; omega
  · omega
end Lg
namespace Go.Proofs.YthfglhafphfhiaaGreat
open Go.RowKit
/-- What Force answers. -/
def ForceOut (x : Lg.Dk × Lg.Lo × Int) (A : Option Addr) (w : World) (e : Ending) (w' : World) : Prop :=
  ∃ A' c', e = .returned (.tuple #[diskV x.1 A' c', logV x.2.1, .int .i64 x.2.2]) ∧ DiskR w' x.1 A' c' ∧ (A' = A ∨ NewT w.heap.size w' 9 A') ∧ Below w.heap.size w w'
set_option maxRecDepth 100000 in
set_option maxHeartbeats 4000000 in
theorem force_none (L : List ByteArray) (left : Int) (down : Bool) (A : Option Addr) (c : Nat) (fr n en : Int) (tl : ByteArray) (o : Lg.Dk × Lg.Lo × Int) (ho : o = (⟨L, left, down⟩, ⟨fr, n, en, en, tl⟩, 0)) (w : World) (h : DiskR w ⟨L, left, down⟩ A c) :
    Calls Tryz.prog 53 #[.agg #[.slice A L.length c, .int .i64 left, .bool down], .agg #[.int .i64 fr, .int .i64 n, .int .i64 en, .int .i64 en, .string tl]] w (ForceOut o A w) := by
  have HO := Lib.hid (fun w' (hb : Below w.heap.size w w') => show ForceOut o A w (.returned (.tuple #[.agg #[.slice A L.length c, .int .i64 left, .bool down], .agg #[.int .i64 fr, .int .i64 n, .int .i64 en, .int .i64 en, .string tl], .int .i64 0])) w' from by
    subst ho; exact ⟨A, c, rfl, ⟨h.secs.below hb, h.small⟩, .inl rfl, hb⟩)
  have hself : (en == en) = true := by simp
  clear ho h
  go_enter Tryz.func53, Tryz.ntmps53
  go_upto_region 1 with fail
  have H0 := Lib.hid (show BxL w.heap.size w [(#[.slice A L.length c, .int .i64 left, .bool down], 29), (#[.int .i64 fr, .int .i64 n, .int .i64 en, .int .i64 en, .string tl], 31), (#[.slice none 0 0, .int .i64 0, .bool false], 29), (#[.int .i64 0, .int .i64 0, .int .i64 0, .int .i64 0, .string ⟨#[]⟩], 31)] ((((w.alloc (.cells #[.slice A L.length c, .int .i64 left, .bool down] 29)).alloc (.cells #[.int .i64 fr, .int .i64 n, .int .i64 en, .int .i64 en, .string tl] 31)).alloc (.cells #[.slice none 0 0, .int .i64 0, .bool false] 29)).alloc (.cells #[.int .i64 0, .int .i64 0, .int .i64 0, .int .i64 0, .string ⟨#[]⟩] 31)) from ((((BxL.nil (Below.refl w.heap.size w)).new (by simp) #[.slice A L.length c, .int .i64 left, .bool down] 29).new (by simp) #[.int .i64 fr, .int .i64 n, .int .i64 en, .int .i64 en, .string tl] 31).new (by simp) #[.slice none 0 0, .int .i64 0, .bool false] 29).new (by simp) #[.int .i64 0, .int .i64 0, .int .i64 0, .int .i64 0, .string ⟨#[]⟩] 31)
  have hs0 : ((((w.alloc (.cells #[.slice A L.length c, .int .i64 left, .bool down] 29)).alloc (.cells #[.int .i64 fr, .int .i64 n, .int .i64 en, .int .i64 en, .string tl] 31)).alloc (.cells #[.slice none 0 0, .int .i64 0, .bool false] 29)).alloc (.cells #[.int .i64 0, .int .i64 0, .int .i64 0, .int .i64 0, .string ⟨#[]⟩] 31)).heap.size = w.heap.size + 4 := by simp
  obtain ⟨W0, hW0⟩ : ∃ W, W = (((w.alloc (.cells #[.slice A L.length c, .int .i64 left, .bool down] 29)).alloc (.cells #[.int .i64 fr, .int .i64 n, .int .i64 en, .int .i64 en, .string tl] 31)).alloc (.cells #[.slice none 0 0, .int .i64 0, .bool false] 29)).alloc (.cells #[.int .i64 0, .int .i64 0, .int .i64 0, .int .i64 0, .string ⟨#[]⟩] 31) := ⟨_, rfl⟩
  rw [← hW0] at H0 hs0 ⊢
  clear hW0
  have hc1 := blkCell (H0.out.get 1 _ rfl)
  go_upto_region 2 with fail
  clear hc1 hself
  have HD := Lib.hid H0.out.drew
  refine wp_region_held_drew (S := (fun u => u.heap[w.heap.size]? = some (.cells #[.slice A L.length c, .int .i64 left, .bool down] 29 (0, 0)) ∧ u.heap[w.heap.size + 1]? = some (.cells #[.int .i64 fr, .int .i64 n, .int .i64 en, .int .i64 en, .string tl] 31 (0, 0)))) (by kernel_rfl) ?_ (fun hHeld => ?_)
  · exact ⟨(HD.out.get0), (HD.out.get1)⟩
  refine tkW 0 (some 17) (v := ?_) rfl ?_ ?_
  rotate_left
  · intro u hSu; have hSa := blkCell hSu.1; have hSb := blkCell hSu.2; clear hSu; go_simp; (try with_reducible rfl)
  try simp only [Act.put, List.setIfInBounds_toArray, List.set_cons_zero, List.set_cons_succ]
  refine tkW 1 (some 18) (v := ?_) rfl ?_ ?_
  rotate_left
  · intro u hSu; have hSa := blkCell hSu.1; have hSb := blkCell hSu.2; clear hSu; go_simp; (try with_reducible rfl)
  try simp only [Act.put, List.setIfInBounds_toArray, List.set_cons_zero, List.set_cons_succ]
  refine rdH 2 none rfl (fun K hK => ?_)
  refine wantedIf (by rfl) ?_
  refine wp_store_whole 29 (.tmp 4) (.tmp 17) rfl (w.heap.size + 2) #[.slice A L.length c, .int .i64 left, .bool down] _ _ rfl rfl (HD.out.get 2 _ rfl) (by kernel_rfl) (by kernel_rfl) (by kernel_rfl) ?_
  have HE := Lib.hid (HD.out.row 2 #[.slice A L.length c, .int .i64 left, .bool down] _ rfl)
  have hSn := And.intro (HE.out.get0) (HE.out.get1)
  refine hK.out _ _ ?_ (fun hHeld => ?_)
  · exact hSn
  clear hK K
  try simp only [Act.put]
  refine rdH 3 none rfl (fun K hK => ?_)
  refine wantedIf (by rfl) ?_
  refine wp_store_whole 31 (.tmp 5) (.tmp 18) rfl (w.heap.size + 3) #[.int .i64 fr, .int .i64 n, .int .i64 en, .int .i64 en, .string tl] _ _ rfl rfl (HE.out.get 3 _ rfl) (by kernel_rfl) (by kernel_rfl) (by kernel_rfl) ?_
  have HG := Lib.hid (HE.out.row 3 #[.int .i64 fr, .int .i64 n, .int .i64 en, .int .i64 en, .string tl] _ rfl)
  clear hSn
  have hSn := And.intro (HG.out.get0) (HG.out.get1)
  refine hK.out _ _ ?_ (fun hHeld => ?_)
  · exact hSn
  clear hK K
  try simp only [Act.put]
  refine tkW 4 (some 6) (v := ?_) rfl ?_ ?_
  rotate_left
  · intro u hSu; have hSa := blkCell hSu.1; have hSb := blkCell hSu.2; clear hSu; go_simp; (try with_reducible rfl)
  try simp only [Act.put, List.setIfInBounds_toArray, List.set_cons_zero, List.set_cons_succ]
  refine wpAnyH_done (by kernel_rfl) ?_ _
  clear hHeld hSn
  go_wp2_with fail
  refine bodyPost_ret (v := .tuple #[.agg #[.slice A L.length c, .int .i64 left, .bool down], .agg #[.int .i64 fr, .int .i64 n, .int .i64 en, .int .i64 en, .string tl], .int .i64 0]) (results_cells rfl _ _ rfl rfl (load_whole (HG.out.get 2 _ rfl) Tryz.underlying29 (by kernel_rfl) (by kernel_rfl)) (load_whole (HG.out.get 3 _ rfl) Tryz.underlying31 (by kernel_rfl) (by kernel_rfl)) rfl) rfl ?_
  exact HO.out _ HG.out.below
set_option maxRecDepth 100000 in
set_option maxHeartbeats 4000000 in
theorem force_go (d : Lg.Dk) (hlb : -9223372036854775808 ≤ d.left ∧ d.left ≤ 9223372036854775807) (A : Option Addr) (c : Nat) (fr n en sf : Int) (tl : ByteArray) (hse : ¬ sf = en) (he0 : 0 ≤ en) (he1 : en ≤ 1000000000) (_hn0 : -1000000000 ≤ n) (_hn1 : n ≤ 1000000000) (hf0 : -1000000000 ≤ fr) (hf1 : fr ≤ 1000000000) (ht : tl.size ≤ 1000000) (hte : (tl.size : Int) ≤ en) (hmod : en % 128 ≤ (tl.size : Int)) (w : World) (h : DiskR w d A c) :
    Calls Tryz.prog 53 #[.agg #[.slice A d.sectors.length c, .int .i64 d.left, .bool d.down], .agg #[.int .i64 fr, .int .i64 n, .int .i64 en, .int .i64 sf, .string tl]] w (ForceOut (Lg.forceD d ⟨fr, n, en, sf, tl⟩) A w) := by
  have HST := Lib.hid (fun d2 e (he : e ≠ 0) hp => @Lg.force_stop d d2 ⟨fr, n, en, sf, tl⟩ e hse he hp)
  have HAL := Lib.hid (fun d2 hp => @Lg.force_all d d2 ⟨fr, n, en, sf, tl⟩ hse hp)
  have HO := Lib.hid (fun A' c' w' x (hx : Lg.forceD d ⟨fr, n, en, sf, tl⟩ = x) (h1 : DiskR w' x.1 A' c') (h2 : A' = A ∨ NewT w.heap.size w' 9 A') (h3 : Below w.heap.size w w') => show ForceOut (Lg.forceD d ⟨fr, n, en, sf, tl⟩) A w (.returned (.tuple #[diskV x.1 A' c', logV x.2.1, .int .i64 x.2.2])) w' from ⟨A', c', by rw [hx], by rw [hx]; exact h1, h2, h3⟩)
  have hal := Lg.allS_len ⟨fr, n, en, sf, tl⟩
  have hcb := Lg.cutB_length tl
  have HCUT := Lib.hid (fun W => cut_any tl ht W)
  obtain ⟨C, hC⟩ : ∃ C, C = Lg.cutB tl := ⟨_, rfl⟩
  obtain ⟨all, hall⟩ : ∃ all, all = Lg.allS ⟨fr, n, en, sf, tl⟩ := ⟨_, rfl⟩
  have HDEF := Lib.hid (show all = if (en - (tl.size : Int)) / 128 + (C.length : Int) < n then C ++ [Lg.zero128] else C from by rw [hall, hC]; rfl)
  rw [← hall] at HST HAL hal
  rw [← hC] at HCUT hcb
  have hbase : Lg.firstS ⟨fr, n, en, sf, tl⟩ = (en - (tl.size : Int)) / 128 := rfl
  rw [hbase] at HST HAL
  generalize Lg.forceD d ⟨fr, n, en, sf, tl⟩ = o at HST HAL HO ⊢
  generalize ForceOut o A w = Q at HO ⊢
  have HREP : Hid (∀ W, Calls Tryz.prog 42 #[.string ⟨#[0]⟩, .int .i64 128] W fun e w' => e = .returned (.string Lg.zero128) ∧ Below W.heap.size W w') := Lib.hid (fun W => by
    have h1 := Tryz.strings_Repeat ⟨#[0]⟩ 128 W (by omega) (by show 1 * 128 ≤ _; omega)
    have e : (⟨(Lib.repeatL (⟨#[0]⟩ : ByteArray).data.toList 128).toArray⟩ : ByteArray) = Lg.zero128 := Lg.repeat_zero 128
    rw [e] at h1
    exact h1)
  have hzs := Lg.zero128_size
  have hcs : ∀ b ∈ all, b.size = 128 := by
    rw [HDEF.out, hC]
    intro b hb
    split at hb
    · rcases List.mem_append.1 hb with h1 | h1
      · exact Lg.cutB_size tl b h1
      · rw [List.mem_singleton.1 h1]; exact hzs
    · exact Lg.cutB_size tl b hb
  have HSZ := Lib.hid hcs
  generalize Lg.zero128 = z at HREP HDEF hzs
  have HR := Lib.hid h
  have hne1 : (sf == en) = false := by simpa using hse
  have hcl : C.length ≤ 10000 := by omega
  have hall2 : all.length ≤ 10000 := by simp only at hal; omega
  have HLB := Lib.hid hlb
  obtain ⟨F, hF⟩ : ∃ F : Int, F = (en - (tl.size : Int)) / 128 := ⟨_, rfl⟩
  have hF0 : 0 ≤ F := by omega
  have hF1 : F ≤ 10000000 := by omega
  have hq0 : 0 ≤ en - (tl.size : Int) := by omega
  have hwq : IntKind.i64.wrap (en - (tl.size : Int)) = en - (tl.size : Int) := IntWalk.i64_in _ (by omega)
  have HFE := Lib.hid hF
  rw [← hF] at HST HAL HDEF
  clear h hse hC hall hal hcb hbase hcs hzs hlb
  go_enter Tryz.func53, Tryz.ntmps53
  go_upto_region 1 with fail
  have H0 := Lib.hid (show BxL w.heap.size w [(#[.slice A d.sectors.length c, .int .i64 d.left, .bool d.down], 29), (#[.int .i64 fr, .int .i64 n, .int .i64 en, .int .i64 sf, .string tl], 31), (#[.slice none 0 0, .int .i64 0, .bool false], 29), (#[.int .i64 0, .int .i64 0, .int .i64 0, .int .i64 0, .string ⟨#[]⟩], 31)] ((((w.alloc (.cells #[.slice A d.sectors.length c, .int .i64 d.left, .bool d.down] 29)).alloc (.cells #[.int .i64 fr, .int .i64 n, .int .i64 en, .int .i64 sf, .string tl] 31)).alloc (.cells #[.slice none 0 0, .int .i64 0, .bool false] 29)).alloc (.cells #[.int .i64 0, .int .i64 0, .int .i64 0, .int .i64 0, .string ⟨#[]⟩] 31)) from ((((BxL.nil (Below.refl w.heap.size w)).new (by simp) #[.slice A d.sectors.length c, .int .i64 d.left, .bool d.down] 29).new (by simp) #[.int .i64 fr, .int .i64 n, .int .i64 en, .int .i64 sf, .string tl] 31).new (by simp) #[.slice none 0 0, .int .i64 0, .bool false] 29).new (by simp) #[.int .i64 0, .int .i64 0, .int .i64 0, .int .i64 0, .string ⟨#[]⟩] 31)
  have hs0 : ((((w.alloc (.cells #[.slice A d.sectors.length c, .int .i64 d.left, .bool d.down] 29)).alloc (.cells #[.int .i64 fr, .int .i64 n, .int .i64 en, .int .i64 sf, .string tl] 31)).alloc (.cells #[.slice none 0 0, .int .i64 0, .bool false] 29)).alloc (.cells #[.int .i64 0, .int .i64 0, .int .i64 0, .int .i64 0, .string ⟨#[]⟩] 31)).heap.size = w.heap.size + 4 := by simp
  obtain ⟨W0, hW0⟩ : ∃ W, W = (((w.alloc (.cells #[.slice A d.sectors.length c, .int .i64 d.left, .bool d.down] 29)).alloc (.cells #[.int .i64 fr, .int .i64 n, .int .i64 en, .int .i64 sf, .string tl] 31)).alloc (.cells #[.slice none 0 0, .int .i64 0, .bool false] 29)).alloc (.cells #[.int .i64 0, .int .i64 0, .int .i64 0, .int .i64 0, .string ⟨#[]⟩] 31) := ⟨_, rfl⟩
  rw [← hW0] at H0 hs0 ⊢
  clear hW0
  have hc1 := blkCell (H0.out.get 1 _ rfl)
  go_upto_region 4 with fail
  rw [← HFE.out]
  clear hF hq0 hwq hne1
  go_upto_region 5 with (go_at_call 82; (with_reducible refine (HCUT.out _).mono ?_); rintro e w1 ⟨v8, rfl, ho8, hb1⟩; obtain ⟨A8, c8, rfl⟩ := ownLen ho8; have hc1 := blkCell ((H0.out.step hb1).get 1 _ rfl))
  have H1 := Lib.hid (H0.out.step hb1)
  have HO8 := Lib.hid (ownMono ho8 (show w.heap.size + 4 ≤ W0.heap.size by omega))
  have hs1 : w.heap.size + 4 ≤ w1.heap.size := by have := hb1.size; omega
  clear ho8 hb1 HCUT H0 hs0
  have hwf : IntKind.i64.wrap (F + (C.length : Int)) = F + (C.length : Int) := IntWalk.i64_in _ (by omega)
  go_upto_if 35 with fail
  go_cut [8] (fun s8 wc => ∃ A8 c8, s8 = .slice A8 all.length c8 ∧ OwnL strC 1 9 (w.heap.size + 4) wc (.slice A8 all.length c8) all ∧ BxL w.heap.size w [(#[.slice A d.sectors.length c, .int .i64 d.left, .bool d.down], 29), (#[.int .i64 fr, .int .i64 n, .int .i64 en, .int .i64 sf, .string tl], 31), (#[.slice none 0 0, .int .i64 0, .bool false], 29), (#[.int .i64 0, .int .i64 0, .int .i64 0, .int .i64 0, .string ⟨#[]⟩], 31)] wc)
  case first =>
    by_cases hfit : F + (C.length : Int) < n
    · have hAL : all = C ++ [z] := by rw [HDEF.out, if_pos hfit]
      have HALL := Lib.hid hAL
      clear hAL
      go_wp2_with (first
        | (go_at_call 42; (with_reducible refine (HREP.out _).mono ?_); rintro e w2 ⟨rfl, hb2⟩; have H2 := Lib.hid (H1.out.step hb2); have HO2 := Lib.hid (ownBelow HO8.out hb2); have HB2 := Lib.hid hb2; clear hb2)
        | (at_builtin; refine wpList_push (by kernel_rfl) (.tmp 36) (.tmp 38) 27 9 Tryz.underlying27 info_string rfl (by omega) (by omega) rfl (w.heap.size + 4) _ C.length (C.flatMap strC) rfl (ownBelow HO2.out (allocB _ _)) w2.heap.size (strC z) 9 rfl (heap_alloc_new w2 _) rfl (by simp [strC, Value.oneCell']) (by omega) (by have := HB2.out.size; simp; omega) ?_; intro v7 w7 ho hg hb; obtain ⟨A7, c7, rfl⟩ := ownLen ho; have H7 := Lib.hid ((H2.out.step (allocB w2 (.cells #[.string z] 9))).under (M := w.heap.size + 4) (Nat.le_refl _) hb); have HO7 := Lib.hid (OwnL.push (enc := strC) (x := z) ho); have HG7 := Lib.hid hg; clear ho hg hb))
      go_meet
      case rel =>
        refine ⟨A7, c7, ?_, ?_, H7.out⟩
        · rw [HALL.out, List.length_append]; rfl
        · have h7 := HO7.out
          have e7 : (C ++ [z]).length = C.length + 1 := by simp
          rw [HALL.out, e7]
          exact h7
    · have hAL : all = C := by rw [HDEF.out, if_neg hfit]
      have HALL := Lib.hid hAL
      clear hAL
      go_wp2_with fail
      go_meet
      case rel =>
        refine ⟨A8, c8, ?_, ?_, H1.out⟩
        · rw [HALL.out]
        · rw [HALL.out]; exact HO8.out
  case rest =>
    obtain ⟨A8, c8, rfl, ho8, hbx⟩ := hcut
    obtain ⟨wa, rfl⟩ : ∃ wm : World, wm = wc := ⟨_, rfl⟩
    have HOA := Lib.hid ho8
    have HBA := Lib.hid hbx
    clear ho8 hbx HO8 H1 HDEF HREP hs1 hwf hcl
    have hwl : IntKind.i64.wrap ((all.length : Int) - 1) = (all.length : Int) - 1 := IntWalk.i64_in _ (by omega)
    go_wp2_with fail
    go_loopw [9] (fun i wr => ∃ (x : Int) (d2 : Lg.Dk) (A2 : Option Addr) (c2 : Nat), i = .int .i64 x ∧ -1 ≤ x ∧ x < all.length ∧ Lg.putAll (fr + F) all all.length d = Lg.putAll (fr + F) all (x + 1).toNat d2 ∧ BxL w.heap.size w [(#[.slice A2 d2.sectors.length c2, .int .i64 d2.left, .bool d2.down], 29), (#[.int .i64 fr, .int .i64 n, .int .i64 en, .int .i64 sf, .string tl], 31), (#[.slice none 0 0, .int .i64 0, .bool false], 29), (#[.int .i64 0, .int .i64 0, .int .i64 0, .int .i64 0, .string ⟨#[]⟩], 31)] wr ∧ DiskR wr d2 A2 c2 ∧ (A2 = A ∨ NewT (w.heap.size + 4) wr 9 A2) ∧ (-9223372036854775808 ≤ d2.left ∧ d2.left ≤ 9223372036854775807) ∧ d2.sectors.length = d.sectors.length ∧ OwnL strC 1 9 (w.heap.size + 4) wr (.slice A8 all.length c8) all) (fun i _ => (intOf i + 1).toNat)
    case atStart => exact ⟨(all.length : Int) - 1, d, A, c, rfl, by omega, by omega, by rw [show ((all.length : Int) - 1 + 1).toNat = all.length by omega], HBA.out, ⟨HR.out.secs.below HBA.out.below, HR.out.small⟩, .inl rfl, HLB.out, rfl, HOA.out⟩
    case round =>
      obtain ⟨x, d2, A2, c2, rfl, hx1, hx2, hput, hbx, hdr, haw, hlb2, hle2, hown⟩ := hrel
      have HPUT := Lib.hid hput
      have HBX := Lib.hid hbx
      have HDR := Lib.hid hdr
      have HAW := Lib.hid haw
      have HOW := Lib.hid hown
      have HLE := Lib.hid hle2
      have HLB2 := Lib.hid hlb2
      have HFAR := Lib.hid (show 0 < d2.sectors.length → ∀ ad, A2 = some ad → ad.block < w.heap.size ∨ w.heap.size + 4 ≤ ad.block from fun h0 ad e => by
        rcases HAW.out with h1 | h1
        · rw [h1] at e
          exact .inl (HR.out.secs.old (by rw [← HLE.out]; exact h0) ad e)
        · exact .inr (h1 ad e).1)
      clear hput hbx hdr haw hown hle2 hlb2 HBA HOA
      by_cases h0 : x = -1
      · subst h0
        have HFIN := Lib.hid (HAL.out d2 (HPUT.out.trans rfl))
        clear hx1 hx2 hwl
        obtain ⟨m, hm⟩ := Int.eq_ofNat_of_zero_le (show 0 ≤ en % 128 by omega)
        have hm2 : (m : Int) ≤ (tl.size : Int) := by omega
        have hwm : IntKind.i64.wrap ((tl.size : Int) - (m : Int)) = (tl.size : Int) - (m : Int) := IntWalk.i64_in _ (by omega)
        have hm3 : (0 : Int) ≤ (tl.size : Int) - (m : Int) := by omega
        have hm4 : (tl.size : Int) - (m : Int) ≤ (tl.size : Int) := by omega
        have hm5 : ((tl.size : Int) - (m : Int)).toNat = tl.size - m := by omega
        have HTL := Lib.hid (show Lg.forcedL ⟨fr, n, en, sf, tl⟩ = ⟨fr, n, en, en, tl.extract (tl.size - m) tl.size⟩ from by
          unfold Lg.forcedL
          simp only [hm, Int.toNat_natCast])
        have hc1 := blkCell HBX.out.get1
        have hz1 := blkFrozen HBX.out.get1
        go_upto_region 15 with fail
        have HB2 := Lib.hid (show BxL w.heap.size w [(#[.slice A2 d2.sectors.length c2, .int .i64 d2.left, .bool d2.down], 29), (#[.int .i64 fr, .int .i64 n, .int .i64 en, .int .i64 en, .string tl], 31), (#[.slice none 0 0, .int .i64 0, .bool false], 29), (#[.int .i64 0, .int .i64 0, .int .i64 0, .int .i64 0, .string ⟨#[]⟩], 31)] (wr.setCell ⟨w.heap.size + 1, 3, none⟩ (.int .i64 en)) from by have h := HBX.out.set 1 3 (.int .i64 en) _ rfl; simpa using h)
        have HAP2 := Lib.hid ((Apart.refl w.heap.size (w.heap.size + 4) wr).cell (w.heap.size + 1) 3 (.int .i64 en) (by omega) (by omega))
        obtain ⟨W2, hW2⟩ : ∃ W, W = wr.setCell ⟨w.heap.size + 1, 3, none⟩ (.int .i64 en) := ⟨_, rfl⟩
        rw [← hW2] at HB2 HAP2 ⊢
        clear hW2 hc1 hz1
        have hc1 := blkCell HB2.out.get1
        have hz1 := blkFrozen HB2.out.get1
        go_upto_region 16 with fail
        have HB3 := Lib.hid (show BxL w.heap.size w [(#[.slice A2 d2.sectors.length c2, .int .i64 d2.left, .bool d2.down], 29), (#[.int .i64 fr, .int .i64 n, .int .i64 en, .int .i64 en, .string (tl.extract (tl.size - m) tl.size)], 31), (#[.slice none 0 0, .int .i64 0, .bool false], 29), (#[.int .i64 0, .int .i64 0, .int .i64 0, .int .i64 0, .string ⟨#[]⟩], 31)] (W2.setCell ⟨w.heap.size + 1, 4, none⟩ (.string (tl.extract (tl.size - m) tl.size))) from by have h := HB2.out.set 1 4 (.string (tl.extract (tl.size - m) tl.size)) _ rfl; simpa using h)
        have HAP3 := Lib.hid (HAP2.out.cell (w.heap.size + 1) 4 (.string (tl.extract (tl.size - m) tl.size)) (by omega) (by omega))
        obtain ⟨W3, hW3⟩ : ∃ W, W = W2.setCell ⟨w.heap.size + 1, 4, none⟩ (.string (tl.extract (tl.size - m) tl.size)) := ⟨_, rfl⟩
        rw [← hW3] at HB3 HAP3 ⊢
        clear hW3 hc1 hz1 hm2 hwm hm3 hm4 hm5 hm HB2 HAP2
        obtain ⟨tl2, htl2⟩ : ∃ b, b = tl.extract (tl.size - m) tl.size := ⟨_, rfl⟩
        rw [← htl2] at HB3 HTL
        clear htl2 hmod
        have HD := Lib.hid HB3.out.drew
        refine wp_region_held_drew (S := (fun u => u.heap[w.heap.size]? = some (.cells #[.slice A2 d2.sectors.length c2, .int .i64 d2.left, .bool d2.down] 29 (0, 0)) ∧ u.heap[w.heap.size + 1]? = some (.cells #[.int .i64 fr, .int .i64 n, .int .i64 en, .int .i64 en, .string tl2] 31 (0, 0)))) (by kernel_rfl) ?_ (fun hHeld => ?_)
        · exact ⟨(HD.out.get0), (HD.out.get1)⟩
        refine tkW 0 (some 82) (v := ?_) rfl ?_ ?_
        rotate_left
        · intro u hSu; have hSa := blkCell hSu.1; have hSb := blkCell hSu.2; clear hSu; go_simp; (try with_reducible rfl)
        try simp only [Act.put, List.setIfInBounds_toArray, List.set_cons_zero, List.set_cons_succ]
        refine tkW 1 (some 83) (v := ?_) rfl ?_ ?_
        rotate_left
        · intro u hSu; have hSa := blkCell hSu.1; have hSb := blkCell hSu.2; clear hSu; go_simp; (try with_reducible rfl)
        try simp only [Act.put, List.setIfInBounds_toArray, List.set_cons_zero, List.set_cons_succ]
        refine rdH 2 none rfl (fun K hK => ?_)
        refine wantedIf (by rfl) ?_
        refine wp_store_whole 29 (.tmp 4) (.tmp 82) rfl (w.heap.size + 2) #[.slice A2 d2.sectors.length c2, .int .i64 d2.left, .bool d2.down] _ _ rfl rfl (HD.out.get 2 _ rfl) (by kernel_rfl) (by kernel_rfl) (by kernel_rfl) ?_
        have HE := Lib.hid (HD.out.row 2 #[.slice A2 d2.sectors.length c2, .int .i64 d2.left, .bool d2.down] _ rfl)
        have hSn := And.intro (HE.out.get0) (HE.out.get1)
        refine hK.out _ _ ?_ (fun hHeld => ?_)
        · exact hSn
        clear hK K
        try simp only [Act.put]
        refine rdH 3 none rfl (fun K hK => ?_)
        refine wantedIf (by rfl) ?_
        refine wp_store_whole 31 (.tmp 5) (.tmp 83) rfl (w.heap.size + 3) #[.int .i64 fr, .int .i64 n, .int .i64 en, .int .i64 en, .string tl2] _ _ rfl rfl (HE.out.get 3 _ rfl) (by kernel_rfl) (by kernel_rfl) (by kernel_rfl) ?_
        have HG := Lib.hid (HE.out.row 3 #[.int .i64 fr, .int .i64 n, .int .i64 en, .int .i64 en, .string tl2] _ rfl)
        clear hSn
        have hSn := And.intro (HG.out.get0) (HG.out.get1)
        refine hK.out _ _ ?_ (fun hHeld => ?_)
        · exact hSn
        clear hK K
        try simp only [Act.put]
        refine tkW 4 (some 6) (v := ?_) rfl ?_ ?_
        rotate_left
        · intro u hSu; have hSa := blkCell hSu.1; have hSb := blkCell hSu.2; clear hSu; go_simp; (try with_reducible rfl)
        try simp only [Act.put, List.setIfInBounds_toArray, List.set_cons_zero, List.set_cons_succ]
        refine wpAnyH_done (by kernel_rfl) ?_ _
        clear hHeld hSn
        go_wp2_with fail
        refine bodyPost_ret (v := .tuple #[.agg #[.slice A2 d2.sectors.length c2, .int .i64 d2.left, .bool d2.down], .agg #[.int .i64 fr, .int .i64 n, .int .i64 en, .int .i64 en, .string tl2], .int .i64 0]) (results_cells rfl _ _ rfl rfl (load_whole (HG.out.get 2 _ rfl) Tryz.underlying29 (by kernel_rfl) (by kernel_rfl)) (load_whole (HG.out.get 3 _ rfl) Tryz.underlying31 (by kernel_rfl) (by kernel_rfl)) rfl) rfl ?_
        exact HO.out A2 c2 _ (d2, ⟨fr, n, en, en, tl2⟩, 0) (HFIN.out.trans (by rw [HTL.out])) ⟨HDR.out.secs.apart (((HAP3.out.drew).row _ _ (by omega) (by omega)).row _ _ (by omega) (by omega)) HFAR.out, HDR.out.small⟩ (HAW.out.imp id (fun h => (h.apart (lo := w.heap.size) (hi := w.heap.size + 4) (((HAP3.out.drew).row _ _ (by omega) (by omega)).row _ _ (by omega) (by omega)) (Nat.le_refl _)).mono (by omega))) HG.out.below
      · obtain ⟨k, rfl⟩ := Int.eq_ofNat_of_zero_le (show 0 ≤ x by omega)
        have hkl : k < all.length := by omega
        have hkI : (k : Int) < (all.length : Int) := by omega
        have hk0 : (0 : Int) ≤ (k : Int) := by omega
        obtain ⟨g8, cap, hv, hg8, hgl, hcap, hcell, -, -⟩ := ownAt HOW.out hkl
        injection hv with hv1 hv2 hv3
        subst hv1 hv3
        rw [strC_map, List.getElem?_map, List.getElem?_eq_getElem hkl] at hcell
        simp only [Option.map_some] at hcell
        have hys := HSZ.out all[k] (List.getElem_mem hkl)
        have HY := Lib.hid (show all[k]?.getD ⟨#[]⟩ = all[k] by rw [List.getElem?_eq_getElem hkl]; rfl)
        generalize all[k] = y at hcell hys HY
        have HCELL := Lib.hid hcell
        rw [show ((k : Int) + 1).toNat = k + 1 by omega] at HPUT
        have HWR := Lib.hid (fun W hW => dwrite_any d2 HLB2.out A2 c2 (fr + F + (k : Int)) y W hW)
        have hwl2 := @Lg.writeD_left d2 (fr + F + (k : Int)) y HLB2.out
        have hwn := @Lg.writeD_len d2 (fr + F + (k : Int)) y
        rcases hx : Lg.writeD d2 (fr + F + (k : Int)) y with ⟨d3, e3⟩
        have HGO := Lib.hid (fun (he : e3 = 0) => Lg.putAll_go (base := fr + F) (all := all) (k := k) (d := d2) (d2 := d3) (by rw [HY.out, hx, he]))
        have HSTP := Lib.hid (fun (he : e3 ≠ 0) => Lg.putAll_stop (base := fr + F) (all := all) (k := k) (d := d2) (d2 := d3) he (by rw [HY.out, hx]))
        rw [hx] at HWR hwl2 hwn
        simp only at hwl2 hwn
        have HWN := Lib.hid (hwn.trans HLE.out)
        have HWL := Lib.hid hwl2
        clear hx hwl2 hwn hcell hys h0 hwl
        have hs1 : IntKind.i64.wrap (fr + F) = fr + F := IntWalk.i64_in _ (by omega)
        have hs2 : IntKind.i64.wrap (fr + F + (k : Int)) = fr + F + (k : Int) := IntWalk.i64_in _ (by omega)
        go_upto_region 10 with fail
        go_cut [10, 11] (fun p q wc => ∃ (g : Nat) (A3 : Option Addr) (c3 : Nat), p = .pointer (some ⟨g, 0, none⟩) ∧ q = .int .i64 e3 ∧ BxL w.heap.size w [(#[.slice A2 d2.sectors.length c2, .int .i64 d2.left, .bool d2.down], 29), (#[.int .i64 fr, .int .i64 n, .int .i64 en, .int .i64 sf, .string tl], 31), (#[.slice none 0 0, .int .i64 0, .bool false], 29), (#[.int .i64 0, .int .i64 0, .int .i64 0, .int .i64 0, .string ⟨#[]⟩], 31)] wc ∧ w.heap.size + 4 ≤ g ∧ wc.heap[g]? = some (.cells #[.slice A3 d3.sectors.length c3, .int .i64 d3.left, .bool d3.down] 29 (0, 0)) ∧ DiskR wc d3 A3 c3 ∧ (A3 = A ∨ NewT (w.heap.size + 4) wc 9 A3) ∧ OwnL strC 1 9 (w.heap.size + 4) wc (.slice (some ⟨g8, 0, none⟩) all.length c8) all)
        case first =>
          have HBd := Lib.hid HBX.out.drew
          have HOd := Lib.hid (ownBelow HOW.out (Below.refl _ wr).drew)
          have HRd := Lib.hid (HDR.out.below (Below.refl _ wr).drew)
          have hsz := HBX.out.lt (i := 3) (by simp)
          have hsd : wr.heap.size ≤ wr.drew.heap.size := Nat.le_refl _
          refine wp_region_held_drew (S := (fun u => u.heap[w.heap.size]? = some (.cells #[.slice A2 d2.sectors.length c2, .int .i64 d2.left, .bool d2.down] 29 (0, 0)) ∧ u.heap[w.heap.size + 1]? = some (.cells #[.int .i64 fr, .int .i64 n, .int .i64 en, .int .i64 sf, .string tl] 31 (0, 0)) ∧ u.cell? ⟨g8, k, none⟩ = some (.string y))) (by kernel_rfl) ?_ (fun hHeld => ?_)
          · first | exact hSn | exact ⟨HBd.out.get0, HBd.out.get1, HCELL.out⟩
          refine tkW 0 (some 48) (v := ?_) rfl ?_ ?_
          rotate_left
          · intro u hSu; obtain ⟨hSa, hSb, hSc⟩ := hSu; have hSa := blkCell hSa; have hSb := blkCell hSb; go_simp; (try with_reducible rfl)
          try simp only [Act.put, List.setIfInBounds_toArray, List.set_cons_zero, List.set_cons_succ]
          refine tkW 1 (some 49) (v := ?_) rfl ?_ ?_
          rotate_left
          · intro u hSu; obtain ⟨hSa, hSb, hSc⟩ := hSu; have hSa := blkCell hSa; have hSb := blkCell hSb; go_simp; (try with_reducible rfl)
          try simp only [Act.put, List.setIfInBounds_toArray, List.set_cons_zero, List.set_cons_succ]
          refine tkW 2 (some 50) (v := ?_) rfl ?_ ?_
          rotate_left
          · intro u hSu; obtain ⟨hSa, hSb, hSc⟩ := hSu; have hSa := blkCell hSa; have hSb := blkCell hSb; go_simp; (try with_reducible rfl)
          try simp only [Act.put, List.setIfInBounds_toArray, List.set_cons_zero, List.set_cons_succ]
          refine tkW 3 (some 51) (v := ?_) rfl ?_ ?_
          rotate_left
          · intro u hSu; obtain ⟨hSa, hSb, hSc⟩ := hSu; have hSa := blkCell hSa; have hSb := blkCell hSb; go_simp; (try with_reducible rfl)
          try simp only [Act.put, List.setIfInBounds_toArray, List.set_cons_zero, List.set_cons_succ]
          refine tkW 4 (some 52) (v := ?_) rfl ?_ ?_
          rotate_left
          · intro u hSu; obtain ⟨hSa, hSb, hSc⟩ := hSu; have hSa := blkCell hSa; have hSb := blkCell hSb; go_simp; (try with_reducible rfl)
          try simp only [Act.put, List.setIfInBounds_toArray, List.set_cons_zero, List.set_cons_succ]
          refine tkW 5 (some 53) (v := ?_) rfl ?_ ?_
          rotate_left
          · intro u hSu; obtain ⟨hSa, hSb, hSc⟩ := hSu; have hSa := blkCell hSa; have hSb := blkCell hSb; go_simp; (try with_reducible rfl)
          try simp only [Act.put, List.setIfInBounds_toArray, List.set_cons_zero, List.set_cons_succ]
          refine tkW 6 (some 54) (v := ?_) rfl ?_ ?_
          rotate_left
          · intro u hSu; obtain ⟨hSa, hSb, hSc⟩ := hSu; have hSa := blkCell hSa; have hSb := blkCell hSb; go_simp; (try with_reducible rfl)
          try simp only [Act.put, List.setIfInBounds_toArray, List.set_cons_zero, List.set_cons_succ]
          refine tkW 7 (some 55) (v := ?_) rfl ?_ ?_
          rotate_left
          · intro u hSu; obtain ⟨hSa, hSb, hSc⟩ := hSu; have hSa := blkCell hSa; have hSb := blkCell hSb; go_simp; (try with_reducible rfl)
          try simp only [Act.put, List.setIfInBounds_toArray, List.set_cons_zero, List.set_cons_succ]
          refine tkW 8 (some 56) (v := ?_) rfl ?_ ?_
          rotate_left
          · intro u hSu; obtain ⟨hSa, hSb, hSc⟩ := hSu; have hSa := blkCell hSa; have hSb := blkCell hSb; go_simp; (try with_reducible rfl)
          try simp only [Act.put, List.setIfInBounds_toArray, List.set_cons_zero, List.set_cons_succ]
          refine tkW 9 (some 57) (v := ?_) rfl ?_ ?_
          rotate_left
          · intro u hSu; obtain ⟨hSa, hSb, hSc⟩ := hSu; have hSa := blkCell hSa; have hSb := blkCell hSb; go_simp; (try with_reducible rfl)
          try simp only [Act.put, List.setIfInBounds_toArray, List.set_cons_zero, List.set_cons_succ]
          refine tkW 10 (some 58) (v := ?_) rfl ?_ ?_
          rotate_left
          · intro u hSu; obtain ⟨hSa, hSb, hSc⟩ := hSu; have hSa := blkCell hSa; have hSb := blkCell hSb; go_simp; (try with_reducible rfl)
          try simp only [Act.put, List.setIfInBounds_toArray, List.set_cons_zero, List.set_cons_succ]
          refine wpAnyH_ready (rs := [11, 15]) (by kernel_rfl) (by simp) ?_
          refine (AllReadyH.cons (o := { dst := some 59, op := _, type := _, pos := _, after := _, guard := _ }) rfl (fun K hK => ?_) (AllReadyH.cons (o := { dst := some 10, op := _, type := _, pos := _, after := _, guard := _ }) rfl (fun K hK => ?_) AllReadyH.nil))
          ·
            go_simp
            refine (HWR.out _ HRd.out).mono ?_; rintro e w5 ⟨A3, c3, rfl, hd3, ha3, hb5⟩; have HB5 := Lib.hid (HBd.out.step hb5); have HO5 := Lib.hid (ownBelow HOd.out hb5); have hCb := (hb5.cell (p := ⟨g8, k, none⟩) (by first | exact hgl | (simp; omega))).trans HCELL.out; have hSn := And.intro HB5.out.get0 (And.intro HB5.out.get1 hCb)
            refine hK.out _ _ ?_ (fun hHeld => ?_)
            · first | exact hSn | exact ⟨HBd.out.get0, HBd.out.get1, HCELL.out⟩
            clear hK K
            refine tkW 12 (some 47) (v := ?_) rfl ?_ ?_
            rotate_left
            · intro u hSu; obtain ⟨hSa, hSb, hSc⟩ := hSu; have hSa := blkCell hSa; have hSb := blkCell hSb; go_simp; (try with_reducible rfl)
            try simp only [Act.put, List.setIfInBounds_toArray, List.set_cons_zero, List.set_cons_succ]
            refine tkW 13 (some 60) (v := ?_) rfl ?_ ?_
            rotate_left
            · intro u hSu; obtain ⟨hSa, hSb, hSc⟩ := hSu; have hSa := blkCell hSa; have hSb := blkCell hSb; go_simp; (try with_reducible rfl)
            try simp only [Act.put, List.setIfInBounds_toArray, List.set_cons_zero, List.set_cons_succ]
            refine tkW 14 (some 61) (v := ?_) rfl ?_ ?_
            rotate_left
            · intro u hSu; obtain ⟨hSa, hSb, hSc⟩ := hSu; have hSa := blkCell hSa; have hSb := blkCell hSb; go_simp; (try with_reducible rfl)
            try simp only [Act.put, List.setIfInBounds_toArray, List.set_cons_zero, List.set_cons_succ]
            refine rdH 15 (some 10) rfl (fun K hK => ?_)
            go_simp
            have HB6 := Lib.hid (HB5.out.step (allocB w5 (.cells #[.slice none 0 0, .int .i64 0, .bool false] 29))); have HO6 := Lib.hid (ownBelow HO5.out (allocB w5 (.cells #[.slice none 0 0, .int .i64 0, .bool false] 29))); have hd6 := hd3.below (allocB w5 (.cells #[.slice none 0 0, .int .i64 0, .bool false] 29)); have hCc := ((allocB w5 (.cells #[.slice none 0 0, .int .i64 0, .bool false] 29)).cell (p := ⟨g8, k, none⟩) (Nat.lt_of_lt_of_le hgl hb5.size)).trans hCb; have HG5 := heap_alloc_new w5 (.cells #[.slice none 0 0, .int .i64 0, .bool false] 29); clear hSn; have hSn := And.intro HB6.out.get0 (And.intro HB6.out.get1 hCc)
            refine hK.out _ _ ?_ (fun hHeld => ?_)
            · first | exact hSn | exact ⟨HBd.out.get0, HBd.out.get1, HCELL.out⟩
            clear hK K
            try simp only [Act.put, List.setIfInBounds_toArray, List.set_cons_zero, List.set_cons_succ]
            refine rdH 16 none rfl (fun K hK => ?_)
            refine wantedIf (by rfl) ?_
            refine wp_store_whole 29 (.tmp 10) (.tmp 60) rfl w5.heap.size #[.slice A3 d3.sectors.length c3, .int .i64 d3.left, .bool d3.down] _ _ rfl rfl HG5 (by kernel_rfl) (by kernel_rfl) (by kernel_rfl) ?_
            have hg4 : w.heap.size + 4 ≤ w5.heap.size := (by have := hb5.size; omega)
            have HAP := Lib.hid ((Apart.refl w5.heap.size (w5.heap.size + 1) (w5.alloc (.cells #[.slice none 0 0, .int .i64 0, .bool false] 29))).row w5.heap.size #[.slice A3 d3.sectors.length c3, .int .i64 d3.left, .bool d3.down] (Nat.le_refl _) (Nat.lt_succ_self _))
            have HB7 := Lib.hid (HB6.out.under (M := w5.heap.size) (by show w.heap.size + 4 ≤ _; exact hg4) (show Below w5.heap.size (w5.alloc (.cells #[.slice none 0 0, .int .i64 0, .bool false] 29)) ((w5.alloc (.cells #[.slice none 0 0, .int .i64 0, .bool false] 29)).setRow w5.heap.size #[.slice A3 d3.sectors.length c3, .int .i64 d3.left, .bool d3.down]) from ⟨rfl, rfl, rfl, HAP.out.size, fun j hj => heap_setRow_other (w5.alloc (.cells #[.slice none 0 0, .int .i64 0, .bool false] 29)) w5.heap.size #[.slice A3 d3.sectors.length c3, .int .i64 d3.left, .bool d3.down] j (by omega)⟩))
            have hd7 : DiskR ((w5.alloc (.cells #[.slice none 0 0, .int .i64 0, .bool false] 29)).setRow w5.heap.size #[.slice A3 d3.sectors.length c3, .int .i64 d3.left, .bool d3.down]) d3 A3 c3 := ⟨hd6.secs.apart HAP.out (fun h0 ad e => .inl (hd3.secs.old h0 ad e)), hd6.small⟩
            have HG7 : ((w5.alloc (.cells #[.slice none 0 0, .int .i64 0, .bool false] 29)).setRow w5.heap.size #[.slice A3 d3.sectors.length c3, .int .i64 d3.left, .bool d3.down]).heap[w5.heap.size]? = some (.cells #[.slice A3 d3.sectors.length c3, .int .i64 d3.left, .bool d3.down] 29 (0, 0)) := setRow_heap _ _ _ _ _ _ HG5
            have HO7 := ownOther HO6.out HG5 (by decide) #[.slice A3 d3.sectors.length c3, .int .i64 d3.left, .bool d3.down]
            have hC7 := (cellOther (cs := #[.slice A3 d3.sectors.length c3, .int .i64 d3.left, .bool d3.down]) hCc HG5 (ownCell HO6.out HG5 (by decide)))
            clear hSn
            have hSn := And.intro HB7.out.get0 (And.intro HB7.out.get1 hC7)
            refine hK.out _ _ ?_ (fun hHeld => ?_)
            · first | exact hSn | exact ⟨HBd.out.get0, HBd.out.get1, HCELL.out⟩
            clear hK K
            try simp only [Act.put]
            refine tkW 17 (some 11) (v := ?_) rfl ?_ ?_
            rotate_left
            · intro u hSu; obtain ⟨hSa, hSb, hSc⟩ := hSu; have hSa := blkCell hSa; have hSb := blkCell hSb; go_simp; (try with_reducible rfl)
            try simp only [Act.put, List.setIfInBounds_toArray, List.set_cons_zero, List.set_cons_succ]
            refine wpAnyH_done (by kernel_rfl) ?_ _
            clear hHeld hSn
            go_wp2_with fail
            go_meet
            case rel => exact ⟨_, A3, c3, rfl, rfl, HB7.out, hg4, HG7, hd7, (ha3.elim (fun h1 => by rw [h1]; exact HAW.out.imp id (fun h2 => (((h2.below (Below.refl _ wr).drew).below hb5).below (allocB w5 (.cells #[.slice none 0 0, .int .i64 0, .bool false] 29))).row _ _)) (fun h1 => .inr (((h1.below (allocB w5 (.cells #[.slice none 0 0, .int .i64 0, .bool false] 29))).row _ _).mono (by first | (simp; omega) | omega)))), HO7⟩
          ·
            go_simp
            have HBa := Lib.hid (HBd.out.step (allocB wr.drew (.cells #[.slice none 0 0, .int .i64 0, .bool false] 29))); have HOa := Lib.hid (ownBelow HOd.out (allocB wr.drew (.cells #[.slice none 0 0, .int .i64 0, .bool false] 29))); have HRa := Lib.hid (HRd.out.below (allocB wr.drew (.cells #[.slice none 0 0, .int .i64 0, .bool false] 29))); have HCa := Lib.hid (((allocB wr.drew (.cells #[.slice none 0 0, .int .i64 0, .bool false] 29)).cell (p := ⟨g8, k, none⟩) hgl).trans HCELL.out); have hSn := And.intro HBa.out.get0 (And.intro HBa.out.get1 HCa.out)
            refine hK.out _ _ ?_ (fun hHeld => ?_)
            · first | exact hSn | exact ⟨HBd.out.get0, HBd.out.get1, HCELL.out⟩
            clear hK K
            try simp only [Act.put, List.setIfInBounds_toArray, List.set_cons_zero, List.set_cons_succ]
            refine rdH 11 (some 59) rfl (fun K hK => ?_)
            go_simp
            refine (HWR.out _ HRa.out).mono ?_; rintro e w5 ⟨A3, c3, rfl, hd3, ha3, hb5⟩; have HB5 := Lib.hid (HBa.out.step hb5); have HO5 := Lib.hid (ownBelow HOa.out hb5); have hCb := (hb5.cell (p := ⟨g8, k, none⟩) (by first | exact hgl | (simp; omega))).trans HCa.out; have hSn := And.intro HB5.out.get0 (And.intro HB5.out.get1 hCb); have HG5 := blkNew hb5
            refine hK.out _ _ ?_ (fun hHeld => ?_)
            · first | exact hSn | exact ⟨HBd.out.get0, HBd.out.get1, HCELL.out⟩
            clear hK K
            refine tkW 12 (some 47) (v := ?_) rfl ?_ ?_
            rotate_left
            · intro u hSu; obtain ⟨hSa, hSb, hSc⟩ := hSu; have hSa := blkCell hSa; have hSb := blkCell hSb; go_simp; (try with_reducible rfl)
            try simp only [Act.put, List.setIfInBounds_toArray, List.set_cons_zero, List.set_cons_succ]
            refine tkW 13 (some 60) (v := ?_) rfl ?_ ?_
            rotate_left
            · intro u hSu; obtain ⟨hSa, hSb, hSc⟩ := hSu; have hSa := blkCell hSa; have hSb := blkCell hSb; go_simp; (try with_reducible rfl)
            try simp only [Act.put, List.setIfInBounds_toArray, List.set_cons_zero, List.set_cons_succ]
            refine tkW 14 (some 61) (v := ?_) rfl ?_ ?_
            rotate_left
            · intro u hSu; obtain ⟨hSa, hSb, hSc⟩ := hSu; have hSa := blkCell hSa; have hSb := blkCell hSb; go_simp; (try with_reducible rfl)
            try simp only [Act.put, List.setIfInBounds_toArray, List.set_cons_zero, List.set_cons_succ]
            refine rdH 16 none rfl (fun K hK => ?_)
            refine wantedIf (by rfl) ?_
            refine wp_store_whole 29 (.tmp 10) (.tmp 60) rfl wr.drew.heap.size #[.slice A3 d3.sectors.length c3, .int .i64 d3.left, .bool d3.down] _ _ rfl rfl HG5 (by kernel_rfl) (by kernel_rfl) (by kernel_rfl) ?_
            have hg4 : w.heap.size + 4 ≤ wr.drew.heap.size := (by omega)
            have HAP := Lib.hid ((Apart.refl wr.drew.heap.size (wr.drew.heap.size + 1) w5).row wr.drew.heap.size #[.slice A3 d3.sectors.length c3, .int .i64 d3.left, .bool d3.down] (Nat.le_refl _) (Nat.lt_succ_self _))
            have HB7 := Lib.hid (HB5.out.under (M := wr.drew.heap.size) (by show w.heap.size + 4 ≤ _; exact hg4) (show Below wr.drew.heap.size w5 (w5.setRow wr.drew.heap.size #[.slice A3 d3.sectors.length c3, .int .i64 d3.left, .bool d3.down]) from ⟨rfl, rfl, rfl, HAP.out.size, fun j hj => heap_setRow_other w5 wr.drew.heap.size #[.slice A3 d3.sectors.length c3, .int .i64 d3.left, .bool d3.down] j (by omega)⟩))
            have hd7 : DiskR (w5.setRow wr.drew.heap.size #[.slice A3 d3.sectors.length c3, .int .i64 d3.left, .bool d3.down]) d3 A3 c3 := ⟨hd3.secs.apart HAP.out (fun h0 ad e => ha3.elim (fun h1 => by rw [h1] at e; have := HDR.out.secs.old (by rw [HLE.out, ← HWN.out]; exact h0) ad e; left; exact this) (fun h1 => by have := h1 ad e; right; have := this.1; simp at this ⊢; omega)), hd3.small⟩
            have HG7 : (w5.setRow wr.drew.heap.size #[.slice A3 d3.sectors.length c3, .int .i64 d3.left, .bool d3.down]).heap[wr.drew.heap.size]? = some (.cells #[.slice A3 d3.sectors.length c3, .int .i64 d3.left, .bool d3.down] 29 (0, 0)) := setRow_heap _ _ _ _ _ _ HG5
            have HO7 := ownOther HO5.out HG5 (by decide) #[.slice A3 d3.sectors.length c3, .int .i64 d3.left, .bool d3.down]
            have hC7 := (cellOther (cs := #[.slice A3 d3.sectors.length c3, .int .i64 d3.left, .bool d3.down]) hCb HG5 (ownCell HO5.out HG5 (by decide)))
            clear hSn
            have hSn := And.intro HB7.out.get0 (And.intro HB7.out.get1 hC7)
            refine hK.out _ _ ?_ (fun hHeld => ?_)
            · first | exact hSn | exact ⟨HBd.out.get0, HBd.out.get1, HCELL.out⟩
            clear hK K
            try simp only [Act.put]
            refine tkW 17 (some 11) (v := ?_) rfl ?_ ?_
            rotate_left
            · intro u hSu; obtain ⟨hSa, hSb, hSc⟩ := hSu; have hSa := blkCell hSa; have hSb := blkCell hSb; go_simp; (try with_reducible rfl)
            try simp only [Act.put, List.setIfInBounds_toArray, List.set_cons_zero, List.set_cons_succ]
            refine wpAnyH_done (by kernel_rfl) ?_ _
            clear hHeld hSn
            go_wp2_with fail
            go_meet
            case rel => exact ⟨_, A3, c3, rfl, rfl, HB7.out, hg4, HG7, hd7, (ha3.elim (fun h1 => by rw [h1]; exact HAW.out.imp id (fun h2 => (((h2.below (Below.refl _ wr).drew).below (allocB wr.drew (.cells #[.slice none 0 0, .int .i64 0, .bool false] 29))).below hb5).row _ _)) (fun h1 => .inr ((h1.row _ _).mono (by first | (simp; omega) | omega)))), HO7⟩
        case rest =>
          obtain ⟨g, A3, c3, rfl, rfl, hb3, hg4, hg3, hd3, ha3, ho3⟩ := hcut
          obtain ⟨wb, rfl⟩ : ∃ wm : World, wm = wc := ⟨_, rfl⟩
          have HB3 := Lib.hid hb3
          have HG3 := Lib.hid hg3
          have HD3 := Lib.hid hd3
          have HO3 := Lib.hid ho3
          have HA3 := Lib.hid ha3
          have HFR := Lib.hid (show 0 < d3.sectors.length → ∀ ad, A3 = some ad → ad.block < w.heap.size ∨ w.heap.size + 4 ≤ ad.block from fun h0 ad e => HA3.out.elim (fun h1 => by rw [h1] at e; exact .inl (HR.out.secs.old (by rw [← HWN.out]; exact h0) ad e)) (fun h1 => .inr (h1 ad e).1))
          clear hb3 hg3 hd3 ho3 ha3 HBX HOW HDR HAW HFAR HWR HCELL hs1 hs2
          go_upto_region 12 with (first
            | (with_reducible refine listLoad (by kernel_rfl) 29 (.tmp 10) rfl g rfl #[.slice A3 d3.sectors.length c3, .int .i64 d3.left, .bool d3.down] _ HG3.out _ Tryz.underlying29 (by kernel_rfl) (by kernel_rfl) ?_)
            | (with_reducible refine listStore (by kernel_rfl) 29 (.tmp 2) (.tmp 62) rfl w.heap.size #[.slice A3 d3.sectors.length c3, .int .i64 d3.left, .bool d3.down] _ _ rfl rfl HB3.out.get0 (by kernel_rfl) (by kernel_rfl) (by kernel_rfl) ?_))
          have HB4 := Lib.hid (show BxL w.heap.size w [(#[.slice A3 d3.sectors.length c3, .int .i64 d3.left, .bool d3.down], 29), (#[.int .i64 fr, .int .i64 n, .int .i64 en, .int .i64 sf, .string tl], 31), (#[.slice none 0 0, .int .i64 0, .bool false], 29), (#[.int .i64 0, .int .i64 0, .int .i64 0, .int .i64 0, .string ⟨#[]⟩], 31)] (wb.setRow w.heap.size #[.slice A3 d3.sectors.length c3, .int .i64 d3.left, .bool d3.down]) from by have h := HB3.out.row 0 #[.slice A3 d3.sectors.length c3, .int .i64 d3.left, .bool d3.down] _ rfl; simpa using h)
          have HAP4 := Lib.hid ((Apart.refl w.heap.size (w.heap.size + 4) wb).row w.heap.size #[.slice A3 d3.sectors.length c3, .int .i64 d3.left, .bool d3.down] (Nat.le_refl _) (by omega))
          have HO4 := Lib.hid (rowApart HO3.out (Nat.le_refl _) HAP4.out)
          have HD4 := Lib.hid (show DiskR (wb.setRow w.heap.size #[.slice A3 d3.sectors.length c3, .int .i64 d3.left, .bool d3.down]) d3 A3 c3 from ⟨HD3.out.secs.apart HAP4.out HFR.out, HD3.out.small⟩)
          have HA4 := Lib.hid (HA3.out.imp id (fun h => h.row w.heap.size #[.slice A3 d3.sectors.length c3, .int .i64 d3.left, .bool d3.down]))
          obtain ⟨W4, hW4⟩ : ∃ W, W = wb.setRow w.heap.size #[.slice A3 d3.sectors.length c3, .int .i64 d3.left, .bool d3.down] := ⟨_, rfl⟩
          rw [← hW4] at HB4 HAP4 HO4 HD4 HA4 ⊢
          clear hW4 HB3 HG3 HD3 HO3 HAP4
          by_cases he : e3 = 0
          · have HG := Lib.hid (HPUT.out.trans (HGO.out he))
            subst he
            clear HGO HSTP
            have hwk : IntKind.i64.wrap ((k : Int) - 1) = (k : Int) - 1 := IntWalk.i64_in _ (by omega)
            go_wp2_with fail
            go_roundw
            case rel => exact ⟨(k : Int) - 1, d3, A3, c3, rfl, by omega, by omega, by rw [show ((k : Int) - 1 + 1).toNat = k by omega]; exact HG.out, HB4.out, HD4.out, HA4.out, HWL.out, HWN.out, HO4.out⟩
            case measure => first | (simp [intOf]; done) | (simp [intOf]; omega)
          · have HFIN := Lib.hid (HST.out d3 e3 he (HPUT.out.trans (HSTP.out he)))
            have he1 : (e3 == 0) = false := by simpa using he
            have he2 : (e3 != 0) = true := by simpa using he
            clear HGO HSTP he
            go_upto_region 13 with fail
            have HD := Lib.hid HB4.out.drew
            refine wp_region_held_drew (S := (fun u => u.heap[w.heap.size]? = some (.cells #[.slice A3 d3.sectors.length c3, .int .i64 d3.left, .bool d3.down] 29 (0, 0)) ∧ u.heap[w.heap.size + 1]? = some (.cells #[.int .i64 fr, .int .i64 n, .int .i64 en, .int .i64 sf, .string tl] 31 (0, 0)))) (by kernel_rfl) ?_ (fun hHeld => ?_)
            · exact ⟨(HD.out.get0), (HD.out.get1)⟩
            refine tkW 0 (some 65) (v := ?_) rfl ?_ ?_
            rotate_left
            · intro u hSu; have hSa := blkCell hSu.1; have hSb := blkCell hSu.2; clear hSu; go_simp; (try with_reducible rfl)
            try simp only [Act.put, List.setIfInBounds_toArray, List.set_cons_zero, List.set_cons_succ]
            refine tkW 1 (some 66) (v := ?_) rfl ?_ ?_
            rotate_left
            · intro u hSu; have hSa := blkCell hSu.1; have hSb := blkCell hSu.2; clear hSu; go_simp; (try with_reducible rfl)
            try simp only [Act.put, List.setIfInBounds_toArray, List.set_cons_zero, List.set_cons_succ]
            refine tkW 2 (some 67) (v := ?_) rfl ?_ ?_
            rotate_left
            · intro u hSu; have hSa := blkCell hSu.1; have hSb := blkCell hSu.2; clear hSu; go_simp; (try with_reducible rfl)
            try simp only [Act.put, List.setIfInBounds_toArray, List.set_cons_zero, List.set_cons_succ]
            refine rdH 3 none rfl (fun K hK => ?_)
            refine wantedIf (by rfl) ?_
            refine wp_store_whole 29 (.tmp 4) (.tmp 65) rfl (w.heap.size + 2) #[.slice A3 d3.sectors.length c3, .int .i64 d3.left, .bool d3.down] _ _ rfl rfl (HD.out.get 2 _ rfl) (by kernel_rfl) (by kernel_rfl) (by kernel_rfl) ?_
            have HE := Lib.hid (HD.out.row 2 #[.slice A3 d3.sectors.length c3, .int .i64 d3.left, .bool d3.down] _ rfl)
            have hSn := And.intro (HE.out.get0) (HE.out.get1)
            refine hK.out _ _ ?_ (fun hHeld => ?_)
            · exact hSn
            clear hK K
            try simp only [Act.put]
            refine rdH 4 none rfl (fun K hK => ?_)
            refine wantedIf (by rfl) ?_
            refine wp_store_whole 31 (.tmp 5) (.tmp 66) rfl (w.heap.size + 3) #[.int .i64 fr, .int .i64 n, .int .i64 en, .int .i64 sf, .string tl] _ _ rfl rfl (HE.out.get 3 _ rfl) (by kernel_rfl) (by kernel_rfl) (by kernel_rfl) ?_
            have HG := Lib.hid (HE.out.row 3 #[.int .i64 fr, .int .i64 n, .int .i64 en, .int .i64 sf, .string tl] _ rfl)
            clear hSn
            have hSn := And.intro (HG.out.get0) (HG.out.get1)
            refine hK.out _ _ ?_ (fun hHeld => ?_)
            · exact hSn
            clear hK K
            try simp only [Act.put]
            refine tkW 5 (some 6) (v := ?_) rfl ?_ ?_
            rotate_left
            · intro u hSu; have hSa := blkCell hSu.1; have hSb := blkCell hSu.2; clear hSu; go_simp; (try with_reducible rfl)
            try simp only [Act.put, List.setIfInBounds_toArray, List.set_cons_zero, List.set_cons_succ]
            refine wpAnyH_done (by kernel_rfl) ?_ _
            clear hHeld hSn
            go_wp2_with fail
            refine bodyPost_ret (v := .tuple #[.agg #[.slice A3 d3.sectors.length c3, .int .i64 d3.left, .bool d3.down], .agg #[.int .i64 fr, .int .i64 n, .int .i64 en, .int .i64 sf, .string tl], .int .i64 e3]) (results_cells rfl _ _ rfl rfl (load_whole (HG.out.get 2 _ rfl) Tryz.underlying29 (by kernel_rfl) (by kernel_rfl)) (load_whole (HG.out.get 3 _ rfl) Tryz.underlying31 (by kernel_rfl) (by kernel_rfl)) rfl) rfl ?_
            exact HO.out A3 c3 _ (d3, ⟨fr, n, en, sf, tl⟩, e3) HFIN.out ⟨HD4.out.secs.apart (((Apart.refl _ _ _).drew.row _ _ (by omega) (by omega)).row _ _ (by omega) (by omega)) HFR.out, HD4.out.small⟩ (HA4.out.imp id (fun h => (h.apart (lo := w.heap.size) (hi := w.heap.size + 4) (((Apart.refl _ _ _).drew.row _ _ (by omega) (by omega)).row _ _ (by omega) (by omega)) (Nat.le_refl _)).mono (by omega))) HG.out.below
/-- Force, of any disk and log that calls made. -/
theorem force_any (d : Lg.Dk) (hlb : -9223372036854775808 ≤ d.left ∧ d.left ≤ 9223372036854775807) (A : Option Addr) (c : Nat) (l : Lg.Lo) (he0 : 0 ≤ l.end_) (he1 : l.end_ ≤ 1000000000) (hn0 : -1000000000 ≤ l.n) (hn1 : l.n ≤ 1000000000) (hf0 : -1000000000 ≤ l.from_) (hf1 : l.from_ ≤ 1000000000) (ht : l.tail.size ≤ 1000000) (hte : (l.tail.size : Int) ≤ l.end_) (hmod : l.end_ % 128 ≤ (l.tail.size : Int)) (w : World) (h : DiskR w d A c) :
    Calls Tryz.prog 53 #[diskV d A c, logV l] w (ForceOut (Lg.forceD d l) A w) := by
  obtain ⟨fr, n, en, sf, tl⟩ := l
  by_cases hse : sf = en
  · subst hse
    exact force_none d.sectors d.left d.down A c fr n sf tl _ (Lg.force_same rfl) w h
  · exact force_go d hlb A c fr n en sf tl hse he0 he1 hn0 hn1 hf0 hf1 ht hte hmod w h
end Go.Proofs.YthfglhafphfhiaaGreat
/- Records in a slice; what Open and Read need of the plain law. -/
namespace Lg
end Lg
namespace Go.Proofs.YthfglhafphfhiaaGreat
open Go.RowKit
/-- A record as it lies in a slice: with the places of its lists. -/
structure PRec where
  r : Rc.Rec
  A : Option Addr
  c : Nat
  B : Option Addr
  d : Nat
/-- The lists of all records lie in memory from block n on. -/
def RecsN (n : Nat) (w : World) (ps : List PRec) : Prop := ∀ p ∈ ps, RecN n w p.r p.A p.c p.B p.d
theorem RecsN.nil (n : Nat) (w : World) : RecsN n w [] := fun _ h => by cases h
theorem RecsN.below {n : Nat} {w w' : World} {ps : List PRec} (h : RecsN n w ps) (hb : Below w.heap.size w w') : RecsN n w' ps := fun p hp => (h p hp).below hb
theorem RecsN.mono {n m : Nat} {w : World} {ps : List PRec} (h : RecsN n w ps) (hm : m ≤ n) : RecsN m w ps := fun p hp => (h p hp).mono hm
theorem RecsN.push {n : Nat} {w : World} {ps : List PRec} {p : PRec} (h : RecsN n w ps) (hp : RecN n w p.r p.A p.c p.B p.d) : RecsN n w (ps ++ [p]) := fun q hq => by
  rcases List.mem_append.1 hq with h1 | h1
  · exact h q h1
  · rw [List.mem_singleton.1 h1]; exact hp
end Go.Proofs.YthfglhafphfhiaaGreat
/- Arguments that are records, rows of records, of truths, disks: opened. -/
namespace Go.Proofs.YthfglhafphfhiaaGreat
open Go.ChangeShapes Go.WideShapes Go.ChangeAt Go.RowKit
theorem cellsS : Tryz.prog.cellsOf 9 = 1 := by kernel_rfl
theorem cellsI : Tryz.prog.cellsOf 3 = 1 := by kernel_rfl
theorem cellsB : Tryz.prog.cellsOf 4 = 1 := by kernel_rfl
theorem cellsSs : Tryz.prog.cellsOf 27 = 1 := by kernel_rfl
theorem cellsDk : Tryz.prog.cellsOf 29 = 3 := by kernel_rfl
theorem dkFields : ∃ f0 f1 f2 : Field, Tryz.prog.underlying 29 = some (.struct #[f0, f1, f2]) ∧ (f0.offset = 0 ∧ f1.offset = 1 ∧ f2.offset = 2) ∧ f0.type = 27 ∧ f1.type = 3 ∧ f2.type = 4 := ⟨_, _, _, Tryz.underlying29, ⟨rfl, rfl, rfl⟩, rfl, rfl, rfl⟩
theorem list3' {α : Type} {l : List α} (h : l.length = 3) : ∃ a b c, l = [a, b, c] := by
  match l, h with
  | [a, b, c], _ => exact ⟨a, b, c, rfl⟩
theorem spotOf {w : World} {a : Addr} {v : Value} (h : w.cell? a = some v) : a = ⟨a.block, a.off, none⟩ ∧ a.block < w.heap.size := by
  obtain ⟨b, off, sp⟩ := a
  unfold World.cell? at h
  cases hh : w.heap[b]? with
  | none => simp [hh] at h
  | some o =>
    have hlt : b < w.heap.size := (Array.getElem?_eq_some_iff.1 hh).1
    cases o with
    | cells c t f =>
      simp only [hh] at h
      cases sp with
      | none => exact ⟨rfl, hlt⟩
      | some x => simp at h
    | _ => simp [hh] at h
/-- A datum that a machine can hold. -/
def Light {H : Type} (t : TypeId) (d : DataW H) : Prop := ∀ n ∈ DataW.weights Tryz.prog t d, n ≤ reachBytes
theorem light_of {H : Type} {ts : List TypeId} {ds : List (DataW H)} {j : Nat} {t : TypeId} {d : DataW H} (h : (DataW.weightsEach Tryz.prog ts ds).all (· ≤ reachBytes) = true) (ht : ts[j]? = some t) (hd : ds[j]? = some d) : Light t d := fun n hn => by
  have := List.all_eq_true.1 h _ (DataW.weights_mem_each ht hd n hn)
  simpa using this
theorem weights_mem_all {H : Type} {P : Program} {e : TypeId} {d : DataW H} {n : Nat} (hn : n ∈ DataW.weights P e d) : ∀ {l : List (DataW H)}, d ∈ l → n ∈ DataW.weightsAll P e l := by
  intro l
  induction l with
  | nil => intro h; cases h
  | cons a l ih =>
    intro h
    unfold DataW.weightsAll
    rcases List.mem_cons.1 h with h1 | h1
    · subst h1; exact List.mem_append_left _ hn
    · exact List.mem_append_right _ (ih h1)
theorem bytesS : 1 ≤ Tryz.prog.bytesOf 9 := by decide +kernel
section
variable {H : Type} {enc : TypeId × Value → H} {w : World} {base : Nat} {spare : Nat → Bool} {held : Bool}
theorem trod_field {t : TypeId} {fs : Array Field} {fuel : Nat} {cs : List Value} {x : DataW H × List MemPlace} (ht : Tryz.prog.underlying t = some (.struct fs)) (h : DataW.trod enc Tryz.prog w base spare held fuel t cs = some x) :
    ∃ n, cs.length = Tryz.prog.cellsOf t ∧ ∀ (i : Nat) (f : Field), fs[i]? = some f → ∃ y, DataW.trod enc Tryz.prog w base spare held n f.type ((cs.drop f.offset).take (Tryz.prog.cellsOf f.type)) = some y ∧ (Light t x.1 → Light f.type y.1) := by
  obtain ⟨xs, n, _, rfl, hl, hlen, hf⟩ := DataW.trod_struct ht h
  refine ⟨n, hl, fun i f hi => ?_⟩
  have hi' : i < xs.length := by rw [hlen]; exact (Array.getElem?_eq_some_iff.1 hi).1
  refine ⟨xs[i], by rw [hf i f hi, List.getElem?_eq_getElem hi'], fun hL m hm => hL m ?_⟩
  unfold DataW.weights
  rw [ht]
  exact DataW.weights_mem_each (j := i) (t := f.type) (d := xs[i].1) (by simp [hi]) (by simp [hi']) m hm
/-- A slice, opened, whatever its elements are. -/
theorem trod_row {α : Type} [Inhabited α] {en : α → List Value} {k : Nat} (hk : ∀ x, (en x).length = k) (hk0 : 0 < k) {t e : TypeId} (ht : Tryz.prog.underlying t = some (.slice e)) (hce : Tryz.prog.cellsOf e = k) (hbe : 1 ≤ Tryz.prog.bytesOf e) {Q : α → Prop}
    (he : ∀ (fuel : Nat) (cs : List Value) (x : DataW H × List MemPlace), DataW.trod enc Tryz.prog w base spare held fuel e cs = some x → Light e x.1 → ∃ o, cs = en o ∧ Q o)
    {fuel : Nat} {cs : List Value} {x : DataW H × List MemPlace} (hL : Light t x.1) (h : DataW.trod enc Tryz.prog w base spare held fuel t cs = some x) :
    ∃ (A : Option Addr) (c : Nat) (l : List α), cs = [.slice A l.length c] ∧ Reads w A c l.length (l.flatMap en) ∧ (∀ o ∈ l, Q o) ∧ l.length ≤ 140737488355328 := by
  rcases Deep.open_slice ht h with ⟨hcs, _⟩ | ⟨a', len', cap', m, n, D, Pl, hcs, hb, hl, hm, hmm, hx, hall⟩
  · exact ⟨none, 0, [], hcs, Reads.none_ _ _ _ _, (fun _ h => by cases h), Nat.zero_le _⟩
  · have hlm : len' ≤ m := by rw [hmm]; split <;> omega
    rw [hce] at hall
    rw [hx] at hL
    have hlen : len' ≤ 140737488355328 := by
      have h1 := hL _ (by unfold DataW.weights; rw [ht]; exact List.mem_cons_self ..)
      rw [List.length_map, List.length_range] at h1
      have h2 := reachBytes_lt
      have h3 := Nat.le_mul_of_pos_right (len' + (List.map (fun j => D (len' + j)) (List.range (m - len'))).length) hbe
      omega
    have hLe : ∀ i, i < len' → Light e (D i) := fun i hi n' hn' => hL n' (by
      unfold DataW.weights; rw [ht]
      exact List.mem_cons_of_mem _ (List.mem_append_left _ (weights_mem_all hn' (List.mem_map.2 ⟨i, List.mem_range.2 hi, rfl⟩))))
    obtain ⟨f, hf⟩ := Deep.choose_lt (α := α) (n := len') (p := fun i o => (∀ q u, (en o)[q]? = some u → w.cell? ((a'.add (i * k)).add q) = some u) ∧ Q o) (fun i hi => by
      obtain ⟨cs', h1, h2⟩ := hall i (by omega)
      obtain ⟨o, rfl, hQ⟩ := he _ _ _ h2 (hLe i hi)
      obtain ⟨_, _, h3⟩ := World.cells?_some h1
      refine ⟨o, fun q u hq => ?_, hQ⟩
      have hqk : q < k := by have := (List.getElem?_eq_some_iff.1 hq).1; rw [hk] at this; exact this
      rw [h3 q hqk]; exact hq)
    refine ⟨some a', cap', (List.range len').map f, by rw [hcs]; simp, ?_, ?_, by simpa using hlen⟩
    · intro h0
      have h0' : 0 < len' := by simpa using h0
      obtain ⟨u, hu⟩ : ∃ u, (en (f 0))[0]? = some u := ⟨_, List.getElem?_eq_getElem (by rw [hk]; exact hk0)⟩
      have hz := (hf 0 h0').1 0 u hu
      have hz2 : w.cell? a' = some u := by simpa [Addr.add] using hz
      obtain ⟨hsp, hlt⟩ := spotOf hz2
      refine ⟨a'.block, a'.off, by rw [← hsp], by simpa using hl, hlt, fun j u hj => ?_⟩
      have hjl : j < len' * k := by
        have := (List.getElem?_eq_some_iff.1 hj).1
        rw [flat_len hk] at this
        simpa using this
      obtain ⟨q, i, hi, rfl⟩ : ∃ q i, i < k ∧ j = q * k + i := ⟨j / k, j % k, Nat.mod_lt _ hk0, by rw [Nat.mul_comm]; exact (Nat.div_add_mod j k).symm⟩
      have hq : q < len' := by
        rcases Nat.lt_or_ge q len' with h5 | h5
        · exact h5
        · have := Nat.mul_le_mul_right k h5; omega
      rw [flat_at hk _ q i (by simpa using hq) hi] at hj
      have h5 := (hf q hq).1 i u (by simpa using hj)
      rw [hsp, Addr.add_mid, Addr.add_mid] at h5
      rw [← Nat.add_assoc]
      exact h5
    · intro o ho
      obtain ⟨i, hi, rfl⟩ := List.mem_map.1 ho
      exact (hf i (List.mem_range.1 hi)).2
instance : Inhabited Rc.TxnAt := ⟨⟨0, 0, 0, false⟩⟩
instance : Inhabited Rc.DirtyAt := ⟨⟨0, 0⟩⟩
instance : Inhabited PRec := ⟨⟨⟨0, 0, 0, 0, 0, 0, 0, ⟨0, 0, ⟨#[]⟩, ⟨#[]⟩⟩, 0, 0, ⟨⟨#[]⟩, 0, 0⟩, [], []⟩, none, 0, none, 0⟩⟩
theorem trod_st (fuel : Nat) (cs : List Value) (x : DataW H × List MemPlace) (h : DataW.trod enc Tryz.prog w base spare held fuel 9 cs = some x) (hL : Light 9 x.1) : ∃ o : ByteArray, cs = strC o ∧ o.size ≤ 140737488355328 := by
  obtain ⟨b, e, rfl, _⟩ := DataW.trod_string Tryz.underlying9 h
  refine ⟨b, e, ?_⟩
  have h1 := hL b.data.toList.length (by unfold DataW.weights; exact List.mem_singleton.2 rfl)
  have h2 := reachBytes_lt
  have h3 : b.data.toList.length = b.size := by simp
  omega
set_option maxRecDepth 100000 in
/-- A disk, opened. -/
theorem open_disk {r : Reach} {b0 : Nat} {v : Value} {d : DataW H} {ps : List MemPlace} (hval : Value.okWide Tryz.prog w r b0 29 v) (hd : DataW.Trod enc Tryz.prog w base spare held 29 v d ps) (hL : Light 29 d) :
    ∃ (A : Option Addr) (c : Nat) (k : Lg.Dk), v = diskV k A c ∧ Reads w A c k.sectors.length (k.sectors.flatMap strC) ∧ (∀ b ∈ k.sectors, b.size ≤ 140737488355328) ∧ k.sectors.length ≤ 140737488355328 ∧ (Lit.int .i64 k.left).wf = true := by
  obtain ⟨f0, f1, f2, hu, ⟨o0, o1, o2⟩, t0, t1, t2⟩ := dkFields
  obtain ⟨cs, rfl, hsz⟩ := okWide_struct hu hval
  obtain ⟨fuel, h⟩ := hd
  obtain ⟨n, hl, hf⟩ := trod_field hu h
  rw [cellsDk] at hl
  obtain ⟨c0, c1, c2, hcs⟩ := list3' hl
  rw [hcs] at hf
  obtain ⟨y0, h0, gh0⟩ := hf 0 f0 rfl
  obtain ⟨y1, h1, gh1⟩ := hf 1 f1 rfl
  obtain ⟨y2, h2, gh2⟩ := hf 2 f2 rfl
  rw [o0, t0, cellsSs] at h0
  rw [o1, t1, cellsI] at h1
  rw [o2, t2, cellsB] at h2
  obtain ⟨A, c, l, e0, r0, q0, l0⟩ := trod_row (en := strC) (k := 1) strC_len (by omega) Tryz.underlying27 cellsS bytesS (Q := fun o => o.size ≤ 140737488355328) trod_st (by rw [← t0]; exact gh0 hL) h0
  obtain ⟨i1, e1, _, w1⟩ := DataW.trod_int Tryz.underlying3 h1
  obtain ⟨b2, e2, _⟩ := DataW.trod_bool Tryz.underlying4 h2
  simp at e0 e1 e2
  refine ⟨A, c, ⟨l, i1, b2⟩, ?_, r0, q0, l0, w1⟩
  have hc2 : cs.toList = [c0, c1, c2] := by simpa [Value.cells] using hcs
  show Value.agg cs = .agg _
  congr 1
  apply Array.toList_inj.1
  rw [hc2, e0, e1, e2]
end
end Go.Proofs.YthfglhafphfhiaaGreat
/- The plain law of the log: what is appended, forced, cut off by the power, opened again and read. -/
namespace Lg
open Rc
/-- The bytes of a log's sectors. -/
def logS (F N : Nat) (d : Dk) : List UInt8 := flat ((d.sectors.drop F).take N)
theorem logS_len {F N : Nat} {d : Dk} (hw : Whole d.sectors) (hr : F + N ≤ d.sectors.length) : (logS F N d).length = N * 128 := by
  unfold logS
  rw [flat_len ((hw.drop F).take N), List.length_take, List.length_drop]
  congr 1; omega
/-- The log as calls leave it: r1 is safe, r2 is behind it, in memory. -/
structure LInv (F N : Nat) (d : Dk) (g : Lo) (r1 r2 : List Rec) : Prop where
  whole : Whole d.sectors
  room : F + N ≤ d.sectors.length
  hf : g.from_ = (F : Int)
  hn : g.n = (N : Int)
  row : Row 0 (r1 ++ r2)
  pre : (logS F N d).take (bytes r1).length = bytes r1
  safe : g.safe = ((bytes r1).length : Int)
  end_ : g.end_ = ((bytes (r1 ++ r2)).length : Int)
  tail : g.tail = ⟨((bytes (r1 ++ r2)).drop ((bytes r1).length - (bytes r1).length % 128)).toArray⟩
  fit : (bytes (r1 ++ r2)).length ≤ N * 128
theorem bytes_le (r1 r2 : List Rec) : (bytes (r1 ++ r2)).length = (bytes r1).length + (bytes r2).length := by rw [bytes_append, List.length_append]
theorem bytes_one (r : Rec) : bytes [r] = putR r := by unfold bytes; simp
theorem LInv.tail_size {F N : Nat} {d : Dk} {g : Lo} {r1 r2 : List Rec} (h : LInv F N d g r1 r2) : (g.tail.size : Int) = g.end_ - (((bytes r1).length / 128 * 128 : Nat) : Int) := by
  have h1 := bytes_le r1 r2
  rw [h.tail, h.end_]
  show ((((bytes (r1 ++ r2)).drop ((bytes r1).length - (bytes r1).length % 128)).toArray.size : Nat) : Int) = _
  rw [List.size_toArray, List.length_drop]
  omega
/-- A log without bytes. -/
theorem LInv.new {F N : Nat} {d : Dk} (hw : Whole d.sectors) (hr : F + N ≤ d.sectors.length) : LInv F N d ⟨F, N, 0, 0, ⟨#[]⟩⟩ [] [] :=
  ⟨hw, hr, rfl, rfl, trivial, rfl, rfl, rfl, rfl, Nat.zero_le _⟩
/-- What Append does to it. -/
theorem LInv.append {F N : Nat} {d : Dk} {g : Lo} {r1 r2 : List Rec} (h : LInv F N d g r1 r2) (r : Rec) :
    (appendD g r = (g, 0, 1)) ∨ (appendD g r = (g, 0, 18)) ∨
    ((appendD g r).2 = (g.end_ + 1, 0) ∧ LInv F N d (appendD g r).1 r1 (r2 ++ [{ r with lsn := g.end_ + 1 }])) := by
  by_cases h1 : Right { r with lsn := g.end_ + 1 }
  · by_cases h2 : g.n * 128 - ((putR { r with lsn := g.end_ + 1 }).length : Int) < g.end_
    · refine .inr (.inl ?_)
      unfold appendD; simp only; rw [if_neg (fun hn => hn h1), if_pos h2]
    · refine .inr (.inr ?_)
      have e : appendD g r = ({ g with end_ := g.end_ + ((putR { r with lsn := g.end_ + 1 }).length : Int), tail := g.tail ++ ⟨(putR { r with lsn := g.end_ + 1 }).toArray⟩ }, g.end_ + 1, 0) := by
        unfold appendD; simp only; rw [if_neg (fun hn => hn h1), if_neg h2]
      rw [e]
      refine ⟨rfl, ?_⟩
      have hb : bytes (r1 ++ (r2 ++ [{ r with lsn := g.end_ + 1 }])) = bytes (r1 ++ r2) ++ putR { r with lsn := g.end_ + 1 } := by
        rw [← List.append_assoc, bytes_append (r1 ++ r2), bytes_one]
      refine ⟨h.whole, h.room, h.hf, h.hn, ?_, h.pre, h.safe, ?_, ?_, ?_⟩
      · rw [← List.append_assoc, row_append]
        refine ⟨h.row, h1, ?_, trivial⟩
        show g.end_ + 1 = _
        rw [h.end_]; simp
      · show g.end_ + _ = _
        rw [hb, List.length_append, h.end_]; omega
      · show g.tail ++ _ = _
        have h3 := bytes_le r1 r2
        rw [hb, h.tail, List.drop_append_of_le_length (by omega)]
        apply ByteArray.ext
        rw [ByteArray.data_append]
        simp
      · rw [hb, List.length_append]
        have h4 := h.hn
        have h5 := h.end_
        omega
  · refine .inl ?_
    unfold appendD; simp only; rw [if_pos h1]
/-! ### Force -/
theorem LInv.firstS {F N : Nat} {d : Dk} {g : Lo} {r1 r2 : List Rec} (h : LInv F N d g r1 r2) : firstS g = (((bytes r1).length / 128 : Nat) : Int) := by
  unfold Lg.firstS
  have := h.tail_size
  rw [this]
  omega
end Lg
/- The plain law of the log: what is opened and read. -/
namespace Lg
open Rc
theorem secs_ok {d : Dk} (hd : d.down = false) : ∀ (k a : Nat), a + k ≤ d.sectors.length → secsD d (a : Int) k = .ok (flat ((d.sectors.drop a).take k)) := by
  intro k
  induction k with
  | zero => intro a _; unfold secsD; rw [List.take_zero]; rfl
  | succ k ih =>
    intro a ha
    have h1 : readD d (a : Int) = (d.sectors[a]'(by omega), 0) := by
      unfold readD
      rw [hd, if_neg (by simp), if_pos (show hasD d (a : Int) from ⟨by omega, by omega⟩)]
      unfold secAt
      rw [Int.toNat_natCast, List.getElem?_eq_getElem (by omega), Option.getD_some]
    have h2 := ih (a + 1) (by omega)
    unfold secsD
    rw [h1, if_pos rfl, show ((a : Int) + 1) = ((a + 1 : Nat) : Int) by omega, h2, List.drop_eq_getElem_cons (l := d.sectors) (i := a) (by omega), List.take_succ_cons, flat_cons]
theorem part_part (L : List ByteArray) (F N a k : Nat) (h : a + k ≤ N) : (L.drop (F + a)).take k = (((L.drop F).take N).drop a).take k := by
  refine List.ext_getElem? fun i => ?_
  simp only [List.getElem?_take, List.getElem?_drop]
  by_cases h1 : i < k
  · rw [if_pos h1, if_pos h1, if_pos (by omega)]
    congr 1; omega
  · rw [if_neg h1, if_neg h1]
/-- What Open finds is a row, whatever the bytes are. -/
theorem openL_is (s : List UInt8) : ∀ (f a : Nat), a ≤ s.length → Row a (openL s f a).1 ∧ (openL s f a).2 = a + (bytes (openL s f a).1).length ∧ (openL s f a).2 ≤ s.length ∧ s.take (openL s f a).2 = s.take a ++ bytes (openL s f a).1 := by
  intro f
  induction f with
  | zero => intro a ha; unfold openL; exact ⟨trivial, rfl, ha, by simp [bytes]⟩
  | succ f ih =>
    intro a ha
    have hnone : Row a [] ∧ a = a + (bytes []).length ∧ a ≤ s.length ∧ s.take a = s.take a ++ bytes [] := ⟨trivial, rfl, ha, by simp [bytes]⟩
    by_cases hI : Is s a
    · have hg := getO_yes hI
      by_cases hn : (readM true (bodyAt s a)).lsn = (a : Int) + 1
      · have e : openL s (f + 1) a = (readM true (bodyAt s a) :: (openL s f (a + 8 + Oct.getN s a 4)).1, (openL s f (a + 8 + Oct.getN s a 4)).2) := by
          conv => lhs; unfold openL
          rw [hg]; simp only; rw [if_pos hn]
        have hlen : (putR (readM true (bodyAt s a))).length = 8 + Oct.getN s a 4 := by
          rw [putR_len, hI.2.2.2]
          unfold bodyAt
          rw [List.length_take, List.length_drop]
          have := hI.1
          omega
        obtain ⟨h1, h2, h3, h4⟩ := ih (a + 8 + Oct.getN s a 4) hI.1
        rw [e]
        have hb := is_bytes hI
        refine ⟨⟨hI.2.2.1, hn, by rw [hlen, ← Nat.add_assoc]; exact h1⟩, ?_, h3, ?_⟩
        · rw [bytes_cons, List.length_append, hlen, h2]; omega
        · rw [bytes_cons, h4, ← List.append_assoc]
          congr 1
          have h5 := congrArg (List.take (a + 8 + Oct.getN s a 4)) hb
          rw [← List.append_assoc, List.take_left' (by rw [List.length_append, List.length_take, hlen]; omega)] at h5
          exact h5
      · have e : openL s (f + 1) a = ([], a) := by
          conv => lhs; unfold openL
          rw [hg]; simp only; rw [if_neg hn]
        rw [e]; exact hnone
    · have e : openL s (f + 1) a = ([], a) := by
        conv => lhs; unfold openL
        rw [getO_no hI]
      rw [e]; exact hnone
/-- Any log that is opened is one that calls leave. -/
theorem LInv.opened {F N : Nat} {d : Dk} (hd : d.down = false) (hw : Whole d.sectors) (hr : F + N ≤ d.sectors.length) :
    (openD d F N).2 = ((openL (logS F N d) (N * 128 + 1) 0).1, 0) ∧ LInv F N d (openD d F N).1 (openL (logS F N d) (N * 128 + 1) 0).1 [] := by
  have hl := logS_len (N := N) hw hr
  have hs : secsD d (F : Int) (N : Int).toNat = .ok (logS F N d) := by rw [Int.toNat_natCast]; exact secs_ok hd N F hr
  obtain ⟨h1, h2, h3, h4⟩ := openL_is (logS F N d) (N * 128 + 1) 0 (Nat.zero_le _)
  have e : openD d F N = (⟨F, N, ((openL (logS F N d) (N * 128 + 1) 0).2 : Int), ((openL (logS F N d) (N * 128 + 1) 0).2 : Int), ⟨(((logS F N d).take (openL (logS F N d) (N * 128 + 1) 0).2).drop ((openL (logS F N d) (N * 128 + 1) 0).2 - (openL (logS F N d) (N * 128 + 1) 0).2 % 128)).toArray⟩⟩, (openL (logS F N d) (N * 128 + 1) 0).1, 0) := by
    unfold openD
    rw [hs]
    simp only
    rw [hl]
  rw [e]
  rw [Nat.zero_add] at h2
  rw [List.take_zero, List.nil_append] at h4
  refine ⟨rfl, hw, hr, rfl, rfl, by rw [List.append_nil]; exact h1, by rw [← h2]; exact h4, by rw [h2], by rw [List.append_nil, h2], ?_, by rw [List.append_nil]; omega⟩
  rw [List.append_nil, ← h2, h4]
/-- Logs that are left alike are the same. -/
theorem LInv.same {F N : Nat} {d d' : Dk} {g g' : Lo} {r1 r2 : List Rec} (h : LInv F N d g r1 r2) (h' : LInv F N d' g' r1 r2) : g = g' := by
  obtain ⟨a1, a2, a3, a4, a5⟩ := g
  obtain ⟨b1, b2, b3, b4, b5⟩ := g'
  have e1 := h.hf.trans h'.hf.symm
  have e2 := h.hn.trans h'.hn.symm
  have e3 := h.end_.trans h'.end_.symm
  have e4 := h.safe.trans h'.safe.symm
  have e5 := h.tail.trans h'.tail.symm
  simp only at e1 e2 e3 e4 e5
  subst e1 e2 e3 e4 e5
  rfl
theorem LInv.disk {F N : Nat} {d d' : Dk} {g : Lo} {r1 r2 : List Rec} (h : LInv F N d g r1 r2) (he : d'.sectors = d.sectors) : LInv F N d' g r1 r2 :=
  ⟨by rw [he]; exact h.whole, by rw [he]; exact h.room, h.hf, h.hn, h.row, by unfold logS; rw [he]; exact h.pre, h.safe, h.end_, h.tail, h.fit⟩
/-- Each record of the log is read. -/
theorem LInv.read {F N : Nat} {d : Dk} {g : Lo} {r1 r2 : List Rec} (h : LInv F N d g r1 r2) (hd : d.down = false) (x y : List Rec) (r : Rec) (hxy : r1 ++ r2 = x ++ r :: y) :
    r.lsn = ((bytes x).length : Int) + 1 ∧ readL d g (((bytes x).length : Int) + 1) = .ok r := by
  have hrow := h.row
  rw [hxy, row_append] at hrow
  obtain ⟨_, hR, hlsn, _⟩ := hrow
  rw [Nat.zero_add] at hlsn
  refine ⟨hlsn, ?_⟩
  obtain ⟨X, hX⟩ : ∃ X, X = (bytes r1).length := ⟨_, rfl⟩
  obtain ⟨A, hA⟩ : ∃ A, A = (bytes x).length := ⟨_, rfl⟩
  obtain ⟨all, hall⟩ : ∃ all, all = bytes (r1 ++ r2) := ⟨_, rfl⟩
  have hb : all = bytes x ++ (putR r ++ bytes y) := by rw [hall, hxy, bytes_append, bytes_cons]
  have hlen : all.length = A + ((putR r).length + (bytes y).length) := by rw [hb, List.length_append, List.length_append, hA]
  have hpl := putR_len r
  have hle := bytes_le r1 r2
  have hend := h.end_
  have hts := h.tail_size
  have hfit := h.fit
  have hbase : (g.end_ - (g.tail.size : Int)) / 128 = ((X / 128 : Nat) : Int) := by rw [hts, hX]; omega
  rw [← hall] at hend hle hfit
  rw [← hX] at hle
  unfold readL
  rw [if_neg (by omega)]
  simp only
  rw [hbase]
  obtain ⟨a, ha⟩ : ∃ a : Nat, a = min (A / 128) (X / 128) := ⟨_, rfl⟩
  have hmin : min ((((bytes x).length : Int) + 1 - 1) / 128) ((X / 128 : Nat) : Int) = (a : Int) := by rw [← hA]; omega
  rw [hmin]
  have h1 : g.from_ + (a : Int) = ((F + a : Nat) : Int) := by rw [h.hf]; omega
  have h2 : (((X / 128 : Nat) : Int) - (a : Int)).toNat = X / 128 - a := by omega
  have hX128 : X / 128 * 128 ≤ X := by omega
  have hroom := h.room
  rw [h1, h2, secs_ok hd _ _ (by omega), part_part _ F N a _ (by omega)]
  have hpart : flat ((((d.sectors.drop F).take N).drop a).take (X / 128 - a)) = (all.take (X / 128 * 128)).drop (a * 128) := by
    rw [flat_take (((h.whole.drop F).take N).drop a), flat_drop ((h.whole.drop F).take N)]
    show ((logS F N d).drop (a * 128)).take ((X / 128 - a) * 128) = _
    have e1 : all.take (X / 128 * 128) = (logS F N d).take (X / 128 * 128) := by
      have h3 := congrArg (List.take (X / 128 * 128)) h.pre
      rw [List.take_take, Nat.min_eq_left (by omega)] at h3
      rw [h3, hall, bytes_append, List.take_append_of_le_length (by omega)]
    rw [e1, List.drop_take]
    congr 1
    omega
  have htl : g.tail.data.toList = all.drop (X / 128 * 128) := by
    rw [h.tail, ← hall, ← hX, show X - X % 128 = X / 128 * 128 by omega]
  rw [hpart, htl]
  have hjoin : (all.take (X / 128 * 128)).drop (a * 128) ++ all.drop (X / 128 * 128) = all.drop (a * 128) := by
    conv => rhs; rw [← List.take_append_drop (X / 128 * 128) all]
    rw [List.drop_append_of_le_length (by rw [List.length_take]; omega)]
  simp only
  rw [hjoin, getO_drop _ _ _ (by omega)]
  have hpos : a * 128 + (((bytes x).length : Int) + 1 - 1 - (a : Int) * 128).toNat = (bytes x).length := by omega
  rw [hpos, hb, getO_put _ _ hR]
  simp only [Option.map_some]
  rw [if_pos hlsn]
end Lg
/- The plain law of transactions: the list, and what is done with a store. -/
namespace Tx
open Rc Lg
/-- Has a record something to say? -/
def noted (r : Rec) : Prop := 1 ≤ r.txn ∧ 1 ≤ r.kind ∧ r.kind ≤ 7
instance (r : Rec) : Decidable (noted r) := by unfold noted; exact inferInstance
/-! ### Stores -/
structure St where
  zlog : Int
  zpages : Int
  zframes : Int
  disk : Dk
  log : Lo
  hand : Int
  txns : List TxnAt
  next : Int
def fresh (n : Nat) : St := ⟨n, 0, 0, newD (n + 1), ⟨1, n, 0, 0, ⟨#[]⟩⟩, 0, [], 1⟩
end Tx
/- The plain law of transactions: what deeds leave in the log. -/
namespace Lg
open Rc
/-- The log of the disk, N sectors from the second one on, is opened as the row l. -/
structure OpensN (N : Nat) (d : Dk) (l : List Rec) : Prop where
  whole : Whole d.sectors
  len : d.sectors.length = N + 1
  opens : (openL (logS 1 N d) (N * 128 + 1) 0).1 = l
theorem OpensN.same {N : Nat} {d e : Dk} {l : List Rec} (h : OpensN N d l) (hs : e.sectors = d.sectors) : OpensN N e l :=
  ⟨by rw [hs]; exact h.whole, by rw [hs]; exact h.len, by unfold logS; rw [hs]; exact h.opens⟩
end Lg
namespace Tx
open Rc Lg
/-! ### The list is what the records make -/
/-! ### What was answered is there -/
def Has (L : List Rec) (x : Int) : Prop := ∃ r ∈ L, r.kind = 5 ∧ r.txn = x
end Tx
/- The plain law of transactions: the page's example. -/
namespace Lg
open Rc
theorem append_okT {l : Lo} {r : Rec} (h : Right { r with lsn := l.end_ + 1 }) (h2 : ¬ l.n * 128 - ((putR { r with lsn := l.end_ + 1 }).length : Int) < l.end_) : appendD l r = ({ l with end_ := l.end_ + ((putR { r with lsn := l.end_ + 1 }).length : Int), tail := l.tail ++ ⟨(putR { r with lsn := l.end_ + 1 }).toArray⟩ }, l.end_ + 1, 0) := by
  unfold appendD
  simp only
  rw [if_neg (fun hn => hn h), if_neg h2]
end Lg
namespace Tx
open Rc Lg
end Tx
/- Plain facts of checkpoints: where a disk says that the last one is. -/
namespace Ck
open Lg
/-- A place as the first sector has it: its sum, then six bytes. -/
def placeL (n : Int) : List UInt8 := Oct.putL (Oct.sumN (Oct.putL (Oct.word n) 6)) 4 ++ Oct.putL (Oct.word n) 6
theorem placeL_len (n : Int) : (placeL n).length = 10 := by unfold placeL; rw [List.length_append, Oct.putL_length, Oct.putL_length]
def sectorB (n : Int) : ByteArray := pad128 (placeL n)
theorem sectorB_size (n : Int) : (sectorB n).size = 128 := pad128_size (by rw [placeL_len]; omega)
/-- What ten bytes tell. -/
def masterL (l : List UInt8) : Int := if Oct.getL (l.take 4) = Oct.sumN ((l.drop 4).take 6) then (Oct.getL ((l.drop 4).take 6) : Int) else 0
def masterD (d : Dk) : Int := if (readD d 0).2 ≠ 0 ∨ (readD d 0).1.size < 10 then 0 else masterL (readD d 0).1.data.toList
def setD (d : Dk) (n : Int) : Dk × Int := if n < 0 ∨ 1099511627776 ≤ n then (d, 1) else writeD d 0 (sectorB n)
theorem setD_no {d : Dk} {n : Int} (h : n < 0 ∨ 1099511627776 ≤ n) : setD d n = (d, 1) := by unfold setD; rw [if_pos h]
theorem setD_yes {d : Dk} {n : Int} (h : ¬ (n < 0 ∨ 1099511627776 ≤ n)) : setD d n = writeD d 0 (sectorB n) := by unfold setD; rw [if_neg h]
theorem masterD_no {d : Dk} (h : (readD d 0).2 ≠ 0 ∨ (readD d 0).1.size < 10) : masterD d = 0 := by unfold masterD; rw [if_pos h]
theorem masterD_yes {d : Dk} (h : ¬ ((readD d 0).2 ≠ 0 ∨ (readD d 0).1.size < 10)) : masterD d = masterL (readD d 0).1.data.toList := by unfold masterD; rw [if_neg h]
theorem masterL_yes {l : List UInt8} (h : Oct.getL (l.take 4) = Oct.sumN ((l.drop 4).take 6)) : masterL l = (Oct.getL ((l.drop 4).take 6) : Int) := by unfold masterL; rw [if_pos h]
theorem masterL_no {l : List UInt8} (h : ¬ Oct.getL (l.take 4) = Oct.sumN ((l.drop 4).take 6)) : masterL l = 0 := by unfold masterL; rw [if_neg h]
theorem sectorB_list (n : Int) : (sectorB n).data.toList = placeL n ++ List.replicate 118 0 := by
  unfold sectorB pad128
  rw [placeL_len]
theorem master_sector (n : Int) (h0 : 0 ≤ n) (h1 : n < 1099511627776) : masterL (sectorB n).data.toList = n := by
  have hw : ((Oct.word n : Nat) : Int) = n := by unfold Oct.word; omega
  have hP : (Oct.putL (Oct.word n) 6).length = 6 := Oct.putL_length _ _
  have hs := Oct.sumN_lt (Oct.putL (Oct.word n) 6)
  have g6 : Oct.getL (Oct.putL (Oct.word n) 6) = Oct.word n := by rw [Oct.getL_putL, Nat.mod_eq_of_lt (by omega)]
  have hS : (Oct.putL (Oct.sumN (Oct.putL (Oct.word n) 6)) 4).length = 4 := Oct.putL_length _ _
  have g4 : Oct.getL (Oct.putL (Oct.sumN (Oct.putL (Oct.word n) 6)) 4) = Oct.sumN (Oct.putL (Oct.word n) 6) := by rw [Oct.getL_putL, Nat.mod_eq_of_lt (by omega)]
  have e : (sectorB n).data.toList = Oct.putL (Oct.sumN (Oct.putL (Oct.word n) 6)) 4 ++ (Oct.putL (Oct.word n) 6 ++ List.replicate 118 0) := by
    rw [sectorB_list]; unfold placeL; rw [List.append_assoc]
  rw [e]
  unfold masterL
  rw [List.take_left' hS, List.drop_left' hS, List.take_left' hP, g4, g6, if_pos rfl, hw]
theorem set_master {d : Dk} {n : Int} (h : (setD d n).2 = 0) : masterD (setD d n).1 = n ∧ masterD (startD (setD d n).1) = n := by
  by_cases hn : n < 0 ∨ 1099511627776 ≤ n
  · rw [setD_no hn] at h
    exact absurd h (by show ¬ (1 : Int) = 0; decide)
  rw [setD_yes hn] at h ⊢
  have hm := master_sector n (by omega) (by omega)
  unfold writeD at h ⊢
  split at h
  · exact absurd h (by show ¬ (20 : Int) = 0; decide)
  rename_i hd
  rw [if_neg hd]
  split at h
  · exact absurd h (by show ¬ (1 : Int) = 0; decide)
  rename_i hh
  rw [if_neg hh]
  split at h
  · exact absurd h (by show ¬ (20 : Int) = 0; decide)
  rename_i hl
  rw [if_neg hl]
  have hh2 : hasD d 0 := (Classical.not_not.1 hh).1
  have hlen : 0 < d.sectors.length := by have := hh2.2; omega
  have key : ∀ (lf : Int) (dn : Bool), dn = false → masterD ⟨d.sectors.set 0 (sectorB n), lf, dn⟩ = n := by
    intro lf dn hdn
    subst hdn
    have hr : readD ⟨d.sectors.set 0 (sectorB n), lf, false⟩ 0 = (sectorB n, 0) := by
      unfold readD
      rw [if_neg (by simp), if_pos ⟨by decide, by show (0 : Int) < ((d.sectors.set 0 (sectorB n)).length : Int); rw [List.length_set]; omega⟩]
      unfold secAt
      show ((d.sectors.set 0 (sectorB n))[0]?.getD ⟨#[]⟩, (0 : Int)) = _
      rw [List.getElem?_set_self hlen]
      rfl
    unfold masterD
    rw [hr, if_neg (by rw [sectorB_size]; simp)]
    exact hm
  refine ⟨key _ _ ?_, key _ _ rfl⟩
  first | rfl | simpa using hd
end Ck
/- The walks over the reference of records: small, number, pageNum, slot, Op, Entry. -/
namespace Go.Proofs.YthfglhafphfhiaaGreat
open Go.RowKit
end Go.Proofs.YthfglhafphfhiaaGreat
/- The walks over the reference of records: a text's bytes, a change's bytes. -/
namespace Rc
end Rc
namespace Go.Proofs.YthfglhafphfhiaaGreat
open Go.RowKit
end Go.Proofs.YthfglhafphfhiaaGreat
/- The walks over the reference of records: a record's bytes. -/
namespace Rc
end Rc
namespace Go.Proofs.YthfglhafphfhiaaGreat
open Go.RowKit
end Go.Proofs.YthfglhafphfhiaaGreat
/- The walks over the references of disk and log: Is, Read, first. -/
namespace Go.Proofs.YthfglhafphfhiaaGreat
open Go.RowKit
set_option maxRecDepth 100000 in
theorem ris_any (d : Lg.Dk) (A : Option Addr) (c : Nat) (a : Int) (w : World) :
    Calls Tryz.prog 75 #[diskV d A c, .int .i64 a] w fun e w' => e = .returned (.bool (decide (Lg.hasD d a))) ∧ Below w.heap.size w w' := by
  obtain ⟨L, left, down⟩ := d
  by_cases h0 : 0 ≤ a
  · by_cases h1 : a < (L.length : Int)
    · rw [decide_eq_true (show Lg.hasD ⟨L, left, down⟩ a from And.intro h0 h1)]
      go_enter Tryz.func75, Tryz.ntmps75
      go_wp2_with fail
      go_ret
      exact ⟨by simp, allocB _ _⟩
    · rw [decide_eq_false (show ¬ Lg.hasD ⟨L, left, down⟩ a from fun h => h1 h.2)]
      go_enter Tryz.func75, Tryz.ntmps75
      go_wp2_with fail
      go_ret
      exact ⟨by simp, allocB _ _⟩
  · rw [decide_eq_false (show ¬ Lg.hasD ⟨L, left, down⟩ a from fun h => h0 h.1)]
    go_enter Tryz.func75, Tryz.ntmps75
    go_wp2_with fail
    go_ret
    exact ⟨by simp, allocB _ _⟩
set_option maxRecDepth 100000 in
set_option maxHeartbeats 1000000 in
theorem rdread_any (d : Lg.Dk) (A : Option Addr) (c : Nat) (a : Int) (w : World) (h : DiskR w d A c) :
    Calls Tryz.prog 48 #[diskV d A c, .int .i64 a] w fun e w' => e = .returned (.tuple #[.string (Lg.readD d a).1, .int .i64 (Lg.readD d a).2]) ∧ Below w.heap.size w w' := by
  have HH := Lib.hid (fun W => ris_any d A c a W)
  have HR := Lib.hid h.secs
  clear h
  unfold Lg.readD
  cases hd : d.down with
  | true =>
    obtain ⟨L, left, down⟩ := d
    simp only at hd
    subst hd
    rw [if_pos rfl]
    dsimp only [diskV]
    go_enter Tryz.func48, Tryz.ntmps48
    go_wp2_with fail
    go_ret2
    exact ⟨rfl, allocB _ _⟩
  | false =>
    rw [if_neg (by simp)]
    by_cases hh : Lg.hasD d a
    · rw [if_pos hh]
      rw [decide_eq_true hh] at HH
      obtain ⟨L, left, down⟩ := d
      simp only at hd
      subst hd
      unfold Lg.hasD at hh
      unfold Lg.secAt
      dsimp only [diskV] at hh HH HR ⊢
      obtain ⟨h0, h1⟩ := hh
      obtain ⟨k, rfl⟩ := Int.eq_ofNat_of_zero_le h0
      have hk : k < L.length := by omega
      obtain ⟨b, off, rfl, hc, hbl, hcell⟩ := read_at strC_len HR.out hk
      have q0 := hcell 0 _ rfl
      simp only [Nat.mul_one, Nat.add_zero] at q0
      rw [Int.toNat_natCast, List.getElem?_eq_getElem hk, Option.getD_some]
      generalize L[k] = x at q0 ⊢
      have Q0 := Lib.hid q0
      clear q0 hcell h0
      go_enter Tryz.func48, Tryz.ntmps48
      go_upto_region 5 with (go_at_call 75; (with_reducible refine (HH.out _).mono ?_); rintro e w1 ⟨rfl, hb1⟩; have hbx := blkCell (blkNew hb1))
      have q1 : w1.cell? ⟨b, off + k, none⟩ = some (.string x) := (joinB (allocB w _) hb1).cell (p := ⟨b, off + k, none⟩) hbl |>.trans Q0.out
      have HB1 := Lib.hid (joinB (allocB w _) hb1)
      clear hb1
      go_wp2_with fail
      go_ret2
      exact ⟨rfl, HB1.out⟩
    · rw [if_neg hh]
      rw [decide_eq_false hh] at HH
      clear hh
      obtain ⟨L, left, down⟩ := d
      simp only at hd
      subst hd
      dsimp only [diskV] at HH ⊢
      go_enter Tryz.func48, Tryz.ntmps48
      go_wp2_with (go_at_call 75; (with_reducible refine (HH.out _).mono ?_); rintro e w1 ⟨rfl, hb1⟩)
      go_ret2
      exact ⟨rfl, joinB (allocB _ _) hb1⟩
end Go.Proofs.YthfglhafphfhiaaGreat
