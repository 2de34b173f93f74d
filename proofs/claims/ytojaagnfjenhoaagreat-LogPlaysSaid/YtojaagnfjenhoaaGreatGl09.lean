/- The walk over package log: Force. -/
import Derived.Test.YtojaagnfjenhoaaGreatGl08
import Derived.Deep.RegionWith
import Derived.Test.YtojaagnfjenhoaaGreatGl01
import Derived.Deep.Slices
namespace Lg
theorem writeD_left {d : Dk} {a : Int} {b : ByteArray} (h : -9223372036854775808 ≤ d.left ∧ d.left ≤ 9223372036854775807) : -9223372036854775808 ≤ (writeD d a b).1.left ∧ (writeD d a b).1.left ≤ 9223372036854775807 := by
  unfold writeD
  split
  · exact h
  split
  · exact h
  split
  · exact h
  · show _ ≤ (if 0 < d.left then d.left - 1 else d.left) ∧ (if 0 < d.left then d.left - 1 else d.left) ≤ _
    split <;> omega
theorem writeD_len {d : Dk} {a : Int} {b : ByteArray} : (writeD d a b).1.sectors.length = d.sectors.length := by
  unfold writeD
  split
  · rfl
  split
  · rfl
  split
  · rfl
  · simp
theorem putAll_go {base : Int} {all : List ByteArray} {k : Nat} {d d2 : Dk} (hw : writeD d (base + (k : Int)) (all[k]?.getD ⟨#[]⟩) = (d2, 0)) : putAll base all (k + 1) d = putAll base all k d2 := by
  conv => lhs; unfold putAll
  rw [hw, if_pos rfl]
theorem putAll_stop {base : Int} {all : List ByteArray} {k : Nat} {d d2 : Dk} {e : Int} (he : e ≠ 0) (hw : writeD d (base + (k : Int)) (all[k]?.getD ⟨#[]⟩) = (d2, e)) : putAll base all (k + 1) d = (d2, e) := by
  unfold putAll
  rw [hw, if_neg he]
theorem force_same {d : Dk} {l : Lo} (h : l.safe = l.end_) : forceD d l = (d, l, 0) := by unfold forceD; rw [if_pos h]
theorem force_stop {d d2 : Dk} {l : Lo} {e : Int} (h : ¬ l.safe = l.end_) (he : e ≠ 0) (hp : putAll (l.from_ + firstS l) (allS l) (allS l).length d = (d2, e)) : forceD d l = (d2, l, e) := by
  unfold forceD
  rw [if_neg h]
  simp only [hp]
  rw [if_neg he]
theorem force_all {d d2 : Dk} {l : Lo} (h : ¬ l.safe = l.end_) (hp : putAll (l.from_ + firstS l) (allS l) (allS l).length d = (d2, 0)) : forceD d l = (d2, forcedL l, 0) := by
  unfold forceD
  rw [if_neg h]
  simp only [hp]
  rw [if_pos trivial]
theorem allS_len (l : Lo) : (allS l).length ≤ l.tail.size / 128 + 2 := by
  unfold allS
  have := cutB_length l.tail
  split
  · rw [List.length_append, List.length_singleton]; omega
  · omega
end Lg
namespace Go.Proofs.YtojaagnfjenhoaaGreat
open Go.RowKit
/-- What Force answers. -/
def ForceOut (x : Lg.Dk × Lg.Lo × Int) (A : Option Addr) (w : World) (e : Ending) (w' : World) : Prop :=
  ∃ A' c', e = .returned (.tuple #[diskV x.1 A' c', logV x.2.1, .int .i64 x.2.2]) ∧ DiskR w' x.1 A' c' ∧ (A' = A ∨ NewT w.heap.size w' 9 A') ∧ Below w.heap.size w w'
set_option maxRecDepth 100000 in
set_option maxHeartbeats 4000000 in
theorem force_none (L : List ByteArray) (left : Int) (down : Bool) (A : Option Addr) (c : Nat) (fr n en : Int) (tl : ByteArray) (o : Lg.Dk × Lg.Lo × Int) (ho : o = (⟨L, left, down⟩, ⟨fr, n, en, en, tl⟩, 0)) (w : World) (h : DiskR w ⟨L, left, down⟩ A c) :
    Calls Tryz.prog 10 #[.agg #[.slice A L.length c, .int .i64 left, .bool down], .agg #[.int .i64 fr, .int .i64 n, .int .i64 en, .int .i64 en, .string tl]] w (ForceOut o A w) := by
  have HO := Lib.hid (fun w' (hb : Below w.heap.size w w') => show ForceOut o A w (.returned (.tuple #[.agg #[.slice A L.length c, .int .i64 left, .bool down], .agg #[.int .i64 fr, .int .i64 n, .int .i64 en, .int .i64 en, .string tl], .int .i64 0])) w' from by
    subst ho; exact ⟨A, c, rfl, ⟨h.secs.below hb, h.small⟩, .inl rfl, hb⟩)
  have hself : (en == en) = true := by simp
  clear ho h
  go_enter Tryz.func10, Tryz.ntmps10
  go_upto_region 1 with fail
  have H0 := Lib.hid (show BxL w.heap.size w [(#[.slice A L.length c, .int .i64 left, .bool down], 26), (#[.int .i64 fr, .int .i64 n, .int .i64 en, .int .i64 en, .string tl], 31), (#[.slice none 0 0, .int .i64 0, .bool false], 26), (#[.int .i64 0, .int .i64 0, .int .i64 0, .int .i64 0, .string ⟨#[]⟩], 31)] ((((w.alloc (.cells #[.slice A L.length c, .int .i64 left, .bool down] 26)).alloc (.cells #[.int .i64 fr, .int .i64 n, .int .i64 en, .int .i64 en, .string tl] 31)).alloc (.cells #[.slice none 0 0, .int .i64 0, .bool false] 26)).alloc (.cells #[.int .i64 0, .int .i64 0, .int .i64 0, .int .i64 0, .string ⟨#[]⟩] 31)) from ((((BxL.nil (Below.refl w.heap.size w)).new (by simp) #[.slice A L.length c, .int .i64 left, .bool down] 26).new (by simp) #[.int .i64 fr, .int .i64 n, .int .i64 en, .int .i64 en, .string tl] 31).new (by simp) #[.slice none 0 0, .int .i64 0, .bool false] 26).new (by simp) #[.int .i64 0, .int .i64 0, .int .i64 0, .int .i64 0, .string ⟨#[]⟩] 31)
  have hs0 : ((((w.alloc (.cells #[.slice A L.length c, .int .i64 left, .bool down] 26)).alloc (.cells #[.int .i64 fr, .int .i64 n, .int .i64 en, .int .i64 en, .string tl] 31)).alloc (.cells #[.slice none 0 0, .int .i64 0, .bool false] 26)).alloc (.cells #[.int .i64 0, .int .i64 0, .int .i64 0, .int .i64 0, .string ⟨#[]⟩] 31)).heap.size = w.heap.size + 4 := by simp
  obtain ⟨W0, hW0⟩ : ∃ W, W = (((w.alloc (.cells #[.slice A L.length c, .int .i64 left, .bool down] 26)).alloc (.cells #[.int .i64 fr, .int .i64 n, .int .i64 en, .int .i64 en, .string tl] 31)).alloc (.cells #[.slice none 0 0, .int .i64 0, .bool false] 26)).alloc (.cells #[.int .i64 0, .int .i64 0, .int .i64 0, .int .i64 0, .string ⟨#[]⟩] 31) := ⟨_, rfl⟩
  rw [← hW0] at H0 hs0 ⊢
  clear hW0
  have hc1 := blkCell (H0.out.get 1 _ rfl)
  go_upto_region 2 with fail
  clear hc1 hself
  have HD := Lib.hid H0.out.drew
  refine wp_region_held_drew (S := (fun u => u.heap[w.heap.size]? = some (.cells #[.slice A L.length c, .int .i64 left, .bool down] 26 (0, 0)) ∧ u.heap[w.heap.size + 1]? = some (.cells #[.int .i64 fr, .int .i64 n, .int .i64 en, .int .i64 en, .string tl] 31 (0, 0)))) (by kernel_rfl) ?_ (fun hHeld => ?_)
  · exact ⟨(HD.out.get0), (HD.out.get1)⟩
  refine tkW 0 (some 17) (v := ?_) rfl ?_ (tkW 1 (some 18) (v := ?_) rfl ?_ ?_)
  iterate 2 (rotate_left; focus (intro u hSu; have hSa := blkCell hSu.1; have hSb := blkCell hSu.2; clear hSu; go_simp; (try with_reducible rfl)))
  try simp only [Act.put, pS]
  refine rdH 2 none rfl (fun K hK => ?_)
  refine wantedIf (by rfl) ?_
  refine wp_store_whole 26 (.tmp 4) (.tmp 17) rfl (w.heap.size + 2) #[.slice A L.length c, .int .i64 left, .bool down] _ _ rfl rfl (HD.out.get 2 _ rfl) (by kernel_rfl) (by kernel_rfl) (by kernel_rfl) ?_
  have HE := Lib.hid (HD.out.row 2 #[.slice A L.length c, .int .i64 left, .bool down] _ rfl)
  have hSn := And.intro (HE.out.get0) (HE.out.get1)
  refine hK.out _ _ ?_ (fun hHeld => ?_)
  · exact hSn
  clear hK K
  try simp only [Act.put]
  refine rdH 3 none rfl (fun K hK => ?_)
  refine wantedIf (by rfl) ?_
  refine wp_store_whole 31 (.tmp 5) (.tmp 18) rfl (w.heap.size + 3) #[.int .i64 fr, .int .i64 n, .int .i64 en, .int .i64 en, .string tl] _ _ rfl rfl (HE.out.get 3 _ rfl) (by kernel_rfl) (by kernel_rfl) (by kernel_rfl) ?_
  have HG := Lib.hid (HE.out.row 3 #[.int .i64 fr, .int .i64 n, .int .i64 en, .int .i64 en, .string tl] _ rfl)
  clear hSn
  have hSn := And.intro (HG.out.get0) (HG.out.get1)
  refine hK.out _ _ ?_ (fun hHeld => ?_)
  · exact hSn
  clear hK K
  try simp only [Act.put]
  refine tkW 4 (some 6) (v := ?_) rfl ?_ ?_
  rotate_left
  · intro u hSu; have hSa := blkCell hSu.1; have hSb := blkCell hSu.2; clear hSu; go_simp; (try with_reducible rfl)
  try simp only [Act.put, pS]
  refine wpAnyH_done (by kernel_rfl) ?_ _
  clear hHeld hSn
  go_wp2_with fail
  refine bodyPost_ret (v := .tuple #[.agg #[.slice A L.length c, .int .i64 left, .bool down], .agg #[.int .i64 fr, .int .i64 n, .int .i64 en, .int .i64 en, .string tl], .int .i64 0]) (results_cells rfl _ _ rfl rfl (load_whole (HG.out.get 2 _ rfl) Tryz.underlying26 (by kernel_rfl) (by kernel_rfl)) (load_whole (HG.out.get 3 _ rfl) Tryz.underlying31 (by kernel_rfl) (by kernel_rfl)) rfl) rfl ?_
  exact HO.out _ HG.out.below
set_option maxRecDepth 100000 in
set_option maxHeartbeats 4000000 in
theorem force_go (d : Lg.Dk) (hlb : -9223372036854775808 ≤ d.left ∧ d.left ≤ 9223372036854775807) (A : Option Addr) (c : Nat) (fr n en sf : Int) (tl : ByteArray) (hse : ¬ sf = en) (he0 : 0 ≤ en) (he1 : en ≤ 1000000000) (_hn0 : -1000000000 ≤ n) (_hn1 : n ≤ 1000000000) (hf0 : -1000000000 ≤ fr) (hf1 : fr ≤ 1000000000) (ht : tl.size ≤ 1000000) (hte : (tl.size : Int) ≤ en) (hmod : en % 128 ≤ (tl.size : Int)) (w : World) (h : DiskR w d A c) :
    Calls Tryz.prog 10 #[.agg #[.slice A d.sectors.length c, .int .i64 d.left, .bool d.down], .agg #[.int .i64 fr, .int .i64 n, .int .i64 en, .int .i64 sf, .string tl]] w (ForceOut (Lg.forceD d ⟨fr, n, en, sf, tl⟩) A w) := by
  have HST := Lib.hid (fun d2 e (he : e ≠ 0) hp => @Lg.force_stop d d2 ⟨fr, n, en, sf, tl⟩ e hse he hp)
  have HAL := Lib.hid (fun d2 hp => @Lg.force_all d d2 ⟨fr, n, en, sf, tl⟩ hse hp)
  have HO := Lib.hid (fun A' c' w' x (hx : Lg.forceD d ⟨fr, n, en, sf, tl⟩ = x) (h1 : DiskR w' x.1 A' c') (h2 : A' = A ∨ NewT w.heap.size w' 9 A') (h3 : Below w.heap.size w w') => show ForceOut (Lg.forceD d ⟨fr, n, en, sf, tl⟩) A w (.returned (.tuple #[diskV x.1 A' c', logV x.2.1, .int .i64 x.2.2])) w' from ⟨A', c', by rw [hx], by rw [hx]; exact h1, h2, h3⟩)
  have hal := Lg.allS_len ⟨fr, n, en, sf, tl⟩
  have hcb := Lg.cutB_length tl
  have HCUT := Lib.hid (fun W => cut_any tl ht W)
  obtain ⟨C, hC⟩ : ∃ C, C = Lg.cutB tl := ⟨_, rfl⟩
  obtain ⟨all, hall⟩ : ∃ all, all = Lg.allS ⟨fr, n, en, sf, tl⟩ := ⟨_, rfl⟩
  have HDEF := Lib.hid (show all = if (en - (tl.size : Int)) / 128 + (C.length : Int) < n then C ++ [Lg.zero128] else C from by rw [hall, hC]; rfl)
  rw [← hall] at HST HAL hal
  rw [← hC] at HCUT hcb
  have hbase : Lg.firstS ⟨fr, n, en, sf, tl⟩ = (en - (tl.size : Int)) / 128 := rfl
  rw [hbase] at HST HAL
  generalize Lg.forceD d ⟨fr, n, en, sf, tl⟩ = o at HST HAL HO ⊢
  generalize ForceOut o A w = Q at HO ⊢
  have HREP : Hid (∀ W, Calls Tryz.prog 26 #[.string ⟨#[0]⟩, .int .i64 128] W fun e w' => e = .returned (.string Lg.zero128) ∧ Below W.heap.size W w') := Lib.hid (fun W => by
    have h1 := Tryz.strings_Repeat ⟨#[0]⟩ 128 W (by omega) (by show 1 * 128 ≤ _; omega)
    have e : (⟨(Lib.repeatL (⟨#[0]⟩ : ByteArray).data.toList 128).toArray⟩ : ByteArray) = Lg.zero128 := Lg.repeat_zero 128
    rw [e] at h1
    exact h1)
  have hzs := Lg.zero128_size
  have hcs : ∀ b ∈ all, b.size = 128 := by
    rw [HDEF.out, hC]
    intro b hb
    split at hb
    · rcases List.mem_append.1 hb with h1 | h1
      · exact Lg.cutB_size tl b h1
      · rw [List.mem_singleton.1 h1]; exact hzs
    · exact Lg.cutB_size tl b hb
  have HSZ := Lib.hid hcs
  generalize Lg.zero128 = z at HREP HDEF hzs
  have HR := Lib.hid h
  have hne1 : (sf == en) = false := by simpa using hse
  have hcl : C.length ≤ 10000 := by omega
  have hall2 : all.length ≤ 10000 := by simp only at hal; omega
  have HLB := Lib.hid hlb
  obtain ⟨F, hF⟩ : ∃ F : Int, F = (en - (tl.size : Int)) / 128 := ⟨_, rfl⟩
  have hF0 : 0 ≤ F := by omega
  have hF1 : F ≤ 10000000 := by omega
  have hq0 : 0 ≤ en - (tl.size : Int) := by omega
  have hwq : IntKind.i64.wrap (en - (tl.size : Int)) = en - (tl.size : Int) := IntWalk.i64_in _ (by omega)
  have HFE := Lib.hid hF
  rw [← hF] at HST HAL HDEF
  clear h hse hC hall hal hcb hbase hcs hzs hlb
  go_enter Tryz.func10, Tryz.ntmps10
  go_upto_region 1 with fail
  have H0 := Lib.hid (show BxL w.heap.size w [(#[.slice A d.sectors.length c, .int .i64 d.left, .bool d.down], 26), (#[.int .i64 fr, .int .i64 n, .int .i64 en, .int .i64 sf, .string tl], 31), (#[.slice none 0 0, .int .i64 0, .bool false], 26), (#[.int .i64 0, .int .i64 0, .int .i64 0, .int .i64 0, .string ⟨#[]⟩], 31)] ((((w.alloc (.cells #[.slice A d.sectors.length c, .int .i64 d.left, .bool d.down] 26)).alloc (.cells #[.int .i64 fr, .int .i64 n, .int .i64 en, .int .i64 sf, .string tl] 31)).alloc (.cells #[.slice none 0 0, .int .i64 0, .bool false] 26)).alloc (.cells #[.int .i64 0, .int .i64 0, .int .i64 0, .int .i64 0, .string ⟨#[]⟩] 31)) from ((((BxL.nil (Below.refl w.heap.size w)).new (by simp) #[.slice A d.sectors.length c, .int .i64 d.left, .bool d.down] 26).new (by simp) #[.int .i64 fr, .int .i64 n, .int .i64 en, .int .i64 sf, .string tl] 31).new (by simp) #[.slice none 0 0, .int .i64 0, .bool false] 26).new (by simp) #[.int .i64 0, .int .i64 0, .int .i64 0, .int .i64 0, .string ⟨#[]⟩] 31)
  have hs0 : ((((w.alloc (.cells #[.slice A d.sectors.length c, .int .i64 d.left, .bool d.down] 26)).alloc (.cells #[.int .i64 fr, .int .i64 n, .int .i64 en, .int .i64 sf, .string tl] 31)).alloc (.cells #[.slice none 0 0, .int .i64 0, .bool false] 26)).alloc (.cells #[.int .i64 0, .int .i64 0, .int .i64 0, .int .i64 0, .string ⟨#[]⟩] 31)).heap.size = w.heap.size + 4 := by simp
  obtain ⟨W0, hW0⟩ : ∃ W, W = (((w.alloc (.cells #[.slice A d.sectors.length c, .int .i64 d.left, .bool d.down] 26)).alloc (.cells #[.int .i64 fr, .int .i64 n, .int .i64 en, .int .i64 sf, .string tl] 31)).alloc (.cells #[.slice none 0 0, .int .i64 0, .bool false] 26)).alloc (.cells #[.int .i64 0, .int .i64 0, .int .i64 0, .int .i64 0, .string ⟨#[]⟩] 31) := ⟨_, rfl⟩
  rw [← hW0] at H0 hs0 ⊢
  clear hW0
  have hc1 := blkCell (H0.out.get 1 _ rfl)
  go_upto_region 4 with fail
  rw [← HFE.out]
  clear hF hq0 hwq hne1
  go_upto_region 5 with (go_at_call 25; (with_reducible refine (HCUT.out _).mono ?_); rintro e w1 ⟨v8, rfl, ho8, hb1⟩; obtain ⟨A8, c8, rfl⟩ := ownLen ho8; have hc1 := blkCell ((H0.out.step hb1).get 1 _ rfl))
  have H1 := Lib.hid (H0.out.step hb1)
  have HO8 := Lib.hid (ownMono ho8 (show w.heap.size + 4 ≤ W0.heap.size by omega))
  have hs1 : w.heap.size + 4 ≤ w1.heap.size := by have := hb1.size; omega
  clear ho8 hb1 HCUT H0 hs0
  have hwf : IntKind.i64.wrap (F + (C.length : Int)) = F + (C.length : Int) := IntWalk.i64_in _ (by omega)
  go_upto_if 35 with fail
  go_cut [8] (fun s8 wc => ∃ A8 c8, s8 = .slice A8 all.length c8 ∧ OwnL strC 1 9 (w.heap.size + 4) wc (.slice A8 all.length c8) all ∧ BxL w.heap.size w [(#[.slice A d.sectors.length c, .int .i64 d.left, .bool d.down], 26), (#[.int .i64 fr, .int .i64 n, .int .i64 en, .int .i64 sf, .string tl], 31), (#[.slice none 0 0, .int .i64 0, .bool false], 26), (#[.int .i64 0, .int .i64 0, .int .i64 0, .int .i64 0, .string ⟨#[]⟩], 31)] wc)
  case first =>
    by_cases hfit : F + (C.length : Int) < n
    · have hAL : all = C ++ [z] := by rw [HDEF.out, if_pos hfit]
      have HALL := Lib.hid hAL
      clear hAL
      go_wp2_with (first
        | (go_at_call 26; (with_reducible refine (HREP.out _).mono ?_); rintro e w2 ⟨rfl, hb2⟩; have H2 := Lib.hid (H1.out.step hb2); have HO2 := Lib.hid (ownBelow HO8.out hb2); have HB2 := Lib.hid hb2; clear hb2)
        | (at_builtin; refine wpList_push (by kernel_rfl) (.tmp 36) (.tmp 38) 24 9 Tryz.underlying24 info_string rfl (by omega) (by omega) rfl (w.heap.size + 4) _ C.length (C.flatMap strC) rfl (ownBelow HO2.out (allocB _ _)) w2.heap.size (strC z) 9 rfl (heap_alloc_new w2 _) rfl (by simp [strC, Value.oneCell']) (by omega) (by have := HB2.out.size; simp; omega) ?_; intro v7 w7 ho hg hb; obtain ⟨A7, c7, rfl⟩ := ownLen ho; have H7 := Lib.hid ((H2.out.step (allocB w2 (.cells #[.string z] 9))).under (M := w.heap.size + 4) (Nat.le_refl _) hb); have HO7 := Lib.hid (OwnL.push (enc := strC) (x := z) ho); have HG7 := Lib.hid hg; clear ho hg hb))
      go_meet
      case rel =>
        refine ⟨A7, c7, ?_, ?_, H7.out⟩
        · rw [HALL.out, List.length_append]; rfl
        · have h7 := HO7.out
          have e7 : (C ++ [z]).length = C.length + 1 := by simp
          rw [HALL.out, e7]
          exact h7
    · have hAL : all = C := by rw [HDEF.out, if_neg hfit]
      have HALL := Lib.hid hAL
      clear hAL
      go_wp2_with fail
      go_meet
      case rel =>
        refine ⟨A8, c8, ?_, ?_, H1.out⟩
        · rw [HALL.out]
        · rw [HALL.out]; exact HO8.out
  case rest =>
    obtain ⟨A8, c8, rfl, ho8, hbx⟩ := hcut
    obtain ⟨wa, rfl⟩ : ∃ wm : World, wm = wc := ⟨_, rfl⟩
    have HOA := Lib.hid ho8
    have HBA := Lib.hid hbx
    clear ho8 hbx HO8 H1 HDEF HREP hs1 hwf hcl
    have hwl : IntKind.i64.wrap ((all.length : Int) - 1) = (all.length : Int) - 1 := IntWalk.i64_in _ (by omega)
    go_wp2_with fail
    go_loopw [9] (fun i wr => ∃ (x : Int) (d2 : Lg.Dk) (A2 : Option Addr) (c2 : Nat), i = .int .i64 x ∧ -1 ≤ x ∧ x < all.length ∧ Lg.putAll (fr + F) all all.length d = Lg.putAll (fr + F) all (x + 1).toNat d2 ∧ BxL w.heap.size w [(#[.slice A2 d2.sectors.length c2, .int .i64 d2.left, .bool d2.down], 26), (#[.int .i64 fr, .int .i64 n, .int .i64 en, .int .i64 sf, .string tl], 31), (#[.slice none 0 0, .int .i64 0, .bool false], 26), (#[.int .i64 0, .int .i64 0, .int .i64 0, .int .i64 0, .string ⟨#[]⟩], 31)] wr ∧ DiskR wr d2 A2 c2 ∧ (A2 = A ∨ NewT (w.heap.size + 4) wr 9 A2) ∧ (-9223372036854775808 ≤ d2.left ∧ d2.left ≤ 9223372036854775807) ∧ d2.sectors.length = d.sectors.length ∧ OwnL strC 1 9 (w.heap.size + 4) wr (.slice A8 all.length c8) all) (fun i _ => (intOf i + 1).toNat)
    case atStart => exact ⟨(all.length : Int) - 1, d, A, c, rfl, by omega, by omega, by rw [show ((all.length : Int) - 1 + 1).toNat = all.length by omega], HBA.out, ⟨HR.out.secs.below HBA.out.below, HR.out.small⟩, .inl rfl, HLB.out, rfl, HOA.out⟩
    case round =>
      obtain ⟨x, d2, A2, c2, rfl, hx1, hx2, hput, hbx, hdr, haw, hlb2, hle2, hown⟩ := hrel
      have HPUT := Lib.hid hput
      have HBX := Lib.hid hbx
      have HDR := Lib.hid hdr
      have HAW := Lib.hid haw
      have HOW := Lib.hid hown
      have HLE := Lib.hid hle2
      have HLB2 := Lib.hid hlb2
      have HFAR := Lib.hid (show 0 < d2.sectors.length → ∀ ad, A2 = some ad → ad.block < w.heap.size ∨ w.heap.size + 4 ≤ ad.block from fun h0 ad e => by
        rcases HAW.out with h1 | h1
        · rw [h1] at e
          exact .inl (HR.out.secs.old (by rw [← HLE.out]; exact h0) ad e)
        · exact .inr (h1 ad e).1)
      clear hput hbx hdr haw hown hle2 hlb2 HBA HOA
      by_cases h0 : x = -1
      · subst h0
        have HFIN := Lib.hid (HAL.out d2 (HPUT.out.trans rfl))
        clear hx1 hx2 hwl
        obtain ⟨m, hm⟩ := Int.eq_ofNat_of_zero_le (show 0 ≤ en % 128 by omega)
        have hm2 : (m : Int) ≤ (tl.size : Int) := by omega
        have hwm : IntKind.i64.wrap ((tl.size : Int) - (m : Int)) = (tl.size : Int) - (m : Int) := IntWalk.i64_in _ (by omega)
        have hm3 : (0 : Int) ≤ (tl.size : Int) - (m : Int) := by omega
        have hm4 : (tl.size : Int) - (m : Int) ≤ (tl.size : Int) := by omega
        have hm5 : ((tl.size : Int) - (m : Int)).toNat = tl.size - m := by omega
        have HTL := Lib.hid (show Lg.forcedL ⟨fr, n, en, sf, tl⟩ = ⟨fr, n, en, en, tl.extract (tl.size - m) tl.size⟩ from by
          unfold Lg.forcedL
          simp only [hm, Int.toNat_natCast])
        have hc1 := blkCell HBX.out.get1
        have hz1 := blkFrozen HBX.out.get1
        go_upto_region 15 with fail
        have HB2 := Lib.hid (show BxL w.heap.size w [(#[.slice A2 d2.sectors.length c2, .int .i64 d2.left, .bool d2.down], 26), (#[.int .i64 fr, .int .i64 n, .int .i64 en, .int .i64 en, .string tl], 31), (#[.slice none 0 0, .int .i64 0, .bool false], 26), (#[.int .i64 0, .int .i64 0, .int .i64 0, .int .i64 0, .string ⟨#[]⟩], 31)] (wr.setCell ⟨w.heap.size + 1, 3, none⟩ (.int .i64 en)) from by have h := HBX.out.set 1 3 (.int .i64 en) _ rfl; simpa using h)
        have HAP2 := Lib.hid ((Apart.refl w.heap.size (w.heap.size + 4) wr).cell (w.heap.size + 1) 3 (.int .i64 en) (by omega) (by omega))
        obtain ⟨W2, hW2⟩ : ∃ W, W = wr.setCell ⟨w.heap.size + 1, 3, none⟩ (.int .i64 en) := ⟨_, rfl⟩
        rw [← hW2] at HB2 HAP2 ⊢
        clear hW2 hc1 hz1
        have hc1 := blkCell HB2.out.get1
        have hz1 := blkFrozen HB2.out.get1
        go_upto_region 16 with fail
        have HB3 := Lib.hid (show BxL w.heap.size w [(#[.slice A2 d2.sectors.length c2, .int .i64 d2.left, .bool d2.down], 26), (#[.int .i64 fr, .int .i64 n, .int .i64 en, .int .i64 en, .string (tl.extract (tl.size - m) tl.size)], 31), (#[.slice none 0 0, .int .i64 0, .bool false], 26), (#[.int .i64 0, .int .i64 0, .int .i64 0, .int .i64 0, .string ⟨#[]⟩], 31)] (W2.setCell ⟨w.heap.size + 1, 4, none⟩ (.string (tl.extract (tl.size - m) tl.size))) from by have h := HB2.out.set 1 4 (.string (tl.extract (tl.size - m) tl.size)) _ rfl; simpa using h)
        have HAP3 := Lib.hid (HAP2.out.cell (w.heap.size + 1) 4 (.string (tl.extract (tl.size - m) tl.size)) (by omega) (by omega))
        obtain ⟨W3, hW3⟩ : ∃ W, W = W2.setCell ⟨w.heap.size + 1, 4, none⟩ (.string (tl.extract (tl.size - m) tl.size)) := ⟨_, rfl⟩
        rw [← hW3] at HB3 HAP3 ⊢
        clear hW3 hc1 hz1 hm2 hwm hm3 hm4 hm5 hm HB2 HAP2
        obtain ⟨tl2, htl2⟩ : ∃ b, b = tl.extract (tl.size - m) tl.size := ⟨_, rfl⟩
        rw [← htl2] at HB3 HTL
        clear htl2 hmod
        have HD := Lib.hid HB3.out.drew
        refine wp_region_held_drew (S := (fun u => u.heap[w.heap.size]? = some (.cells #[.slice A2 d2.sectors.length c2, .int .i64 d2.left, .bool d2.down] 26 (0, 0)) ∧ u.heap[w.heap.size + 1]? = some (.cells #[.int .i64 fr, .int .i64 n, .int .i64 en, .int .i64 en, .string tl2] 31 (0, 0)))) (by kernel_rfl) ?_ (fun hHeld => ?_)
        · exact ⟨(HD.out.get0), (HD.out.get1)⟩
        refine tkW 0 (some 82) (v := ?_) rfl ?_ (tkW 1 (some 83) (v := ?_) rfl ?_ ?_)
        iterate 2 (rotate_left; focus (intro u hSu; have hSa := blkCell hSu.1; have hSb := blkCell hSu.2; clear hSu; go_simp; (try with_reducible rfl)))
        try simp only [Act.put, pS]
        refine rdH 2 none rfl (fun K hK => ?_)
        refine wantedIf (by rfl) ?_
        refine wp_store_whole 26 (.tmp 4) (.tmp 82) rfl (w.heap.size + 2) #[.slice A2 d2.sectors.length c2, .int .i64 d2.left, .bool d2.down] _ _ rfl rfl (HD.out.get 2 _ rfl) (by kernel_rfl) (by kernel_rfl) (by kernel_rfl) ?_
        have HE := Lib.hid (HD.out.row 2 #[.slice A2 d2.sectors.length c2, .int .i64 d2.left, .bool d2.down] _ rfl)
        have hSn := And.intro (HE.out.get0) (HE.out.get1)
        refine hK.out _ _ ?_ (fun hHeld => ?_)
        · exact hSn
        clear hK K
        try simp only [Act.put]
        refine rdH 3 none rfl (fun K hK => ?_)
        refine wantedIf (by rfl) ?_
        refine wp_store_whole 31 (.tmp 5) (.tmp 83) rfl (w.heap.size + 3) #[.int .i64 fr, .int .i64 n, .int .i64 en, .int .i64 en, .string tl2] _ _ rfl rfl (HE.out.get 3 _ rfl) (by kernel_rfl) (by kernel_rfl) (by kernel_rfl) ?_
        have HG := Lib.hid (HE.out.row 3 #[.int .i64 fr, .int .i64 n, .int .i64 en, .int .i64 en, .string tl2] _ rfl)
        clear hSn
        have hSn := And.intro (HG.out.get0) (HG.out.get1)
        refine hK.out _ _ ?_ (fun hHeld => ?_)
        · exact hSn
        clear hK K
        try simp only [Act.put]
        refine tkW 4 (some 6) (v := ?_) rfl ?_ ?_
        rotate_left
        · intro u hSu; have hSa := blkCell hSu.1; have hSb := blkCell hSu.2; clear hSu; go_simp; (try with_reducible rfl)
        try simp only [Act.put, pS]
        refine wpAnyH_done (by kernel_rfl) ?_ _
        clear hHeld hSn
        go_wp2_with fail
        refine bodyPost_ret (v := .tuple #[.agg #[.slice A2 d2.sectors.length c2, .int .i64 d2.left, .bool d2.down], .agg #[.int .i64 fr, .int .i64 n, .int .i64 en, .int .i64 en, .string tl2], .int .i64 0]) (results_cells rfl _ _ rfl rfl (load_whole (HG.out.get 2 _ rfl) Tryz.underlying26 (by kernel_rfl) (by kernel_rfl)) (load_whole (HG.out.get 3 _ rfl) Tryz.underlying31 (by kernel_rfl) (by kernel_rfl)) rfl) rfl ?_
        exact HO.out A2 c2 _ (d2, ⟨fr, n, en, en, tl2⟩, 0) (HFIN.out.trans (by rw [HTL.out])) ⟨HDR.out.secs.apart (((HAP3.out.drew).row _ _ (by omega) (by omega)).row _ _ (by omega) (by omega)) HFAR.out, HDR.out.small⟩ (HAW.out.imp id (fun h => (h.apart (lo := w.heap.size) (hi := w.heap.size + 4) (((HAP3.out.drew).row _ _ (by omega) (by omega)).row _ _ (by omega) (by omega)) (Nat.le_refl _)).mono (by omega))) HG.out.below
      · obtain ⟨k, rfl⟩ := Int.eq_ofNat_of_zero_le (show 0 ≤ x by omega)
        have hkl : k < all.length := by omega
        have hkI : (k : Int) < (all.length : Int) := by omega
        have hk0 : (0 : Int) ≤ (k : Int) := by omega
        obtain ⟨g8, cap, hv, hg8, hgl, hcap, hcell, -, -⟩ := ownAt HOW.out hkl
        injection hv with hv1 hv2 hv3
        subst hv1 hv3
        rw [strC_map, List.getElem?_map, List.getElem?_eq_getElem hkl] at hcell
        simp only [Option.map_some] at hcell
        have hys := HSZ.out all[k] (List.getElem_mem hkl)
        have HY := Lib.hid (show all[k]?.getD ⟨#[]⟩ = all[k] by rw [List.getElem?_eq_getElem hkl]; rfl)
        generalize all[k] = y at hcell hys HY
        have HCELL := Lib.hid hcell
        rw [show ((k : Int) + 1).toNat = k + 1 by omega] at HPUT
        have HWR := Lib.hid (fun W hW => dwrite_any d2 HLB2.out A2 c2 (fr + F + (k : Int)) y W hW)
        have hwl2 := @Lg.writeD_left d2 (fr + F + (k : Int)) y HLB2.out
        have hwn := @Lg.writeD_len d2 (fr + F + (k : Int)) y
        rcases hx : Lg.writeD d2 (fr + F + (k : Int)) y with ⟨d3, e3⟩
        have HGO := Lib.hid (fun (he : e3 = 0) => Lg.putAll_go (base := fr + F) (all := all) (k := k) (d := d2) (d2 := d3) (by rw [HY.out, hx, he]))
        have HSTP := Lib.hid (fun (he : e3 ≠ 0) => Lg.putAll_stop (base := fr + F) (all := all) (k := k) (d := d2) (d2 := d3) he (by rw [HY.out, hx]))
        rw [hx] at HWR hwl2 hwn
        simp only at hwl2 hwn
        have HWN := Lib.hid (hwn.trans HLE.out)
        have HWL := Lib.hid hwl2
        clear hx hwl2 hwn hcell hys h0 hwl
        have hs1 : IntKind.i64.wrap (fr + F) = fr + F := IntWalk.i64_in _ (by omega)
        have hs2 : IntKind.i64.wrap (fr + F + (k : Int)) = fr + F + (k : Int) := IntWalk.i64_in _ (by omega)
        go_upto_region 10 with fail
        go_cut [10, 11] (fun p q wc => ∃ (g : Nat) (A3 : Option Addr) (c3 : Nat), p = .pointer (some ⟨g, 0, none⟩) ∧ q = .int .i64 e3 ∧ BxL w.heap.size w [(#[.slice A2 d2.sectors.length c2, .int .i64 d2.left, .bool d2.down], 26), (#[.int .i64 fr, .int .i64 n, .int .i64 en, .int .i64 sf, .string tl], 31), (#[.slice none 0 0, .int .i64 0, .bool false], 26), (#[.int .i64 0, .int .i64 0, .int .i64 0, .int .i64 0, .string ⟨#[]⟩], 31)] wc ∧ w.heap.size + 4 ≤ g ∧ wc.heap[g]? = some (.cells #[.slice A3 d3.sectors.length c3, .int .i64 d3.left, .bool d3.down] 26 (0, 0)) ∧ DiskR wc d3 A3 c3 ∧ (A3 = A ∨ NewT (w.heap.size + 4) wc 9 A3) ∧ OwnL strC 1 9 (w.heap.size + 4) wc (.slice (some ⟨g8, 0, none⟩) all.length c8) all)
        case first =>
          have HBd := Lib.hid HBX.out.drew
          have HOd := Lib.hid (ownBelow HOW.out (Below.refl _ wr).drew)
          have HRd := Lib.hid (HDR.out.below (Below.refl _ wr).drew)
          have hsz := HBX.out.lt (i := 3) (by simp)
          have hsd : wr.heap.size ≤ wr.drew.heap.size := Nat.le_refl _
          refine wp_region_held_drew (S := (fun u => u.heap[w.heap.size]? = some (.cells #[.slice A2 d2.sectors.length c2, .int .i64 d2.left, .bool d2.down] 26 (0, 0)) ∧ u.heap[w.heap.size + 1]? = some (.cells #[.int .i64 fr, .int .i64 n, .int .i64 en, .int .i64 sf, .string tl] 31 (0, 0)) ∧ u.cell? ⟨g8, k, none⟩ = some (.string y))) (by kernel_rfl) ?_ (fun hHeld => ?_)
          · first | exact hSn | exact ⟨HBd.out.get0, HBd.out.get1, HCELL.out⟩
          refine tkW 0 (some 48) (v := ?_) rfl ?_ (tkW 1 (some 49) (v := ?_) rfl ?_ (tkW 2 (some 50) (v := ?_) rfl ?_ (tkW 3 (some 51) (v := ?_) rfl ?_ (tkW 4 (some 52) (v := ?_) rfl ?_ (tkW 5 (some 53) (v := ?_) rfl ?_ (tkW 6 (some 54) (v := ?_) rfl ?_ (tkW 7 (some 55) (v := ?_) rfl ?_ (tkW 8 (some 56) (v := ?_) rfl ?_ (tkW 9 (some 57) (v := ?_) rfl ?_ (tkW 10 (some 58) (v := ?_) rfl ?_ ?_))))))))))
          iterate 11 (rotate_left; focus (intro u hSu; obtain ⟨hSa, hSb, hSc⟩ := hSu; have hSa := blkCell hSa; have hSb := blkCell hSb; go_simp; (try with_reducible rfl)))
          try simp only [Act.put, pS]
          refine wpAnyH_ready (rs := [11, 15]) (by kernel_rfl) (by simp) ?_
          refine (AllReadyH.cons (o := { dst := some 59, op := _, type := _, pos := _, after := _, guard := _ }) rfl (fun K hK => ?_) (AllReadyH.cons (o := { dst := some 10, op := _, type := _, pos := _, after := _, guard := _ }) rfl (fun K hK => ?_) AllReadyH.nil))
          ·
            go_simp
            refine (HWR.out _ HRd.out).mono ?_; rintro e w5 ⟨A3, c3, rfl, hd3, ha3, hb5⟩; have HB5 := Lib.hid (HBd.out.step hb5); have HO5 := Lib.hid (ownBelow HOd.out hb5); have hCb := (hb5.cell (p := ⟨g8, k, none⟩) (by first | exact hgl | (simp; omega))).trans HCELL.out; have hSn := And.intro HB5.out.get0 (And.intro HB5.out.get1 hCb)
            refine hK.out _ _ ?_ (fun hHeld => ?_)
            · first | exact hSn | exact ⟨HBd.out.get0, HBd.out.get1, HCELL.out⟩
            clear hK K
            refine tkW 12 (some 47) (v := ?_) rfl ?_ (tkW 13 (some 60) (v := ?_) rfl ?_ (tkW 14 (some 61) (v := ?_) rfl ?_ ?_))
            iterate 3 (rotate_left; focus (intro u hSu; obtain ⟨hSa, hSb, hSc⟩ := hSu; have hSa := blkCell hSa; have hSb := blkCell hSb; go_simp; (try with_reducible rfl)))
            try simp only [Act.put, pS]
            refine rdH 15 (some 10) rfl (fun K hK => ?_)
            go_simp
            have HB6 := Lib.hid (HB5.out.step (allocB w5 (.cells #[.slice none 0 0, .int .i64 0, .bool false] 26))); have HO6 := Lib.hid (ownBelow HO5.out (allocB w5 (.cells #[.slice none 0 0, .int .i64 0, .bool false] 26))); have hd6 := hd3.below (allocB w5 (.cells #[.slice none 0 0, .int .i64 0, .bool false] 26)); have hCc := ((allocB w5 (.cells #[.slice none 0 0, .int .i64 0, .bool false] 26)).cell (p := ⟨g8, k, none⟩) (Nat.lt_of_lt_of_le hgl hb5.size)).trans hCb; have HG5 := heap_alloc_new w5 (.cells #[.slice none 0 0, .int .i64 0, .bool false] 26); clear hSn; have hSn := And.intro HB6.out.get0 (And.intro HB6.out.get1 hCc)
            refine hK.out _ _ ?_ (fun hHeld => ?_)
            · first | exact hSn | exact ⟨HBd.out.get0, HBd.out.get1, HCELL.out⟩
            clear hK K
            try simp only [Act.put, pS]
            refine rdH 16 none rfl (fun K hK => ?_)
            refine wantedIf (by rfl) ?_
            refine wp_store_whole 26 (.tmp 10) (.tmp 60) rfl w5.heap.size #[.slice A3 d3.sectors.length c3, .int .i64 d3.left, .bool d3.down] _ _ rfl rfl HG5 (by kernel_rfl) (by kernel_rfl) (by kernel_rfl) ?_
            have hg4 : w.heap.size + 4 ≤ w5.heap.size := (by have := hb5.size; omega)
            have HAP := Lib.hid ((Apart.refl w5.heap.size (w5.heap.size + 1) (w5.alloc (.cells #[.slice none 0 0, .int .i64 0, .bool false] 26))).row w5.heap.size #[.slice A3 d3.sectors.length c3, .int .i64 d3.left, .bool d3.down] (Nat.le_refl _) (Nat.lt_succ_self _))
            have HB7 := Lib.hid (HB6.out.under (M := w5.heap.size) (by show w.heap.size + 4 ≤ _; exact hg4) (show Below w5.heap.size (w5.alloc (.cells #[.slice none 0 0, .int .i64 0, .bool false] 26)) ((w5.alloc (.cells #[.slice none 0 0, .int .i64 0, .bool false] 26)).setRow w5.heap.size #[.slice A3 d3.sectors.length c3, .int .i64 d3.left, .bool d3.down]) from ⟨rfl, rfl, rfl, HAP.out.size, fun j hj => heap_setRow_other (w5.alloc (.cells #[.slice none 0 0, .int .i64 0, .bool false] 26)) w5.heap.size #[.slice A3 d3.sectors.length c3, .int .i64 d3.left, .bool d3.down] j (by omega)⟩))
            have hd7 : DiskR ((w5.alloc (.cells #[.slice none 0 0, .int .i64 0, .bool false] 26)).setRow w5.heap.size #[.slice A3 d3.sectors.length c3, .int .i64 d3.left, .bool d3.down]) d3 A3 c3 := ⟨hd6.secs.apart HAP.out (fun h0 ad e => .inl (hd3.secs.old h0 ad e)), hd6.small⟩
            have HG7 : ((w5.alloc (.cells #[.slice none 0 0, .int .i64 0, .bool false] 26)).setRow w5.heap.size #[.slice A3 d3.sectors.length c3, .int .i64 d3.left, .bool d3.down]).heap[w5.heap.size]? = some (.cells #[.slice A3 d3.sectors.length c3, .int .i64 d3.left, .bool d3.down] 26 (0, 0)) := setRow_heap _ _ _ _ _ _ HG5
            have HO7 := ownOther HO6.out HG5 (by decide) #[.slice A3 d3.sectors.length c3, .int .i64 d3.left, .bool d3.down]
            have hC7 := (cellOther (cs := #[.slice A3 d3.sectors.length c3, .int .i64 d3.left, .bool d3.down]) hCc HG5 (ownCell HO6.out HG5 (by decide)))
            clear hSn
            have hSn := And.intro HB7.out.get0 (And.intro HB7.out.get1 hC7)
            refine hK.out _ _ ?_ (fun hHeld => ?_)
            · first | exact hSn | exact ⟨HBd.out.get0, HBd.out.get1, HCELL.out⟩
            clear hK K
            try simp only [Act.put]
            refine tkW 17 (some 11) (v := ?_) rfl ?_ ?_
            rotate_left
            · intro u hSu; obtain ⟨hSa, hSb, hSc⟩ := hSu; have hSa := blkCell hSa; have hSb := blkCell hSb; go_simp; (try with_reducible rfl)
            try simp only [Act.put, pS]
            refine wpAnyH_done (by kernel_rfl) ?_ _
            clear hHeld hSn
            go_wp2_with fail
            go_meet
            case rel => exact ⟨_, A3, c3, rfl, rfl, HB7.out, hg4, HG7, hd7, (ha3.elim (fun h1 => by rw [h1]; exact HAW.out.imp id (fun h2 => (((h2.below (Below.refl _ wr).drew).below hb5).below (allocB w5 (.cells #[.slice none 0 0, .int .i64 0, .bool false] 26))).row _ _)) (fun h1 => .inr (((h1.below (allocB w5 (.cells #[.slice none 0 0, .int .i64 0, .bool false] 26))).row _ _).mono (by first | (simp; omega) | omega)))), HO7⟩
          ·
            go_simp
            have HBa := Lib.hid (HBd.out.step (allocB wr.drew (.cells #[.slice none 0 0, .int .i64 0, .bool false] 26))); have HOa := Lib.hid (ownBelow HOd.out (allocB wr.drew (.cells #[.slice none 0 0, .int .i64 0, .bool false] 26))); have HRa := Lib.hid (HRd.out.below (allocB wr.drew (.cells #[.slice none 0 0, .int .i64 0, .bool false] 26))); have HCa := Lib.hid (((allocB wr.drew (.cells #[.slice none 0 0, .int .i64 0, .bool false] 26)).cell (p := ⟨g8, k, none⟩) hgl).trans HCELL.out); have hSn := And.intro HBa.out.get0 (And.intro HBa.out.get1 HCa.out)
            refine hK.out _ _ ?_ (fun hHeld => ?_)
            · first | exact hSn | exact ⟨HBd.out.get0, HBd.out.get1, HCELL.out⟩
            clear hK K
            try simp only [Act.put, pS]
            refine rdH 11 (some 59) rfl (fun K hK => ?_)
            go_simp
            refine (HWR.out _ HRa.out).mono ?_; rintro e w5 ⟨A3, c3, rfl, hd3, ha3, hb5⟩; have HB5 := Lib.hid (HBa.out.step hb5); have HO5 := Lib.hid (ownBelow HOa.out hb5); have hCb := (hb5.cell (p := ⟨g8, k, none⟩) (by first | exact hgl | (simp; omega))).trans HCa.out; have hSn := And.intro HB5.out.get0 (And.intro HB5.out.get1 hCb); have HG5 := blkNew hb5
            refine hK.out _ _ ?_ (fun hHeld => ?_)
            · first | exact hSn | exact ⟨HBd.out.get0, HBd.out.get1, HCELL.out⟩
            clear hK K
            refine tkW 12 (some 47) (v := ?_) rfl ?_ (tkW 13 (some 60) (v := ?_) rfl ?_ (tkW 14 (some 61) (v := ?_) rfl ?_ ?_))
            iterate 3 (rotate_left; focus (intro u hSu; obtain ⟨hSa, hSb, hSc⟩ := hSu; have hSa := blkCell hSa; have hSb := blkCell hSb; go_simp; (try with_reducible rfl)))
            try simp only [Act.put, pS]
            refine rdH 16 none rfl (fun K hK => ?_)
            refine wantedIf (by rfl) ?_
            refine wp_store_whole 26 (.tmp 10) (.tmp 60) rfl wr.drew.heap.size #[.slice A3 d3.sectors.length c3, .int .i64 d3.left, .bool d3.down] _ _ rfl rfl HG5 (by kernel_rfl) (by kernel_rfl) (by kernel_rfl) ?_
            have hg4 : w.heap.size + 4 ≤ wr.drew.heap.size := (by omega)
            have HAP := Lib.hid ((Apart.refl wr.drew.heap.size (wr.drew.heap.size + 1) w5).row wr.drew.heap.size #[.slice A3 d3.sectors.length c3, .int .i64 d3.left, .bool d3.down] (Nat.le_refl _) (Nat.lt_succ_self _))
            have HB7 := Lib.hid (HB5.out.under (M := wr.drew.heap.size) (by show w.heap.size + 4 ≤ _; exact hg4) (show Below wr.drew.heap.size w5 (w5.setRow wr.drew.heap.size #[.slice A3 d3.sectors.length c3, .int .i64 d3.left, .bool d3.down]) from ⟨rfl, rfl, rfl, HAP.out.size, fun j hj => heap_setRow_other w5 wr.drew.heap.size #[.slice A3 d3.sectors.length c3, .int .i64 d3.left, .bool d3.down] j (by omega)⟩))
            have hd7 : DiskR (w5.setRow wr.drew.heap.size #[.slice A3 d3.sectors.length c3, .int .i64 d3.left, .bool d3.down]) d3 A3 c3 := ⟨hd3.secs.apart HAP.out (fun h0 ad e => ha3.elim (fun h1 => by rw [h1] at e; have := HDR.out.secs.old (by rw [HLE.out, ← HWN.out]; exact h0) ad e; left; exact this) (fun h1 => by have := h1 ad e; right; have := this.1; simp at this ⊢; omega)), hd3.small⟩
            have HG7 : (w5.setRow wr.drew.heap.size #[.slice A3 d3.sectors.length c3, .int .i64 d3.left, .bool d3.down]).heap[wr.drew.heap.size]? = some (.cells #[.slice A3 d3.sectors.length c3, .int .i64 d3.left, .bool d3.down] 26 (0, 0)) := setRow_heap _ _ _ _ _ _ HG5
            have HO7 := ownOther HO5.out HG5 (by decide) #[.slice A3 d3.sectors.length c3, .int .i64 d3.left, .bool d3.down]
            have hC7 := (cellOther (cs := #[.slice A3 d3.sectors.length c3, .int .i64 d3.left, .bool d3.down]) hCb HG5 (ownCell HO5.out HG5 (by decide)))
            clear hSn
            have hSn := And.intro HB7.out.get0 (And.intro HB7.out.get1 hC7)
            refine hK.out _ _ ?_ (fun hHeld => ?_)
            · first | exact hSn | exact ⟨HBd.out.get0, HBd.out.get1, HCELL.out⟩
            clear hK K
            try simp only [Act.put]
            refine tkW 17 (some 11) (v := ?_) rfl ?_ ?_
            rotate_left
            · intro u hSu; obtain ⟨hSa, hSb, hSc⟩ := hSu; have hSa := blkCell hSa; have hSb := blkCell hSb; go_simp; (try with_reducible rfl)
            try simp only [Act.put, pS]
            refine wpAnyH_done (by kernel_rfl) ?_ _
            clear hHeld hSn
            go_wp2_with fail
            go_meet
            case rel => exact ⟨_, A3, c3, rfl, rfl, HB7.out, hg4, HG7, hd7, (ha3.elim (fun h1 => by rw [h1]; exact HAW.out.imp id (fun h2 => (((h2.below (Below.refl _ wr).drew).below (allocB wr.drew (.cells #[.slice none 0 0, .int .i64 0, .bool false] 26))).below hb5).row _ _)) (fun h1 => .inr ((h1.row _ _).mono (by first | (simp; omega) | omega)))), HO7⟩
        case rest =>
          obtain ⟨g, A3, c3, rfl, rfl, hb3, hg4, hg3, hd3, ha3, ho3⟩ := hcut
          obtain ⟨wb, rfl⟩ : ∃ wm : World, wm = wc := ⟨_, rfl⟩
          have HB3 := Lib.hid hb3
          have HG3 := Lib.hid hg3
          have HD3 := Lib.hid hd3
          have HO3 := Lib.hid ho3
          have HA3 := Lib.hid ha3
          have HFR := Lib.hid (show 0 < d3.sectors.length → ∀ ad, A3 = some ad → ad.block < w.heap.size ∨ w.heap.size + 4 ≤ ad.block from fun h0 ad e => HA3.out.elim (fun h1 => by rw [h1] at e; exact .inl (HR.out.secs.old (by rw [← HWN.out]; exact h0) ad e)) (fun h1 => .inr (h1 ad e).1))
          clear hb3 hg3 hd3 ho3 ha3 HBX HOW HDR HAW HFAR HWR HCELL hs1 hs2
          go_upto_region 12 with (first
            | (with_reducible refine listLoad (by kernel_rfl) 26 (.tmp 10) rfl g rfl #[.slice A3 d3.sectors.length c3, .int .i64 d3.left, .bool d3.down] _ HG3.out _ Tryz.underlying26 (by kernel_rfl) (by kernel_rfl) ?_)
            | (with_reducible refine listStore (by kernel_rfl) 26 (.tmp 2) (.tmp 62) rfl w.heap.size #[.slice A3 d3.sectors.length c3, .int .i64 d3.left, .bool d3.down] _ _ rfl rfl HB3.out.get0 (by kernel_rfl) (by kernel_rfl) (by kernel_rfl) ?_))
          have HB4 := Lib.hid (show BxL w.heap.size w [(#[.slice A3 d3.sectors.length c3, .int .i64 d3.left, .bool d3.down], 26), (#[.int .i64 fr, .int .i64 n, .int .i64 en, .int .i64 sf, .string tl], 31), (#[.slice none 0 0, .int .i64 0, .bool false], 26), (#[.int .i64 0, .int .i64 0, .int .i64 0, .int .i64 0, .string ⟨#[]⟩], 31)] (wb.setRow w.heap.size #[.slice A3 d3.sectors.length c3, .int .i64 d3.left, .bool d3.down]) from by have h := HB3.out.row 0 #[.slice A3 d3.sectors.length c3, .int .i64 d3.left, .bool d3.down] _ rfl; simpa using h)
          have HAP4 := Lib.hid ((Apart.refl w.heap.size (w.heap.size + 4) wb).row w.heap.size #[.slice A3 d3.sectors.length c3, .int .i64 d3.left, .bool d3.down] (Nat.le_refl _) (by omega))
          have HO4 := Lib.hid (rowApart HO3.out (Nat.le_refl _) HAP4.out)
          have HD4 := Lib.hid (show DiskR (wb.setRow w.heap.size #[.slice A3 d3.sectors.length c3, .int .i64 d3.left, .bool d3.down]) d3 A3 c3 from ⟨HD3.out.secs.apart HAP4.out HFR.out, HD3.out.small⟩)
          have HA4 := Lib.hid (HA3.out.imp id (fun h => h.row w.heap.size #[.slice A3 d3.sectors.length c3, .int .i64 d3.left, .bool d3.down]))
          obtain ⟨W4, hW4⟩ : ∃ W, W = wb.setRow w.heap.size #[.slice A3 d3.sectors.length c3, .int .i64 d3.left, .bool d3.down] := ⟨_, rfl⟩
          rw [← hW4] at HB4 HAP4 HO4 HD4 HA4 ⊢
          clear hW4 HB3 HG3 HD3 HO3 HAP4
          by_cases he : e3 = 0
          · have HG := Lib.hid (HPUT.out.trans (HGO.out he))
            subst he
            clear HGO HSTP
            have hwk : IntKind.i64.wrap ((k : Int) - 1) = (k : Int) - 1 := IntWalk.i64_in _ (by omega)
            go_wp2_with fail
            go_roundw
            case rel => exact ⟨(k : Int) - 1, d3, A3, c3, rfl, by omega, by omega, by rw [show ((k : Int) - 1 + 1).toNat = k by omega]; exact HG.out, HB4.out, HD4.out, HA4.out, HWL.out, HWN.out, HO4.out⟩
            case measure => first | (simp [intOf]; done) | (simp [intOf]; omega)
          · have HFIN := Lib.hid (HST.out d3 e3 he (HPUT.out.trans (HSTP.out he)))
            have he1 : (e3 == 0) = false := by simpa using he
            have he2 : (e3 != 0) = true := by simpa using he
            clear HGO HSTP he
            go_upto_region 13 with fail
            have HD := Lib.hid HB4.out.drew
            refine wp_region_held_drew (S := (fun u => u.heap[w.heap.size]? = some (.cells #[.slice A3 d3.sectors.length c3, .int .i64 d3.left, .bool d3.down] 26 (0, 0)) ∧ u.heap[w.heap.size + 1]? = some (.cells #[.int .i64 fr, .int .i64 n, .int .i64 en, .int .i64 sf, .string tl] 31 (0, 0)))) (by kernel_rfl) ?_ (fun hHeld => ?_)
            · exact ⟨(HD.out.get0), (HD.out.get1)⟩
            refine tkW 0 (some 65) (v := ?_) rfl ?_ (tkW 1 (some 66) (v := ?_) rfl ?_ (tkW 2 (some 67) (v := ?_) rfl ?_ ?_))
            iterate 3 (rotate_left; focus (intro u hSu; have hSa := blkCell hSu.1; have hSb := blkCell hSu.2; clear hSu; go_simp; (try with_reducible rfl)))
            try simp only [Act.put, pS]
            refine rdH 3 none rfl (fun K hK => ?_)
            refine wantedIf (by rfl) ?_
            refine wp_store_whole 26 (.tmp 4) (.tmp 65) rfl (w.heap.size + 2) #[.slice A3 d3.sectors.length c3, .int .i64 d3.left, .bool d3.down] _ _ rfl rfl (HD.out.get 2 _ rfl) (by kernel_rfl) (by kernel_rfl) (by kernel_rfl) ?_
            have HE := Lib.hid (HD.out.row 2 #[.slice A3 d3.sectors.length c3, .int .i64 d3.left, .bool d3.down] _ rfl)
            have hSn := And.intro (HE.out.get0) (HE.out.get1)
            refine hK.out _ _ ?_ (fun hHeld => ?_)
            · exact hSn
            clear hK K
            try simp only [Act.put]
            refine rdH 4 none rfl (fun K hK => ?_)
            refine wantedIf (by rfl) ?_
            refine wp_store_whole 31 (.tmp 5) (.tmp 66) rfl (w.heap.size + 3) #[.int .i64 fr, .int .i64 n, .int .i64 en, .int .i64 sf, .string tl] _ _ rfl rfl (HE.out.get 3 _ rfl) (by kernel_rfl) (by kernel_rfl) (by kernel_rfl) ?_
            have HG := Lib.hid (HE.out.row 3 #[.int .i64 fr, .int .i64 n, .int .i64 en, .int .i64 sf, .string tl] _ rfl)
            clear hSn
            have hSn := And.intro (HG.out.get0) (HG.out.get1)
            refine hK.out _ _ ?_ (fun hHeld => ?_)
            · exact hSn
            clear hK K
            try simp only [Act.put]
            refine tkW 5 (some 6) (v := ?_) rfl ?_ ?_
            rotate_left
            · intro u hSu; have hSa := blkCell hSu.1; have hSb := blkCell hSu.2; clear hSu; go_simp; (try with_reducible rfl)
            try simp only [Act.put, pS]
            refine wpAnyH_done (by kernel_rfl) ?_ _
            clear hHeld hSn
            go_wp2_with fail
            refine bodyPost_ret (v := .tuple #[.agg #[.slice A3 d3.sectors.length c3, .int .i64 d3.left, .bool d3.down], .agg #[.int .i64 fr, .int .i64 n, .int .i64 en, .int .i64 sf, .string tl], .int .i64 e3]) (results_cells rfl _ _ rfl rfl (load_whole (HG.out.get 2 _ rfl) Tryz.underlying26 (by kernel_rfl) (by kernel_rfl)) (load_whole (HG.out.get 3 _ rfl) Tryz.underlying31 (by kernel_rfl) (by kernel_rfl)) rfl) rfl ?_
            exact HO.out A3 c3 _ (d3, ⟨fr, n, en, sf, tl⟩, e3) HFIN.out ⟨HD4.out.secs.apart (((Apart.refl _ _ _).drew.row _ _ (by omega) (by omega)).row _ _ (by omega) (by omega)) HFR.out, HD4.out.small⟩ (HA4.out.imp id (fun h => (h.apart (lo := w.heap.size) (hi := w.heap.size + 4) (((Apart.refl _ _ _).drew.row _ _ (by omega) (by omega)).row _ _ (by omega) (by omega)) (Nat.le_refl _)).mono (by omega))) HG.out.below
/-- Force, of any disk and log that calls made. -/
theorem force_any (d : Lg.Dk) (hlb : -9223372036854775808 ≤ d.left ∧ d.left ≤ 9223372036854775807) (A : Option Addr) (c : Nat) (l : Lg.Lo) (he0 : 0 ≤ l.end_) (he1 : l.end_ ≤ 1000000000) (hn0 : -1000000000 ≤ l.n) (hn1 : l.n ≤ 1000000000) (hf0 : -1000000000 ≤ l.from_) (hf1 : l.from_ ≤ 1000000000) (ht : l.tail.size ≤ 1000000) (hte : (l.tail.size : Int) ≤ l.end_) (hmod : l.end_ % 128 ≤ (l.tail.size : Int)) (w : World) (h : DiskR w d A c) :
    Calls Tryz.prog 10 #[diskV d A c, logV l] w (ForceOut (Lg.forceD d l) A w) := by
  obtain ⟨fr, n, en, sf, tl⟩ := l
  by_cases hse : sf = en
  · subst hse
    exact force_none d.sectors d.left d.down A c fr n sf tl _ (Lg.force_same rfl) w h
  · exact force_go d hlb A c fr n en sf tl hse he0 he1 hn0 hn1 hf0 hf1 ht hte hmod w h
end Go.Proofs.YtojaagnfjenhoaaGreat
/- Records in a slice; what Open and Read need of the plain law. -/
namespace Lg
theorem secs_len {d : Dk} (hw : ∀ b ∈ d.sectors, b.size ≤ 128) : ∀ (n : Nat) {f : Int} {l : List UInt8}, secsD d f n = .ok l → l.length ≤ n * 128 ∧ (n = 0 ∨ 0 ≤ f ∧ f + (n : Int) ≤ (d.sectors.length : Int)) := by
  intro n
  induction n with
  | zero => intro f l h; unfold secsD at h; injection h with h; subst h; exact ⟨by simp, .inl rfl⟩
  | succ n ih =>
    intro f l h
    unfold secsD at h
    split at h
    · rename_i h1
      obtain ⟨hh, hr⟩ := readD_in h1
      cases h2 : secsD d (f + 1) n with
      | error e => rw [h2] at h; cases h
      | ok l2 =>
        rw [h2] at h
        injection h with h
        obtain ⟨i1, i2⟩ := ih h2
        have hs : (readD d f).1.size ≤ 128 := by
          rw [hr]; unfold secAt
          cases h3 : d.sectors[f.toNat]? with
          | none => show (0 : Nat) ≤ 128; omega
          | some b => exact hw b (List.mem_of_getElem? h3)
        refine ⟨?_, .inr ⟨hh.1, ?_⟩⟩
        · rw [← h, List.length_append]
          have : (readD d f).1.data.toList.length = (readD d f).1.size := by simp
          omega
        · rcases i2 with i2 | i2
          · subst i2; have := hh.2; omega
          · omega
    · cases h
theorem getO_some {s : List UInt8} {a b : Nat} {r : Rc.Rec} (h : getO s a = some (r, b)) : Rc.Right r ∧ a + 8 ≤ b ∧ b ≤ s.length := by
  by_cases hI : Is s a
  · rw [getO_yes hI] at h
    injection h with h
    injection h with h1 h2
    rw [← h1, ← h2]
    exact ⟨hI.2.2.1, by omega, hI.1⟩
  · rw [getO_no hI] at h; cases h
theorem openL_none {s : List UInt8} {f a : Nat} (h : getO s a = none) : openL s (f + 1) a = ([], a) := by unfold openL; rw [h]
theorem openL_stop {s : List UInt8} {f a b : Nat} {r : Rc.Rec} (h : getO s a = some (r, b)) (hn : ¬ r.lsn = (a : Int) + 1) : openL s (f + 1) a = ([], a) := by unfold openL; rw [h]; simp only; rw [if_neg hn]
theorem openL_go {s : List UInt8} {f a b : Nat} {r : Rc.Rec} (h : getO s a = some (r, b)) (hn : r.lsn = (a : Int) + 1) : openL s (f + 1) a = (r :: (openL s f b).1, (openL s f b).2) := by
  conv => lhs; unfold openL
  rw [h]
  simp only
  rw [if_pos hn]
end Lg
namespace Go.Proofs.YtojaagnfjenhoaaGreat
open Go.RowKit
/-- A row of the call's own stays, where one block of another kind turns. -/
theorem ownSetOther {w v : World} {B g n size : Nat} {e t : TypeId} {x : Value} {xs : List Value} {cur : Array Value} {fr : Nat × Nat} (h : w.ownsRow B e size x n xs) (hg : w.heap[g]? = some (.cells cur t fr)) (hne : e ≠ t) (ha : Apart g (g + 1) w v) : v.ownsRow B e size x n xs := by
  refine ⟨h.1, ?_⟩
  rcases h.2 with hz | ⟨g', cap, cur', hv, hgB, hh, r⟩
  · exact .inl hz
  · refine .inr ⟨g', cap, cur', hv, hgB, (ha.block g' (heapLt hh) ?_).trans hh, r⟩
    rcases Nat.lt_trichotomy g' g with h1 | h1 | h1
    · exact .inl h1
    · exfalso
      subst h1
      rw [hh] at hg
      injection hg with hg
      injection hg with _ ht
      exact hne ht
    · exact .inr h1
/-- A record as it lies in a slice: with the places of its lists. -/
structure PRec where
  r : Rc.Rec
  A : Option Addr
  c : Nat
  B : Option Addr
  d : Nat
def recC (p : PRec) : List Value := [.int .i64 p.r.lsn, .int .i64 p.r.prev, .int .i64 p.r.txn, .int .i64 p.r.kind, .int .i64 p.r.page, .int .i64 p.r.next, .int .i64 p.r.num, .int .i64 p.r.op.kind, .int .i64 p.r.op.slot, .string p.r.op.old, .string p.r.op.new, .int .i64 p.r.how, .int .i64 p.r.root, .string p.r.e.key, .int .i64 p.r.e.page, .int .i64 p.r.e.slot, .slice p.A p.r.txns.length p.c, .slice p.B p.r.dirty.length p.d]
theorem recC_len (p : PRec) : (recC p).length = 18 := rfl
theorem recC_one (p : PRec) : ∀ u ∈ recC p, u.oneCell' = true := by
  intro u hu
  simp only [recC, List.mem_cons, List.not_mem_nil, or_false] at hu
  rcases hu with rfl | rfl | rfl | rfl | rfl | rfl | rfl | rfl | rfl | rfl | rfl | rfl | rfl | rfl | rfl | rfl | rfl | rfl <;> rfl
/-- The lists of all records lie in memory from block n on. -/
def RecsN (n : Nat) (w : World) (ps : List PRec) : Prop := ∀ p ∈ ps, RecN n w p.r p.A p.c p.B p.d
abbrev PRecR (w : World) (p : PRec) : Prop := RecR w p.r p.A p.c p.B p.d
theorem RecsN.nil (n : Nat) (w : World) : RecsN n w [] := fun _ h => by cases h
theorem RecsN.below {n : Nat} {w w' : World} {ps : List PRec} (h : RecsN n w ps) (hb : Below w.heap.size w w') : RecsN n w' ps := fun p hp => (h p hp).below hb
theorem RecsN.mono {n m : Nat} {w : World} {ps : List PRec} (h : RecsN n w ps) (hm : m ≤ n) : RecsN m w ps := fun p hp => (h p hp).mono hm
theorem RecsN.push {n : Nat} {w : World} {ps : List PRec} {p : PRec} (h : RecsN n w ps) (hp : RecN n w p.r p.A p.c p.B p.d) : RecsN n w (ps ++ [p]) := fun q hq => by
  rcases List.mem_append.1 hq with h1 | h1
  · exact h q h1
  · rw [List.mem_singleton.1 h1]; exact hp
theorem info_rec2 : (Tryz.prog.info? 42).map (fun i => (i.zero, i.size, i.bytes)) = some (some (.agg zeroA), 18, 200) := by kernel_rfl
/-- What Open answers. -/
def OpenOut (x : Lg.Lo × List Rc.Rec × Int) (w : World) (e : Ending) (w' : World) : Prop :=
  ∃ ps v, ps.map (·.r) = x.2.1 ∧ e = .returned (.tuple #[logV x.1, v, .int .i64 x.2.2]) ∧ OwnL recC 18 42 w.heap.size w' v ps ∧ RecsN w.heap.size w' ps ∧ Below w.heap.size w w'
end Go.Proofs.YtojaagnfjenhoaaGreat
/- Arguments that are records, rows of records, of truths, disks: opened. -/
namespace Go.Proofs.YtojaagnfjenhoaaGreat
open Go.ChangeShapes Go.WideShapes Go.ChangeAt Go.RowKit
theorem cellsS : Tryz.prog.cellsOf 9 = 1 := by kernel_rfl
theorem cellsI : Tryz.prog.cellsOf 3 = 1 := by kernel_rfl
theorem cellsB : Tryz.prog.cellsOf 4 = 1 := by kernel_rfl
theorem cellsOp : Tryz.prog.cellsOf 34 = 4 := by kernel_rfl
theorem cellsEn : Tryz.prog.cellsOf 38 = 3 := by kernel_rfl
theorem cellsRi : Tryz.prog.cellsOf 36 = 2 := by kernel_rfl
theorem cellsTx : Tryz.prog.cellsOf 106 = 4 := by kernel_rfl
theorem cellsDi : Tryz.prog.cellsOf 108 = 2 := by kernel_rfl
theorem cellsTs : Tryz.prog.cellsOf 39 = 1 := by kernel_rfl
theorem cellsDs : Tryz.prog.cellsOf 40 = 1 := by kernel_rfl
theorem cellsRe : Tryz.prog.cellsOf 42 = 18 := by kernel_rfl
theorem opFields : ∃ f0 f1 f2 f3 : Field, Tryz.prog.underlying 34 = some (.struct #[f0, f1, f2, f3]) ∧ (f0.offset = 0 ∧ f1.offset = 1 ∧ f2.offset = 2 ∧ f3.offset = 3) ∧ f0.type = 3 ∧ f1.type = 3 ∧ f2.type = 9 ∧ f3.type = 9 := ⟨_, _, _, _, Tryz.underlying34, ⟨rfl, rfl, rfl, rfl⟩, rfl, rfl, rfl, rfl⟩
theorem enFields : ∃ f0 f1 : Field, Tryz.prog.underlying 38 = some (.struct #[f0, f1]) ∧ (f0.offset = 0 ∧ f1.offset = 1) ∧ f0.type = 9 ∧ f1.type = 36 := ⟨_, _, Tryz.underlying38, ⟨rfl, rfl⟩, rfl, rfl⟩
theorem riFields : ∃ f0 f1 : Field, Tryz.prog.underlying 36 = some (.struct #[f0, f1]) ∧ (f0.offset = 0 ∧ f1.offset = 1) ∧ f0.type = 3 ∧ f1.type = 3 := ⟨_, _, Tryz.underlying36, ⟨rfl, rfl⟩, rfl, rfl⟩
theorem txFields : ∃ f0 f1 f2 f3 : Field, Tryz.prog.underlying 106 = some (.struct #[f0, f1, f2, f3]) ∧ (f0.offset = 0 ∧ f1.offset = 1 ∧ f2.offset = 2 ∧ f3.offset = 3) ∧ f0.type = 3 ∧ f1.type = 3 ∧ f2.type = 3 ∧ f3.type = 4 := ⟨_, _, _, _, Tryz.underlying106, ⟨rfl, rfl, rfl, rfl⟩, rfl, rfl, rfl, rfl⟩
theorem diFields : ∃ f0 f1 : Field, Tryz.prog.underlying 108 = some (.struct #[f0, f1]) ∧ (f0.offset = 0 ∧ f1.offset = 1) ∧ f0.type = 3 ∧ f1.type = 3 := ⟨_, _, Tryz.underlying108, ⟨rfl, rfl⟩, rfl, rfl⟩
theorem reFields : ∃ f0 f1 f2 f3 f4 f5 f6 f7 f8 f9 f10 f11 f12 : Field, Tryz.prog.underlying 42 = some (.struct #[f0, f1, f2, f3, f4, f5, f6, f7, f8, f9, f10, f11, f12]) ∧
    (f0.offset = 0 ∧ f1.offset = 1 ∧ f2.offset = 2 ∧ f3.offset = 3 ∧ f4.offset = 4 ∧ f5.offset = 5 ∧ f6.offset = 6 ∧ f7.offset = 7 ∧ f8.offset = 11 ∧ f9.offset = 12 ∧ f10.offset = 13 ∧ f11.offset = 16 ∧ f12.offset = 17) ∧
    (f0.type = 3 ∧ f1.type = 3 ∧ f2.type = 3 ∧ f3.type = 3 ∧ f4.type = 3 ∧ f5.type = 3 ∧ f6.type = 3 ∧ f7.type = 34 ∧ f8.type = 3 ∧ f9.type = 3 ∧ f10.type = 38 ∧ f11.type = 39 ∧ f12.type = 40) :=
  ⟨_, _, _, _, _, _, _, _, _, _, _, _, _, Tryz.underlying42, ⟨rfl, rfl, rfl, rfl, rfl, rfl, rfl, rfl, rfl, rfl, rfl, rfl, rfl⟩, ⟨rfl, rfl, rfl, rfl, rfl, rfl, rfl, rfl, rfl, rfl, rfl, rfl, rfl⟩⟩
theorem list2' {α : Type} {l : List α} (h : l.length = 2) : ∃ a b, l = [a, b] := by
  match l, h with
  | [a, b], _ => exact ⟨a, b, rfl⟩
theorem list3' {α : Type} {l : List α} (h : l.length = 3) : ∃ a b c, l = [a, b, c] := by
  match l, h with
  | [a, b, c], _ => exact ⟨a, b, c, rfl⟩
theorem list4' {α : Type} {l : List α} (h : l.length = 4) : ∃ a b c d, l = [a, b, c, d] := by
  match l, h with
  | [a, b, c, d], _ => exact ⟨a, b, c, d, rfl⟩
theorem list18 {α : Type} {l : List α} (h : l.length = 18) : ∃ a0 a1 a2 a3 a4 a5 a6 a7 a8 a9 b0 b1 b2 b3 b4 b5 b6 b7, l = [a0, a1, a2, a3, a4, a5, a6, a7, a8, a9, b0, b1, b2, b3, b4, b5, b6, b7] := by
  match l, h with
  | [a0, a1, a2, a3, a4, a5, a6, a7, a8, a9, b0, b1, b2, b3, b4, b5, b6, b7], _ => exact ⟨a0, a1, a2, a3, a4, a5, a6, a7, a8, a9, b0, b1, b2, b3, b4, b5, b6, b7, rfl⟩
theorem spotOf {w : World} {a : Addr} {v : Value} (h : w.cell? a = some v) : a = ⟨a.block, a.off, none⟩ ∧ a.block < w.heap.size := by
  obtain ⟨b, off, sp⟩ := a
  unfold World.cell? at h
  cases hh : w.heap[b]? with
  | none => simp [hh] at h
  | some o =>
    have hlt : b < w.heap.size := (Array.getElem?_eq_some_iff.1 hh).1
    cases o with
    | cells c t f =>
      simp only [hh] at h
      cases sp with
      | none => exact ⟨rfl, hlt⟩
      | some x => simp at h
    | _ => simp [hh] at h
/-- A datum that a machine can hold. -/
def Light {H : Type} (t : TypeId) (d : DataW H) : Prop := ∀ n ∈ DataW.weights Tryz.prog t d, n ≤ reachBytes
theorem light_of {H : Type} {ts : List TypeId} {ds : List (DataW H)} {j : Nat} {t : TypeId} {d : DataW H} (h : (DataW.weightsEach Tryz.prog ts ds).all (· ≤ reachBytes) = true) (ht : ts[j]? = some t) (hd : ds[j]? = some d) : Light t d := fun n hn => by
  have := List.all_eq_true.1 h _ (DataW.weights_mem_each ht hd n hn)
  simpa using this
theorem weights_mem_all {H : Type} {P : Program} {e : TypeId} {d : DataW H} {n : Nat} (hn : n ∈ DataW.weights P e d) : ∀ {l : List (DataW H)}, d ∈ l → n ∈ DataW.weightsAll P e l := by
  intro l
  induction l with
  | nil => intro h; cases h
  | cons a l ih =>
    intro h
    unfold DataW.weightsAll
    rcases List.mem_cons.1 h with h1 | h1
    · subst h1; exact List.mem_append_left _ hn
    · exact List.mem_append_right _ (ih h1)
theorem bytesTx : 1 ≤ Tryz.prog.bytesOf 106 := by decide +kernel
theorem bytesDi : 1 ≤ Tryz.prog.bytesOf 108 := by decide +kernel
section
variable {H : Type} {enc : TypeId × Value → H} {w : World} {base : Nat} {spare : Nat → Bool} {held : Bool}
theorem trod_field {t : TypeId} {fs : Array Field} {fuel : Nat} {cs : List Value} {x : DataW H × List MemPlace} (ht : Tryz.prog.underlying t = some (.struct fs)) (h : DataW.trod enc Tryz.prog w base spare held fuel t cs = some x) :
    ∃ n, cs.length = Tryz.prog.cellsOf t ∧ ∀ (i : Nat) (f : Field), fs[i]? = some f → ∃ y, DataW.trod enc Tryz.prog w base spare held n f.type ((cs.drop f.offset).take (Tryz.prog.cellsOf f.type)) = some y ∧ (Light t x.1 → Light f.type y.1) := by
  obtain ⟨xs, n, _, rfl, hl, hlen, hf⟩ := DataW.trod_struct ht h
  refine ⟨n, hl, fun i f hi => ?_⟩
  have hi' : i < xs.length := by rw [hlen]; exact (Array.getElem?_eq_some_iff.1 hi).1
  refine ⟨xs[i], by rw [hf i f hi, List.getElem?_eq_getElem hi'], fun hL m hm => hL m ?_⟩
  unfold DataW.weights
  rw [ht]
  exact DataW.weights_mem_each (j := i) (t := f.type) (d := xs[i].1) (by simp [hi]) (by simp [hi']) m hm
/-- A slice, opened, whatever its elements are. -/
theorem trod_row {α : Type} [Inhabited α] {en : α → List Value} {k : Nat} (hk : ∀ x, (en x).length = k) (hk0 : 0 < k) {t e : TypeId} (ht : Tryz.prog.underlying t = some (.slice e)) (hce : Tryz.prog.cellsOf e = k) (hbe : 1 ≤ Tryz.prog.bytesOf e) {Q : α → Prop}
    (he : ∀ (fuel : Nat) (cs : List Value) (x : DataW H × List MemPlace), DataW.trod enc Tryz.prog w base spare held fuel e cs = some x → Light e x.1 → ∃ o, cs = en o ∧ Q o)
    {fuel : Nat} {cs : List Value} {x : DataW H × List MemPlace} (hL : Light t x.1) (h : DataW.trod enc Tryz.prog w base spare held fuel t cs = some x) :
    ∃ (A : Option Addr) (c : Nat) (l : List α), cs = [.slice A l.length c] ∧ Reads w A c l.length (l.flatMap en) ∧ (∀ o ∈ l, Q o) ∧ l.length ≤ 140737488355328 := by
  rcases Deep.open_slice ht h with ⟨hcs, _⟩ | ⟨a', len', cap', m, n, D, Pl, hcs, hb, hl, hm, hmm, hx, hall⟩
  · exact ⟨none, 0, [], hcs, Reads.none_ _ _ _ _, (fun _ h => by cases h), Nat.zero_le _⟩
  · have hlm : len' ≤ m := by rw [hmm]; split <;> omega
    rw [hce] at hall
    rw [hx] at hL
    have hlen : len' ≤ 140737488355328 := by
      have h1 := hL _ (by unfold DataW.weights; rw [ht]; exact List.mem_cons_self ..)
      rw [List.length_map, List.length_range] at h1
      have h2 := reachBytes_lt
      have h3 := Nat.le_mul_of_pos_right (len' + (List.map (fun j => D (len' + j)) (List.range (m - len'))).length) hbe
      omega
    have hLe : ∀ i, i < len' → Light e (D i) := fun i hi n' hn' => hL n' (by
      unfold DataW.weights; rw [ht]
      exact List.mem_cons_of_mem _ (List.mem_append_left _ (weights_mem_all hn' (List.mem_map.2 ⟨i, List.mem_range.2 hi, rfl⟩))))
    obtain ⟨f, hf⟩ := Deep.choose_lt (α := α) (n := len') (p := fun i o => (∀ q u, (en o)[q]? = some u → w.cell? ((a'.add (i * k)).add q) = some u) ∧ Q o) (fun i hi => by
      obtain ⟨cs', h1, h2⟩ := hall i (by omega)
      obtain ⟨o, rfl, hQ⟩ := he _ _ _ h2 (hLe i hi)
      obtain ⟨_, _, h3⟩ := World.cells?_some h1
      refine ⟨o, fun q u hq => ?_, hQ⟩
      have hqk : q < k := by have := (List.getElem?_eq_some_iff.1 hq).1; rw [hk] at this; exact this
      rw [h3 q hqk]; exact hq)
    refine ⟨some a', cap', (List.range len').map f, by rw [hcs]; simp, ?_, ?_, by simpa using hlen⟩
    · intro h0
      have h0' : 0 < len' := by simpa using h0
      obtain ⟨u, hu⟩ : ∃ u, (en (f 0))[0]? = some u := ⟨_, List.getElem?_eq_getElem (by rw [hk]; exact hk0)⟩
      have hz := (hf 0 h0').1 0 u hu
      have hz2 : w.cell? a' = some u := by simpa [Addr.add] using hz
      obtain ⟨hsp, hlt⟩ := spotOf hz2
      refine ⟨a'.block, a'.off, by rw [← hsp], by simpa using hl, hlt, fun j u hj => ?_⟩
      have hjl : j < len' * k := by
        have := (List.getElem?_eq_some_iff.1 hj).1
        rw [flat_len hk] at this
        simpa using this
      obtain ⟨q, i, hi, rfl⟩ : ∃ q i, i < k ∧ j = q * k + i := ⟨j / k, j % k, Nat.mod_lt _ hk0, by rw [Nat.mul_comm]; exact (Nat.div_add_mod j k).symm⟩
      have hq : q < len' := by
        rcases Nat.lt_or_ge q len' with h5 | h5
        · exact h5
        · have := Nat.mul_le_mul_right k h5; omega
      rw [flat_at hk _ q i (by simpa using hq) hi] at hj
      have h5 := (hf q hq).1 i u (by simpa using hj)
      rw [hsp, Addr.add_mid, Addr.add_mid] at h5
      rw [← Nat.add_assoc]
      exact h5
    · intro o ho
      obtain ⟨i, hi, rfl⟩ := List.mem_map.1 ho
      exact (hf i (List.mem_range.1 hi)).2
theorem trod_tx (fuel : Nat) (cs : List Value) (x : DataW H × List MemPlace) (h : DataW.trod enc Tryz.prog w base spare held fuel 106 cs = some x) (_ : Light 106 x.1) : ∃ o : Rc.TxnAt, cs = txC o ∧ True := by
  obtain ⟨f0, f1, f2, f3, hu, ⟨o0, o1, o2, o3⟩, t0, t1, t2, t3⟩ := txFields
  obtain ⟨n, hl, hf⟩ := trod_field hu h
  rw [cellsTx] at hl
  obtain ⟨c0, c1, c2, c3, rfl⟩ := list4' hl
  obtain ⟨y0, h0, gh0⟩ := hf 0 f0 rfl
  obtain ⟨y1, h1, gh1⟩ := hf 1 f1 rfl
  obtain ⟨y2, h2, gh2⟩ := hf 2 f2 rfl
  obtain ⟨y3, h3, gh3⟩ := hf 3 f3 rfl
  rw [o0, t0, cellsI] at h0
  rw [o1, t1, cellsI] at h1
  rw [o2, t2, cellsI] at h2
  rw [o3, t3, cellsB] at h3
  obtain ⟨i0, e0, _, _⟩ := DataW.trod_int Tryz.underlying3 h0
  obtain ⟨i1, e1, _, _⟩ := DataW.trod_int Tryz.underlying3 h1
  obtain ⟨i2, e2, _, _⟩ := DataW.trod_int Tryz.underlying3 h2
  obtain ⟨b3, e3, _⟩ := DataW.trod_bool Tryz.underlying4 h3
  simp at e0 e1 e2 e3
  exact ⟨⟨i0, i1, i2, b3⟩, by rw [e0, e1, e2, e3]; rfl, trivial⟩
theorem trod_di (fuel : Nat) (cs : List Value) (x : DataW H × List MemPlace) (h : DataW.trod enc Tryz.prog w base spare held fuel 108 cs = some x) (_ : Light 108 x.1) : ∃ o : Rc.DirtyAt, cs = diC o ∧ True := by
  obtain ⟨f0, f1, hu, ⟨o0, o1⟩, t0, t1⟩ := diFields
  obtain ⟨n, hl, hf⟩ := trod_field hu h
  rw [cellsDi] at hl
  obtain ⟨c0, c1, rfl⟩ := list2' hl
  obtain ⟨y0, h0, gh0⟩ := hf 0 f0 rfl
  obtain ⟨y1, h1, gh1⟩ := hf 1 f1 rfl
  rw [o0, t0, cellsI] at h0
  rw [o1, t1, cellsI] at h1
  obtain ⟨i0, e0, _, _⟩ := DataW.trod_int Tryz.underlying3 h0
  obtain ⟨i1, e1, _, _⟩ := DataW.trod_int Tryz.underlying3 h1
  simp at e0 e1
  exact ⟨⟨i0, i1⟩, by rw [e0, e1]; rfl, trivial⟩
theorem trod_opr {fuel : Nat} {cs : List Value} {x : DataW H × List MemPlace} (h : DataW.trod enc Tryz.prog w base spare held fuel 34 cs = some x) : ∃ o : Rc.Op, cs = [.int .i64 o.kind, .int .i64 o.slot, .string o.old, .string o.new] := by
  obtain ⟨f0, f1, f2, f3, hu, ⟨o0, o1, o2, o3⟩, t0, t1, t2, t3⟩ := opFields
  obtain ⟨n, hl, hf⟩ := trod_field hu h
  rw [cellsOp] at hl
  obtain ⟨c0, c1, c2, c3, rfl⟩ := list4' hl
  obtain ⟨y0, h0, gh0⟩ := hf 0 f0 rfl
  obtain ⟨y1, h1, gh1⟩ := hf 1 f1 rfl
  obtain ⟨y2, h2, gh2⟩ := hf 2 f2 rfl
  obtain ⟨y3, h3, gh3⟩ := hf 3 f3 rfl
  rw [o0, t0, cellsI] at h0
  rw [o1, t1, cellsI] at h1
  rw [o2, t2, cellsS] at h2
  rw [o3, t3, cellsS] at h3
  obtain ⟨i0, e0, _, _⟩ := DataW.trod_int Tryz.underlying3 h0
  obtain ⟨i1, e1, _, _⟩ := DataW.trod_int Tryz.underlying3 h1
  obtain ⟨i2, e2, _, _⟩ := DataW.trod_string Tryz.underlying9 h2
  obtain ⟨i3, e3, _, _⟩ := DataW.trod_string Tryz.underlying9 h3
  simp at e0 e1 e2 e3
  exact ⟨⟨i0, i1, i2, i3⟩, by rw [e0, e1, e2, e3]⟩
theorem trod_en {fuel : Nat} {cs : List Value} {x : DataW H × List MemPlace} (h : DataW.trod enc Tryz.prog w base spare held fuel 38 cs = some x) : ∃ o : Rc.Key, cs = [.string o.key, .int .i64 o.page, .int .i64 o.slot] := by
  obtain ⟨f0, f1, hu, ⟨o0, o1⟩, t0, t1⟩ := enFields
  obtain ⟨g0, g1, hu2, ⟨p0, p1⟩, u0, u1⟩ := riFields
  obtain ⟨n, hl, hf⟩ := trod_field hu h
  rw [cellsEn] at hl
  obtain ⟨c0, c1, c2, rfl⟩ := list3' hl
  obtain ⟨y0, h0, gh0⟩ := hf 0 f0 rfl
  obtain ⟨y1, h1, gh1⟩ := hf 1 f1 rfl
  rw [o0, t0, cellsS] at h0
  rw [o1, t1, cellsRi] at h1
  obtain ⟨i0, e0, _, _⟩ := DataW.trod_string Tryz.underlying9 h0
  obtain ⟨n2, hl2, hf2⟩ := trod_field hu2 h1
  obtain ⟨y2, h2, gh2⟩ := hf2 0 g0 rfl
  obtain ⟨y3, h3, gh3⟩ := hf2 1 g1 rfl
  rw [p0, u0, cellsI] at h2
  rw [p1, u1, cellsI] at h3
  obtain ⟨i2, e2, _, _⟩ := DataW.trod_int Tryz.underlying3 h2
  obtain ⟨i3, e3, _, _⟩ := DataW.trod_int Tryz.underlying3 h3
  simp at e0 e2 e3
  exact ⟨⟨i0, i2, i3⟩, by rw [e0, e2, e3]⟩
instance : Inhabited Rc.TxnAt := ⟨⟨0, 0, 0, false⟩⟩
instance : Inhabited Rc.DirtyAt := ⟨⟨0, 0⟩⟩
instance : Inhabited PRec := ⟨⟨⟨0, 0, 0, 0, 0, 0, 0, ⟨0, 0, ⟨#[]⟩, ⟨#[]⟩⟩, 0, 0, ⟨⟨#[]⟩, 0, 0⟩, [], []⟩, none, 0, none, 0⟩⟩
set_option maxRecDepth 100000 in
theorem trod_rec (fuel : Nat) (cs : List Value) (x : DataW H × List MemPlace) (h : DataW.trod enc Tryz.prog w base spare held fuel 42 cs = some x) (hL : Light 42 x.1) : ∃ p : PRec, cs = recC p ∧ PRecR w p := by
  obtain ⟨f0, f1, f2, f3, f4, f5, f6, f7, f8, f9, f10, f11, f12, hu, ⟨o0, o1, o2, o3, o4, o5, o6, o7, o8, o9, o10, o11, o12⟩, ⟨t0, t1, t2, t3, t4, t5, t6, t7, t8, t9, t10, t11, t12⟩⟩ := reFields
  obtain ⟨n, hl, hf⟩ := trod_field hu h
  rw [cellsRe] at hl
  obtain ⟨a0, a1, a2, a3, a4, a5, a6, a7, a8, a9, b0, b1, b2, b3, b4, b5, b6, b7, rfl⟩ := list18 hl
  obtain ⟨y0, h0, gh0⟩ := hf 0 f0 rfl
  obtain ⟨y1, h1, gh1⟩ := hf 1 f1 rfl
  obtain ⟨y2, h2, gh2⟩ := hf 2 f2 rfl
  obtain ⟨y3, h3, gh3⟩ := hf 3 f3 rfl
  obtain ⟨y4, h4, gh4⟩ := hf 4 f4 rfl
  obtain ⟨y5, h5, gh5⟩ := hf 5 f5 rfl
  obtain ⟨y6, h6, gh6⟩ := hf 6 f6 rfl
  obtain ⟨y7, h7, gh7⟩ := hf 7 f7 rfl
  obtain ⟨y8, h8, gh8⟩ := hf 8 f8 rfl
  obtain ⟨y9, h9, gh9⟩ := hf 9 f9 rfl
  obtain ⟨y10, h10, gh10⟩ := hf 10 f10 rfl
  obtain ⟨y11, h11, gh11⟩ := hf 11 f11 rfl
  obtain ⟨y12, h12, gh12⟩ := hf 12 f12 rfl
  rw [o0, t0, cellsI] at h0
  rw [o1, t1, cellsI] at h1
  rw [o2, t2, cellsI] at h2
  rw [o3, t3, cellsI] at h3
  rw [o4, t4, cellsI] at h4
  rw [o5, t5, cellsI] at h5
  rw [o6, t6, cellsI] at h6
  rw [o7, t7, cellsOp] at h7
  rw [o8, t8, cellsI] at h8
  rw [o9, t9, cellsI] at h9
  rw [o10, t10, cellsEn] at h10
  rw [o11, t11, cellsTs] at h11
  rw [o12, t12, cellsDs] at h12
  obtain ⟨i0, e0, _, _⟩ := DataW.trod_int Tryz.underlying3 h0
  obtain ⟨i1, e1, _, _⟩ := DataW.trod_int Tryz.underlying3 h1
  obtain ⟨i2, e2, _, _⟩ := DataW.trod_int Tryz.underlying3 h2
  obtain ⟨i3, e3, _, _⟩ := DataW.trod_int Tryz.underlying3 h3
  obtain ⟨i4, e4, _, _⟩ := DataW.trod_int Tryz.underlying3 h4
  obtain ⟨i5, e5, _, _⟩ := DataW.trod_int Tryz.underlying3 h5
  obtain ⟨i6, e6, _, _⟩ := DataW.trod_int Tryz.underlying3 h6
  obtain ⟨op, e7⟩ := trod_opr h7
  obtain ⟨i8, e8, _, _⟩ := DataW.trod_int Tryz.underlying3 h8
  obtain ⟨i9, e9, _, _⟩ := DataW.trod_int Tryz.underlying3 h9
  obtain ⟨ek, e10⟩ := trod_en h10
  obtain ⟨A, c, ts, e11, r11, _, l11⟩ := trod_row (en := txC) (k := 4) (fun _ => rfl) (by omega) Tryz.underlying39 cellsTx bytesTx (Q := fun _ => True) trod_tx (by rw [← t11]; exact gh11 hL) h11
  obtain ⟨B, d, ds, e12, r12, _, l12⟩ := trod_row (en := diC) (k := 2) (fun _ => rfl) (by omega) Tryz.underlying40 cellsDi bytesDi (Q := fun _ => True) trod_di (by rw [← t12]; exact gh12 hL) h12
  simp at e0 e1 e2 e3 e4 e5 e6 e7 e8 e9 e10 e11 e12
  obtain ⟨e70, e71, e72, e73⟩ := e7
  obtain ⟨e100, e101, e102⟩ := e10
  refine ⟨⟨⟨i0, i1, i2, i3, i4, i5, i6, op, i8, i9, ek, ts, ds⟩, A, c, B, d⟩, ?_, ⟨r11, r12, l11, l12⟩⟩
  rw [e0, e1, e2, e3, e4, e5, e6, e70, e71, e72, e73, e8, e9, e100, e101, e102, e11, e12]
  rfl
end
end Go.Proofs.YtojaagnfjenhoaaGreat
