/- The walks over the statements of checkpoints: fresh, Take of the page's example, awake. -/
import Derived.Test.YthfglhafphfhiaaGreatGc09
import Derived.BigRegion
import Derived.Test.YthfglhafphfhiaaGreatGc08
import Derived.Test.YthfglhafphfhiaaGreatGc07
import Derived.Lib.ConvBytes
import Derived.Lib.AppendStr
import Derived.Lib.FrozenHead
import Derived.Deep.MidRow
import Derived.Lib.LazyBuf
import Derived.Test.YthfglhafphfhiaaGreatGc02
import Derived.Test.YthfglhafphfhiaaGreatGc04
import Derived.Test.YthfglhafphfhiaaGreatGc03
import Derived.Test.YthfglhafphfhiaaGreatGc01
import Derived.Test.YthfglhafphfhiaaGreatGc06
namespace Go.Proofs.YthfglhafphfhiaaGreat
open Go.RowKit
/-- What fresh answers, of nine sectors. -/
def Fresh9Out (w : World) (e : Ending) (w' : World) : Prop :=
  ∃ p : SP, e = .returned (storeV Ck.fresh9 p) ∧ DiskR w' Ck.fresh9.disk p.A p.c ∧ NewT 0 w' 9 p.A ∧ p.fn = 4 ∧ Reads w' p.F p.fc 4 fr4 ∧ Below w.heap.size w w'
set_option maxRecDepth 100000 in
set_option maxHeartbeats 8000000 in
theorem cfresh9_any (w : World) :
    Calls Tryz.prog 38 #[.int .i64 9] w (Fresh9Out w) := by
  have HN := Lib.hid (fun W => show Calls Tryz.prog 25 #[.int .i64 26] W (CNewOut (Lg.newD 26) W) from cnew_any 26 (by omega) (by omega) W)
  have HL := Lib.hid (fun W => lnew_any 1 9 W)
  have HP := Lib.hid (fun W => cpool_any W)
  have HF := Lib.hid (fun (A : Option Addr) (c bf : Nat) w' (hd : DiskR w' (Lg.newD 26) A c) (ht : NewT 0 w' 9 A) (hfr : Reads w' (some ⟨bf, 0, none⟩) 4 4 fr4) (hb : Below w.heap.size w w') => show Fresh9Out w (.returned (storeV Ck.fresh9 ⟨A, c, some ⟨bf, 0, none⟩, 4, 4, none, 0⟩)) w' from ⟨_, rfl, hd, ht, rfl, hfr, hb⟩)
  generalize Fresh9Out w = Q at HF ⊢
  dsimp only [storeV, Ck.fresh9, List.length_nil] at HF
  generalize Lg.newD 26 = d0 at HN HF
  go_enter Tryz.func38, Tryz.ntmps38
  go_upto_region 1 with fail
  have H0 := Lib.hid (show BxL w.heap.size w [(#[.int .i64 0, .int .i64 0, .int .i64 0, .slice none 0 0, .int .i64 0, .bool false, .int .i64 0, .int .i64 0, .int .i64 0, .int .i64 0, .string ⟨#[]⟩, .slice none 0 0, .int .i64 0, .slice none 0 0, .int .i64 0], 37)] (w.alloc (.cells #[.int .i64 0, .int .i64 0, .int .i64 0, .slice none 0 0, .int .i64 0, .bool false, .int .i64 0, .int .i64 0, .int .i64 0, .int .i64 0, .string ⟨#[]⟩, .slice none 0 0, .int .i64 0, .slice none 0 0, .int .i64 0] 37)) from ((BxL.nil (Below.refl w.heap.size w)).new (by simp) #[.int .i64 0, .int .i64 0, .int .i64 0, .slice none 0 0, .int .i64 0, .bool false, .int .i64 0, .int .i64 0, .int .i64 0, .int .i64 0, .string ⟨#[]⟩, .slice none 0 0, .int .i64 0, .slice none 0 0, .int .i64 0] 37))
  obtain ⟨W0, hW0⟩ : ∃ W, W = (w.alloc (.cells #[.int .i64 0, .int .i64 0, .int .i64 0, .slice none 0 0, .int .i64 0, .bool false, .int .i64 0, .int .i64 0, .int .i64 0, .int .i64 0, .string ⟨#[]⟩, .slice none 0 0, .int .i64 0, .slice none 0 0, .int .i64 0] 37)) := ⟨_, rfl⟩
  rw [← hW0] at H0 ⊢
  clear hW0
  go_upto_region 2 with (first
    | (go_at_call 25; (with_reducible refine (HN.out _).mono ?_); rintro e w1 ⟨A1, c1, rfl, hd1, ht1, hb1⟩; dsimp only [diskV])
    | (with_reducible refine wpList_store_new rfl 29 (.tmp 3) (.tmp 11) rfl #[.slice A1 d0.sectors.length c1, .int .i64 d0.left, .bool d0.down] _ _ rfl (by kernel_rfl) (by kernel_rfl) (by kernel_rfl) (by kernel_rfl) ?_))
  have H1 := Lib.hid (H0.out.step (pastAlloc (o := .cells #[.slice A1 d0.sectors.length c1, .int .i64 d0.left, .bool d0.down] 29) hb1))
  have HG := Lib.hid (heap_alloc_new w1 (.cells #[.slice A1 d0.sectors.length c1, .int .i64 d0.left, .bool d0.down] 29))
  have HD := Lib.hid (hd1.below (allocB w1 (.cells #[.slice A1 d0.sectors.length c1, .int .i64 d0.left, .bool d0.down] 29)))
  have HT := Lib.hid ((ht1.mono (Nat.zero_le _)).below (allocB w1 (.cells #[.slice A1 d0.sectors.length c1, .int .i64 d0.left, .bool d0.down] 29)))
  have hgd := H0.out.lt (i := 0) (by simp)
  have hgd2 : w.heap.size < w1.heap.size := by have := hb1.size; omega
  obtain ⟨gd, hge⟩ : ∃ gd, gd = w1.heap.size := ⟨_, rfl⟩
  obtain ⟨W1, hW1⟩ : ∃ W, W = w1.alloc (.cells #[.slice A1 d0.sectors.length c1, .int .i64 d0.left, .bool d0.down] 29) := ⟨_, rfl⟩
  rw [← hge] at HG hgd2
  rw [← hW1] at H1 HG HD HT
  rw [← hW1, ← hge]
  clear hge hW1 hb1 hd1 ht1 H0 HN hgd
  go_upto_region 3 with (first
    | (go_at_call 62; (with_reducible refine (HP.out _).mono ?_); rintro e w2 ⟨bf, rfl, hfr, hbf, hb2⟩)
    | (with_reducible refine wpList_store_new rfl 34 (.tmp 5) (.tmp 15) rfl #[.slice (some ⟨bf, 0, none⟩) 4 4, .int .i64 0] _ _ rfl (by kernel_rfl) (by kernel_rfl) (by kernel_rfl) (by kernel_rfl) ?_))
  have H2 := Lib.hid (H1.out.step (pastAlloc (o := .cells #[.slice (some ⟨bf, 0, none⟩) 4 4, .int .i64 0] 34) hb2))
  have HG2 := Lib.hid (blkOld HG.out (pastAlloc (o := .cells #[.slice (some ⟨bf, 0, none⟩) 4 4, .int .i64 0] 34) hb2))
  have HQ := Lib.hid (heap_alloc_new w2 (.cells #[.slice (some ⟨bf, 0, none⟩) 4 4, .int .i64 0] 34))
  have HD2 := Lib.hid (HD.out.below (pastAlloc (o := .cells #[.slice (some ⟨bf, 0, none⟩) 4 4, .int .i64 0] 34) hb2))
  have HT2 := Lib.hid (HT.out.below (pastAlloc (o := .cells #[.slice (some ⟨bf, 0, none⟩) 4 4, .int .i64 0] 34) hb2))
  have HFR := Lib.hid (hfr.below (allocB w2 (.cells #[.slice (some ⟨bf, 0, none⟩) 4 4, .int .i64 0] 34)))
  have hgp : w.heap.size < w2.heap.size := by have := H1.out.lt (i := 0) (by simp); have := hb2.size; omega
  have hbf2 : w.heap.size < bf := by have := H1.out.lt (i := 0) (by simp); omega
  obtain ⟨gp, hpe⟩ : ∃ g, g = w2.heap.size := ⟨_, rfl⟩
  obtain ⟨W2, hW2⟩ : ∃ W, W = w2.alloc (.cells #[.slice (some ⟨bf, 0, none⟩) 4 4, .int .i64 0] 34) := ⟨_, rfl⟩
  rw [← hpe] at HQ hgp
  rw [← hW2] at H2 HG2 HQ HD2 HT2 HFR
  rw [← hW2, ← hpe]
  clear hpe hW2 hb2 hfr hbf H1 HG HD HT HP
  have X0 := blkOld HG2.out (Below.refl _ W2).drew
  have Y0 := blkOld HQ.out (Below.refl _ W2).drew
  have K0 := H2.out.drew
  have E0 := HD2.out.below (Below.refl _ W2).drew
  have F0 := HT2.out.below (Below.refl _ W2).drew
  have R0 := HFR.out.below (Below.refl _ W2).drew
  refine wp_region_held_drew (S := (fun u => u.heap[gd]? = some (.cells #[.slice A1 d0.sectors.length c1, .int .i64 d0.left, .bool d0.down] 29 (0, 0)) ∧ u.heap[gp]? = some (.cells #[.slice (some ⟨bf, 0, none⟩) 4 4, .int .i64 0] 34 (0, 0)))) (by kernel_rfl) ?_ (fun hHeld => ?_)
  · first | exact hSn | exact ⟨X0, Y0⟩
  refine tkW 0 (some 17) (v := ?_) rfl ?_ ?_
  rotate_left
  · intro u hSu; clear hSu; go_simp; (try with_reducible rfl)
  try simp only [Act.put, List.setIfInBounds_toArray, List.set_cons_zero, List.set_cons_succ]
  refine tkW 1 (some 18) (v := ?_) rfl ?_ ?_
  rotate_left
  · intro u hSu; clear hSu; go_simp; (try with_reducible rfl)
  try simp only [Act.put, List.setIfInBounds_toArray, List.set_cons_zero, List.set_cons_succ]
  refine tkV 2 (some 19) (v := .agg #[.slice A1 d0.sectors.length c1, .int .i64 d0.left, .bool d0.down]) rfl (yieldsIf_load_mid (by rfl) 29 (.tmp 3) rfl gd 0 (by rfl) #[.slice A1 d0.sectors.length c1, .int .i64 d0.left, .bool d0.down].toList _ (fun u hu => (by intro j v hj; rw [Nat.zero_add, blkCell hu.1]; simpa using hj)) Tryz.underlying29 (by kernel_rfl) (by kernel_rfl)) ?_
  try simp only [Act.put, List.setIfInBounds_toArray, List.set_cons_zero, List.set_cons_succ]
  refine tkW 3 (some 20) (v := ?_) rfl ?_ ?_
  rotate_left
  · intro u hSu; clear hSu; go_simp; (try with_reducible rfl)
  try simp only [Act.put, List.setIfInBounds_toArray, List.set_cons_zero, List.set_cons_succ]
  refine tkV 5 (some 22) (v := .agg #[.slice (some ⟨bf, 0, none⟩) 4 4, .int .i64 0]) rfl (yieldsIf_load_mid (by rfl) 34 (.tmp 5) rfl gp 0 (by rfl) #[.slice (some ⟨bf, 0, none⟩) 4 4, .int .i64 0].toList _ (fun u hu => (by intro j v hj; rw [Nat.zero_add, blkCell hu.2]; simpa using hj)) Tryz.underlying34 (by kernel_rfl) (by kernel_rfl)) ?_
  try simp only [Act.put, List.setIfInBounds_toArray, List.set_cons_zero, List.set_cons_succ]
  refine rdH 4 (some 21) rfl (fun K hK => ?_)
  go_simp
  refine (HL.out _).mono ?_; rintro e w5 ⟨rfl, hb5⟩; (try dsimp only [logV]); have X1 := blkOld X0 hb5; have Y1 := blkOld Y0 hb5; have K1 := K0.step hb5; have E1 := E0.below hb5; have F1 := F0.below hb5; have R1 := R0.below hb5; have hSn := And.intro X1 Y1
  refine hK.out _ _ ?_ (fun hHeld => ?_)
  · first | exact hSn | exact ⟨X0, Y0⟩
  clear hK K
  try simp only [Act.put, List.setIfInBounds_toArray, List.set_cons_zero, List.set_cons_succ]
  refine tkW 6 (some 23) (v := ?_) rfl ?_ ?_
  rotate_left
  · intro u hSu; clear hSu; go_simp; (try with_reducible rfl)
  try simp only [Act.put, List.setIfInBounds_toArray, List.set_cons_zero, List.set_cons_succ]
  refine rdH 7 none rfl (fun K hK => ?_)
  refine wantedIf (by rfl) ?_
  refine wp_store_whole 37 (.tmp 2) (.tmp 23) rfl w.heap.size #[.int .i64 9, .int .i64 4, .int .i64 4, .slice A1 d0.sectors.length c1, .int .i64 d0.left, .bool d0.down, .int .i64 1, .int .i64 9, .int .i64 0, .int .i64 0, .string ⟨#[]⟩, .slice (some ⟨bf, 0, none⟩) 4 4, .int .i64 0, .slice none 0 0, .int .i64 1] _ _ rfl rfl K1.get0 (by kernel_rfl) (by kernel_rfl) (by kernel_rfl) ?_
  have K2 := K1.row 0 #[.int .i64 9, .int .i64 4, .int .i64 4, .slice A1 d0.sectors.length c1, .int .i64 d0.left, .bool d0.down, .int .i64 1, .int .i64 9, .int .i64 0, .int .i64 0, .string ⟨#[]⟩, .slice (some ⟨bf, 0, none⟩) 4 4, .int .i64 0, .slice none 0 0, .int .i64 1] _ rfl
  simp only [Nat.add_zero] at K2
  have X2 := F1.readsRow E1.secs K1.get0 (by decide) #[.int .i64 9, .int .i64 4, .int .i64 4, .slice A1 d0.sectors.length c1, .int .i64 d0.left, .bool d0.down, .int .i64 1, .int .i64 9, .int .i64 0, .int .i64 0, .string ⟨#[]⟩, .slice (some ⟨bf, 0, none⟩) 4 4, .int .i64 0, .slice none 0 0, .int .i64 1]
  have F2 := F1.row w.heap.size #[.int .i64 9, .int .i64 4, .int .i64 4, .slice A1 d0.sectors.length c1, .int .i64 d0.left, .bool d0.down, .int .i64 1, .int .i64 9, .int .i64 0, .int .i64 0, .string ⟨#[]⟩, .slice (some ⟨bf, 0, none⟩) 4 4, .int .i64 0, .slice none 0 0, .int .i64 1]
  have R2 := R1.offRow w.heap.size #[.int .i64 9, .int .i64 4, .int .i64 4, .slice A1 d0.sectors.length c1, .int .i64 d0.left, .bool d0.down, .int .i64 1, .int .i64 9, .int .i64 0, .int .i64 0, .string ⟨#[]⟩, .slice (some ⟨bf, 0, none⟩) 4 4, .int .i64 0, .slice none 0 0, .int .i64 1] (fun _ ad e => by injection e with e; rw [← e]; show bf ≠ w.heap.size; omega)
  have X3 := (heap_setRow_other w5 w.heap.size #[.int .i64 9, .int .i64 4, .int .i64 4, .slice A1 d0.sectors.length c1, .int .i64 d0.left, .bool d0.down, .int .i64 1, .int .i64 9, .int .i64 0, .int .i64 0, .string ⟨#[]⟩, .slice (some ⟨bf, 0, none⟩) 4 4, .int .i64 0, .slice none 0 0, .int .i64 1] gd (by omega)).trans X1
  have Y3 := (heap_setRow_other w5 w.heap.size #[.int .i64 9, .int .i64 4, .int .i64 4, .slice A1 d0.sectors.length c1, .int .i64 d0.left, .bool d0.down, .int .i64 1, .int .i64 9, .int .i64 0, .int .i64 0, .string ⟨#[]⟩, .slice (some ⟨bf, 0, none⟩) 4 4, .int .i64 0, .slice none 0 0, .int .i64 1] gp (by omega)).trans Y1
  try clear hSn
  have hSn := And.intro X3 Y3
  refine hK.out _ _ ?_ (fun hHeld => ?_)
  · first | exact hSn | exact ⟨X0, Y0⟩
  clear hK K
  try simp only [Act.put]
  refine wpAnyH_done (by kernel_rfl) ?_ _
  clear hHeld hSn
  go_wp2_with fail
  refine bodyPost_ret (v := .agg #[.int .i64 9, .int .i64 4, .int .i64 4, .slice A1 d0.sectors.length c1, .int .i64 d0.left, .bool d0.down, .int .i64 1, .int .i64 9, .int .i64 0, .int .i64 0, .string ⟨#[]⟩, .slice (some ⟨bf, 0, none⟩) 4 4, .int .i64 0, .slice none 0 0, .int .i64 1]) (results_cell rfl _ _ rfl (load_whole (setRow_heap _ _ _ _ _ _ K1.get0) Tryz.underlying37 (by kernel_rfl) (by kernel_rfl))) rfl ?_
  exact HF.out A1 c1 bf _ ⟨X2, E1.small⟩ F2 R2 K2.below
/-- What Take answers, of the page's example. -/
def Take9Out (d2 : Lg.Dk) (l2 : Lg.Lo) (p : SP) (w : World) (e : Ending) (w' : World) : Prop :=
  ∃ A' c', e = .returned (.tuple #[storeV ⟨9, 4, 4, d2, l2, 0, [], 1⟩ { p with A := A', c := c' }, .int .i64 0]) ∧ DiskR w' d2 A' c' ∧ Below w.heap.size w w'
set_option maxRecDepth 100000 in
set_option maxHeartbeats 8000000 in
theorem ctake9_any (p : SP) (hf : p.fn = 4) (l1 l2 : Lg.Lo) (d1 d2 : Lg.Dk) (e1 : Lg.appendD ⟨1, 9, 0, 0, ⟨#[]⟩⟩ Ck.chR = (l1, 1, 0)) (e2 : Lg.forceD (Lg.newD 26) l1 = (d1, l2, 0)) (e3 : Ck.setD d1 1 = (d2, 0))
    (hl1 : l1.from_ = 1 ∧ l1.n = 9 ∧ l1.end_ = 37 ∧ l1.tail.size = 37) (hd1 : d1.left = -1) (w : World) (h : DiskR w (Lg.newD 26) p.A p.c) (ht : NewT 0 w 9 p.A) (hr : Reads w p.F p.fc 4 fr4) :
    Calls Tryz.prog 39 #[storeV Ck.fresh9 p] w (Take9Out d2 l2 p w) := by
  obtain ⟨k1, k2, k3, k4⟩ := hl1
  have HAPP := Lib.hid (fun (TA : Option Addr) (tc : Nat) W => show Calls Tryz.prog 63 #[logV ⟨1, 9, 0, 0, ⟨#[]⟩⟩, .agg #[.int .i64 0, .int .i64 0, .int .i64 0, .int .i64 9, .int .i64 0, .int .i64 0, .int .i64 1, .int .i64 0, .int .i64 0, .string ⟨#[]⟩, .string ⟨#[]⟩, .int .i64 0, .int .i64 0, .string ⟨#[]⟩, .int .i64 0, .int .i64 0, .slice TA 0 tc, .slice none 0 0]] W (AppOut (l1, 1, 0) W) from by
    have h9 := append_any ⟨1, 9, 0, 0, ⟨#[]⟩⟩ (by decide) (by decide) (by decide) (by decide) (by decide) Ck.chR TA none tc 0 W ⟨Reads.none_ _ _ _ _, Reads.none_ _ _ _ _, by decide, by decide⟩
    rw [e1] at h9
    exact h9)
  have HFO := Lib.hid (fun A c W (hd : DiskR W (Lg.newD 26) A c) => show Calls Tryz.prog 53 #[diskV (Lg.newD 26) A c, logV l1] W (ForceOut (d1, l2, 0) A W) from by
    have h9 := force_any (Lg.newD 26) (by decide) A c l1 (by rw [k3]; decide) (by rw [k3]; decide) (by rw [k2]; decide) (by rw [k2]; decide) (by rw [k1]; decide) (by rw [k1]; decide) (by rw [k4]; decide) (by rw [k3, k4]; decide) (by rw [k3, k4]; decide) W hd
    rw [e2] at h9
    exact h9)
  have HSE := Lib.hid (fun A c W (hd : DiskR W d1 A c) => show Calls Tryz.prog 16 #[diskV d1 A c, .int .i64 1] W (WriteOut (d2, 0) A W) from by
    have h9 := cset_any d1 (by rw [hd1]; decide) A c 1 W hd
    rw [e3] at h9
    exact h9)
  have HDI := Lib.hid (fun W (hb : Below w.heap.size w W) => cdirty_any Ck.fresh9 p hf W (hr.below hb))
  have HK0 := Lib.hid (show DkR w.heap.size w (Lg.newD 26) p.A p.A p.c from ⟨h, ht, .inl rfl⟩)
  have HM := Lib.hid (fun A' c' w' (h1 : DiskR w' d2 A' c') (h2 : Below w.heap.size w w') => show Take9Out d2 l2 p w (.returned (.tuple #[storeV ⟨9, 4, 4, d2, l2, 0, [], 1⟩ { p with A := A', c := c' }, .int .i64 0])) w' from ⟨A', c', rfl, h1, h2⟩)
  generalize Take9Out d2 l2 p w = Q at HM ⊢
  clear e1 e2 e3 k1 k2 k3 k4 hd1 h ht hr
  obtain ⟨A, c, F, fn, fc, TA, tc⟩ := p
  simp only at hf
  subst hf
  have HAP := Lib.hid (fun W => HAPP.out TA tc W)
  clear HAPP
  dsimp only [storeV, Ck.fresh9, logV, diskV, List.length_nil] at HM HDI HAP HFO HSE HK0 ⊢
  generalize Lg.newD 26 = d0 at HFO HDI HK0 ⊢
  go_enter Tryz.func39, Tryz.ntmps39
  go_upto_region 1 with fail
  have H0 := Lib.hid (show BxL w.heap.size w [(#[.int .i64 9, .int .i64 4, .int .i64 4, .slice A d0.sectors.length c, .int .i64 d0.left, .bool d0.down, .int .i64 1, .int .i64 9, .int .i64 0, .int .i64 0, .string ⟨#[]⟩, .slice F 4 fc, .int .i64 0, .slice TA 0 tc, .int .i64 1], 37), (#[.int .i64 0, .int .i64 0, .int .i64 0, .slice none 0 0, .int .i64 0, .bool false, .int .i64 0, .int .i64 0, .int .i64 0, .int .i64 0, .string ⟨#[]⟩, .slice none 0 0, .int .i64 0, .slice none 0 0, .int .i64 0], 37)] ((w.alloc (.cells #[.int .i64 9, .int .i64 4, .int .i64 4, .slice A d0.sectors.length c, .int .i64 d0.left, .bool d0.down, .int .i64 1, .int .i64 9, .int .i64 0, .int .i64 0, .string ⟨#[]⟩, .slice F 4 fc, .int .i64 0, .slice TA 0 tc, .int .i64 1] 37)).alloc (.cells #[.int .i64 0, .int .i64 0, .int .i64 0, .slice none 0 0, .int .i64 0, .bool false, .int .i64 0, .int .i64 0, .int .i64 0, .int .i64 0, .string ⟨#[]⟩, .slice none 0 0, .int .i64 0, .slice none 0 0, .int .i64 0] 37)) from (((BxL.nil (Below.refl w.heap.size w)).new (by simp) #[.int .i64 9, .int .i64 4, .int .i64 4, .slice A d0.sectors.length c, .int .i64 d0.left, .bool d0.down, .int .i64 1, .int .i64 9, .int .i64 0, .int .i64 0, .string ⟨#[]⟩, .slice F 4 fc, .int .i64 0, .slice TA 0 tc, .int .i64 1] 37).new (by simp) #[.int .i64 0, .int .i64 0, .int .i64 0, .slice none 0 0, .int .i64 0, .bool false, .int .i64 0, .int .i64 0, .int .i64 0, .int .i64 0, .string ⟨#[]⟩, .slice none 0 0, .int .i64 0, .slice none 0 0, .int .i64 0] 37))
  obtain ⟨W0, hW0⟩ : ∃ W, W = ((w.alloc (.cells #[.int .i64 9, .int .i64 4, .int .i64 4, .slice A d0.sectors.length c, .int .i64 d0.left, .bool d0.down, .int .i64 1, .int .i64 9, .int .i64 0, .int .i64 0, .string ⟨#[]⟩, .slice F 4 fc, .int .i64 0, .slice TA 0 tc, .int .i64 1] 37)).alloc (.cells #[.int .i64 0, .int .i64 0, .int .i64 0, .slice none 0 0, .int .i64 0, .bool false, .int .i64 0, .int .i64 0, .int .i64 0, .int .i64 0, .string ⟨#[]⟩, .slice none 0 0, .int .i64 0, .slice none 0 0, .int .i64 0] 37)) := ⟨_, rfl⟩
  rw [← hW0] at H0 ⊢
  clear hW0
  go_cut [4, 5, 6] (fun x y z wc => ∃ gl : Nat, x = .pointer (some ⟨gl, 0, none⟩) ∧ y = .int .i64 1 ∧ z = .int .i64 0 ∧ BxL w.heap.size w [(#[.int .i64 9, .int .i64 4, .int .i64 4, .slice A d0.sectors.length c, .int .i64 d0.left, .bool d0.down, .int .i64 1, .int .i64 9, .int .i64 0, .int .i64 0, .string ⟨#[]⟩, .slice F 4 fc, .int .i64 0, .slice TA 0 tc, .int .i64 1], 37), (#[.int .i64 0, .int .i64 0, .int .i64 0, .slice none 0 0, .int .i64 0, .bool false, .int .i64 0, .int .i64 0, .int .i64 0, .int .i64 0, .string ⟨#[]⟩, .slice none 0 0, .int .i64 0, .slice none 0 0, .int .i64 0], 37)] wc ∧ wc.heap[gl]? = some (.cells #[.int .i64 l1.from_, .int .i64 l1.n, .int .i64 l1.end_, .int .i64 l1.safe, .string l1.tail] 31 (0, 0)))
  case first =>
    have HB := Lib.hid H0.out.drew
    clear H0 HM HFO HSE HK0
    refine wp_region_held_drew (S := (fun u => u.heap[w.heap.size]? = some (.cells #[.int .i64 9, .int .i64 4, .int .i64 4, .slice A d0.sectors.length c, .int .i64 d0.left, .bool d0.down, .int .i64 1, .int .i64 9, .int .i64 0, .int .i64 0, .string ⟨#[]⟩, .slice F 4 fc, .int .i64 0, .slice TA 0 tc, .int .i64 1] 37 (0, 0)))) (by kernel_rfl) ?_ (fun hHeld => ?_)
    · exact HB.out.get0
    refine tkW 0 (some 8) (v := ?_) rfl ?_ ?_
    rotate_left
    · intro u hSu; have hSv := blkCell hSu; clear hSu; go_simp; (try with_reducible rfl)
    try simp only [Act.put, List.setIfInBounds_toArray, List.set_cons_zero, List.set_cons_succ]
    refine tkV 1 (some 9) (v := .agg #[.int .i64 1, .int .i64 9, .int .i64 0, .int .i64 0, .string ⟨#[]⟩]) rfl (yieldsIf_load_mid (by rfl) 31 (.tmp 8) rfl w.heap.size 6 (by rfl) #[.int .i64 1, .int .i64 9, .int .i64 0, .int .i64 0, .string ⟨#[]⟩].toList _ (fun u hu => (by intro j v hj; rw [blkCell hu]; rcases j with _ | _ | _ | _ | _ | j <;> first | (simp at hj; done) | (simpa using hj))) Tryz.underlying31 (by kernel_rfl) (by kernel_rfl)) ?_
    try simp only [Act.put, List.setIfInBounds_toArray, List.set_cons_zero, List.set_cons_succ]
    refine tkW 2 (some 10) (v := ?_) rfl ?_ ?_
    rotate_left
    · intro u hSu; have hSv := blkCell hSu; clear hSu; go_simp; (try with_reducible rfl)
    try simp only [Act.put, List.setIfInBounds_toArray, List.set_cons_zero, List.set_cons_succ]
    refine tkW 3 (some 11) (v := ?_) rfl ?_ ?_
    rotate_left
    · intro u hSu; have hSv := blkCell hSu; clear hSu; go_simp; (try with_reducible rfl)
    try simp only [Act.put, List.setIfInBounds_toArray, List.set_cons_zero, List.set_cons_succ]
    refine tkV 4 (some 12) (v := .agg #[.int .i64 9, .int .i64 4, .int .i64 4, .slice A d0.sectors.length c, .int .i64 d0.left, .bool d0.down, .int .i64 1, .int .i64 9, .int .i64 0, .int .i64 0, .string ⟨#[]⟩, .slice F 4 fc, .int .i64 0, .slice TA 0 tc, .int .i64 1]) rfl (yieldsIf_load_mid (by rfl) 37 (.tmp 1) rfl w.heap.size 0 (by rfl) #[.int .i64 9, .int .i64 4, .int .i64 4, .slice A d0.sectors.length c, .int .i64 d0.left, .bool d0.down, .int .i64 1, .int .i64 9, .int .i64 0, .int .i64 0, .string ⟨#[]⟩, .slice F 4 fc, .int .i64 0, .slice TA 0 tc, .int .i64 1].toList _ (fun u hu => (by intro j v hj; rw [Nat.zero_add, blkCell hu]; simpa using hj)) Tryz.underlying37 (by kernel_rfl) (by kernel_rfl)) ?_
    try simp only [Act.put, List.setIfInBounds_toArray, List.set_cons_zero, List.set_cons_succ]
    refine tkW 6 (some 14) (v := ?_) rfl ?_ ?_
    rotate_left
    · intro u hSu; have hSv := blkCell hSu; clear hSu; go_simp; (try with_reducible rfl)
    try simp only [Act.put, List.setIfInBounds_toArray, List.set_cons_zero, List.set_cons_succ]
    refine tkW 7 (some 15) (v := ?_) rfl ?_ ?_
    rotate_left
    · intro u hSu; have hSv := blkCell hSu; clear hSu; go_simp; (try with_reducible rfl)
    try simp only [Act.put, List.setIfInBounds_toArray, List.set_cons_zero, List.set_cons_succ]
    refine wpAnyH_ready (rs := [5, 14]) (by kernel_rfl) (by simp) ?_
    refine (AllReadyH.cons (o := { dst := some 13, op := _, type := _, pos := _, after := _, guard := _ }) rfl (fun K hK => ?_) (AllReadyH.cons (o := { dst := some 4, op := _, type := _, pos := _, after := _, guard := _ }) rfl (fun K hK => ?_) AllReadyH.nil))
    ·
      go_simp
      refine (HDI.out _ HB.out.below).mono ?_; rintro e wd ⟨rfl, hb5⟩; have HB := Lib.hid (HB.out.step hb5); clear hb5; (try clear hSn); have hSn := HB.out.get0
      refine hK.out _ _ ?_ (fun hHeld => ?_)
      · exact hSn
      clear hK K
      try simp only [Act.put, List.setIfInBounds_toArray, List.set_cons_zero, List.set_cons_succ]
      refine tkW 8 (some 16) (v := ?_) rfl ?_ ?_
      rotate_left
      · intro u hSu; have hSv := blkCell hSu; clear hSu; go_simp; (try with_reducible rfl)
      try simp only [Act.put, List.setIfInBounds_toArray, List.set_cons_zero, List.set_cons_succ]
      refine wpAnyH_ready (rs := [9, 14]) (by kernel_rfl) (by simp) ?_
      refine (AllReadyH.cons (o := { dst := some 17, op := _, type := _, pos := _, after := _, guard := _ }) rfl (fun K hK => ?_) (AllReadyH.cons (o := { dst := some 4, op := _, type := _, pos := _, after := _, guard := _ }) rfl (fun K hK => ?_) AllReadyH.nil))
      ·
        go_simp
        refine (HAP.out _).mono ?_; rintro e wa ⟨he, hb5⟩; (try dsimp only [logV] at he); subst he; have HB := Lib.hid (HB.out.step hb5); clear hb5; (try clear hSn); have hSn := HB.out.get0
        refine hK.out _ _ ?_ (fun hHeld => ?_)
        · exact hSn
        clear hK K
        try simp only [Act.put, List.setIfInBounds_toArray, List.set_cons_zero, List.set_cons_succ]
        refine tkW 10 (some 7) (v := ?_) rfl ?_ ?_
        rotate_left
        · intro u hSu; have hSv := blkCell hSu; clear hSu; go_simp; (try with_reducible rfl)
        try simp only [Act.put, List.setIfInBounds_toArray, List.set_cons_zero, List.set_cons_succ]
        refine tkW 11 (some 18) (v := ?_) rfl ?_ ?_
        rotate_left
        · intro u hSu; have hSv := blkCell hSu; clear hSu; go_simp; (try with_reducible rfl)
        try simp only [Act.put, List.setIfInBounds_toArray, List.set_cons_zero, List.set_cons_succ]
        refine tkW 12 (some 19) (v := ?_) rfl ?_ ?_
        rotate_left
        · intro u hSu; have hSv := blkCell hSu; clear hSu; go_simp; (try with_reducible rfl)
        try simp only [Act.put, List.setIfInBounds_toArray, List.set_cons_zero, List.set_cons_succ]
        refine tkW 13 (some 20) (v := ?_) rfl ?_ ?_
        rotate_left
        · intro u hSu; have hSv := blkCell hSu; clear hSu; go_simp; (try with_reducible rfl)
        try simp only [Act.put, List.setIfInBounds_toArray, List.set_cons_zero, List.set_cons_succ]
        refine rdH 14 (some 4) rfl (fun K hK => ?_)
        go_simp
        have hg4 : w.heap.size + 2 ≤ wa.heap.size := HB.out.lt (i := 1) (by simp); have HB := Lib.hid (HB.out.step (allocB wa (.cells #[.int .i64 0, .int .i64 0, .int .i64 0, .int .i64 0, .string ⟨#[]⟩] 31))); have HG := Lib.hid (heap_alloc_new wa (.cells #[.int .i64 0, .int .i64 0, .int .i64 0, .int .i64 0, .string ⟨#[]⟩] 31)); (try clear hSn); have hSn := HB.out.get0
        refine hK.out _ _ ?_ (fun hHeld => ?_)
        · exact hSn
        clear hK K
        try simp only [Act.put, List.setIfInBounds_toArray, List.set_cons_zero, List.set_cons_succ]
        refine rdH 15 none rfl (fun K hK => ?_)
        refine wantedIf (by rfl) ?_
        refine wp_store_whole 31 (.tmp 4) (.tmp 18) rfl wa.heap.size #[.int .i64 l1.from_, .int .i64 l1.n, .int .i64 l1.end_, .int .i64 l1.safe, .string l1.tail] _ _ rfl rfl HG.out (by kernel_rfl) (by kernel_rfl) (by kernel_rfl) ?_
        have HB := Lib.hid (HB.out.under (M := wa.heap.size) (by show w.heap.size + 2 ≤ _; exact hg4) (below_setRow (Below.refl wa.heap.size (wa.alloc (.cells #[.int .i64 0, .int .i64 0, .int .i64 0, .int .i64 0, .string ⟨#[]⟩] 31))) (Nat.le_refl wa.heap.size) #[.int .i64 l1.from_, .int .i64 l1.n, .int .i64 l1.end_, .int .i64 l1.safe, .string l1.tail]))
        have HG := Lib.hid (show ((wa.alloc (.cells #[.int .i64 0, .int .i64 0, .int .i64 0, .int .i64 0, .string ⟨#[]⟩] 31)).setRow wa.heap.size #[.int .i64 l1.from_, .int .i64 l1.n, .int .i64 l1.end_, .int .i64 l1.safe, .string l1.tail]).heap[wa.heap.size]? = some (.cells #[.int .i64 l1.from_, .int .i64 l1.n, .int .i64 l1.end_, .int .i64 l1.safe, .string l1.tail] 31 (0, 0)) from setRow_heap _ _ _ _ _ _ HG.out)
        (try clear hSn); have hSn := HB.out.get0
        refine hK.out _ _ ?_ (fun hHeld => ?_)
        · exact hSn
        clear hK K
        try simp only [Act.put]
        refine tkW 16 (some 5) (v := ?_) rfl ?_ ?_
        rotate_left
        · intro u hSu; have hSv := blkCell hSu; clear hSu; go_simp; (try with_reducible rfl)
        try simp only [Act.put, List.setIfInBounds_toArray, List.set_cons_zero, List.set_cons_succ]
        refine tkW 17 (some 6) (v := ?_) rfl ?_ ?_
        rotate_left
        · intro u hSu; have hSv := blkCell hSu; clear hSu; go_simp; (try with_reducible rfl)
        try simp only [Act.put, List.setIfInBounds_toArray, List.set_cons_zero, List.set_cons_succ]
        refine wpAnyH_done (by kernel_rfl) ?_ _
        clear hHeld hSn
        go_wp2_with fail
        go_meet
        case rel => exact ⟨_, rfl, rfl, rfl, HB.out, HG.out⟩
      ·
        go_simp
        have hg4 : w.heap.size + 2 ≤ wd.heap.size := HB.out.lt (i := 1) (by simp); have HB := Lib.hid (HB.out.step (allocB wd (.cells #[.int .i64 0, .int .i64 0, .int .i64 0, .int .i64 0, .string ⟨#[]⟩] 31))); have HG := Lib.hid (heap_alloc_new wd (.cells #[.int .i64 0, .int .i64 0, .int .i64 0, .int .i64 0, .string ⟨#[]⟩] 31)); (try clear hSn); have hSn := HB.out.get0
        refine hK.out _ _ ?_ (fun hHeld => ?_)
        · exact hSn
        clear hK K
        try simp only [Act.put, List.setIfInBounds_toArray, List.set_cons_zero, List.set_cons_succ]
        refine rdH 9 (some 17) rfl (fun K hK => ?_)
        go_simp
        refine (HAP.out _).mono ?_; rintro e wa ⟨he, hb5⟩; (try dsimp only [logV] at he); subst he; have HB := Lib.hid (HB.out.step hb5); have HG := Lib.hid (blkOld HG.out hb5); clear hb5; (try clear hSn); have hSn := HB.out.get0
        refine hK.out _ _ ?_ (fun hHeld => ?_)
        · exact hSn
        clear hK K
        try simp only [Act.put, List.setIfInBounds_toArray, List.set_cons_zero, List.set_cons_succ]
        refine tkW 10 (some 7) (v := ?_) rfl ?_ ?_
        rotate_left
        · intro u hSu; have hSv := blkCell hSu; clear hSu; go_simp; (try with_reducible rfl)
        try simp only [Act.put, List.setIfInBounds_toArray, List.set_cons_zero, List.set_cons_succ]
        refine tkW 11 (some 18) (v := ?_) rfl ?_ ?_
        rotate_left
        · intro u hSu; have hSv := blkCell hSu; clear hSu; go_simp; (try with_reducible rfl)
        try simp only [Act.put, List.setIfInBounds_toArray, List.set_cons_zero, List.set_cons_succ]
        refine tkW 12 (some 19) (v := ?_) rfl ?_ ?_
        rotate_left
        · intro u hSu; have hSv := blkCell hSu; clear hSu; go_simp; (try with_reducible rfl)
        try simp only [Act.put, List.setIfInBounds_toArray, List.set_cons_zero, List.set_cons_succ]
        refine tkW 13 (some 20) (v := ?_) rfl ?_ ?_
        rotate_left
        · intro u hSu; have hSv := blkCell hSu; clear hSu; go_simp; (try with_reducible rfl)
        try simp only [Act.put, List.setIfInBounds_toArray, List.set_cons_zero, List.set_cons_succ]
        refine rdH 15 none rfl (fun K hK => ?_)
        refine wantedIf (by rfl) ?_
        refine wp_store_whole 31 (.tmp 4) (.tmp 18) rfl wd.heap.size #[.int .i64 l1.from_, .int .i64 l1.n, .int .i64 l1.end_, .int .i64 l1.safe, .string l1.tail] _ _ rfl rfl HG.out (by kernel_rfl) (by kernel_rfl) (by kernel_rfl) ?_
        have HB := Lib.hid (HB.out.under (M := wd.heap.size) (by show w.heap.size + 2 ≤ _; exact hg4) (below_setRow (Below.refl wd.heap.size wa) (Nat.le_refl wd.heap.size) #[.int .i64 l1.from_, .int .i64 l1.n, .int .i64 l1.end_, .int .i64 l1.safe, .string l1.tail]))
        have HG := Lib.hid (show (wa.setRow wd.heap.size #[.int .i64 l1.from_, .int .i64 l1.n, .int .i64 l1.end_, .int .i64 l1.safe, .string l1.tail]).heap[wd.heap.size]? = some (.cells #[.int .i64 l1.from_, .int .i64 l1.n, .int .i64 l1.end_, .int .i64 l1.safe, .string l1.tail] 31 (0, 0)) from setRow_heap _ _ _ _ _ _ HG.out)
        (try clear hSn); have hSn := HB.out.get0
        refine hK.out _ _ ?_ (fun hHeld => ?_)
        · exact hSn
        clear hK K
        try simp only [Act.put]
        refine tkW 16 (some 5) (v := ?_) rfl ?_ ?_
        rotate_left
        · intro u hSu; have hSv := blkCell hSu; clear hSu; go_simp; (try with_reducible rfl)
        try simp only [Act.put, List.setIfInBounds_toArray, List.set_cons_zero, List.set_cons_succ]
        refine tkW 17 (some 6) (v := ?_) rfl ?_ ?_
        rotate_left
        · intro u hSu; have hSv := blkCell hSu; clear hSu; go_simp; (try with_reducible rfl)
        try simp only [Act.put, List.setIfInBounds_toArray, List.set_cons_zero, List.set_cons_succ]
        refine wpAnyH_done (by kernel_rfl) ?_ _
        clear hHeld hSn
        go_wp2_with fail
        go_meet
        case rel => exact ⟨_, rfl, rfl, rfl, HB.out, HG.out⟩
    ·
      go_simp
      have hg4 : w.heap.size + 2 ≤ W0.drew.heap.size := HB.out.lt (i := 1) (by simp); have HB := Lib.hid (HB.out.step (allocB W0.drew (.cells #[.int .i64 0, .int .i64 0, .int .i64 0, .int .i64 0, .string ⟨#[]⟩] 31))); have HG := Lib.hid (heap_alloc_new W0.drew (.cells #[.int .i64 0, .int .i64 0, .int .i64 0, .int .i64 0, .string ⟨#[]⟩] 31)); (try clear hSn); have hSn := HB.out.get0
      refine hK.out _ _ ?_ (fun hHeld => ?_)
      · exact hSn
      clear hK K
      try simp only [Act.put, List.setIfInBounds_toArray, List.set_cons_zero, List.set_cons_succ]
      refine rdH 5 (some 13) rfl (fun K hK => ?_)
      go_simp
      refine (HDI.out _ HB.out.below).mono ?_; rintro e wd ⟨rfl, hb5⟩; have HB := Lib.hid (HB.out.step hb5); have HG := Lib.hid (blkOld HG.out hb5); clear hb5; (try clear hSn); have hSn := HB.out.get0
      refine hK.out _ _ ?_ (fun hHeld => ?_)
      · exact hSn
      clear hK K
      try simp only [Act.put, List.setIfInBounds_toArray, List.set_cons_zero, List.set_cons_succ]
      refine tkW 8 (some 16) (v := ?_) rfl ?_ ?_
      rotate_left
      · intro u hSu; have hSv := blkCell hSu; clear hSu; go_simp; (try with_reducible rfl)
      try simp only [Act.put, List.setIfInBounds_toArray, List.set_cons_zero, List.set_cons_succ]
      refine rdH 9 (some 17) rfl (fun K hK => ?_)
      go_simp
      refine (HAP.out _).mono ?_; rintro e wa ⟨he, hb5⟩; (try dsimp only [logV] at he); subst he; have HB := Lib.hid (HB.out.step hb5); have HG := Lib.hid (blkOld HG.out hb5); clear hb5; (try clear hSn); have hSn := HB.out.get0
      refine hK.out _ _ ?_ (fun hHeld => ?_)
      · exact hSn
      clear hK K
      try simp only [Act.put, List.setIfInBounds_toArray, List.set_cons_zero, List.set_cons_succ]
      refine tkW 10 (some 7) (v := ?_) rfl ?_ ?_
      rotate_left
      · intro u hSu; have hSv := blkCell hSu; clear hSu; go_simp; (try with_reducible rfl)
      try simp only [Act.put, List.setIfInBounds_toArray, List.set_cons_zero, List.set_cons_succ]
      refine tkW 11 (some 18) (v := ?_) rfl ?_ ?_
      rotate_left
      · intro u hSu; have hSv := blkCell hSu; clear hSu; go_simp; (try with_reducible rfl)
      try simp only [Act.put, List.setIfInBounds_toArray, List.set_cons_zero, List.set_cons_succ]
      refine tkW 12 (some 19) (v := ?_) rfl ?_ ?_
      rotate_left
      · intro u hSu; have hSv := blkCell hSu; clear hSu; go_simp; (try with_reducible rfl)
      try simp only [Act.put, List.setIfInBounds_toArray, List.set_cons_zero, List.set_cons_succ]
      refine tkW 13 (some 20) (v := ?_) rfl ?_ ?_
      rotate_left
      · intro u hSu; have hSv := blkCell hSu; clear hSu; go_simp; (try with_reducible rfl)
      try simp only [Act.put, List.setIfInBounds_toArray, List.set_cons_zero, List.set_cons_succ]
      refine rdH 15 none rfl (fun K hK => ?_)
      refine wantedIf (by rfl) ?_
      refine wp_store_whole 31 (.tmp 4) (.tmp 18) rfl W0.drew.heap.size #[.int .i64 l1.from_, .int .i64 l1.n, .int .i64 l1.end_, .int .i64 l1.safe, .string l1.tail] _ _ rfl rfl HG.out (by kernel_rfl) (by kernel_rfl) (by kernel_rfl) ?_
      have HB := Lib.hid (HB.out.under (M := W0.drew.heap.size) (by show w.heap.size + 2 ≤ _; exact hg4) (below_setRow (Below.refl W0.drew.heap.size wa) (Nat.le_refl W0.drew.heap.size) #[.int .i64 l1.from_, .int .i64 l1.n, .int .i64 l1.end_, .int .i64 l1.safe, .string l1.tail]))
      have HG := Lib.hid (show (wa.setRow W0.drew.heap.size #[.int .i64 l1.from_, .int .i64 l1.n, .int .i64 l1.end_, .int .i64 l1.safe, .string l1.tail]).heap[W0.drew.heap.size]? = some (.cells #[.int .i64 l1.from_, .int .i64 l1.n, .int .i64 l1.end_, .int .i64 l1.safe, .string l1.tail] 31 (0, 0)) from setRow_heap _ _ _ _ _ _ HG.out)
      (try clear hSn); have hSn := HB.out.get0
      refine hK.out _ _ ?_ (fun hHeld => ?_)
      · exact hSn
      clear hK K
      try simp only [Act.put]
      refine tkW 16 (some 5) (v := ?_) rfl ?_ ?_
      rotate_left
      · intro u hSu; have hSv := blkCell hSu; clear hSu; go_simp; (try with_reducible rfl)
      try simp only [Act.put, List.setIfInBounds_toArray, List.set_cons_zero, List.set_cons_succ]
      refine tkW 17 (some 6) (v := ?_) rfl ?_ ?_
      rotate_left
      · intro u hSu; have hSv := blkCell hSu; clear hSu; go_simp; (try with_reducible rfl)
      try simp only [Act.put, List.setIfInBounds_toArray, List.set_cons_zero, List.set_cons_succ]
      refine wpAnyH_done (by kernel_rfl) ?_ _
      clear hHeld hSn
      go_wp2_with fail
      go_meet
      case rel => exact ⟨_, rfl, rfl, rfl, HB.out, HG.out⟩
  case rest =>
  obtain ⟨gl, rfl, rfl, rfl, hb7, hg7⟩ := hcut
  obtain ⟨W7, rfl⟩ : ∃ wm : World, wm = wc := ⟨_, rfl⟩
  have H7 := Lib.hid hb7
  have HG := Lib.hid hg7
  clear hb7 hg7 H0 HDI HAP
  go_upto_region 5 with (first
    | (with_reducible refine listLoad (by kernel_rfl) 31 (.tmp 4) rfl gl rfl #[.int .i64 l1.from_, .int .i64 l1.n, .int .i64 l1.end_, .int .i64 l1.safe, .string l1.tail] _ HG.out _ Tryz.underlying31 (by kernel_rfl) (by kernel_rfl) ?_)
    | (with_reducible refine listPut (by kernel_rfl) 31 (.tmp 26) (.tmp 25) rfl w.heap.size 6 #[.int .i64 l1.from_, .int .i64 l1.n, .int .i64 l1.end_, .int .i64 l1.safe, .string l1.tail] #[.int .i64 9, .int .i64 4, .int .i64 4, .slice A d0.sectors.length c, .int .i64 d0.left, .bool d0.down, .int .i64 1, .int .i64 9, .int .i64 0, .int .i64 0, .string ⟨#[]⟩, .slice F 4 fc, .int .i64 0, .slice TA 0 tc, .int .i64 1] #[.int .i64 9, .int .i64 4, .int .i64 4, .slice A d0.sectors.length c, .int .i64 d0.left, .bool d0.down, .int .i64 l1.from_, .int .i64 l1.n, .int .i64 l1.end_, .int .i64 l1.safe, .string l1.tail, .slice F 4 fc, .int .i64 0, .slice TA 0 tc, .int .i64 1] _ rfl rfl H7.out.get0 (by kernel_rfl) (by kernel_rfl) (by kernel_rfl) (by kernel_rfl) ?_))
  have HK7 := Lib.hid ((HK0.out.below H7.out.below).row H7.out.get0 (by decide) #[.int .i64 9, .int .i64 4, .int .i64 4, .slice A d0.sectors.length c, .int .i64 d0.left, .bool d0.down, .int .i64 l1.from_, .int .i64 l1.n, .int .i64 l1.end_, .int .i64 l1.safe, .string l1.tail, .slice F 4 fc, .int .i64 0, .slice TA 0 tc, .int .i64 1])
  have H8 := Lib.hid (H7.out.row 0 #[.int .i64 9, .int .i64 4, .int .i64 4, .slice A d0.sectors.length c, .int .i64 d0.left, .bool d0.down, .int .i64 l1.from_, .int .i64 l1.n, .int .i64 l1.end_, .int .i64 l1.safe, .string l1.tail, .slice F 4 fc, .int .i64 0, .slice TA 0 tc, .int .i64 1] _ rfl)
  simp only [Nat.add_zero] at H8
  obtain ⟨W8, hW8⟩ : ∃ W, W = W7.setRow w.heap.size #[.int .i64 9, .int .i64 4, .int .i64 4, .slice A d0.sectors.length c, .int .i64 d0.left, .bool d0.down, .int .i64 l1.from_, .int .i64 l1.n, .int .i64 l1.end_, .int .i64 l1.safe, .string l1.tail, .slice F 4 fc, .int .i64 0, .slice TA 0 tc, .int .i64 1] := ⟨_, rfl⟩
  rw [← hW8] at H8 HK7
  rw [← hW8]
  clear hW8 H7 HG HK0
  have HFF := Lib.hid (HFO.out A c W8 HK7.out.dk)
  go_upto_region 6 with (first
    | (with_reducible refine listPart (by kernel_rfl) 29 (.tmp 28) rfl w.heap.size 3 rfl #[.slice A d0.sectors.length c, .int .i64 d0.left, .bool d0.down] #[.int .i64 9, .int .i64 4, .int .i64 4, .slice A d0.sectors.length c, .int .i64 d0.left, .bool d0.down, .int .i64 l1.from_, .int .i64 l1.n, .int .i64 l1.end_, .int .i64 l1.safe, .string l1.tail, .slice F 4 fc, .int .i64 0, .slice TA 0 tc, .int .i64 1] _ H8.out.get0 (by kernel_rfl) _ Tryz.underlying29 (by kernel_rfl) (by kernel_rfl) ?_)
    | (with_reducible refine listPart (by kernel_rfl) 31 (.tmp 30) rfl w.heap.size 6 rfl #[.int .i64 l1.from_, .int .i64 l1.n, .int .i64 l1.end_, .int .i64 l1.safe, .string l1.tail] #[.int .i64 9, .int .i64 4, .int .i64 4, .slice A d0.sectors.length c, .int .i64 d0.left, .bool d0.down, .int .i64 l1.from_, .int .i64 l1.n, .int .i64 l1.end_, .int .i64 l1.safe, .string l1.tail, .slice F 4 fc, .int .i64 0, .slice TA 0 tc, .int .i64 1] _ H8.out.get0 (by kernel_rfl) _ Tryz.underlying31 (by kernel_rfl) (by kernel_rfl) ?_)
    | (go_at_call 53; (with_reducible refine HFF.out.mono ?_); rintro e w9 ⟨A3, c3, he, hd9, ht9, hb9⟩; (try dsimp only [diskV, logV] at he); subst he; have H9 := Lib.hid (H8.out.step hb9); have HX9 := Lib.hid (setRow_heap w9 w.heap.size _ #[.int .i64 9, .int .i64 4, .int .i64 4, .slice A3 d1.sectors.length c3, .int .i64 d1.left, .bool d1.down, .int .i64 l1.from_, .int .i64 l1.n, .int .i64 l1.end_, .int .i64 l1.safe, .string l1.tail, .slice F 4 fc, .int .i64 0, .slice TA 0 tc, .int .i64 1] _ _ H9.out.get0))
    | (with_reducible refine listPut (by kernel_rfl) 29 (.tmp 36) (.tmp 33) rfl w.heap.size 3 #[.slice A3 d1.sectors.length c3, .int .i64 d1.left, .bool d1.down] #[.int .i64 9, .int .i64 4, .int .i64 4, .slice A d0.sectors.length c, .int .i64 d0.left, .bool d0.down, .int .i64 l1.from_, .int .i64 l1.n, .int .i64 l1.end_, .int .i64 l1.safe, .string l1.tail, .slice F 4 fc, .int .i64 0, .slice TA 0 tc, .int .i64 1] #[.int .i64 9, .int .i64 4, .int .i64 4, .slice A3 d1.sectors.length c3, .int .i64 d1.left, .bool d1.down, .int .i64 l1.from_, .int .i64 l1.n, .int .i64 l1.end_, .int .i64 l1.safe, .string l1.tail, .slice F 4 fc, .int .i64 0, .slice TA 0 tc, .int .i64 1] _ rfl rfl H9.out.get0 (by kernel_rfl) (by kernel_rfl) (by kernel_rfl) (by kernel_rfl) ?_)
    | (with_reducible refine listPut (by kernel_rfl) 31 (.tmp 37) (.tmp 34) rfl w.heap.size 6 #[.int .i64 l2.from_, .int .i64 l2.n, .int .i64 l2.end_, .int .i64 l2.safe, .string l2.tail] #[.int .i64 9, .int .i64 4, .int .i64 4, .slice A3 d1.sectors.length c3, .int .i64 d1.left, .bool d1.down, .int .i64 l1.from_, .int .i64 l1.n, .int .i64 l1.end_, .int .i64 l1.safe, .string l1.tail, .slice F 4 fc, .int .i64 0, .slice TA 0 tc, .int .i64 1] #[.int .i64 9, .int .i64 4, .int .i64 4, .slice A3 d1.sectors.length c3, .int .i64 d1.left, .bool d1.down, .int .i64 l2.from_, .int .i64 l2.n, .int .i64 l2.end_, .int .i64 l2.safe, .string l2.tail, .slice F 4 fc, .int .i64 0, .slice TA 0 tc, .int .i64 1] _ rfl rfl HX9.out (by kernel_rfl) (by kernel_rfl) (by kernel_rfl) (by kernel_rfl) ?_))
  have HK9 := Lib.hid (HK7.out.put (by have := H8.out.lt (i := 0) (by simp); omega) hd9 ht9 hb9)
  have HK10 := Lib.hid ((HK9.out.row H9.out.get0 (by decide) #[.int .i64 9, .int .i64 4, .int .i64 4, .slice A3 d1.sectors.length c3, .int .i64 d1.left, .bool d1.down, .int .i64 l1.from_, .int .i64 l1.n, .int .i64 l1.end_, .int .i64 l1.safe, .string l1.tail, .slice F 4 fc, .int .i64 0, .slice TA 0 tc, .int .i64 1]).row HX9.out (by decide) #[.int .i64 9, .int .i64 4, .int .i64 4, .slice A3 d1.sectors.length c3, .int .i64 d1.left, .bool d1.down, .int .i64 l2.from_, .int .i64 l2.n, .int .i64 l2.end_, .int .i64 l2.safe, .string l2.tail, .slice F 4 fc, .int .i64 0, .slice TA 0 tc, .int .i64 1])
  have H10a := H9.out.row 0 #[.int .i64 9, .int .i64 4, .int .i64 4, .slice A3 d1.sectors.length c3, .int .i64 d1.left, .bool d1.down, .int .i64 l1.from_, .int .i64 l1.n, .int .i64 l1.end_, .int .i64 l1.safe, .string l1.tail, .slice F 4 fc, .int .i64 0, .slice TA 0 tc, .int .i64 1] _ rfl
  simp only [Nat.add_zero] at H10a
  have H10b := H10a.row 0 #[.int .i64 9, .int .i64 4, .int .i64 4, .slice A3 d1.sectors.length c3, .int .i64 d1.left, .bool d1.down, .int .i64 l2.from_, .int .i64 l2.n, .int .i64 l2.end_, .int .i64 l2.safe, .string l2.tail, .slice F 4 fc, .int .i64 0, .slice TA 0 tc, .int .i64 1] _ rfl
  simp only [Nat.add_zero] at H10b
  have H10 := Lib.hid (show BxL w.heap.size w [(#[.int .i64 9, .int .i64 4, .int .i64 4, .slice A3 d1.sectors.length c3, .int .i64 d1.left, .bool d1.down, .int .i64 l2.from_, .int .i64 l2.n, .int .i64 l2.end_, .int .i64 l2.safe, .string l2.tail, .slice F 4 fc, .int .i64 0, .slice TA 0 tc, .int .i64 1], 37), (#[.int .i64 0, .int .i64 0, .int .i64 0, .slice none 0 0, .int .i64 0, .bool false, .int .i64 0, .int .i64 0, .int .i64 0, .int .i64 0, .string ⟨#[]⟩, .slice none 0 0, .int .i64 0, .slice none 0 0, .int .i64 0], 37)] _ from H10b)
  obtain ⟨W10, hW10⟩ : ∃ W, W = (w9.setRow w.heap.size #[.int .i64 9, .int .i64 4, .int .i64 4, .slice A3 d1.sectors.length c3, .int .i64 d1.left, .bool d1.down, .int .i64 l1.from_, .int .i64 l1.n, .int .i64 l1.end_, .int .i64 l1.safe, .string l1.tail, .slice F 4 fc, .int .i64 0, .slice TA 0 tc, .int .i64 1]).setRow w.heap.size #[.int .i64 9, .int .i64 4, .int .i64 4, .slice A3 d1.sectors.length c3, .int .i64 d1.left, .bool d1.down, .int .i64 l2.from_, .int .i64 l2.n, .int .i64 l2.end_, .int .i64 l2.safe, .string l2.tail, .slice F 4 fc, .int .i64 0, .slice TA 0 tc, .int .i64 1] := ⟨_, rfl⟩
  rw [← hW10] at H10 HK10
  rw [← hW10]
  clear hW10 H10a H10b H9 HX9 H8 HK7 HK9 hd9 ht9 hb9 HFF HFO
  have HSS := Lib.hid (HSE.out A3 c3 W10 HK10.out.dk)
  go_upto_region 8 with (first
    | (with_reducible refine listPart (by kernel_rfl) 29 (.tmp 41) rfl w.heap.size 3 rfl #[.slice A3 d1.sectors.length c3, .int .i64 d1.left, .bool d1.down] #[.int .i64 9, .int .i64 4, .int .i64 4, .slice A3 d1.sectors.length c3, .int .i64 d1.left, .bool d1.down, .int .i64 l2.from_, .int .i64 l2.n, .int .i64 l2.end_, .int .i64 l2.safe, .string l2.tail, .slice F 4 fc, .int .i64 0, .slice TA 0 tc, .int .i64 1] _ H10.out.get0 (by kernel_rfl) _ Tryz.underlying29 (by kernel_rfl) (by kernel_rfl) ?_)
    | (go_at_call 16; (with_reducible refine HSS.out.mono ?_); rintro e w11 ⟨A4, c4, he, hd11, ht11, hb11⟩; (try dsimp only [diskV] at he); subst he; have H11 := Lib.hid (H10.out.step hb11))
    | (with_reducible refine listPut (by kernel_rfl) 29 (.tmp 47) (.tmp 45) rfl w.heap.size 3 #[.slice A4 d2.sectors.length c4, .int .i64 d2.left, .bool d2.down] #[.int .i64 9, .int .i64 4, .int .i64 4, .slice A3 d1.sectors.length c3, .int .i64 d1.left, .bool d1.down, .int .i64 l2.from_, .int .i64 l2.n, .int .i64 l2.end_, .int .i64 l2.safe, .string l2.tail, .slice F 4 fc, .int .i64 0, .slice TA 0 tc, .int .i64 1] #[.int .i64 9, .int .i64 4, .int .i64 4, .slice A4 d2.sectors.length c4, .int .i64 d2.left, .bool d2.down, .int .i64 l2.from_, .int .i64 l2.n, .int .i64 l2.end_, .int .i64 l2.safe, .string l2.tail, .slice F 4 fc, .int .i64 0, .slice TA 0 tc, .int .i64 1] _ rfl rfl H11.out.get0 (by kernel_rfl) (by kernel_rfl) (by kernel_rfl) (by kernel_rfl) ?_))
  have HK11 := Lib.hid (HK10.out.put (by have := H10.out.lt (i := 0) (by simp); omega) hd11 ht11 hb11)
  have HK12 := Lib.hid (HK11.out.row H11.out.get0 (by decide) #[.int .i64 9, .int .i64 4, .int .i64 4, .slice A4 d2.sectors.length c4, .int .i64 d2.left, .bool d2.down, .int .i64 l2.from_, .int .i64 l2.n, .int .i64 l2.end_, .int .i64 l2.safe, .string l2.tail, .slice F 4 fc, .int .i64 0, .slice TA 0 tc, .int .i64 1])
  have H12 := Lib.hid (H11.out.row 0 #[.int .i64 9, .int .i64 4, .int .i64 4, .slice A4 d2.sectors.length c4, .int .i64 d2.left, .bool d2.down, .int .i64 l2.from_, .int .i64 l2.n, .int .i64 l2.end_, .int .i64 l2.safe, .string l2.tail, .slice F 4 fc, .int .i64 0, .slice TA 0 tc, .int .i64 1] _ rfl)
  simp only [Nat.add_zero] at H12
  obtain ⟨W12, hW12⟩ : ∃ W, W = w11.setRow w.heap.size #[.int .i64 9, .int .i64 4, .int .i64 4, .slice A4 d2.sectors.length c4, .int .i64 d2.left, .bool d2.down, .int .i64 l2.from_, .int .i64 l2.n, .int .i64 l2.end_, .int .i64 l2.safe, .string l2.tail, .slice F 4 fc, .int .i64 0, .slice TA 0 tc, .int .i64 1] := ⟨_, rfl⟩
  rw [← hW12] at H12 HK12
  rw [← hW12]
  clear hW12 H11 H10 HK11 HK10 hd11 ht11 hb11 HSS HSE
  go_wp2_with (first
    | (with_reducible refine listLoad (by kernel_rfl) 37 (.tmp 1) rfl w.heap.size rfl #[.int .i64 9, .int .i64 4, .int .i64 4, .slice A4 d2.sectors.length c4, .int .i64 d2.left, .bool d2.down, .int .i64 l2.from_, .int .i64 l2.n, .int .i64 l2.end_, .int .i64 l2.safe, .string l2.tail, .slice F 4 fc, .int .i64 0, .slice TA 0 tc, .int .i64 1] _ H12.out.get0 _ Tryz.underlying37 (by kernel_rfl) (by kernel_rfl) ?_)
    | (with_reducible refine listStore (by kernel_rfl) 37 (.tmp 2) (.tmp 48) rfl (w.heap.size + 1) #[.int .i64 9, .int .i64 4, .int .i64 4, .slice A4 d2.sectors.length c4, .int .i64 d2.left, .bool d2.down, .int .i64 l2.from_, .int .i64 l2.n, .int .i64 l2.end_, .int .i64 l2.safe, .string l2.tail, .slice F 4 fc, .int .i64 0, .slice TA 0 tc, .int .i64 1] _ _ rfl rfl H12.out.get1 (by kernel_rfl) (by kernel_rfl) (by kernel_rfl) ?_))
  refine bodyPost_ret (v := .tuple #[.agg #[.int .i64 9, .int .i64 4, .int .i64 4, .slice A4 d2.sectors.length c4, .int .i64 d2.left, .bool d2.down, .int .i64 l2.from_, .int .i64 l2.n, .int .i64 l2.end_, .int .i64 l2.safe, .string l2.tail, .slice F 4 fc, .int .i64 0, .slice TA 0 tc, .int .i64 1], .int .i64 0]) (results_cell2 rfl _ _ rfl (load_whole (setRow_heap _ _ _ _ _ _ H12.out.get1) Tryz.underlying37 (by kernel_rfl) (by kernel_rfl)) rfl) rfl ?_
  exact HM.out A4 c4 _ (HK12.out.row H12.out.get1 (by decide) _).dk ((H12.out.row 1 _ _ rfl).below)
set_option maxRecDepth 100000 in
set_option maxHeartbeats 8000000 in
theorem cawake_any (w : World) : Calls Tryz.prog 15 #[] w fun e w' => e = .returned (.bool true) ∧ Below w.heap.size w w' := by
  obtain ⟨l1, d1, l2, d2, d3, e1, e2, e3, m2, e4, m3, k1, k2, k3, k4, k5⟩ := Ck.awake_ck
  have HFR := Lib.hid (fun W => cfresh9_any W)
  have HTK := Lib.hid (fun p (hf : p.fn = 4) W h ht hr => ctake9_any p hf l1 l2 d1 d2 e1 e2 e3 ⟨by rw [k4], by rw [k4], by rw [k4], k5⟩ k1 W h ht hr)
  have HS1 := Lib.hid (fun A c W (hd : DiskR W (Lg.newD 26) A c) => show Calls Tryz.prog 16 #[diskV (Lg.newD 26) A c, .int .i64 77] W (WriteOut (d3, 0) A W) from by
    have h9 := cset_any (Lg.newD 26) (by decide) A c 77 W hd
    rw [e4] at h9
    exact h9)
  have HS2 := Lib.hid (fun A c W (hd : DiskR W (Lg.newD 26) A c) => show Calls Tryz.prog 16 #[diskV (Lg.newD 26) A c, .int .i64 (-1)] W (WriteOut (Lg.newD 26, 1) A W) from by
    have h9 := cset_any (Lg.newD 26) (by decide) A c (-1) W hd
    rw [Ck.setD_no (.inl (by decide))] at h9
    exact h9)
  have HM0 := Lib.hid (fun A c W (hd : DiskR W (Lg.newD 26) A c) => show Calls Tryz.prog 18 #[diskV (Lg.newD 26) A c] W fun e w' => e = .returned (.int .i64 0) ∧ Below W.heap.size W w' from by
    have h9 := cmaster_any (Lg.newD 26) A c W hd
    rw [Ck.master_new] at h9
    exact h9)
  have HM2 := Lib.hid (fun A c W (hd : DiskR W d2 A c) => show Calls Tryz.prog 18 #[diskV d2 A c] W fun e w' => e = .returned (.int .i64 1) ∧ Below W.heap.size W w' from by
    have h9 := cmaster_any d2 A c W hd
    rw [m2] at h9
    exact h9)
  have HM3 := Lib.hid (fun A c W (hd : DiskR W d3 A c) => show Calls Tryz.prog 18 #[diskV d3 A c] W fun e w' => e = .returned (.int .i64 77) ∧ Below W.heap.size W w' from by
    have h9 := cmaster_any d3 A c W hd
    rw [m3] at h9
    exact h9)
  have HK2 := Lib.hid k2
  have HK3 := Lib.hid k3
  clear e1 e2 e3 m2 e4 m3 k1 k2 k3 k4 k5
  dsimp only [diskV] at HS1 HS2 HM0 HM2 HM3
  go_enter Tryz.func15, Tryz.ntmps15
  go_upto_region 2 with (first
    | (go_at_call 38; (with_reducible refine (HFR.out _).mono ?_); rintro e w1 ⟨p, rfl, hd1, ht1, hf1, hr1, hb1⟩; obtain ⟨A, c, F, fn, fc, TA, tc⟩ := p; simp only at hd1 ht1 hf1 hr1; subst hf1; (try dsimp only [storeV, Ck.fresh9, List.length_nil]))
    | (with_reducible refine wpList_store_new rfl 37 (.tmp 1) (.tmp 8) rfl #[.int .i64 9, .int .i64 4, .int .i64 4, .slice A (Lg.newD 26).sectors.length c, .int .i64 (Lg.newD 26).left, .bool (Lg.newD 26).down, .int .i64 1, .int .i64 9, .int .i64 0, .int .i64 0, .string ⟨#[]⟩, .slice F 4 fc, .int .i64 0, .slice TA 0 tc, .int .i64 1] _ _ rfl (by kernel_rfl) (by kernel_rfl) (by kernel_rfl) (by kernel_rfl) ?_))
  have HTT := Lib.hid (fun W => HTK.out ⟨A, c, F, 4, fc, TA, tc⟩ rfl W)
  clear HTK HFR
  dsimp only [Take9Out, storeV, Ck.fresh9, List.length_nil] at HTT
  have X1 := Lib.hid (heap_alloc_new w1 (.cells #[.int .i64 9, .int .i64 4, .int .i64 4, .slice A (Lg.newD 26).sectors.length c, .int .i64 (Lg.newD 26).left, .bool (Lg.newD 26).down, .int .i64 1, .int .i64 9, .int .i64 0, .int .i64 0, .string ⟨#[]⟩, .slice F 4 fc, .int .i64 0, .slice TA 0 tc, .int .i64 1] 37))
  have B1 := Lib.hid (pastAlloc (o := .cells #[.int .i64 9, .int .i64 4, .int .i64 4, .slice A (Lg.newD 26).sectors.length c, .int .i64 (Lg.newD 26).left, .bool (Lg.newD 26).down, .int .i64 1, .int .i64 9, .int .i64 0, .int .i64 0, .string ⟨#[]⟩, .slice F 4 fc, .int .i64 0, .slice TA 0 tc, .int .i64 1] 37) hb1)
  have D1 := Lib.hid (show DiskR _ (Lg.newD 26) A c from hd1.below (allocB w1 (.cells #[.int .i64 9, .int .i64 4, .int .i64 4, .slice A (Lg.newD 26).sectors.length c, .int .i64 (Lg.newD 26).left, .bool (Lg.newD 26).down, .int .i64 1, .int .i64 9, .int .i64 0, .int .i64 0, .string ⟨#[]⟩, .slice F 4 fc, .int .i64 0, .slice TA 0 tc, .int .i64 1] 37)))
  have T1 := Lib.hid (ht1.below (allocB w1 (.cells #[.int .i64 9, .int .i64 4, .int .i64 4, .slice A (Lg.newD 26).sectors.length c, .int .i64 (Lg.newD 26).left, .bool (Lg.newD 26).down, .int .i64 1, .int .i64 9, .int .i64 0, .int .i64 0, .string ⟨#[]⟩, .slice F 4 fc, .int .i64 0, .slice TA 0 tc, .int .i64 1] 37)))
  have R1 := Lib.hid (hr1.below (allocB w1 (.cells #[.int .i64 9, .int .i64 4, .int .i64 4, .slice A (Lg.newD 26).sectors.length c, .int .i64 (Lg.newD 26).left, .bool (Lg.newD 26).down, .int .i64 1, .int .i64 9, .int .i64 0, .int .i64 0, .string ⟨#[]⟩, .slice F 4 fc, .int .i64 0, .slice TA 0 tc, .int .i64 1] 37)))
  obtain ⟨gs, hgs⟩ : ∃ g, g = w1.heap.size := ⟨_, rfl⟩
  obtain ⟨W1, hW1⟩ : ∃ W, W = w1.alloc (.cells #[.int .i64 9, .int .i64 4, .int .i64 4, .slice A (Lg.newD 26).sectors.length c, .int .i64 (Lg.newD 26).left, .bool (Lg.newD 26).down, .int .i64 1, .int .i64 9, .int .i64 0, .int .i64 0, .string ⟨#[]⟩, .slice F 4 fc, .int .i64 0, .slice TA 0 tc, .int .i64 1] 37) := ⟨_, rfl⟩
  rw [← hgs] at X1
  rw [← hW1] at X1 B1 D1 T1 R1
  rw [← hW1, ← hgs]
  clear hgs hW1 hb1 hd1 ht1 hr1
  have HTW := Lib.hid (HTT.out W1 D1.out T1.out R1.out)
  clear HTT T1 R1
  generalize Lg.newD 26 = d0 at HS1 HS2 HM0 X1 D1 HTW ⊢
  go_upto_region 3 with (first
    | (with_reducible refine listLoad (by kernel_rfl) 37 (.tmp 1) rfl gs rfl #[.int .i64 9, .int .i64 4, .int .i64 4, .slice A d0.sectors.length c, .int .i64 d0.left, .bool d0.down, .int .i64 1, .int .i64 9, .int .i64 0, .int .i64 0, .string ⟨#[]⟩, .slice F 4 fc, .int .i64 0, .slice TA 0 tc, .int .i64 1] _ X1.out _ Tryz.underlying37 (by kernel_rfl) (by kernel_rfl) ?_)
    | (go_at_call 39; (with_reducible refine HTW.out.mono ?_); rintro e w2 ⟨A2, c2, rfl, hd2, hb2⟩)
    | (with_reducible refine wpList_store_new rfl 37 (.tmp 2) (.tmp 12) rfl #[.int .i64 9, .int .i64 4, .int .i64 4, .slice A2 d2.sectors.length c2, .int .i64 d2.left, .bool d2.down, .int .i64 l2.from_, .int .i64 l2.n, .int .i64 l2.end_, .int .i64 l2.safe, .string l2.tail, .slice F 4 fc, .int .i64 0, .slice TA 0 tc, .int .i64 1] _ _ rfl (by kernel_rfl) (by kernel_rfl) (by kernel_rfl) (by kernel_rfl) ?_))
  have X2 := Lib.hid (blkOld X1.out (pastAlloc (o := .cells #[.int .i64 9, .int .i64 4, .int .i64 4, .slice A2 d2.sectors.length c2, .int .i64 d2.left, .bool d2.down, .int .i64 l2.from_, .int .i64 l2.n, .int .i64 l2.end_, .int .i64 l2.safe, .string l2.tail, .slice F 4 fc, .int .i64 0, .slice TA 0 tc, .int .i64 1] 37) hb2))
  have Y2 := Lib.hid (heap_alloc_new w2 (.cells #[.int .i64 9, .int .i64 4, .int .i64 4, .slice A2 d2.sectors.length c2, .int .i64 d2.left, .bool d2.down, .int .i64 l2.from_, .int .i64 l2.n, .int .i64 l2.end_, .int .i64 l2.safe, .string l2.tail, .slice F 4 fc, .int .i64 0, .slice TA 0 tc, .int .i64 1] 37))
  have B2 := Lib.hid (joinB B1.out (pastAlloc (o := .cells #[.int .i64 9, .int .i64 4, .int .i64 4, .slice A2 d2.sectors.length c2, .int .i64 d2.left, .bool d2.down, .int .i64 l2.from_, .int .i64 l2.n, .int .i64 l2.end_, .int .i64 l2.safe, .string l2.tail, .slice F 4 fc, .int .i64 0, .slice TA 0 tc, .int .i64 1] 37) hb2))
  have D2 := Lib.hid (D1.out.below (pastAlloc (o := .cells #[.int .i64 9, .int .i64 4, .int .i64 4, .slice A2 d2.sectors.length c2, .int .i64 d2.left, .bool d2.down, .int .i64 l2.from_, .int .i64 l2.n, .int .i64 l2.end_, .int .i64 l2.safe, .string l2.tail, .slice F 4 fc, .int .i64 0, .slice TA 0 tc, .int .i64 1] 37) hb2))
  have E2 := Lib.hid (hd2.below (allocB w2 (.cells #[.int .i64 9, .int .i64 4, .int .i64 4, .slice A2 d2.sectors.length c2, .int .i64 d2.left, .bool d2.down, .int .i64 l2.from_, .int .i64 l2.n, .int .i64 l2.end_, .int .i64 l2.safe, .string l2.tail, .slice F 4 fc, .int .i64 0, .slice TA 0 tc, .int .i64 1] 37)))
  obtain ⟨gt, hgt⟩ : ∃ g, g = w2.heap.size := ⟨_, rfl⟩
  obtain ⟨W2, hW2⟩ : ∃ W, W = w2.alloc (.cells #[.int .i64 9, .int .i64 4, .int .i64 4, .slice A2 d2.sectors.length c2, .int .i64 d2.left, .bool d2.down, .int .i64 l2.from_, .int .i64 l2.n, .int .i64 l2.end_, .int .i64 l2.safe, .string l2.tail, .slice F 4 fc, .int .i64 0, .slice TA 0 tc, .int .i64 1] 37) := ⟨_, rfl⟩
  rw [← hgt] at Y2
  rw [← hW2] at X2 Y2 B2 D2 E2
  rw [← hW2, ← hgt]
  clear hgt hW2 hb2 hd2 X1 B1 D1 HTW
  have HSA := Lib.hid (HS1.out A c W2 D2.out)
  go_upto_region 4 with (first
    | (with_reducible refine listPart (by kernel_rfl) 29 (.tmp 15) rfl gs 3 rfl #[.slice A d0.sectors.length c, .int .i64 d0.left, .bool d0.down] #[.int .i64 9, .int .i64 4, .int .i64 4, .slice A d0.sectors.length c, .int .i64 d0.left, .bool d0.down, .int .i64 1, .int .i64 9, .int .i64 0, .int .i64 0, .string ⟨#[]⟩, .slice F 4 fc, .int .i64 0, .slice TA 0 tc, .int .i64 1] _ X2.out (by kernel_rfl) _ Tryz.underlying29 (by kernel_rfl) (by kernel_rfl) ?_)
    | (go_at_call 16; (with_reducible refine HSA.out.mono ?_); rintro e w3 ⟨A3, c3, he, hd3, -, hb3⟩; (try dsimp only [diskV] at he); subst he)
    | (with_reducible refine wpList_store_new rfl 29 (.tmp 4) (.tmp 18) rfl #[.slice A3 d3.sectors.length c3, .int .i64 d3.left, .bool d3.down] _ _ rfl (by kernel_rfl) (by kernel_rfl) (by kernel_rfl) (by kernel_rfl) ?_))
  have X3 := Lib.hid (blkOld X2.out (pastAlloc (o := .cells #[.slice A3 d3.sectors.length c3, .int .i64 d3.left, .bool d3.down] 29) hb3))
  have Y3 := Lib.hid (blkOld Y2.out (pastAlloc (o := .cells #[.slice A3 d3.sectors.length c3, .int .i64 d3.left, .bool d3.down] 29) hb3))
  have Z3 := Lib.hid (heap_alloc_new w3 (.cells #[.slice A3 d3.sectors.length c3, .int .i64 d3.left, .bool d3.down] 29))
  have B3 := Lib.hid (joinB B2.out (pastAlloc (o := .cells #[.slice A3 d3.sectors.length c3, .int .i64 d3.left, .bool d3.down] 29) hb3))
  have D3 := Lib.hid (D2.out.below (pastAlloc (o := .cells #[.slice A3 d3.sectors.length c3, .int .i64 d3.left, .bool d3.down] 29) hb3))
  have E3 := Lib.hid (E2.out.below (pastAlloc (o := .cells #[.slice A3 d3.sectors.length c3, .int .i64 d3.left, .bool d3.down] 29) hb3))
  have G3 := Lib.hid (hd3.below (allocB w3 (.cells #[.slice A3 d3.sectors.length c3, .int .i64 d3.left, .bool d3.down] 29)))
  obtain ⟨gd, hgd⟩ : ∃ g, g = w3.heap.size := ⟨_, rfl⟩
  obtain ⟨W3, hW3⟩ : ∃ W, W = w3.alloc (.cells #[.slice A3 d3.sectors.length c3, .int .i64 d3.left, .bool d3.down] 29) := ⟨_, rfl⟩
  rw [← hgd] at Z3
  rw [← hW3] at X3 Y3 Z3 B3 D3 E3 G3
  rw [← hW3, ← hgd]
  clear hgd hW3 hb3 hd3 X2 Y2 B2 D2 E2 HSA HS1
  have HSB := Lib.hid (HS2.out A c W3 D3.out)
  go_upto_region 5 with (first
    | (with_reducible refine listPart (by kernel_rfl) 29 (.tmp 21) rfl gs 3 rfl #[.slice A d0.sectors.length c, .int .i64 d0.left, .bool d0.down] #[.int .i64 9, .int .i64 4, .int .i64 4, .slice A d0.sectors.length c, .int .i64 d0.left, .bool d0.down, .int .i64 1, .int .i64 9, .int .i64 0, .int .i64 0, .string ⟨#[]⟩, .slice F 4 fc, .int .i64 0, .slice TA 0 tc, .int .i64 1] _ X3.out (by kernel_rfl) _ Tryz.underlying29 (by kernel_rfl) (by kernel_rfl) ?_)
    | (go_at_call 16; (with_reducible refine HSB.out.mono ?_); rintro e w4 ⟨A4, c4, he, -, -, hb4⟩; (try dsimp only [diskV] at he); subst he)
    | (with_reducible refine wpList_store_new rfl 29 (.tmp 6) (.tmp 24) rfl #[.slice A4 d0.sectors.length c4, .int .i64 d0.left, .bool d0.down] _ _ rfl (by kernel_rfl) (by kernel_rfl) (by kernel_rfl) (by kernel_rfl) ?_))
  have X4 := Lib.hid (blkOld X3.out (pastAlloc (o := .cells #[.slice A4 d0.sectors.length c4, .int .i64 d0.left, .bool d0.down] 29) hb4))
  have Y4 := Lib.hid (blkOld Y3.out (pastAlloc (o := .cells #[.slice A4 d0.sectors.length c4, .int .i64 d0.left, .bool d0.down] 29) hb4))
  have Z4 := Lib.hid (blkOld Z3.out (pastAlloc (o := .cells #[.slice A4 d0.sectors.length c4, .int .i64 d0.left, .bool d0.down] 29) hb4))
  have B4 := Lib.hid (joinB B3.out (pastAlloc (o := .cells #[.slice A4 d0.sectors.length c4, .int .i64 d0.left, .bool d0.down] 29) hb4))
  have D4 := Lib.hid (D3.out.below (pastAlloc (o := .cells #[.slice A4 d0.sectors.length c4, .int .i64 d0.left, .bool d0.down] 29) hb4))
  have E4 := Lib.hid (E3.out.below (pastAlloc (o := .cells #[.slice A4 d0.sectors.length c4, .int .i64 d0.left, .bool d0.down] 29) hb4))
  have G4 := Lib.hid (G3.out.below (pastAlloc (o := .cells #[.slice A4 d0.sectors.length c4, .int .i64 d0.left, .bool d0.down] 29) hb4))
  obtain ⟨W4, hW4⟩ : ∃ W, W = w4.alloc (.cells #[.slice A4 d0.sectors.length c4, .int .i64 d0.left, .bool d0.down] 29) := ⟨_, rfl⟩
  rw [← hW4] at X4 Y4 Z4 B4 D4 E4 G4
  rw [← hW4]
  clear hW4 hb4 X3 Y3 Z3 B3 D3 E3 G3 HSB HS2
  have k2 := HK2.out
  have k3 := HK3.out
  go_wp2_with (first
    | (with_reducible refine listPart (by kernel_rfl) 29 (.tmp 26) rfl gs 3 rfl #[.slice A d0.sectors.length c, .int .i64 d0.left, .bool d0.down] #[.int .i64 9, .int .i64 4, .int .i64 4, .slice A d0.sectors.length c, .int .i64 d0.left, .bool d0.down, .int .i64 1, .int .i64 9, .int .i64 0, .int .i64 0, .string ⟨#[]⟩, .slice F 4 fc, .int .i64 0, .slice TA 0 tc, .int .i64 1] _ X4.out (by kernel_rfl) _ Tryz.underlying29 (by kernel_rfl) (by kernel_rfl) ?_)
    | (go_at_call 18; (with_reducible refine (HM0.out A c _ D4.out).mono ?_); rintro e w5 ⟨rfl, hb5⟩; have Y5 := Lib.hid (blkOld Y4.out hb5); have Z5 := Lib.hid (blkOld Z4.out hb5); have E5 := Lib.hid (E4.out.below hb5); have G5 := Lib.hid (G4.out.below hb5); have B5 := Lib.hid (joinB B4.out hb5); clear D4 hb5)
    | (with_reducible refine listPart (by kernel_rfl) 29 (.tmp 35) rfl gt 3 rfl #[.slice A2 d2.sectors.length c2, .int .i64 d2.left, .bool d2.down] #[.int .i64 9, .int .i64 4, .int .i64 4, .slice A2 d2.sectors.length c2, .int .i64 d2.left, .bool d2.down, .int .i64 l2.from_, .int .i64 l2.n, .int .i64 l2.end_, .int .i64 l2.safe, .string l2.tail, .slice F 4 fc, .int .i64 0, .slice TA 0 tc, .int .i64 1] _ Y5.out (by kernel_rfl) _ Tryz.underlying29 (by kernel_rfl) (by kernel_rfl) ?_)
    | (go_at_call 18; (with_reducible refine (HM2.out A2 c2 _ E5.out).mono ?_); rintro e w6 ⟨rfl, hb6⟩; have hy6 := blkCell (blkOld Y5.out hb6); have Z6 := Lib.hid (blkOld Z5.out hb6); have G6 := Lib.hid (G5.out.below hb6); have B6 := Lib.hid (joinB B5.out hb6); clear E5 hb6)
    | (with_reducible refine listLoad (by kernel_rfl) 29 (.tmp 4) rfl gd rfl #[.slice A3 d3.sectors.length c3, .int .i64 d3.left, .bool d3.down] _ Z6.out _ Tryz.underlying29 (by kernel_rfl) (by kernel_rfl) ?_)
    | (go_at_call 18; (with_reducible refine (HM3.out A3 c3 _ G6.out).mono ?_); rintro e w7 ⟨rfl, hb7⟩; have B7 := Lib.hid (joinB B6.out hb7)))
  go_ret
  exact ⟨by simp, B7.out⟩
end Go.Proofs.YthfglhafphfhiaaGreat
/- Append, Clone, Delete, Note of transactions, at any length. -/
namespace Go.Proofs.YthfglhafphfhiaaGreat
open Go.RowKit
end Go.Proofs.YthfglhafphfhiaaGreat
/- The walks over the reference's place, noted, Note. -/
namespace Go.Proofs.YthfglhafphfhiaaGreat
open Go.RowKit
end Go.Proofs.YthfglhafphfhiaaGreat
/- Words for memory: bytes of the call's own, of which none that can be written is frozen; a string is appended. -/
namespace Go.Proofs.YthfglhafphfhiaaGreat
open Go.RowKit
/-- The bytes l, in a block of the call's own. -/
def OwnB (B : Nat) (w : World) (v : Value) (l : List UInt8) : Prop :=
  ∃ g cap, v = .slice (some ⟨g, 0, none⟩) l.length cap ∧ B ≤ g ∧ g < w.heap.size ∧ l.length ≤ cap ∧ cap ≤ maxLen ∧
    (∀ j, j < cap → (w.cell? ⟨g, j, none⟩).isSome = true ∧ w.frozen? ⟨g, j, none⟩ = false) ∧ ∀ (j : Nat) (hj : j < l.length), w.cell? ⟨g, j, none⟩ = some (.int .u8 (l[j].toNat : Int))
theorem OwnB.below {B : Nat} {w w' : World} {v : Value} {l : List UInt8} (h : OwnB B w v l) (hb : Below w.heap.size w w') : OwnB B w' v l := by
  obtain ⟨g, cap, h1, h2, h3, h4, h5, h6, h7⟩ := h
  refine ⟨g, cap, h1, h2, Nat.lt_of_lt_of_le h3 hb.size, h4, h5, fun j hj => ?_, fun j hj => ?_⟩
  · rw [hb.cell (p := ⟨g, j, none⟩) h3, hb.frozen (p := ⟨g, j, none⟩) h3]; exact h6 j hj
  · rw [hb.cell (p := ⟨g, j, none⟩) h3]; exact h7 j hj
theorem OwnB.mono {B B' : Nat} {w : World} {v : Value} {l : List UInt8} (h : OwnB B w v l) (hb : B' ≤ B) : OwnB B' w v l := by
  obtain ⟨g, cap, h1, h2, h3⟩ := h
  exact ⟨g, cap, h1, Nat.le_trans hb h2, h3⟩
end Go.Proofs.YthfglhafphfhiaaGreat
/- The walk over the reference of records: a checkpoint's bytes. -/
namespace Rc
theorem flat_take {α : Type} (f : α → List UInt8) (l : List α) (k : Nat) (h : k < l.length) : (l.take (k + 1)).flatMap f = (l.take k).flatMap f ++ f l[k] := by
  rw [List.take_add_one, List.getElem?_eq_getElem h, List.flatMap_append]
  simp
end Rc
namespace Go.Proofs.YthfglhafphfhiaaGreat
open Go.RowKit
end Go.Proofs.YthfglhafphfhiaaGreat
/- The walks over the reference of records: bare, change. -/
namespace Go.Proofs.YthfglhafphfhiaaGreat
open Go.RowKit
end Go.Proofs.YthfglhafphfhiaaGreat
/- The walk over the reference of records: lists. -/
namespace Go.Proofs.YthfglhafphfhiaaGreat
open Go.RowKit
end Go.Proofs.YthfglhafphfhiaaGreat
/- The plain law of records: what may be, kind by kind, as the reference asks it. -/
namespace Rc
variable {lsn prev txn page next nu how root : Int} {op : Op} {e : Key} {ts : List TxnAt} {ds : List DirtyAt}
end Rc
/- The walks over the reference of records: Same. -/
namespace Go.Proofs.YthfglhafphfhiaaGreat
open Go.RowKit
end Go.Proofs.YthfglhafphfhiaaGreat
/- The walk over the reference of records: Right, kind 8. -/
namespace Go.Proofs.YthfglhafphfhiaaGreat
open Go.RowKit
end Go.Proofs.YthfglhafphfhiaaGreat
/- The walk over the reference of records: Right, kind 2. -/
namespace Go.Proofs.YthfglhafphfhiaaGreat
open Go.RowKit
end Go.Proofs.YthfglhafphfhiaaGreat
/- The walk over the reference of records: Right, kind 3. -/
namespace Go.Proofs.YthfglhafphfhiaaGreat
open Go.RowKit
end Go.Proofs.YthfglhafphfhiaaGreat
/- The walk over the reference of records: Right, kind 4. -/
namespace Go.Proofs.YthfglhafphfhiaaGreat
open Go.RowKit
end Go.Proofs.YthfglhafphfhiaaGreat
/- The walk over the reference of records: Right, kind 9. -/
namespace Go.Proofs.YthfglhafphfhiaaGreat
open Go.RowKit
end Go.Proofs.YthfglhafphfhiaaGreat
/- The walk over the reference of records: Right, kind 1. -/
namespace Go.Proofs.YthfglhafphfhiaaGreat
open Go.RowKit
end Go.Proofs.YthfglhafphfhiaaGreat
/- The walk over the reference of records: Right, kind 5. -/
namespace Go.Proofs.YthfglhafphfhiaaGreat
open Go.RowKit
end Go.Proofs.YthfglhafphfhiaaGreat
/- The walk over the reference of records: Right, kind 6. -/
namespace Go.Proofs.YthfglhafphfhiaaGreat
open Go.RowKit
end Go.Proofs.YthfglhafphfhiaaGreat
/- The walk over the reference of records: Right, kind 7. -/
namespace Go.Proofs.YthfglhafphfhiaaGreat
open Go.RowKit
end Go.Proofs.YthfglhafphfhiaaGreat
/- The walk over the reference of records: Right of any record. -/
namespace Go.Proofs.YthfglhafphfhiaaGreat
open Go.RowKit
end Go.Proofs.YthfglhafphfhiaaGreat
/- The walks over the reference of records: a checkpoint's bytes in its record; the bytes of any record that may be. -/
namespace Go.Proofs.YthfglhafphfhiaaGreat
open Go.RowKit
end Go.Proofs.YthfglhafphfhiaaGreat
/- The walks over the references of records and of the log: Put, New, room, filled, piece. -/
namespace Go.Proofs.YthfglhafphfhiaaGreat
open Go.RowKit
end Go.Proofs.YthfglhafphfhiaaGreat
/- The walk over the reference of the log: Append. -/
namespace Go.Proofs.YthfglhafphfhiaaGreat
open Go.RowKit
end Go.Proofs.YthfglhafphfhiaaGreat
/- The walks over the reference of transactions: Find, Mark, write. -/
namespace Go.Proofs.YthfglhafphfhiaaGreat
open Go.RowKit
end Go.Proofs.YthfglhafphfhiaaGreat
/- The walk over the reference of transactions: own. -/
namespace Go.Proofs.YthfglhafphfhiaaGreat
open Go.RowKit
end Go.Proofs.YthfglhafphfhiaaGreat
/- The walks over the reference of transactions: Nest, Abort, End, Begin. -/
namespace Go.Proofs.YthfglhafphfhiaaGreat
open Go.RowKit
end Go.Proofs.YthfglhafphfhiaaGreat
/- The walk over the reference of transactions: Same. -/
namespace Go.Proofs.YthfglhafphfhiaaGreat
open Go.RowKit
theorem size_equal (a b c : Int) (w : World) : (Op.equalIn 10000 26 (.agg #[.int .i64 a, .int .i64 b, .int .i64 c]) (.agg #[.int .i64 a, .int .i64 b, .int .i64 c])).run Tryz.prog w = .ok true w := by
  have hS : Tryz.prog.underlying 26 = some (.struct (Tryz.prog.fieldsOf 26)) := by kernel_rfl
  have hp : Tryz.prog.stoodInHeld 26 = false := by kernel_rfl
  rw [show (10000 : Nat) = 9999 + 1 from rfl, run_equalIn_agg w 9999 26 _ _ hS hp]
  simp only [Program.fieldsOf, Tryz.underlying26]
  go_simp
theorem log_equal (a b c d : Int) (t : ByteArray) (w : World) : (Op.equalIn 10000 31 (.agg #[.int .i64 a, .int .i64 b, .int .i64 c, .int .i64 d, .string t]) (.agg #[.int .i64 a, .int .i64 b, .int .i64 c, .int .i64 d, .string t])).run Tryz.prog w = .ok true w := by
  have hS : Tryz.prog.underlying 31 = some (.struct (Tryz.prog.fieldsOf 31)) := by kernel_rfl
  have hp : Tryz.prog.stoodInHeld 31 = false := by kernel_rfl
  rw [show (10000 : Nat) = 9999 + 1 from rfl, run_equalIn_agg w 9999 31 _ _ hS hp]
  simp only [Program.fieldsOf, Tryz.underlying31]
  go_simp
set_option maxRecDepth 100000 in
set_option maxHeartbeats 8000000 in
theorem rsamed_any (s : Tx.St) (p q : SP) (hp : p.fn = 0) (hq : q.fn = 0) (hts : s.txns.length ≤ 800000) (hsl : s.disk.sectors.length ≤ 1000000) (w : World) (hd : DiskR w s.disk p.A p.c) (ht : TxR w p.T p.tc s.txns) (hd' : DiskR w s.disk q.A q.c) (ht' : TxR w q.T q.tc s.txns) :
    Calls Tryz.prog 12 #[storeV s p, storeV s q] w fun e w' => e = .returned (.bool true) ∧ Below w.heap.size w w' := by
  have HT := Lib.hid (fun W (hb : Below w.heap.size w W) => show Calls Tryz.prog 37 #[.slice p.T s.txns.length p.tc, .slice q.T s.txns.length q.tc] W fun e w' => e = .returned (.bool true) ∧ Below W.heap.size W w' from by
    have h9 := rsame_txn s.txns s.txns (by omega) (by omega) p.T q.T p.tc q.tc W (ht.below hb) (ht'.below hb)
    rw [decide_eq_true rfl] at h9
    exact h9)
  have HR1 := Lib.hid hd.secs
  have HR2 := Lib.hid hd'.secs
  clear hd ht hd' ht' hts
  obtain ⟨zl, zp, zf, ⟨L, lf, dn⟩, ⟨fr, ln, en, sf, tl⟩, hd, ts, nx⟩ := s
  obtain ⟨A, c, FA, fn, fc, TA, tc⟩ := p
  obtain ⟨A', c', FA', fn', fc', TA', tc'⟩ := q
  simp only at hp hq hsl HR1 HR2 HT
  subst hp hq
  dsimp only [storeV]
  have hze := size_equal zl zp zf
  have hle := log_equal fr ln en sf tl
  go_enter Tryz.func12, Tryz.ntmps12
  go_upto_region 1 with fail
  have H0 := Lib.hid (show BxL w.heap.size w [(#[.int .i64 zl, .int .i64 zp, .int .i64 zf, .slice A L.length c, .int .i64 lf, .bool dn, .int .i64 fr, .int .i64 ln, .int .i64 en, .int .i64 sf, .string tl, .slice FA 0 fc, .int .i64 hd, .slice TA ts.length tc, .int .i64 nx], 37), (#[.int .i64 zl, .int .i64 zp, .int .i64 zf, .slice A' L.length c', .int .i64 lf, .bool dn, .int .i64 fr, .int .i64 ln, .int .i64 en, .int .i64 sf, .string tl, .slice FA' 0 fc', .int .i64 hd, .slice TA' ts.length tc', .int .i64 nx], 37)] ((w.alloc (.cells #[.int .i64 zl, .int .i64 zp, .int .i64 zf, .slice A L.length c, .int .i64 lf, .bool dn, .int .i64 fr, .int .i64 ln, .int .i64 en, .int .i64 sf, .string tl, .slice FA 0 fc, .int .i64 hd, .slice TA ts.length tc, .int .i64 nx] 37)).alloc (.cells #[.int .i64 zl, .int .i64 zp, .int .i64 zf, .slice A' L.length c', .int .i64 lf, .bool dn, .int .i64 fr, .int .i64 ln, .int .i64 en, .int .i64 sf, .string tl, .slice FA' 0 fc', .int .i64 hd, .slice TA' ts.length tc', .int .i64 nx] 37)) from (((BxL.nil (Below.refl w.heap.size w)).new (by simp) #[.int .i64 zl, .int .i64 zp, .int .i64 zf, .slice A L.length c, .int .i64 lf, .bool dn, .int .i64 fr, .int .i64 ln, .int .i64 en, .int .i64 sf, .string tl, .slice FA 0 fc, .int .i64 hd, .slice TA ts.length tc, .int .i64 nx] 37).new (by simp) #[.int .i64 zl, .int .i64 zp, .int .i64 zf, .slice A' L.length c', .int .i64 lf, .bool dn, .int .i64 fr, .int .i64 ln, .int .i64 en, .int .i64 sf, .string tl, .slice FA' 0 fc', .int .i64 hd, .slice TA' ts.length tc', .int .i64 nx] 37))
  obtain ⟨W0, hW0⟩ : ∃ W, W = ((w.alloc (.cells #[.int .i64 zl, .int .i64 zp, .int .i64 zf, .slice A L.length c, .int .i64 lf, .bool dn, .int .i64 fr, .int .i64 ln, .int .i64 en, .int .i64 sf, .string tl, .slice FA 0 fc, .int .i64 hd, .slice TA ts.length tc, .int .i64 nx] 37)).alloc (.cells #[.int .i64 zl, .int .i64 zp, .int .i64 zf, .slice A' L.length c', .int .i64 lf, .bool dn, .int .i64 fr, .int .i64 ln, .int .i64 en, .int .i64 sf, .string tl, .slice FA' 0 fc', .int .i64 hd, .slice TA' ts.length tc', .int .i64 nx] 37)) := ⟨_, rfl⟩
  rw [← hW0] at H0 ⊢
  clear hW0
  have hc0 := blkCell H0.out.get0
  have hc1 := blkCell H0.out.get1
  go_upto_region 5 with (first
    | (with_reducible refine listPart (by kernel_rfl) 26 (.tmp 7) rfl w.heap.size 0 rfl #[.int .i64 zl, .int .i64 zp, .int .i64 zf] #[.int .i64 zl, .int .i64 zp, .int .i64 zf, .slice A L.length c, .int .i64 lf, .bool dn, .int .i64 fr, .int .i64 ln, .int .i64 en, .int .i64 sf, .string tl, .slice FA 0 fc, .int .i64 hd, .slice TA ts.length tc, .int .i64 nx] _ H0.out.get0 (by kernel_rfl) _ Tryz.underlying26 (by kernel_rfl) (by kernel_rfl) ?_)
    | (with_reducible refine listPart (by kernel_rfl) 26 (.tmp 9) rfl (w.heap.size + 1) 0 rfl #[.int .i64 zl, .int .i64 zp, .int .i64 zf] #[.int .i64 zl, .int .i64 zp, .int .i64 zf, .slice A' L.length c', .int .i64 lf, .bool dn, .int .i64 fr, .int .i64 ln, .int .i64 en, .int .i64 sf, .string tl, .slice FA' 0 fc', .int .i64 hd, .slice TA' ts.length tc', .int .i64 nx] _ H0.out.get1 (by kernel_rfl) _ Tryz.underlying26 (by kernel_rfl) (by kernel_rfl) ?_)
    | (with_reducible refine listPart (by kernel_rfl) 31 (.tmp 13) rfl w.heap.size 6 rfl #[.int .i64 fr, .int .i64 ln, .int .i64 en, .int .i64 sf, .string tl] #[.int .i64 zl, .int .i64 zp, .int .i64 zf, .slice A L.length c, .int .i64 lf, .bool dn, .int .i64 fr, .int .i64 ln, .int .i64 en, .int .i64 sf, .string tl, .slice FA 0 fc, .int .i64 hd, .slice TA ts.length tc, .int .i64 nx] _ H0.out.get0 (by kernel_rfl) _ Tryz.underlying31 (by kernel_rfl) (by kernel_rfl) ?_)
    | (with_reducible refine listPart (by kernel_rfl) 31 (.tmp 15) rfl (w.heap.size + 1) 6 rfl #[.int .i64 fr, .int .i64 ln, .int .i64 en, .int .i64 sf, .string tl] #[.int .i64 zl, .int .i64 zp, .int .i64 zf, .slice A' L.length c', .int .i64 lf, .bool dn, .int .i64 fr, .int .i64 ln, .int .i64 en, .int .i64 sf, .string tl, .slice FA' 0 fc', .int .i64 hd, .slice TA' ts.length tc', .int .i64 nx] _ H0.out.get1 (by kernel_rfl) _ Tryz.underlying31 (by kernel_rfl) (by kernel_rfl) ?_)
    | (go_at_call 37; (with_reducible refine (HT.out _ H0.out.below).mono ?_); rintro e w1 ⟨rfl, hb1⟩))
  have H1 := Lib.hid (H0.out.step hb1)
  clear hb1 hc0 hc1 H0 hze hle HT
  go_wp2_with fail
  go_loopw [5] (fun v wr => ∃ k : Nat, v = .int .i64 (k : Int) ∧ k ≤ L.length ∧ BxL w.heap.size w [(#[.int .i64 zl, .int .i64 zp, .int .i64 zf, .slice A L.length c, .int .i64 lf, .bool dn, .int .i64 fr, .int .i64 ln, .int .i64 en, .int .i64 sf, .string tl, .slice FA 0 fc, .int .i64 hd, .slice TA ts.length tc, .int .i64 nx], 37), (#[.int .i64 zl, .int .i64 zp, .int .i64 zf, .slice A' L.length c', .int .i64 lf, .bool dn, .int .i64 fr, .int .i64 ln, .int .i64 en, .int .i64 sf, .string tl, .slice FA' 0 fc', .int .i64 hd, .slice TA' ts.length tc', .int .i64 nx], 37)] wr) (fun v _ => L.length - (intOf v).toNat)
  case atStart => exact ⟨0, rfl, Nat.zero_le _, H1.out⟩
  case round =>
    obtain ⟨k, rfl, hk, hbx⟩ := hrel
    have HX := Lib.hid hbx
    have hc0 := blkCell hbx.get0
    have hc1 := blkCell hbx.get1
    clear hbx H1
    by_cases hlt : k < L.length
    · have hk0 : (0 : Int) ≤ (k : Int) := by omega
      have hk1 : (k : Int) < (L.length : Int) := by omega
      have hwk : IntKind.i64.wrap ((k : Int) + 1) = (k : Int) + 1 := IntWalk.i64_in _ (by omega)
      obtain ⟨b1, o1, rfl, hca, hbl1, hcell1⟩ := read_at strC_len (HR1.out.below HX.out.below) hlt
      obtain ⟨b2, o2, rfl, hcb, hbl2, hcell2⟩ := read_at strC_len (HR2.out.below HX.out.below) hlt
      have q1 := hcell1 0 _ rfl
      have q2 := hcell2 0 _ rfl
      simp only [Nat.mul_one, Nat.add_zero] at q1 q2
      generalize L[k] = x at q1 q2
      clear hcell1 hcell2 hca hcb
      go_upto_region 8 with fail
      go_quiet (fail)
      go_wp2_with fail
      go_roundw
      case rel => exact ⟨k + 1, by go_num, by omega, HX.out.step (drewB _ _)⟩
      case measure => simp [intOf]; omega
    · have hk1 : ¬ (k : Int) < (L.length : Int) := by omega
      go_wp2_with fail
      go_loopw [6] (fun v wr => v = .int .i64 0 ∧ BxL w.heap.size w [(#[.int .i64 zl, .int .i64 zp, .int .i64 zf, .slice A L.length c, .int .i64 lf, .bool dn, .int .i64 fr, .int .i64 ln, .int .i64 en, .int .i64 sf, .string tl, .slice FA 0 fc, .int .i64 hd, .slice TA ts.length tc, .int .i64 nx], 37), (#[.int .i64 zl, .int .i64 zp, .int .i64 zf, .slice A' L.length c', .int .i64 lf, .bool dn, .int .i64 fr, .int .i64 ln, .int .i64 en, .int .i64 sf, .string tl, .slice FA' 0 fc', .int .i64 hd, .slice TA' ts.length tc', .int .i64 nx], 37)] wr) (fun _ _ => 0)
      case atStart => exact ⟨rfl, HX.out⟩
      case round =>
        obtain ⟨rfl, hby⟩ := hrel
        have HY := Lib.hid hby
        have hd0 := blkCell hby.get0
        clear hby
        go_wp2_with fail
        go_ret
        exact ⟨rfl, HY.out.below⟩
end Go.Proofs.YthfglhafphfhiaaGreat
