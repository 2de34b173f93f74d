/- What the statement's texts need beside the base. -/
import Derived.Test.YtmebkghdkeeobaaGreatDoorHo29
import Derived.Test.YtmebkghdkeeobaaGreatDoorCards
import Derived.Test.YtmebkghdkeeobaaGreatDoorTie
import Derived.Deep.Slices
import Derived.Deep.DeepHandedRow
import Derived.Deep.DeepWitnessRowRef
import Derived.LaidMore
import Derived.LaidLaws
import Derived.OpenShut
/- of SpAl -/
namespace Go.Proofs.YtmebkghdkeeobaaGreatDoor
open Go.RowKit Sc
set_option maxRecDepth 100000 in
set_option maxHeartbeats 8000000 in
theorem salloc_bad (s : Tx.St) (p : SP) (t kd : Int) (hkd : kd < 2 ∨ 4 < kd) (w : World) :
    Calls Tryz.prog 12 #[storeV s p, .int .i64 t, .int .i64 kd] w fun e w' => e = .returned (.tuple #[storeV s p, .int .i64 0, .int .i64 1]) ∧ Below w.heap.size w w' := by
  by_cases hk1 : kd < 2
  · clear hkd
    go_enter Tryz.func12, Tryz.ntmps12
    go_upto_region 1 with fail
    have H0 := Lib.hid (show BxL w.heap.size w [((stA s p), 36), (#[.int .i64 0, .int .i64 0, .int .i64 0, .slice none 0 0, .int .i64 0, .bool false, .int .i64 0, .int .i64 0, .int .i64 0, .int .i64 0, .string ⟨#[]⟩, .slice none 0 0, .int .i64 0, .slice none 0 0, .int .i64 0], 36)] ((w.alloc (.cells (stA s p) 36)).alloc (.cells #[.int .i64 0, .int .i64 0, .int .i64 0, .slice none 0 0, .int .i64 0, .bool false, .int .i64 0, .int .i64 0, .int .i64 0, .int .i64 0, .string ⟨#[]⟩, .slice none 0 0, .int .i64 0, .slice none 0 0, .int .i64 0] 36)) from (((BxL.nil (Below.refl w.heap.size w)).new (by simp) (stA s p) 36).new (by simp) #[.int .i64 0, .int .i64 0, .int .i64 0, .slice none 0 0, .int .i64 0, .bool false, .int .i64 0, .int .i64 0, .int .i64 0, .int .i64 0, .string ⟨#[]⟩, .slice none 0 0, .int .i64 0, .slice none 0 0, .int .i64 0] 36))
    obtain ⟨W0, hW0⟩ : ∃ W, W = ((w.alloc (.cells (stA s p) 36)).alloc (.cells #[.int .i64 0, .int .i64 0, .int .i64 0, .slice none 0 0, .int .i64 0, .bool false, .int .i64 0, .int .i64 0, .int .i64 0, .int .i64 0, .string ⟨#[]⟩, .slice none 0 0, .int .i64 0, .slice none 0 0, .int .i64 0] 36)) := ⟨_, rfl⟩
    rw [← hW0] at H0 ⊢
    clear hW0
    go_wp2_with (first | (with_reducible refine listLoad (by kernel_rfl) 36 (.tmp 3) rfl w.heap.size rfl (stA s p) _ H0.out.get0 _ Tryz.underlying36 (by kernel_rfl) (by kernel_rfl) ?_) | (with_reducible refine listStore (by kernel_rfl) 36 (.tmp 6) (.tmp 19) rfl (w.heap.size + 1) (stA s p) _ _ rfl rfl H0.out.get1 (by kernel_rfl) (by kernel_rfl) (by kernel_rfl) ?_))
    refine bodyPost_ret (v := .tuple #[.agg (stA s p), .int .i64 0, .int .i64 1]) (results_cell3 rfl _ _ rfl (load_whole (setRow_heap _ _ _ _ _ _ H0.out.get1) Tryz.underlying36 (by kernel_rfl) (by kernel_rfl)) rfl rfl) rfl ?_
    exact ⟨rfl, (H0.out.row 1 (stA s p) _ rfl).below⟩
  · have hk2 : 4 < kd := by omega
    clear hkd
    go_enter Tryz.func12, Tryz.ntmps12
    go_upto_region 1 with fail
    have H0 := Lib.hid (show BxL w.heap.size w [((stA s p), 36), (#[.int .i64 0, .int .i64 0, .int .i64 0, .slice none 0 0, .int .i64 0, .bool false, .int .i64 0, .int .i64 0, .int .i64 0, .int .i64 0, .string ⟨#[]⟩, .slice none 0 0, .int .i64 0, .slice none 0 0, .int .i64 0], 36)] ((w.alloc (.cells (stA s p) 36)).alloc (.cells #[.int .i64 0, .int .i64 0, .int .i64 0, .slice none 0 0, .int .i64 0, .bool false, .int .i64 0, .int .i64 0, .int .i64 0, .int .i64 0, .string ⟨#[]⟩, .slice none 0 0, .int .i64 0, .slice none 0 0, .int .i64 0] 36)) from (((BxL.nil (Below.refl w.heap.size w)).new (by simp) (stA s p) 36).new (by simp) #[.int .i64 0, .int .i64 0, .int .i64 0, .slice none 0 0, .int .i64 0, .bool false, .int .i64 0, .int .i64 0, .int .i64 0, .int .i64 0, .string ⟨#[]⟩, .slice none 0 0, .int .i64 0, .slice none 0 0, .int .i64 0] 36))
    obtain ⟨W0, hW0⟩ : ∃ W, W = ((w.alloc (.cells (stA s p) 36)).alloc (.cells #[.int .i64 0, .int .i64 0, .int .i64 0, .slice none 0 0, .int .i64 0, .bool false, .int .i64 0, .int .i64 0, .int .i64 0, .int .i64 0, .string ⟨#[]⟩, .slice none 0 0, .int .i64 0, .slice none 0 0, .int .i64 0] 36)) := ⟨_, rfl⟩
    rw [← hW0] at H0 ⊢
    clear hW0
    go_wp2_with (first | (with_reducible refine listLoad (by kernel_rfl) 36 (.tmp 3) rfl w.heap.size rfl (stA s p) _ H0.out.get0 _ Tryz.underlying36 (by kernel_rfl) (by kernel_rfl) ?_) | (with_reducible refine listStore (by kernel_rfl) 36 (.tmp 6) (.tmp 19) rfl (w.heap.size + 1) (stA s p) _ _ rfl rfl H0.out.get1 (by kernel_rfl) (by kernel_rfl) (by kernel_rfl) ?_))
    refine bodyPost_ret (v := .tuple #[.agg (stA s p), .int .i64 0, .int .i64 1]) (results_cell3 rfl _ _ rfl (load_whole (setRow_heap _ _ _ _ _ _ H0.out.get1) Tryz.underlying36 (by kernel_rfl) (by kernel_rfl)) rfl rfl) rfl ?_
    exact ⟨rfl, (H0.out.row 1 (stA s p) _ rfl).below⟩
end Go.Proofs.YtmebkghdkeeobaaGreatDoor
/- The walks over package space: what is refused. -/
namespace Go.Proofs.YtmebkghdkeeobaaGreatDoor
open Go.RowKit Sc
set_option maxRecDepth 100000 in
set_option maxHeartbeats 16000000 in
theorem pchange_no {N n : Nat} (s : Tx.St) (p : SP) (fs : List Fr) (C : Nat → ByteArray) (hI : PI N n s fs C) (t : Int) (pg : Nat) (hpg : pg < n) (o : Rc.Op) (hno : ∀ a ∈ s.txns, a.txn ≠ t) (htl : s.txns.length ≤ 800000) (w : World) (h : PoolR w s p fs) :
    Calls Tryz.prog 96 #[storeV s p, .agg #[.int .i64 0, .int .i64 0, .int .i64 t, .int .i64 2, .int .i64 (pg : Int), .int .i64 0, .int .i64 0, .int .i64 o.kind, .int .i64 o.slot, .string o.old, .string o.new, .int .i64 1, .int .i64 0, .string ⟨#[]⟩, .int .i64 0, .int .i64 0, .slice none 0 0, .slice none 0 0]] w fun e w' => e = .returned (.tuple #[storeV s p, .int .i64 21]) ∧ Below w.heap.size w w' := by
  have hnf := hI.nf
  have HHS := Lib.hid (fun W => phas_any s p n hI.zp (pg : Int) W)
  rw [decide_eq_true (show 0 ≤ (pg : Int) ∧ (pg : Int) < (n : Int) from by omega)] at HHS
  have HIX := Lib.hid (fun (g : Nat) W (hb : Below w.heap.size w W) (hg : W.cell? ⟨g, 2, none⟩ = some (.int .i64 t)) (hgl : g < W.heap.size) => indexT_any (fun a => a.txn = t) 131 #[.pointer (some ⟨g, 0, none⟩)] (enters_of Tryz.func131 (by kernel_rfl) rfl) s.txns (by omega) p.T p.tc W (h.st.tx.below hb) (fun a _ V hV => pchg_clo a t g V (by rw [hV.cell (p := ⟨g, 2, none⟩) hgl]; exact hg)))
  have HNO := Lib.hid hno
  clear h hI hno hnf
  go_enter Tryz.func96, Tryz.ntmps96
  go_upto_region 1 with fail
  have H0 := Lib.hid (show BxL w.heap.size w [((stA s p), 36), (#[.int .i64 0, .int .i64 0, .int .i64 t, .int .i64 2, .int .i64 (pg : Int), .int .i64 0, .int .i64 0, .int .i64 o.kind, .int .i64 o.slot, .string o.old, .string o.new, .int .i64 1, .int .i64 0, .string ⟨#[]⟩, .int .i64 0, .int .i64 0, .slice none 0 0, .slice none 0 0], 96), (#[.int .i64 0, .int .i64 0, .int .i64 0, .slice none 0 0, .int .i64 0, .bool false, .int .i64 0, .int .i64 0, .int .i64 0, .int .i64 0, .string ⟨#[]⟩, .slice none 0 0, .int .i64 0, .slice none 0 0, .int .i64 0], 36)] (((w.alloc (.cells (stA s p) 36)).alloc (.cells #[.int .i64 0, .int .i64 0, .int .i64 t, .int .i64 2, .int .i64 (pg : Int), .int .i64 0, .int .i64 0, .int .i64 o.kind, .int .i64 o.slot, .string o.old, .string o.new, .int .i64 1, .int .i64 0, .string ⟨#[]⟩, .int .i64 0, .int .i64 0, .slice none 0 0, .slice none 0 0] 96)).alloc (.cells #[.int .i64 0, .int .i64 0, .int .i64 0, .slice none 0 0, .int .i64 0, .bool false, .int .i64 0, .int .i64 0, .int .i64 0, .int .i64 0, .string ⟨#[]⟩, .slice none 0 0, .int .i64 0, .slice none 0 0, .int .i64 0] 36)) from ((((BxL.nil (Below.refl w.heap.size w)).new (by simp) (stA s p) 36).new (by simp) #[.int .i64 0, .int .i64 0, .int .i64 t, .int .i64 2, .int .i64 (pg : Int), .int .i64 0, .int .i64 0, .int .i64 o.kind, .int .i64 o.slot, .string o.old, .string o.new, .int .i64 1, .int .i64 0, .string ⟨#[]⟩, .int .i64 0, .int .i64 0, .slice none 0 0, .slice none 0 0] 96).new (by simp) #[.int .i64 0, .int .i64 0, .int .i64 0, .slice none 0 0, .int .i64 0, .bool false, .int .i64 0, .int .i64 0, .int .i64 0, .int .i64 0, .string ⟨#[]⟩, .slice none 0 0, .int .i64 0, .slice none 0 0, .int .i64 0] 36))
  obtain ⟨W0, hW0⟩ : ∃ W, W = (((w.alloc (.cells (stA s p) 36)).alloc (.cells #[.int .i64 0, .int .i64 0, .int .i64 t, .int .i64 2, .int .i64 (pg : Int), .int .i64 0, .int .i64 0, .int .i64 o.kind, .int .i64 o.slot, .string o.old, .string o.new, .int .i64 1, .int .i64 0, .string ⟨#[]⟩, .int .i64 0, .int .i64 0, .slice none 0 0, .slice none 0 0] 96)).alloc (.cells #[.int .i64 0, .int .i64 0, .int .i64 0, .slice none 0 0, .int .i64 0, .bool false, .int .i64 0, .int .i64 0, .int .i64 0, .int .i64 0, .string ⟨#[]⟩, .slice none 0 0, .int .i64 0, .slice none 0 0, .int .i64 0] 36)) := ⟨_, rfl⟩
  rw [← hW0] at H0 ⊢
  clear hW0
  have hk3 := show W0.cell? ⟨(w.heap.size + 1), 3, none⟩ = some (.int .i64 2) from by rw [blkCell H0.out.get1]; rfl
  have hk4 := show W0.cell? ⟨(w.heap.size + 1), 4, none⟩ = some (.int .i64 (pg : Int)) from by rw [blkCell H0.out.get1]; rfl
  go_upto_region 3 with (first | (with_reducible refine listLoad (by kernel_rfl) 36 (.tmp 2) rfl w.heap.size rfl (stA s p) _ H0.out.get0 _ Tryz.underlying36 (by kernel_rfl) (by kernel_rfl) ?_) | (go_at_call 62; (refine (HHS.out _).mono ?_); rintro e w1 ⟨rfl, hb1⟩; have H1 := Lib.hid (H0.out.step hb1)))
  have hc13 := show w1.cell? ⟨w.heap.size, 13, none⟩ = some (.slice p.T s.txns.length p.tc) from by rw [blkCell H1.out.get0]; rfl
  have HIY := Lib.hid (HIX.out (w.heap.size + 1) w1 H1.out.below (by rw [blkCell H1.out.get1]; rfl) (H1.out.lt (i := 1) (by simp)))
  clear hk3 hk4 hb1 HHS H0 HIX
  go_upto_region 4 with (go_at_call 130; (refine HIY.out.mono ?_); rintro e w2 ⟨kk, rfl, hq, hb2⟩; have H2 := Lib.hid (H1.out.step hb2); clear hb2 H1 HIY hc13; rcases hq with ⟨rfl, hq⟩ | ⟨i, hi, rfl, hti, _⟩)
  · have hm1 : (-1 : Int) < 0 := by decide
    clear hq
    go_wp2_with (first | (with_reducible refine listLoad (by kernel_rfl) 36 (.tmp 2) rfl w.heap.size rfl (stA s p) _ H2.out.get0 _ Tryz.underlying36 (by kernel_rfl) (by kernel_rfl) ?_) | (with_reducible refine listStore (by kernel_rfl) 36 (.tmp 4) (.tmp 35) rfl (w.heap.size + 2) (stA s p) _ _ rfl rfl H2.out.get2 (by kernel_rfl) (by kernel_rfl) (by kernel_rfl) ?_))
    refine bodyPost_ret (v := .tuple #[.agg (stA s p), .int .i64 21]) (results_cell2 rfl _ _ rfl (load_whole (setRow_heap _ _ _ _ _ _ H2.out.get2) Tryz.underlying36 (by kernel_rfl) (by kernel_rfl)) rfl) rfl ?_
    exact ⟨rfl, (H2.out.row 2 (stA s p) _ rfl).below⟩
  · exact absurd hti (HNO.out _ (List.getElem_mem hi))
set_option maxRecDepth 100000 in
set_option maxHeartbeats 16000000 in
theorem schange_no {N n k : Nat} {ids : List Int} {c : Int} (s : Tx.St) (p : SP) (fs : List Fr) (C : Nat → ByteArray) (hS : SS N n k ids c s fs C) (t : Int) (ht : t ∉ ids) (pg : Nat) (hpg : pg < n) (o : Rc.Op) (w : World) (h : PoolR w s p fs) :
    Calls Tryz.prog 58 #[storeV s p, .int .i64 t, .int .i64 (pg : Int), .agg #[.int .i64 o.kind, .int .i64 o.slot, .string o.old, .string o.new]] w fun e w' => ∃ q, e = .returned (.tuple #[storeV s q, .int .i64 21]) ∧ PoolR w' s q fs ∧ Below w.heap.size w w' := by
  have HPC := Lib.hid (fun W (hw : Below w.heap.size w W) => pchange_no s p fs C hS.pi t pg hpg o (hS.tx.no ht) hS.tx.small W (h.below hw))
  have HP := Lib.hid h
  clear hS h ht
  go_enter Tryz.func58, Tryz.ntmps58
  go_upto_region 1 with fail
  have H0 := Lib.hid (show BxL w.heap.size w [((stA s p), 36), (#[.int .i64 o.kind, .int .i64 o.slot, .string o.old, .string o.new], 89), (#[.int .i64 0, .int .i64 0, .int .i64 0, .slice none 0 0, .int .i64 0, .bool false, .int .i64 0, .int .i64 0, .int .i64 0, .int .i64 0, .string ⟨#[]⟩, .slice none 0 0, .int .i64 0, .slice none 0 0, .int .i64 0], 36)] (((w.alloc (.cells (stA s p) 36)).alloc (.cells #[.int .i64 o.kind, .int .i64 o.slot, .string o.old, .string o.new] 89)).alloc (.cells #[.int .i64 0, .int .i64 0, .int .i64 0, .slice none 0 0, .int .i64 0, .bool false, .int .i64 0, .int .i64 0, .int .i64 0, .int .i64 0, .string ⟨#[]⟩, .slice none 0 0, .int .i64 0, .slice none 0 0, .int .i64 0] 36)) from ((((BxL.nil (Below.refl w.heap.size w)).new (by simp) (stA s p) 36).new (by simp) #[.int .i64 o.kind, .int .i64 o.slot, .string o.old, .string o.new] 89).new (by simp) #[.int .i64 0, .int .i64 0, .int .i64 0, .slice none 0 0, .int .i64 0, .bool false, .int .i64 0, .int .i64 0, .int .i64 0, .int .i64 0, .string ⟨#[]⟩, .slice none 0 0, .int .i64 0, .slice none 0 0, .int .i64 0] 36))
  obtain ⟨W0, hW0⟩ : ∃ W, W = (((w.alloc (.cells (stA s p) 36)).alloc (.cells #[.int .i64 o.kind, .int .i64 o.slot, .string o.old, .string o.new] 89)).alloc (.cells #[.int .i64 0, .int .i64 0, .int .i64 0, .slice none 0 0, .int .i64 0, .bool false, .int .i64 0, .int .i64 0, .int .i64 0, .int .i64 0, .string ⟨#[]⟩, .slice none 0 0, .int .i64 0, .slice none 0 0, .int .i64 0] 36)) := ⟨_, rfl⟩
  rw [← hW0] at H0 ⊢
  clear hW0
  go_wp2_with (first
    | (with_reducible refine listLoad (by kernel_rfl) 36 (.tmp 4) rfl w.heap.size rfl (stA s p) _ H0.out.get0 _ Tryz.underlying36 (by kernel_rfl) (by kernel_rfl) ?_)
    | (with_reducible refine listLoad (by kernel_rfl) 89 (.tmp 7) rfl (w.heap.size + 1) rfl #[.int .i64 o.kind, .int .i64 o.slot, .string o.old, .string o.new] _ H0.out.get1 _ Tryz.underlying89 (by kernel_rfl) (by kernel_rfl) ?_)
    | (go_at_call 96; (refine (HPC.out _ H0.out.below).mono ?_); rintro e w1 ⟨rfl, hb1⟩; have H1 := Lib.hid (H0.out.step hb1))
    | (with_reducible refine listStore (by kernel_rfl) 36 (.tmp 8) (.tmp 16) rfl (w.heap.size + 2) (stA s p) _ _ rfl rfl H1.out.get2 (by kernel_rfl) (by kernel_rfl) (by kernel_rfl) ?_))
  refine bodyPost_ret (v := .tuple #[.agg (stA s p), .int .i64 21]) (results_cell2 rfl _ _ rfl (load_whole (setRow_heap _ _ _ _ _ _ H1.out.get2) Tryz.underlying36 (by kernel_rfl) (by kernel_rfl)) rfl) rfl ?_
  exact ⟨p, rfl, (HP.out.below H1.out.below).other (t := 36) H1.out.get2 (by decide) (by decide) (by decide) _, (H1.out.row 2 (stA s p) _ rfl).below⟩
set_option maxRecDepth 100000 in
set_option maxHeartbeats 16000000 in
theorem sflip_no {N n k : Nat} {ids : List Int} {c : Int} (s : Tx.St) (p : SP) (fs : List Fr) (C : Nat → ByteArray) (hS : SS N n k ids c s fs C) (t : Int) (ht : t ∉ ids) (b : ByteArray) (pg : Nat) (hq8 : pg / 8 < b.size) (hpn : pg < 1000) (kd : Int) (v : Value) (B g : Nat) (w : World) (hv : OwnU B g w v b.data.toList) (h : PoolR w s p fs) :
    Calls Tryz.prog 34 #[storeV s p, .int .i64 t, .int .i64 (pg : Int), .int .i64 kd, v] w fun e w' => ∃ q, e = .returned (.tuple #[storeV s q, .int .i64 21]) ∧ PoolR w' s q fs ∧ KeptB w.heap.size g w w' := by
  have hn := hS.pi.n1
  have HCH := Lib.hid (fun W (hw : PoolR W s p fs) => show Calls Tryz.prog 58 #[storeV s p, .int .i64 t, .int .i64 0, .agg #[.int .i64 3, .int .i64 0, .string b, .string (flipB b pg)]] W _ from schange_no s p fs C hS t ht 0 (by omega) ⟨3, 0, b, flipB b pg⟩ W hw)
  have HV := Lib.hid hv
  have HT := Lib.hid (fun W (hw : OwnU B g W v b.data.toList) => hw.turn (p := pg) hq8)
  have HP := Lib.hid h
  have hgw : g < w.heap.size := by obtain ⟨cur, fr, h1⟩ := hv.ty; exact heapLt h1
  obtain ⟨cc, hve⟩ := hv.at_
  have hlen : b.data.toList.length = b.size := size_list b
  rw [hlen] at hve
  have HBK := Lib.hid (fun W (hw : OwnU B g W v b.data.toList) => show (convert 67 9 v).run Tryz.prog W = .ok (.string b) W from by have h1 := hw.own.back (P := Tryz.prog) Tryz.underlying67 Tryz.underlying5 Tryz.underlying9; rw [of_list] at h1; exact h1)
  have HBK2 := Lib.hid (fun W (hw : OwnU B g W v (flipB b pg).data.toList) => show (convert 67 9 v).run Tryz.prog W = .ok (.string (flipB b pg)) W from by have h1 := hw.own.back (P := Tryz.prog) Tryz.underlying67 Tryz.underlying5 Tryz.underlying9; rw [of_list] at h1; exact h1)
  have hq : Int.tdiv (pg : Int) 8 = ((pg / 8 : Nat) : Int) := by rw [Int.tdiv_eq_ediv_of_nonneg (by omega)]; omega
  have hr : Int.tmod (pg : Int) 8 = ((pg % 8 : Nat) : Int) := by rw [Int.tmod_eq_emod_of_nonneg (by omega)]; omega
  have hw1 : IntKind.i64.wrap ((pg / 8 : Nat) : Int) = ((pg / 8 : Nat) : Int) := IntWalk.i64_in _ (by omega)
  have hw2 : IntKind.i64.wrap ((pg % 8 : Nat) : Int) = ((pg % 8 : Nat) : Int) := IntWalk.i64_in _ (by omega)
  have h8 : pg % 8 < 8 := Nat.mod_lt _ (by decide)
  have hq0 : (0 : Int) ≤ ((pg / 8 : Nat) : Int) := by omega
  have hql : ((pg / 8 : Nat) : Int) < (b.size : Int) := by omega
  generalize hb2 : flipB b pg = b2 at HCH HT HBK2
  clear hb2 h hv hS hn ht hlen
  subst hve
  generalize pg / 8 = q8 at hq hw1 hq0 hql hq8 HT
  generalize pg % 8 = r8 at hr hw2 h8 HT
  have hr0 : (0 : Int) ≤ (r8 : Int) := by omega
  go_enter Tryz.func34, Tryz.ntmps34
  go_upto_region 1 with fail
  have H0 := Lib.hid (show BxL w.heap.size w [((stA s p), 36), (#[.int .i64 0, .int .i64 0, .int .i64 0, .slice none 0 0, .int .i64 0, .bool false, .int .i64 0, .int .i64 0, .int .i64 0, .int .i64 0, .string ⟨#[]⟩, .slice none 0 0, .int .i64 0, .slice none 0 0, .int .i64 0], 36)] ((w.alloc (.cells (stA s p) 36)).alloc (.cells #[.int .i64 0, .int .i64 0, .int .i64 0, .slice none 0 0, .int .i64 0, .bool false, .int .i64 0, .int .i64 0, .int .i64 0, .int .i64 0, .string ⟨#[]⟩, .slice none 0 0, .int .i64 0, .slice none 0 0, .int .i64 0] 36)) from (((BxL.nil (Below.refl w.heap.size w)).new (by simp) (stA s p) 36).new (by simp) #[.int .i64 0, .int .i64 0, .int .i64 0, .slice none 0 0, .int .i64 0, .bool false, .int .i64 0, .int .i64 0, .int .i64 0, .int .i64 0, .string ⟨#[]⟩, .slice none 0 0, .int .i64 0, .slice none 0 0, .int .i64 0] 36))
  obtain ⟨W0, hW0⟩ : ∃ W, W = ((w.alloc (.cells (stA s p) 36)).alloc (.cells #[.int .i64 0, .int .i64 0, .int .i64 0, .slice none 0 0, .int .i64 0, .bool false, .int .i64 0, .int .i64 0, .int .i64 0, .int .i64 0, .string ⟨#[]⟩, .slice none 0 0, .int .i64 0, .slice none 0 0, .int .i64 0] 36)) := ⟨_, rfl⟩
  rw [← hW0] at H0 ⊢
  clear hW0
  have HF0 := Lib.hid (FxL.of (g := g) H0.out rfl)
  have HV0 := Lib.hid (HV.out.below H0.out.below)
  have HP0 := Lib.hid (HP.out.below H0.out.below)
  have hcv := HBK.out W0 HV0.out
  clear HV HP H0 HBK
  generalize hy : b.data.toList[q8]?.getD 0 = y at HT
  have hyl : y.toNat < 256 := y.toNat_lt
  have hxr : bits BinOp.xor IntKind.u8 (y.toNat : Int) ((2 ^ r8 : Nat) : Int) = ((y.toNat ^^^ 2 ^ r8 : Nat) : Int) := u8_xor_nat _ _ hyl (by
    have : 2 ^ r8 ≤ 2 ^ 7 := Nat.pow_le_pow_right (by omega) (by omega)
    omega)
  rw [show ((2 ^ r8 : Nat) : Int) = (2 : Int) ^ r8 from by rw [Int.natCast_pow]; rfl] at hxr
  have hsh : IntKind.u8.wrap (1 * 2 ^ r8) = ((2 ^ r8 : Nat) : Int) := by
    have : r8 = 0 ∨ r8 = 1 ∨ r8 = 2 ∨ r8 = 3 ∨ r8 = 4 ∨ r8 = 5 ∨ r8 = 6 ∨ r8 = 7 := by omega
    rcases this with rfl | rfl | rfl | rfl | rfl | rfl | rfl | rfl <;> decide
  have hsh2 : IntKind.u8.wrap (2 ^ r8) = ((2 ^ r8 : Nat) : Int) := by rw [← hsh, Int.one_mul]
  generalize hz : (y.toNat ^^^ 2 ^ r8 : Nat) = z at HT hxr
  clear hy hyl hz
  go_upto_region 2 with fail
  clear hcv
  go_cut [25] (fun x wc => FxL w.heap.size g w [((stA s p), 36), (#[.int .i64 0, .int .i64 0, .int .i64 0, .slice none 0 0, .int .i64 0, .bool false, .int .i64 0, .int .i64 0, .int .i64 0, .int .i64 0, .string ⟨#[]⟩, .slice none 0 0, .int .i64 0, .slice none 0 0, .int .i64 0], 36)] wc ∧ OwnU B g wc (.slice (some ⟨g, 0, none⟩) b.size cc) b2.data.toList ∧ PoolR wc s p fs)
  case first =>
    have hSn : W0.drew.cell? ⟨g, q8, none⟩ = some (.int .u8 (y.toNat : Int)) := (HT.out W0 HV0.out).1
    have hF := HF0.out.step (Below.refl _ W0).drew
    have hV := HV0.out.below (Below.refl _ W0).drew
    have hP := HP0.out.below (Below.refl _ W0).drew
    refine wp_region_Z (S := (fun u => u.cell? ⟨g, q8, none⟩ = some (.int .u8 (y.toNat : Int)))) 10 (by kernel_rfl) ?_ (fun hHeld => ?_)
    · exact hSn
    generalize W0.drew = w8 at hSn hF hV hP ⊢
    refine wpAnyZ_take (i := 0) (oi := { dst := some 16, op := _, type := _, pos := _, after := _, guard := _ }) (v := ?_) (p := [10]) rfl (by kernel_rfl) (by kernel_rfl) (by kernel_rfl) (by kernel_rfl) (by kernel_rfl) (by kernel_rfl) (fun _ _ _ h => h) (Or.inl ⟨by rfl, ?_⟩) (by assumption) ?_
    rotate_left
    · intro u hSu; have hcl := hSu
      clear hSu; go_simp; (try with_reducible rfl)
    try simp only [Act.put, List.setIfInBounds_toArray, List.set_cons_zero, List.set_cons_succ]
    refine wpAnyZ_take (i := 1) (oi := { dst := some 17, op := _, type := _, pos := _, after := _, guard := _ }) (v := ?_) (p := [10]) rfl (by kernel_rfl) (by kernel_rfl) (by kernel_rfl) (by kernel_rfl) (by kernel_rfl) (by kernel_rfl) (fun _ _ _ h => h) (Or.inl ⟨by rfl, ?_⟩) (by assumption) ?_
    rotate_left
    · intro u hSu; have hcl := hSu
      clear hSu; go_simp; (try with_reducible rfl)
    try simp only [Act.put, List.setIfInBounds_toArray, List.set_cons_zero, List.set_cons_succ]
    refine wpAnyZ_take (i := 2) (oi := { dst := some 18, op := _, type := _, pos := _, after := _, guard := _ }) (v := ?_) (p := [10]) rfl (by kernel_rfl) (by kernel_rfl) (by kernel_rfl) (by kernel_rfl) (by kernel_rfl) (by kernel_rfl) (fun _ _ _ h => h) (Or.inl ⟨by rfl, ?_⟩) (by assumption) ?_
    rotate_left
    · intro u hSu; have hcl := hSu
      clear hSu; go_simp; (try with_reducible rfl)
    try simp only [Act.put, List.setIfInBounds_toArray, List.set_cons_zero, List.set_cons_succ]
    refine wpAnyZ_take (i := 3) (oi := { dst := some 19, op := _, type := _, pos := _, after := _, guard := _ }) (v := ?_) (p := [10]) rfl (by kernel_rfl) (by kernel_rfl) (by kernel_rfl) (by kernel_rfl) (by kernel_rfl) (by kernel_rfl) (fun _ _ _ h => h) (Or.inl ⟨by rfl, ?_⟩) (by assumption) ?_
    rotate_left
    · intro u hSu; have hcl := hSu
      clear hSu; go_simp; (try with_reducible rfl)
    try simp only [Act.put, List.setIfInBounds_toArray, List.set_cons_zero, List.set_cons_succ]
    refine wpAnyZ_take (i := 4) (oi := { dst := some 20, op := _, type := _, pos := _, after := _, guard := _ }) (v := ?_) (p := [10]) rfl (by kernel_rfl) (by kernel_rfl) (by kernel_rfl) (by kernel_rfl) (by kernel_rfl) (by kernel_rfl) (fun _ _ _ h => h) (Or.inl ⟨by rfl, ?_⟩) (by assumption) ?_
    rotate_left
    · intro u hSu; have hcl := hSu
      clear hSu; go_simp; (try with_reducible rfl)
    try simp only [Act.put, List.setIfInBounds_toArray, List.set_cons_zero, List.set_cons_succ]
    refine wpAnyZ_take (i := 5) (oi := { dst := some 21, op := _, type := _, pos := _, after := _, guard := _ }) (v := ?_) (p := [10]) rfl (by kernel_rfl) (by kernel_rfl) (by kernel_rfl) (by kernel_rfl) (by kernel_rfl) (by kernel_rfl) (fun _ _ _ h => h) (Or.inl ⟨by rfl, ?_⟩) (by assumption) ?_
    rotate_left
    · intro u hSu; have hcl := hSu
      clear hSu; go_simp; (try with_reducible rfl)
    try simp only [Act.put, List.setIfInBounds_toArray, List.set_cons_zero, List.set_cons_succ]
    refine wpAnyZ_take (i := 6) (oi := { dst := some 22, op := _, type := _, pos := _, after := _, guard := _ }) (v := ?_) (p := [10]) rfl (by kernel_rfl) (by kernel_rfl) (by kernel_rfl) (by kernel_rfl) (by kernel_rfl) (by kernel_rfl) (fun _ _ _ h => h) (Or.inl ⟨by rfl, ?_⟩) (by assumption) ?_
    rotate_left
    · intro u hSu; have hcl := hSu
      clear hSu; go_simp; (try with_reducible rfl)
    try simp only [Act.put, List.setIfInBounds_toArray, List.set_cons_zero, List.set_cons_succ]
    refine wpAnyZ_take (i := 7) (oi := { dst := some 23, op := _, type := _, pos := _, after := _, guard := _ }) (v := ?_) (p := [10]) rfl (by kernel_rfl) (by kernel_rfl) (by kernel_rfl) (by kernel_rfl) (by kernel_rfl) (by kernel_rfl) (fun _ _ _ h => h) (Or.inl ⟨by rfl, ?_⟩) (by assumption) ?_
    rotate_left
    · intro u hSu; have hcl := hSu
      clear hSu; go_simp; (try with_reducible rfl)
    try simp only [Act.put, List.setIfInBounds_toArray, List.set_cons_zero, List.set_cons_succ]
    refine wpAnyZ_take (i := 8) (oi := { dst := some 24, op := _, type := _, pos := _, after := _, guard := _ }) (v := ?_) (p := [10]) rfl (by kernel_rfl) (by kernel_rfl) (by kernel_rfl) (by kernel_rfl) (by kernel_rfl) (by kernel_rfl) (fun _ _ _ h => h) (Or.inl ⟨by rfl, ?_⟩) (by assumption) ?_
    rotate_left
    · intro u hSu; have hcl := hSu
      clear hSu; go_simp; (try with_reducible rfl)
    try simp only [Act.put, List.setIfInBounds_toArray, List.set_cons_zero, List.set_cons_succ]
    refine wpAnyZ_take (i := 9) (oi := { dst := some 25, op := _, type := _, pos := _, after := _, guard := _ }) (v := ?_) (p := [10]) rfl (by kernel_rfl) (by kernel_rfl) (by kernel_rfl) (by kernel_rfl) (by kernel_rfl) (by kernel_rfl) (fun _ _ _ h => h) (Or.inl ⟨by rfl, ?_⟩) (by assumption) ?_
    rotate_left
    · intro u hSu; have hcl := hSu
      clear hSu; go_simp; (try with_reducible rfl)
    try simp only [Act.put, List.setIfInBounds_toArray, List.set_cons_zero, List.set_cons_succ]
    refine wpAnyZ_ready (rs := [10]) (by kernel_rfl) (by simp) ?_
    refine AllReadyZ.last (o := { dst := none, op := _, type := _, pos := _, after := _, guard := _ }) rfl (by kernel_rfl) (fun K hK => ?_) ?_
    rotate_left
    · exact AllReadyZ.nil
    have hz8 := (HT.out _ hV).2.1
    go_simp
    refine hK.out _ _ ?_
    clear hK K
    try simp only [Act.put]
    refine wpAnyZ_done (by kernel_rfl) ?_ _
    go_wp2_with fail
    go_meet
    case rel => exact ⟨hF.byte hgw q8 _, (HT.out _ hV).2.2, by obtain ⟨cur, fr, h1⟩ := hV.ty; exact hP.set (t := 5) h1 (by decide) (by decide) (by decide) q8 _⟩
  case rest =>
    obtain ⟨hf3, hv3, hp3⟩ := hcut
    obtain ⟨w3, rfl⟩ : ∃ wm : World, wm = wc := ⟨_, rfl⟩
    have HF3 := Lib.hid hf3
    have HP3 := Lib.hid hp3
    have hcv := HBK2.out w3 hv3
    clear hf3 hp3 hv3 HF0 HV0 HP0 HT HBK2 hxr hsh hsh2
    go_upto_region 5 with (first
      | (with_reducible refine listLoad (by kernel_rfl) 36 (.tmp 5) rfl w.heap.size rfl (stA s p) _ HF3.out.get0 _ Tryz.underlying36 (by kernel_rfl) (by kernel_rfl) ?_)
      | (go_at_call 58; (refine (HCH.out _ HP3.out).mono ?_); rintro e w4 ⟨q1, rfl, hp4, hb4⟩; have HF4 := Lib.hid (HF3.out.step hb4))
      | (with_reducible refine listStore (by kernel_rfl) 36 (.tmp 5) (.tmp 34) rfl w.heap.size (stA s q1) _ _ rfl rfl HF4.out.get0 (by kernel_rfl) (by kernel_rfl) (by kernel_rfl) ?_))
    have HF5 := Lib.hid (show FxL w.heap.size g w [((stA s q1), 36), (#[.int .i64 0, .int .i64 0, .int .i64 0, .slice none 0 0, .int .i64 0, .bool false, .int .i64 0, .int .i64 0, .int .i64 0, .int .i64 0, .string ⟨#[]⟩, .slice none 0 0, .int .i64 0, .slice none 0 0, .int .i64 0], 36)] (w4.setRow w.heap.size (stA s q1)) from HF4.out.row 0 (stA s q1) _ rfl)
    have HP5 := Lib.hid (hp4.other (t := 36) HF4.out.get0 (by decide) (by decide) (by decide) (stA s q1))
    generalize w4.setRow w.heap.size (stA s q1) = w5 at HF5 HP5 ⊢
    clear HF3 HP3 HF4 hp4 hb4 HCH hcv
    try simp only [Act.put]
    go_wp2_with (first
      | (with_reducible refine listLoad (by kernel_rfl) 36 (.tmp 5) rfl w.heap.size rfl (stA s q1) _ HF5.out.get0 _ Tryz.underlying36 (by kernel_rfl) (by kernel_rfl) ?_)
      | (with_reducible refine listStore (by kernel_rfl) 36 (.tmp 10) (.tmp 38) rfl (w.heap.size + 1) (stA s q1) _ _ rfl rfl HF5.out.get1 (by kernel_rfl) (by kernel_rfl) (by kernel_rfl) ?_))
    refine bodyPost_ret (v := .tuple #[.agg (stA s q1), .int .i64 21]) (results_cell2 rfl _ _ rfl (load_whole (setRow_heap _ _ _ _ _ _ HF5.out.get1) Tryz.underlying36 (by kernel_rfl) (by kernel_rfl)) rfl) rfl ?_
    exact ⟨q1, rfl, HP5.out.other (t := 36) HF5.out.get1 (by decide) (by decide) (by decide) _, (HF5.out.row 1 (stA s q1) _ rfl).kept⟩
set_option maxRecDepth 100000 in
set_option maxHeartbeats 16000000 in
theorem salloc_no {N n k : Nat} {ids : List Int} {c : Int} (s : Tx.St) (p : SP) (fs : List Fr) (C : Nat → ByteArray) (hS : SS N n k ids c s fs C) (t : Int) (ht : t ∉ ids) (b : ByteArray) (u : Nat → Nat) (hu : SI n C b u) (kd : Nat) (hkd : 2 ≤ kd ∧ kd ≤ 4) (pg : Nat) (hpg : pg < n) (hup : Upto u pg) (hno : ¬ 0 < u pg) (w : World) (h : PoolR w s p fs) :
    Calls Tryz.prog 12 #[storeV s p, .int .i64 t, .int .i64 (kd : Int)] w fun e w' => e = .returned (.tuple #[storeV s p, .int .i64 0, .int .i64 21]) ∧ Below w.heap.size w w' := by
  have hn := hS.pi.n1
  have HZ := Lib.hid hS.pi.zp
  have HBI := Lib.hid (fun W (hb : Below w.heap.size w W) => sbits_any s p fs C hS b u hu W (h.below hb))
  have HUS := Lib.hid (fun (v : Value) (B : Nat) (j : Nat) (hj : j < n) W (hv : OwnB B W v b.data.toList) => sused_any v b B j (by rw [hu.sz]; omega) (by omega) W hv)
  have HBT := Lib.hid hu.bt
  have HFP := Lib.hid (fun (s1 : Tx.St) (q1 : SP) (fs1 : List Fr) (hS1 : SS N n k ids c s1 fs1 C) (v : Value) (B g : Nat) W (hv : OwnU B g W v b.data.toList) (hw : PoolR W s1 q1 fs1) => sflip_no s1 q1 fs1 C hS1 t ht b pg (by rw [hu.sz]; omega) (by omega) (kd : Int) v B g W hv hw)
  have HUP := Lib.hid hup
  have HNO := Lib.hid hno
  clear h hS hu hup hno ht
  have hk1 : ¬ (kd : Int) < 2 := by omega
  have hk2 : ¬ (4 : Int) < (kd : Int) := by omega
  go_enter Tryz.func12, Tryz.ntmps12
  go_upto_region 1 with fail
  have H0 := Lib.hid (show BxL w.heap.size w [((stA s p), 36), (#[.int .i64 0, .int .i64 0, .int .i64 0, .slice none 0 0, .int .i64 0, .bool false, .int .i64 0, .int .i64 0, .int .i64 0, .int .i64 0, .string ⟨#[]⟩, .slice none 0 0, .int .i64 0, .slice none 0 0, .int .i64 0], 36)] ((w.alloc (.cells (stA s p) 36)).alloc (.cells #[.int .i64 0, .int .i64 0, .int .i64 0, .slice none 0 0, .int .i64 0, .bool false, .int .i64 0, .int .i64 0, .int .i64 0, .int .i64 0, .string ⟨#[]⟩, .slice none 0 0, .int .i64 0, .slice none 0 0, .int .i64 0] 36)) from (((BxL.nil (Below.refl w.heap.size w)).new (by simp) (stA s p) 36).new (by simp) #[.int .i64 0, .int .i64 0, .int .i64 0, .slice none 0 0, .int .i64 0, .bool false, .int .i64 0, .int .i64 0, .int .i64 0, .int .i64 0, .string ⟨#[]⟩, .slice none 0 0, .int .i64 0, .slice none 0 0, .int .i64 0] 36))
  obtain ⟨W0, hW0⟩ : ∃ W, W = ((w.alloc (.cells (stA s p) 36)).alloc (.cells #[.int .i64 0, .int .i64 0, .int .i64 0, .slice none 0 0, .int .i64 0, .bool false, .int .i64 0, .int .i64 0, .int .i64 0, .int .i64 0, .string ⟨#[]⟩, .slice none 0 0, .int .i64 0, .slice none 0 0, .int .i64 0] 36)) := ⟨_, rfl⟩
  rw [← hW0] at H0 ⊢
  clear hW0
  go_upto_region 6 with (first
    | (with_reducible refine listLoad (by kernel_rfl) 36 (.tmp 3) rfl w.heap.size rfl (stA s p) _ H0.out.get0 _ Tryz.underlying36 (by kernel_rfl) (by kernel_rfl) ?_)
    | (go_at_call 31; (refine (HBI.out _ H0.out.below).mono ?_); rintro e w4 ⟨s1, q1, fs1, v, g, rfl, hp4, hi4, hv4, hg4, hb4⟩)
    | (with_reducible refine wpList_store_new rfl 36 (.tmp 9) (.tmp 23) rfl (stA s1 q1) _ _ rfl (by kernel_rfl) (by kernel_rfl) (by kernel_rfl) (by kernel_rfl) ?_))
  have hb5 := hb4.trans ((allocB w4 (.cells (stA s1 q1) 36)).mono hb4.size)
  have H5 := Lib.hid (H0.out.step hb5)
  have HG5 := Lib.hid (heap_alloc_new w4 (.cells (stA s1 q1) 36))
  have HP5 := Lib.hid (hp4.below (allocB w4 (.cells (stA s1 q1) 36)))
  have HV5 := Lib.hid (hv4.below (allocB w4 (.cells (stA s1 q1) 36)))
  have HS5 := Lib.hid hi4
  have hg9 : g < w4.heap.size := by obtain ⟨cur, fr, h1⟩ := hv4.ty; exact heapLt h1
  have hM : w.heap.size + 2 ≤ W0.heap.size := H0.out.lt (i := 1) (by simp)
  obtain ⟨g9, hge⟩ : ∃ g, g = w4.heap.size := ⟨_, rfl⟩
  obtain ⟨w5, hw5⟩ : ∃ W, W = w4.alloc (.cells (stA s1 q1) 36) := ⟨_, rfl⟩
  rw [← hge, ← hw5] at HG5
  rw [← hw5] at H5 HP5 HV5
  rw [← hw5, ← hge]
  rw [← hge] at hg9
  have hB9 : w.heap.size + 2 ≤ g := by omega
  clear hw5 hge hb4 hb5 H0 HBI hp4 hi4 hv4 hg4 hM
  try simp only [Act.put]
  have hc1 := show w5.cell? ⟨w.heap.size, 1, none⟩ = some (.int .i64 (n : Int)) from by rw [blkCell H5.out.get0, ← HZ.out]; rfl
  go_wp2_with fail
  go_loopw [12] (fun x wr => ∃ j : Nat, j ≤ pg ∧ x = .int .i64 (j : Int) ∧ Below w5.heap.size w5 wr) (fun x _ => pg - (intOf x).toNat)
  case atStart => exact ⟨0, Nat.zero_le _, rfl, Below.refl _ _⟩
  case round =>
    obtain ⟨j, hj, rfl, hbw⟩ := hrel
    have hc1 := show wr.cell? ⟨w.heap.size, 1, none⟩ = some (.int .i64 (n : Int)) from by rw [blkCell (H5.out.step hbw).get0, ← HZ.out]; rfl
    by_cases hlt : j < pg
    · have hjn : j < n := by omega
      have hji : (j : Int) < (n : Int) := by omega
      have HUJ := Lib.hid (fun W (hb : Below wr.heap.size wr W) => HUS.out v _ j hjn W ((HV5.out.below hbw).own.below hb))
      rw [HBT.out j hjn, decide_eq_true (HUP.out j hlt)] at HUJ
      have hwj : IntKind.i64.wrap ((j : Int) + 1) = (j : Int) + 1 := IntWalk.i64_in _ (by omega)
      have HBW := Lib.hid hbw
      clear hbw
      go_wp2_with (go_at_call 33; (refine (HUJ.out _ (Below.refl _ _)).mono ?_); rintro e w6 ⟨rfl, hb6⟩)
      go_roundw
      case rel => exact ⟨j + 1, by omega, by go_num, joinB HBW.out hb6⟩
      case measure => simp [intOf]; omega
    · obtain rfl : j = pg := by omega
      have hjn : j < n := hpg
      have hji : (j : Int) < (n : Int) := by omega
      have HUJ := Lib.hid (fun W (hb : Below wr.heap.size wr W) => HUS.out v _ j hjn W ((HV5.out.below hbw).own.below hb))
      rw [HBT.out j hjn, decide_eq_false HNO.out] at HUJ
      have hjb : ((j : Int) == (n : Int)) = false := beq_eq_false_iff_ne.2 (by omega)
      have HBW := Lib.hid hbw
      clear hbw
      have hlt9 : g9 < w5.heap.size := heapLt HG5.out
      go_upto_region 13 with (first
        | (go_at_call 33; (refine (HUJ.out _ (Below.refl _ _)).mono ?_); rintro e w6 ⟨rfl, hb6⟩; have hb56 := joinB HBW.out hb6; have H6 := Lib.hid (H5.out.step hb56); have HG6 := Lib.hid (blkOld HG5.out hb56); have hc2 := show w6.cell? ⟨w.heap.size, 1, none⟩ = some (.int .i64 (n : Int)) from (by rw [blkCell H6.out.get0, ← HZ.out]; rfl))
        | (with_reducible refine listLoad (by kernel_rfl) 36 (.tmp 9) rfl g9 rfl (stA s1 q1) _ HG6.out _ Tryz.underlying36 (by kernel_rfl) (by kernel_rfl) ?_)
        | (go_at_call 34; (refine (HFP.out s1 q1 fs1 HS5.out v _ g _ (HV5.out.below hb56) (HP5.out.below hb56)).mono ?_); rintro e w7 ⟨q2, rfl, hp7, hk7⟩; have H7 := Lib.hid (H6.out.under (M := w.heap.size + 2) (by simp) (hk7.below (by have := hb56.size; omega) hB9)); have HG7 := Lib.hid ((hk7.block g9 (by have := hb56.size; omega) (by omega)).trans HG6.out))
        | (with_reducible refine listStore (by kernel_rfl) 36 (.tmp 9) (.tmp 58) rfl g9 (stA s1 q2) _ _ rfl rfl HG7.out (by kernel_rfl) (by kernel_rfl) (by kernel_rfl) ?_))
      have H8 := Lib.hid (H7.out.under (M := w.heap.size + 2) (by simp) (rowB (g := g9) (by omega) (show Below (w.heap.size + 2) w7 w7 from ⟨rfl, rfl, rfl, Nat.le_refl _, fun _ _ => rfl⟩) (stA s1 q2)))
      have HG8 := Lib.hid (setRow_heap _ _ _ (stA s1 q2) _ _ HG7.out)
      generalize w7.setRow g9 (stA s1 q2) = w8 at H8 HG8 ⊢
      clear H6 HG6 H7 HG7 hp7 hk7 hb6 hb56 HFP HUS HUJ H5 HG5 HP5 HV5
      try simp only [Act.put]
      have HBK := Lib.hid (fun W => sback_any s p s1 q2 21 (by decide) W)
      go_wp2_with (first
        | (with_reducible refine listLoad (by kernel_rfl) 36 (.tmp 3) rfl w.heap.size rfl (stA s p) _ H8.out.get0 _ Tryz.underlying36 (by kernel_rfl) (by kernel_rfl) ?_)
        | (with_reducible refine listLoad (by kernel_rfl) 36 (.tmp 9) rfl g9 rfl (stA s1 q2) _ HG8.out _ Tryz.underlying36 (by kernel_rfl) (by kernel_rfl) ?_)
        | (go_at_call 32; (refine (HBK.out _).mono ?_); rintro e w9 ⟨he, hb9⟩; rw [if_neg (by decide)] at he; subst he; have H9 := Lib.hid (H8.out.step hb9))
        | (with_reducible refine listStore (by kernel_rfl) 36 (.tmp 6) (.tmp 65) rfl (w.heap.size + 1) (stA s p) _ _ rfl rfl H9.out.get1 (by kernel_rfl) (by kernel_rfl) (by kernel_rfl) ?_))
      refine bodyPost_ret (v := .tuple #[.agg (stA s p), .int .i64 0, .int .i64 21]) (results_cell3 rfl _ _ rfl (load_whole (setRow_heap _ _ _ _ _ _ H9.out.get1) Tryz.underlying36 (by kernel_rfl) (by kernel_rfl)) rfl rfl) rfl ?_
      exact ⟨rfl, (H9.out.row 1 (stA s p) _ rfl).below⟩
set_option maxRecDepth 100000 in
set_option maxHeartbeats 16000000 in
theorem sbits_no {N n k : Nat} {ids : List Int} {c : Int} (s : Tx.St) (p : SP) (fs : List Fr) (C : Nat → ByteArray) (hS : SS N n k ids c s fs C) (h0 : (leafP (C 0)).kind = 0) (w : World) (h : PoolR w s p fs) :
    Calls Tryz.prog 31 #[storeV s p] w fun e w' => ∃ (s1 : Tx.St) (q1 : SP), e = .returned (.tuple #[storeV s1 q1, .slice none 0 0, .int .i64 1]) ∧ Below w.heap.size w w' := by
  have HGE := Lib.hid (fun W (hb : Below w.heap.size w W) => pget_any s p fs C hS.pi 0 (by have := hS.pi.n1; omega) W (h.below hb))
  have hn := hS.pi.n1
  have hnm := hS.pi.nm 0 (by omega)
  have HPG := Lib.hid (fun W => get_any_rec (C 0) 0 (by rw [hnm.size]; omega) W)
  have HKI := Lib.hid (fun W => kind_any (C 0) (by rw [hnm.size]; omega) W)
  rw [h0] at HKI
  generalize Pg.slotAt (leafP (C 0)).recs 0 = b at HPG
  generalize decide (b.size = 0) = bz at HPG
  have HSS := Lib.hid hS
  clear h hS hn hnm h0
  go_enter Tryz.func31, Tryz.ntmps31
  go_upto_region 1 with fail
  have H0 := Lib.hid (show BxL w.heap.size w [((stA s p), 36), (#[.int .i64 0, .int .i64 0, .int .i64 0, .slice none 0 0, .int .i64 0, .bool false, .int .i64 0, .int .i64 0, .int .i64 0, .int .i64 0, .string ⟨#[]⟩, .slice none 0 0, .int .i64 0, .slice none 0 0, .int .i64 0], 36)] ((w.alloc (.cells (stA s p) 36)).alloc (.cells #[.int .i64 0, .int .i64 0, .int .i64 0, .slice none 0 0, .int .i64 0, .bool false, .int .i64 0, .int .i64 0, .int .i64 0, .int .i64 0, .string ⟨#[]⟩, .slice none 0 0, .int .i64 0, .slice none 0 0, .int .i64 0] 36)) from (((BxL.nil (Below.refl w.heap.size w)).new (by simp) (stA s p) 36).new (by simp) #[.int .i64 0, .int .i64 0, .int .i64 0, .slice none 0 0, .int .i64 0, .bool false, .int .i64 0, .int .i64 0, .int .i64 0, .int .i64 0, .string ⟨#[]⟩, .slice none 0 0, .int .i64 0, .slice none 0 0, .int .i64 0] 36))
  obtain ⟨W0, hW0⟩ : ∃ W, W = ((w.alloc (.cells (stA s p) 36)).alloc (.cells #[.int .i64 0, .int .i64 0, .int .i64 0, .slice none 0 0, .int .i64 0, .bool false, .int .i64 0, .int .i64 0, .int .i64 0, .int .i64 0, .string ⟨#[]⟩, .slice none 0 0, .int .i64 0, .slice none 0 0, .int .i64 0] 36)) := ⟨_, rfl⟩
  rw [← hW0] at H0 ⊢
  clear hW0
  go_upto_region 4 with (first
    | (with_reducible refine listLoad (by kernel_rfl) 36 (.tmp 1) rfl w.heap.size rfl (stA s p) _ H0.out.get0 _ Tryz.underlying36 (by kernel_rfl) (by kernel_rfl) ?_)
    | (go_at_call 17; (refine (HGE.out _ H0.out.below).mono ?_); rintro e w1 ⟨s1, q1, fs1, rfl, hp1, hi1, hk1, hb1⟩; have H1 := Lib.hid (H0.out.step hb1))
    | (with_reducible refine listStore (by kernel_rfl) 36 (.tmp 1) (.tmp 12) rfl w.heap.size (stA s1 q1) _ _ rfl rfl H1.out.get0 (by kernel_rfl) (by kernel_rfl) (by kernel_rfl) ?_))
  have H2 := Lib.hid (show BxL w.heap.size w [((stA s1 q1), 36), (#[.int .i64 0, .int .i64 0, .int .i64 0, .slice none 0 0, .int .i64 0, .bool false, .int .i64 0, .int .i64 0, .int .i64 0, .int .i64 0, .string ⟨#[]⟩, .slice none 0 0, .int .i64 0, .slice none 0 0, .int .i64 0], 36)] (w1.setRow w.heap.size (stA s1 q1)) from H1.out.row 0 (stA s1 q1) _ rfl)
  have HP2 := Lib.hid (hp1.other (t := 36) H1.out.get0 (by decide) (by decide) (by decide) (stA s1 q1))
  have HS1 := Lib.hid (HSS.out.hk hk1 hi1)
  generalize w1.setRow w.heap.size (stA s1 q1) = w2 at H2 HP2 ⊢
  clear H0 H1 hp1 hi1 hk1 hb1 HGE
  try simp only [Act.put]
  go_wp2_with (first
    | (with_reducible refine listLoad (by kernel_rfl) 36 (.tmp 1) rfl w.heap.size rfl (stA s1 q1) _ H4.out.get0 _ Tryz.underlying36 (by kernel_rfl) (by kernel_rfl) ?_)
    | (go_at_call 57; (refine (HPG.out _).mono ?_); rintro e w3 ⟨rfl, hb3⟩)
    | (go_at_call 19; (refine (HKI.out _).mono ?_); rintro e w4 ⟨rfl, hb4⟩; have H4 := Lib.hid (H2.out.step (joinB hb3 hb4)))
    | (with_reducible refine listStore (by kernel_rfl) 36 (.tmp 2) (.tmp 39) rfl (w.heap.size + 1) (stA s1 q1) _ _ rfl rfl H4.out.get1 (by kernel_rfl) (by kernel_rfl) (by kernel_rfl) ?_))
  refine bodyPost_ret (v := .tuple #[.agg (stA s1 q1), .slice none 0 0, .int .i64 1]) (results_cell3 rfl _ _ rfl (load_whole (setRow_heap _ _ _ _ _ _ H4.out.get1) Tryz.underlying36 (by kernel_rfl) (by kernel_rfl)) rfl rfl) rfl ?_
  exact ⟨s1, q1, rfl, (H4.out.row 1 (stA s1 q1) _ rfl).below⟩
set_option maxRecDepth 100000 in
set_option maxHeartbeats 16000000 in
theorem salloc_bare {N n k : Nat} {ids : List Int} {c : Int} (s : Tx.St) (p : SP) (fs : List Fr) (C : Nat → ByteArray) (hS : SS N n k ids c s fs C) (h0 : (leafP (C 0)).kind = 0) (t : Int) (w : World) (h : PoolR w s p fs) :
    Calls Tryz.prog 12 #[storeV s p, .int .i64 t, .int .i64 2] w fun e w' => e = .returned (.tuple #[storeV s p, .int .i64 0, .int .i64 1]) ∧ Below w.heap.size w w' := by
  have HBI := Lib.hid (fun W (hb : Below w.heap.size w W) => sbits_no s p fs C hS h0 W (h.below hb))
  clear h hS h0
  go_enter Tryz.func12, Tryz.ntmps12
  go_upto_region 1 with fail
  have H0 := Lib.hid (show BxL w.heap.size w [((stA s p), 36), (#[.int .i64 0, .int .i64 0, .int .i64 0, .slice none 0 0, .int .i64 0, .bool false, .int .i64 0, .int .i64 0, .int .i64 0, .int .i64 0, .string ⟨#[]⟩, .slice none 0 0, .int .i64 0, .slice none 0 0, .int .i64 0], 36)] ((w.alloc (.cells (stA s p) 36)).alloc (.cells #[.int .i64 0, .int .i64 0, .int .i64 0, .slice none 0 0, .int .i64 0, .bool false, .int .i64 0, .int .i64 0, .int .i64 0, .int .i64 0, .string ⟨#[]⟩, .slice none 0 0, .int .i64 0, .slice none 0 0, .int .i64 0] 36)) from (((BxL.nil (Below.refl w.heap.size w)).new (by simp) (stA s p) 36).new (by simp) #[.int .i64 0, .int .i64 0, .int .i64 0, .slice none 0 0, .int .i64 0, .bool false, .int .i64 0, .int .i64 0, .int .i64 0, .int .i64 0, .string ⟨#[]⟩, .slice none 0 0, .int .i64 0, .slice none 0 0, .int .i64 0] 36))
  obtain ⟨W0, hW0⟩ : ∃ W, W = ((w.alloc (.cells (stA s p) 36)).alloc (.cells #[.int .i64 0, .int .i64 0, .int .i64 0, .slice none 0 0, .int .i64 0, .bool false, .int .i64 0, .int .i64 0, .int .i64 0, .int .i64 0, .string ⟨#[]⟩, .slice none 0 0, .int .i64 0, .slice none 0 0, .int .i64 0] 36)) := ⟨_, rfl⟩
  rw [← hW0] at H0 ⊢
  clear hW0
  go_upto_region 4 with (first
    | (with_reducible refine listLoad (by kernel_rfl) 36 (.tmp 3) rfl w.heap.size rfl (stA s p) _ H0.out.get0 _ Tryz.underlying36 (by kernel_rfl) (by kernel_rfl) ?_)
    | (go_at_call 31; (refine (HBI.out _ H0.out.below).mono ?_); rintro e w4 ⟨s1, q1, rfl, hb4⟩)
    | (with_reducible refine wpList_store_new rfl 36 (.tmp 9) (.tmp 23) rfl (stA s1 q1) _ _ rfl (by kernel_rfl) (by kernel_rfl) (by kernel_rfl) (by kernel_rfl) ?_))
  have hb5 := hb4.trans ((allocB w4 (.cells (stA s1 q1) 36)).mono hb4.size)
  have H5 := Lib.hid (H0.out.step hb5)
  have HG5 := Lib.hid (heap_alloc_new w4 (.cells (stA s1 q1) 36))
  obtain ⟨g9, hge⟩ : ∃ g, g = w4.heap.size := ⟨_, rfl⟩
  obtain ⟨w5, hw5⟩ : ∃ W, W = w4.alloc (.cells (stA s1 q1) 36) := ⟨_, rfl⟩
  rw [← hge, ← hw5] at HG5
  rw [← hw5] at H5
  rw [← hw5, ← hge]
  clear hw5 hge hb4 hb5 H0 HBI
  try simp only [Act.put]
  have HBK := Lib.hid (fun W => sback_any s p s1 q1 1 (by decide) W)
  go_wp2_with (first
    | (with_reducible refine listLoad (by kernel_rfl) 36 (.tmp 3) rfl w.heap.size rfl (stA s p) _ H5.out.get0 _ Tryz.underlying36 (by kernel_rfl) (by kernel_rfl) ?_)
    | (with_reducible refine listLoad (by kernel_rfl) 36 (.tmp 9) rfl g9 rfl (stA s1 q1) _ HG5.out _ Tryz.underlying36 (by kernel_rfl) (by kernel_rfl) ?_)
    | (go_at_call 32; (refine (HBK.out _).mono ?_); rintro e w6 ⟨he, hb6⟩; rw [if_neg (by decide)] at he; subst he; have H6 := Lib.hid (H5.out.step hb6))
    | (with_reducible refine listStore (by kernel_rfl) 36 (.tmp 6) (.tmp 31) rfl (w.heap.size + 1) (stA s p) _ _ rfl rfl H6.out.get1 (by kernel_rfl) (by kernel_rfl) (by kernel_rfl) ?_))
  refine bodyPost_ret (v := .tuple #[.agg (stA s p), .int .i64 0, .int .i64 1]) (results_cell3 rfl _ _ rfl (load_whole (setRow_heap _ _ _ _ _ _ H6.out.get1) Tryz.underlying36 (by kernel_rfl) (by kernel_rfl)) rfl rfl) rfl ?_
  exact ⟨rfl, (H6.out.row 1 (stA s p) _ rfl).below⟩
set_option maxRecDepth 100000 in
set_option maxHeartbeats 16000000 in
theorem sfree_bare {N n k : Nat} {ids : List Int} {c : Int} (s : Tx.St) (p : SP) (fs : List Fr) (C : Nat → ByteArray) (hS : SS N n k ids c s fs C) (h0 : (leafP (C 0)).kind = 0) (t x : Int) (w : World) (h : PoolR w s p fs) :
    Calls Tryz.prog 10 #[storeV s p, .int .i64 t, .int .i64 x] w fun e w' => e = .returned (.tuple #[storeV s p, .int .i64 1]) ∧ Below w.heap.size w w' := by
  have HBI := Lib.hid (fun W (hb : Below w.heap.size w W) => sbits_no s p fs C hS h0 W (h.below hb))
  clear h hS h0
  go_enter Tryz.func10, Tryz.ntmps10
  go_upto_region 1 with fail
  have H0 := Lib.hid (show BxL w.heap.size w [((stA s p), 36), (#[.int .i64 0, .int .i64 0, .int .i64 0, .slice none 0 0, .int .i64 0, .bool false, .int .i64 0, .int .i64 0, .int .i64 0, .int .i64 0, .string ⟨#[]⟩, .slice none 0 0, .int .i64 0, .slice none 0 0, .int .i64 0], 36)] ((w.alloc (.cells (stA s p) 36)).alloc (.cells #[.int .i64 0, .int .i64 0, .int .i64 0, .slice none 0 0, .int .i64 0, .bool false, .int .i64 0, .int .i64 0, .int .i64 0, .int .i64 0, .string ⟨#[]⟩, .slice none 0 0, .int .i64 0, .slice none 0 0, .int .i64 0] 36)) from (((BxL.nil (Below.refl w.heap.size w)).new (by simp) (stA s p) 36).new (by simp) #[.int .i64 0, .int .i64 0, .int .i64 0, .slice none 0 0, .int .i64 0, .bool false, .int .i64 0, .int .i64 0, .int .i64 0, .int .i64 0, .string ⟨#[]⟩, .slice none 0 0, .int .i64 0, .slice none 0 0, .int .i64 0] 36))
  obtain ⟨W0, hW0⟩ : ∃ W, W = ((w.alloc (.cells (stA s p) 36)).alloc (.cells #[.int .i64 0, .int .i64 0, .int .i64 0, .slice none 0 0, .int .i64 0, .bool false, .int .i64 0, .int .i64 0, .int .i64 0, .int .i64 0, .string ⟨#[]⟩, .slice none 0 0, .int .i64 0, .slice none 0 0, .int .i64 0] 36)) := ⟨_, rfl⟩
  rw [← hW0] at H0 ⊢
  clear hW0
  go_upto_region 2 with (first
    | (with_reducible refine listLoad (by kernel_rfl) 36 (.tmp 3) rfl w.heap.size rfl (stA s p) _ H0.out.get0 _ Tryz.underlying36 (by kernel_rfl) (by kernel_rfl) ?_)
    | (go_at_call 31; (refine (HBI.out _ H0.out.below).mono ?_); rintro e w4 ⟨s1, q1, rfl, hb4⟩)
    | (with_reducible refine wpList_store_new rfl 36 (.tmp 8) (.tmp 14) rfl (stA s1 q1) _ _ rfl (by kernel_rfl) (by kernel_rfl) (by kernel_rfl) (by kernel_rfl) ?_))
  have hb5 := hb4.trans ((allocB w4 (.cells (stA s1 q1) 36)).mono hb4.size)
  have H5 := Lib.hid (H0.out.step hb5)
  have HG5 := Lib.hid (heap_alloc_new w4 (.cells (stA s1 q1) 36))
  obtain ⟨g9, hge⟩ : ∃ g, g = w4.heap.size := ⟨_, rfl⟩
  obtain ⟨w5, hw5⟩ : ∃ W, W = w4.alloc (.cells (stA s1 q1) 36) := ⟨_, rfl⟩
  rw [← hge, ← hw5] at HG5
  rw [← hw5] at H5
  rw [← hw5, ← hge]
  clear hw5 hge hb4 hb5 H0 HBI
  try simp only [Act.put]
  have HBK := Lib.hid (fun W => sback_any s p s1 q1 1 (by decide) W)
  go_wp2_with (first
    | (with_reducible refine listLoad (by kernel_rfl) 36 (.tmp 3) rfl w.heap.size rfl (stA s p) _ H5.out.get0 _ Tryz.underlying36 (by kernel_rfl) (by kernel_rfl) ?_)
    | (with_reducible refine listLoad (by kernel_rfl) 36 (.tmp 8) rfl g9 rfl (stA s1 q1) _ HG5.out _ Tryz.underlying36 (by kernel_rfl) (by kernel_rfl) ?_)
    | (go_at_call 32; (refine (HBK.out _).mono ?_); rintro e w6 ⟨he, hb6⟩; rw [if_neg (by decide)] at he; subst he; have H6 := Lib.hid (H5.out.step hb6))
    | (with_reducible refine listStore (by kernel_rfl) 36 (.tmp 6) (.tmp 23) rfl (w.heap.size + 1) (stA s p) _ _ rfl rfl H6.out.get1 (by kernel_rfl) (by kernel_rfl) (by kernel_rfl) ?_))
  refine bodyPost_ret (v := .tuple #[.agg (stA s p), .int .i64 1]) (results_cell2 rfl _ _ rfl (load_whole (setRow_heap _ _ _ _ _ _ H6.out.get1) Tryz.underlying36 (by kernel_rfl) (by kernel_rfl)) rfl) rfl ?_
  exact ⟨rfl, (H6.out.row 1 (stA s p) _ rfl).below⟩
set_option maxRecDepth 100000 in
set_option maxHeartbeats 16000000 in
theorem sused_bare {N n k : Nat} {ids : List Int} {c : Int} (s : Tx.St) (p : SP) (fs : List Fr) (C : Nat → ByteArray) (hS : SS N n k ids c s fs C) (h0 : (leafP (C 0)).kind = 0) (w : World) (h : PoolR w s p fs) :
    Calls Tryz.prog 14 #[storeV s p] w fun e w' => e = .returned (.tuple #[storeV s p, .slice none 0 0, .int .i64 1]) ∧ Below w.heap.size w w' := by
  have HBI := Lib.hid (fun W (hb : Below w.heap.size w W) => sbits_no s p fs C hS h0 W (h.below hb))
  clear h hS h0
  go_enter Tryz.func14, Tryz.ntmps14
  go_upto_region 1 with fail
  have H0 := Lib.hid (show BxL w.heap.size w [((stA s p), 36), (#[.int .i64 0, .int .i64 0, .int .i64 0, .slice none 0 0, .int .i64 0, .bool false, .int .i64 0, .int .i64 0, .int .i64 0, .int .i64 0, .string ⟨#[]⟩, .slice none 0 0, .int .i64 0, .slice none 0 0, .int .i64 0], 36)] ((w.alloc (.cells (stA s p) 36)).alloc (.cells #[.int .i64 0, .int .i64 0, .int .i64 0, .slice none 0 0, .int .i64 0, .bool false, .int .i64 0, .int .i64 0, .int .i64 0, .int .i64 0, .string ⟨#[]⟩, .slice none 0 0, .int .i64 0, .slice none 0 0, .int .i64 0] 36)) from (((BxL.nil (Below.refl w.heap.size w)).new (by simp) (stA s p) 36).new (by simp) #[.int .i64 0, .int .i64 0, .int .i64 0, .slice none 0 0, .int .i64 0, .bool false, .int .i64 0, .int .i64 0, .int .i64 0, .int .i64 0, .string ⟨#[]⟩, .slice none 0 0, .int .i64 0, .slice none 0 0, .int .i64 0] 36))
  obtain ⟨W0, hW0⟩ : ∃ W, W = ((w.alloc (.cells (stA s p) 36)).alloc (.cells #[.int .i64 0, .int .i64 0, .int .i64 0, .slice none 0 0, .int .i64 0, .bool false, .int .i64 0, .int .i64 0, .int .i64 0, .int .i64 0, .string ⟨#[]⟩, .slice none 0 0, .int .i64 0, .slice none 0 0, .int .i64 0] 36)) := ⟨_, rfl⟩
  rw [← hW0] at H0 ⊢
  clear hW0
  go_upto_region 2 with (first
    | (with_reducible refine listLoad (by kernel_rfl) 36 (.tmp 1) rfl w.heap.size rfl (stA s p) _ H0.out.get0 _ Tryz.underlying36 (by kernel_rfl) (by kernel_rfl) ?_)
    | (go_at_call 31; (refine (HBI.out _ H0.out.below).mono ?_); rintro e w4 ⟨s1, q1, rfl, hb4⟩)
    | (with_reducible refine wpList_store_new rfl 36 (.tmp 5) (.tmp 13) rfl (stA s1 q1) _ _ rfl (by kernel_rfl) (by kernel_rfl) (by kernel_rfl) (by kernel_rfl) ?_))
  have hb5 := hb4.trans ((allocB w4 (.cells (stA s1 q1) 36)).mono hb4.size)
  have H5 := Lib.hid (H0.out.step hb5)
  have HG5 := Lib.hid (heap_alloc_new w4 (.cells (stA s1 q1) 36))
  obtain ⟨g9, hge⟩ : ∃ g, g = w4.heap.size := ⟨_, rfl⟩
  obtain ⟨w5, hw5⟩ : ∃ W, W = w4.alloc (.cells (stA s1 q1) 36) := ⟨_, rfl⟩
  rw [← hge, ← hw5] at HG5
  rw [← hw5] at H5
  rw [← hw5, ← hge]
  clear hw5 hge hb4 hb5 H0 HBI
  try simp only [Act.put]
  have HBK := Lib.hid (fun W => sback_any s p s1 q1 1 (by decide) W)
  go_wp2_with (first
    | (with_reducible refine listLoad (by kernel_rfl) 36 (.tmp 1) rfl w.heap.size rfl (stA s p) _ H5.out.get0 _ Tryz.underlying36 (by kernel_rfl) (by kernel_rfl) ?_)
    | (with_reducible refine listLoad (by kernel_rfl) 36 (.tmp 5) rfl g9 rfl (stA s1 q1) _ HG5.out _ Tryz.underlying36 (by kernel_rfl) (by kernel_rfl) ?_)
    | (go_at_call 32; (refine (HBK.out _).mono ?_); rintro e w6 ⟨he, hb6⟩; rw [if_neg (by decide)] at he; subst he; have H6 := Lib.hid (H5.out.step hb6))
    | (with_reducible refine listStore (by kernel_rfl) 36 (.tmp 2) (.tmp 21) rfl (w.heap.size + 1) (stA s p) _ _ rfl rfl H6.out.get1 (by kernel_rfl) (by kernel_rfl) (by kernel_rfl) ?_))
  refine bodyPost_ret (v := .tuple #[.agg (stA s p), .slice none 0 0, .int .i64 1]) (results_cell3 rfl _ _ rfl (load_whole (setRow_heap _ _ _ _ _ _ H6.out.get1) Tryz.underlying36 (by kernel_rfl) (by kernel_rfl)) rfl rfl) rfl ?_
  exact ⟨rfl, (H6.out.row 1 (stA s p) _ rfl).below⟩
end Go.Proofs.YtmebkghdkeeobaaGreatDoor
/- The statement SpaceRefuses, walked. -/
namespace Go.Proofs.YtmebkghdkeeobaaGreatDoor
open Go.RowKit Sc
theorem log_equal43 (a b c d : Int) (t : ByteArray) (w : World) : (Op.equalIn 10000 30 (.agg #[.int .i64 a, .int .i64 b, .int .i64 c, .int .i64 d, .string t]) (.agg #[.int .i64 a, .int .i64 b, .int .i64 c, .int .i64 d, .string t])).run Tryz.prog w = .ok true w := by
  have hS : Tryz.prog.underlying 30 = some (.struct (Tryz.prog.fieldsOf 30)) := by kernel_rfl
  have hp : Tryz.prog.stoodInHeld 30 = false := by kernel_rfl
  rw [show (10000 : Nat) = 9999 + 1 from rfl, run_equalIn_agg w 9999 30 _ _ hS hp]
  simp only [Program.fieldsOf, Tryz.underlying30]
  go_simp
/-- What Alloc of any kind answers, of a store where page 0 alone is in use. -/
def AnyOut (n : Nat) (kd : Int) (s : Tx.St) (p : SP) (w : World) (e : Ending) (w' : World) : Prop :=
  ∃ (s2 : Tx.St) (p2 : SP) (x y : Int), e = .returned (.tuple #[storeV s2 p2, .int .i64 x, .int .i64 y]) ∧ (((kd < 2 ∨ 4 < kd) ∧ s2 = s ∧ p2 = p ∧ x = 0 ∧ y = 1) ∨ ((2 ≤ kd ∧ kd ≤ 4) ∧ ((n = 1 ∧ y = 18) ∨ (n ≠ 1 ∧ y = 0)))) ∧ Below w.heap.size w w'
theorem upto_one {n : Nat} (h : n = 1) : Upto useN n := fun q hq => by
  obtain rfl : q = 0 := by omega
  decide
theorem salloc_each {n k : Nat} {c : Int} (s : Tx.St) (p : SP) (fs : List Fr) (C : Nat → ByteArray) (hS : SS 3000 n k [1] c s fs C) (hc : c + 5048 ≤ (3000 : Nat) * 128) (b : ByteArray) (hu : SI n C b useN) (hn : 1 ≤ n) (kd : Int) (w : World) (h : PoolR w s p fs) :
    Calls Tryz.prog 12 #[storeV s p, .int .i64 1, .int .i64 kd] w (AnyOut n kd s p w) := by
  by_cases hk : kd < 2 ∨ 4 < kd
  · refine (salloc_bad s p 1 kd hk w).mono ?_
    rintro e w1 ⟨rfl, hb⟩
    exact ⟨s, p, 0, 1, rfl, .inl ⟨hk, rfl, rfl, rfl, rfl⟩, hb⟩
  · obtain ⟨kn, rfl⟩ : ∃ kn : Nat, kd = (kn : Int) := ⟨kd.toNat, by omega⟩
    by_cases h1 : n = 1
    · refine (salloc_full s p fs C hS b useN hu 1 kn (by omega) (upto_one h1) w h).mono ?_
      rintro e w1 ⟨rfl, hb⟩
      exact ⟨s, p, 0, 18, rfl, .inr ⟨by omega, .inl ⟨h1, rfl⟩⟩, hb⟩
    · refine (salloc_any s p fs C hS hc 1 (by simp) ⟨by decide, by decide⟩ b useN hu kn (by omega) 1 (by omega) (upto1 _ (by decide)) (by decide) w h).mono ?_
      rintro e w1 ⟨s2, p2, fs2, C2, rfl, hp, hs, hu2, hb⟩
      exact ⟨s2, p2, _, 0, rfl, .inr ⟨by omega, .inr ⟨h1, rfl⟩⟩, hb⟩
theorem sfree_each {n k : Nat} {c : Int} (s : Tx.St) (p : SP) (fs : List Fr) (C : Nat → ByteArray) (hS : SS 3000 n k [1] c s fs C) (b : ByteArray) (hu : SI n C b useN) (x : Int) (w : World) (h : PoolR w s p fs) :
    Calls Tryz.prog 10 #[storeV s p, .int .i64 1, .int .i64 x] w fun e w' => ∃ y : Int, e = .returned (.tuple #[storeV s p, .int .i64 y]) ∧ (((x < 1 ∨ (n : Int) ≤ x) ∧ y = 1) ∨ ((1 ≤ x ∧ x < (n : Int)) ∧ y = 21)) ∧ Below w.heap.size w w' := by
  by_cases hx : x < 1 ∨ (n : Int) ≤ x
  · refine (sfree_arg s p fs C hS 1 b useN hu x hx w h).mono ?_
    rintro e w1 ⟨rfl, hb⟩
    exact ⟨1, rfl, .inl ⟨hx, rfl⟩, hb⟩
  · obtain ⟨xn, rfl⟩ : ∃ xn : Nat, x = (xn : Int) := ⟨x.toNat, by omega⟩
    refine (sfree_none s p fs C hS 1 b useN hu xn (by omega) (by omega) (by unfold useN; rw [if_neg (by omega)]; decide) w h).mono ?_
    rintro e w1 ⟨rfl, hb⟩
    exact ⟨21, rfl, .inr ⟨by omega, rfl⟩, hb⟩
set_option maxRecDepth 100000 in
set_option maxHeartbeats 32000000 in
theorem lrefuses_any (x0 : Nat) (h0 : x0 < 256) (ka pa oa : Int) (w : World) :
    Calls Tryz.prog 5 #[.int .u8 (x0 : Int), .agg #[.int .i64 ka, .int .i64 pa, .int .i64 oa]] w fun e w' => e = .returned (.bool true) ∧ Below w.heap.size w w' := by
  have HAW := Lib.hid (fun W => lawake_any W)
  obtain ⟨n, hn⟩ : ∃ n, n = 1 + x0 % 30 := ⟨_, rfl⟩
  have hn1 : 1 ≤ n ∧ n ≤ 30 := by omega
  have hc0 : IntKind.i64.wrap (x0 : Int) = (x0 : Int) := IntWalk.i64_in _ (by omega)
  have ht0 : Int.tmod (x0 : Int) 30 = ((x0 % 30 : Nat) : Int) := by rw [Int.tmod_eq_emod_of_nonneg (by omega)]; omega
  have hw0 : IntKind.i64.wrap ((x0 % 30 : Nat) : Int) = ((x0 % 30 : Nat) : Int) := IntWalk.i64_in _ (by omega)
  have ha0 : IntKind.i64.wrap (1 + ((x0 % 30 : Nat) : Int)) = (n : Int) := by rw [IntWalk.i64_in _ (by omega)]; omega
  generalize ((x0 % 30 : Nat) : Int) = m0 at ht0 hw0 ha0
  have HFM := Lib.hid (fun W => show Calls Tryz.prog 7 #[.int .i64 (n : Int), .int .i64 4] W (FmOut n 4 W) from lformat_any n 4 (by omega) (by omega) W)
  have HFR := Lib.hid (fun W => show Calls Tryz.prog 8 #[.int .i64 (n : Int), .int .i64 4] W (FsOut n 4 W) from lfresh_any n 4 (by omega) (by omega) W)
  clear hn
  go_enter Tryz.func5, Tryz.ntmps5
  go_upto_region 1 with fail
  have H0 := Lib.hid (show BxL w.heap.size w [(#[.int .i64 ka, .int .i64 pa, .int .i64 oa], 56)] (w.alloc (.cells #[.int .i64 ka, .int .i64 pa, .int .i64 oa] 56)) from ((BxL.nil (Below.refl w.heap.size w)).new (by simp) #[.int .i64 ka, .int .i64 pa, .int .i64 oa] 56))
  obtain ⟨W0, hW0⟩ : ∃ W, W = (w.alloc (.cells #[.int .i64 ka, .int .i64 pa, .int .i64 oa] 56)) := ⟨_, rfl⟩
  rw [← hW0] at H0 ⊢
  clear hW0
  go_cut [5, 6, 7] (fun x y z wc => x = .int .i64 ka ∧ y = .int .i64 pa ∧ z = .int .i64 oa ∧ Below W0.heap.size W0 wc)
  case first =>
    have HS8 := Lib.hid (fun (u : World) (hu : Below W0.heap.size W0 u) => show u.heap[w.heap.size]? = some (.cells #[.int .i64 ka, .int .i64 pa, .int .i64 oa] 56 (0, 0)) from blkOld H0.out.get0 hu)
    have hQ : Below W0.heap.size W0 W0.drew := (Below.refl _ W0).drew
    have hSn := HS8.out _ hQ
    refine wp_region_held_drew (S := (fun u => u.heap[w.heap.size]? = some (.cells #[.int .i64 ka, .int .i64 pa, .int .i64 oa] 56 (0, 0)))) (by kernel_rfl) ?_ (fun hHeld => ?_)
    · exact hSn
    generalize W0.drew = w8 at hSn hQ ⊢
    refine tkW 0 (some 32) (v := ?_) rfl ?_ ?_
    rotate_left
    · intro u hSu; have hc0 := show u.cell? ⟨w.heap.size, 0, none⟩ = some (.int .i64 ka) from (by rw [blkCell hSu]; rfl); have hc1 := show u.cell? ⟨w.heap.size, 1, none⟩ = some (.int .i64 pa) from (by rw [blkCell hSu]; rfl); have hc2 := show u.cell? ⟨w.heap.size, 2, none⟩ = some (.int .i64 oa) from (by rw [blkCell hSu]; rfl); clear hSu; go_simp; (try with_reducible rfl)
    try simp only [Act.put, List.setIfInBounds_toArray, List.set_cons_zero, List.set_cons_succ]
    refine tkW 1 (some 33) (v := ?_) rfl ?_ ?_
    rotate_left
    · intro u hSu; have hc0 := show u.cell? ⟨w.heap.size, 0, none⟩ = some (.int .i64 ka) from (by rw [blkCell hSu]; rfl); have hc1 := show u.cell? ⟨w.heap.size, 1, none⟩ = some (.int .i64 pa) from (by rw [blkCell hSu]; rfl); have hc2 := show u.cell? ⟨w.heap.size, 2, none⟩ = some (.int .i64 oa) from (by rw [blkCell hSu]; rfl); clear hSu; go_simp; (try with_reducible rfl)
    try simp only [Act.put, List.setIfInBounds_toArray, List.set_cons_zero, List.set_cons_succ]
    refine tkW 2 (some 34) (v := ?_) rfl ?_ ?_
    rotate_left
    · intro u hSu; have hc0 := show u.cell? ⟨w.heap.size, 0, none⟩ = some (.int .i64 ka) from (by rw [blkCell hSu]; rfl); have hc1 := show u.cell? ⟨w.heap.size, 1, none⟩ = some (.int .i64 pa) from (by rw [blkCell hSu]; rfl); have hc2 := show u.cell? ⟨w.heap.size, 2, none⟩ = some (.int .i64 oa) from (by rw [blkCell hSu]; rfl); clear hSu; go_simp; (try with_reducible rfl)
    try simp only [Act.put, List.setIfInBounds_toArray, List.set_cons_zero, List.set_cons_succ]
    refine tkW 3 (some 35) (v := ?_) rfl ?_ ?_
    rotate_left
    · intro u hSu; have hc0 := show u.cell? ⟨w.heap.size, 0, none⟩ = some (.int .i64 ka) from (by rw [blkCell hSu]; rfl); have hc1 := show u.cell? ⟨w.heap.size, 1, none⟩ = some (.int .i64 pa) from (by rw [blkCell hSu]; rfl); have hc2 := show u.cell? ⟨w.heap.size, 2, none⟩ = some (.int .i64 oa) from (by rw [blkCell hSu]; rfl); clear hSu; go_simp; (try with_reducible rfl)
    try simp only [Act.put, List.setIfInBounds_toArray, List.set_cons_zero, List.set_cons_succ]
    refine tkW 4 (some 36) (v := ?_) rfl ?_ ?_
    rotate_left
    · intro u hSu; have hc0 := show u.cell? ⟨w.heap.size, 0, none⟩ = some (.int .i64 ka) from (by rw [blkCell hSu]; rfl); have hc1 := show u.cell? ⟨w.heap.size, 1, none⟩ = some (.int .i64 pa) from (by rw [blkCell hSu]; rfl); have hc2 := show u.cell? ⟨w.heap.size, 2, none⟩ = some (.int .i64 oa) from (by rw [blkCell hSu]; rfl); clear hSu; go_simp; (try with_reducible rfl)
    try simp only [Act.put, List.setIfInBounds_toArray, List.set_cons_zero, List.set_cons_succ]
    refine tkW 5 (some 37) (v := ?_) rfl ?_ ?_
    rotate_left
    · intro u hSu; have hc0 := show u.cell? ⟨w.heap.size, 0, none⟩ = some (.int .i64 ka) from (by rw [blkCell hSu]; rfl); have hc1 := show u.cell? ⟨w.heap.size, 1, none⟩ = some (.int .i64 pa) from (by rw [blkCell hSu]; rfl); have hc2 := show u.cell? ⟨w.heap.size, 2, none⟩ = some (.int .i64 oa) from (by rw [blkCell hSu]; rfl); clear hSu; go_simp; (try with_reducible rfl)
    try simp only [Act.put, List.setIfInBounds_toArray, List.set_cons_zero, List.set_cons_succ]
    refine tkW 6 (some 5) (v := ?_) rfl ?_ ?_
    rotate_left
    · intro u hSu; have hc0 := show u.cell? ⟨w.heap.size, 0, none⟩ = some (.int .i64 ka) from (by rw [blkCell hSu]; rfl); have hc1 := show u.cell? ⟨w.heap.size, 1, none⟩ = some (.int .i64 pa) from (by rw [blkCell hSu]; rfl); have hc2 := show u.cell? ⟨w.heap.size, 2, none⟩ = some (.int .i64 oa) from (by rw [blkCell hSu]; rfl); clear hSu; go_simp; (try with_reducible rfl)
    try simp only [Act.put, List.setIfInBounds_toArray, List.set_cons_zero, List.set_cons_succ]
    refine tkW 7 (some 6) (v := ?_) rfl ?_ ?_
    rotate_left
    · intro u hSu; have hc0 := show u.cell? ⟨w.heap.size, 0, none⟩ = some (.int .i64 ka) from (by rw [blkCell hSu]; rfl); have hc1 := show u.cell? ⟨w.heap.size, 1, none⟩ = some (.int .i64 pa) from (by rw [blkCell hSu]; rfl); have hc2 := show u.cell? ⟨w.heap.size, 2, none⟩ = some (.int .i64 oa) from (by rw [blkCell hSu]; rfl); clear hSu; go_simp; (try with_reducible rfl)
    try simp only [Act.put, List.setIfInBounds_toArray, List.set_cons_zero, List.set_cons_succ]
    refine tkW 8 (some 7) (v := ?_) rfl ?_ ?_
    rotate_left
    · intro u hSu; have hc0 := show u.cell? ⟨w.heap.size, 0, none⟩ = some (.int .i64 ka) from (by rw [blkCell hSu]; rfl); have hc1 := show u.cell? ⟨w.heap.size, 1, none⟩ = some (.int .i64 pa) from (by rw [blkCell hSu]; rfl); have hc2 := show u.cell? ⟨w.heap.size, 2, none⟩ = some (.int .i64 oa) from (by rw [blkCell hSu]; rfl); clear hSu; go_simp; (try with_reducible rfl)
    try simp only [Act.put, List.setIfInBounds_toArray, List.set_cons_zero, List.set_cons_succ]
    refine wpAnyH_done (by kernel_rfl) ?_ _
    clear hHeld
    go_wp2_with fail
    go_meet
    case rel => exact ⟨rfl, rfl, rfl, hQ⟩
  case rest =>
    obtain ⟨rfl, rfl, rfl, hbc⟩ := hcut
    obtain ⟨w1, rfl⟩ : ∃ wm : World, wm = wc := ⟨_, rfl⟩
    have HB1 := Lib.hid (H0.out.step hbc).below
    clear hbc H0
    go_upto_region 4 with (first
      | (go_at_call 7; (refine (HFM.out _).mono ?_); rintro e v1 ⟨s, p, fs, C, rfl, hp1, hs1, hu1, hb1⟩)
      | (with_reducible refine wpList_store_new rfl 36 (.tmp 9) (.tmp 45) rfl (stA s p) _ _ rfl (by kernel_rfl) (by kernel_rfl) (by kernel_rfl) (by kernel_rfl) ?_))
    have hb2 := joinB hb1 (allocB v1 (.cells (stA s p) 36))
    have HB2 := Lib.hid (joinB HB1.out hb2)
    have HG2 := Lib.hid (heap_alloc_new v1 (.cells (stA s p) 36))
    have HP2 := Lib.hid (hp1.below (allocB v1 (.cells (stA s p) 36)))
    have HS := Lib.hid hs1
    have HU := Lib.hid hu1
    obtain ⟨g9, hg⟩ : ∃ g, g = v1.heap.size := ⟨_, rfl⟩
    obtain ⟨w2, hw2⟩ : ∃ W, W = v1.alloc (.cells (stA s p) 36) := ⟨_, rfl⟩
    rw [← hg, ← hw2] at HG2
    rw [← hw2] at HB2 HP2
    rw [← hw2, ← hg]
    clear hw2 hg hb1 hb2 hp1 hs1 hu1 HFM hc0 ht0 hw0 ha0 HB1
    try simp only [Act.put]
    go_upto_region 5 with (first
      | (go_at_call 8; (refine (HFR.out _).mono ?_); rintro e v3 ⟨r, q, rfl, hp3, hs3, hb3⟩)
      | (with_reducible refine wpList_store_new rfl 36 (.tmp 12) (.tmp 51) rfl (stA r q) _ _ rfl (by kernel_rfl) (by kernel_rfl) (by kernel_rfl) (by kernel_rfl) ?_))
    have hb4 := joinB hb3 (allocB v3 (.cells (stA r q) 36))
    have HB4 := Lib.hid (joinB HB2.out hb4)
    have HG4 := Lib.hid (blkOld HG2.out hb4)
    have HP4 := Lib.hid (HP2.out.below hb4)
    have HK4 := Lib.hid (heap_alloc_new v3 (.cells (stA r q) 36))
    have HQ4 := Lib.hid (hp3.below (allocB v3 (.cells (stA r q) 36)))
    have HR := Lib.hid hs3
    obtain ⟨g12, hg⟩ : ∃ g, g = v3.heap.size := ⟨_, rfl⟩
    obtain ⟨w4, hw4⟩ : ∃ W, W = v3.alloc (.cells (stA r q) 36) := ⟨_, rfl⟩
    rw [← hg, ← hw4] at HK4
    rw [← hw4] at HB4 HG4 HP4 HQ4
    rw [← hw4, ← hg]
    clear hw4 hg hb3 hb4 hp3 hs3 HFR HB2 HG2 HP2
    try simp only [Act.put]
    go_upto_region 7 with fail
    go_cut [15] (fun x wc => ∃ z : Bool, x = .bool z ∧ (z = true ↔ 2 ≤ ka ∧ ka ≤ 4) ∧ wc = w4)
    case first =>
      by_cases k2 : ka = 2
      · subst k2
        go_wp2_with fail
        go_meet
        case rel => exact ⟨true, rfl, by decide, rfl⟩
      · have k2b : (ka == 2) = false := beq_eq_false_iff_ne.2 k2
        by_cases k3 : ka = 3
        · subst k3
          go_wp2_with fail
          go_meet
          case rel => exact ⟨true, rfl, by decide, rfl⟩
        · have k3b : (ka == 3) = false := beq_eq_false_iff_ne.2 k3
          by_cases k4 : ka = 4
          · subst k4
            go_wp2_with fail
            go_meet
            case rel => exact ⟨true, rfl, by decide, rfl⟩
          · have k4b : (ka == 4) = false := beq_eq_false_iff_ne.2 k4
            have hd : ¬ (2 ≤ ka ∧ ka ≤ 4) := by omega
            clear k2 k3 k4
            go_wp2_with fail
            go_meet
            case rel => exact ⟨false, rfl, ⟨fun h => (Bool.false_ne_true h).elim, fun h => (hd h).elim⟩, rfl⟩
    case rest =>
      obtain ⟨z, rfl, hz, rfl⟩ := hcut
      have HZ := Lib.hid hz
      clear hz
      obtain ⟨w5, rfl⟩ : ∃ wm : World, wm = wc := ⟨_, rfl⟩
      have HCA := Lib.hid (fun W hw => salloc_each s p fs C HS.out (by decide) _ HU.out hn1.1 ka W hw)
      go_upto_region 9 with (first
        | (with_reducible refine listLoad (by kernel_rfl) 36 (.tmp 9) rfl g9 rfl (stA s p) _ HG4.out _ Tryz.underlying36 (by kernel_rfl) (by kernel_rfl) ?_)
        | (go_at_call 12; (refine (HCA.out _ HP4.out).mono ?_); rintro e v5 ⟨s2, p2, xa, ya, rfl, hcs, hb5⟩)
        | (with_reducible refine wpList_store_new rfl 36 (.tmp 16) (.tmp 75) rfl (stA s2 p2) _ _ rfl (by kernel_rfl) (by kernel_rfl) (by kernel_rfl) (by kernel_rfl) ?_))
      have hb6 := joinB hb5 (allocB v5 (.cells (stA s2 p2) 36))
      have HB6 := Lib.hid (joinB HB4.out hb6)
      have HG6 := Lib.hid (blkOld HG4.out hb6)
      have HP6 := Lib.hid (HP4.out.below hb6)
      have HK6 := Lib.hid (blkOld HK4.out hb6)
      have HQ6 := Lib.hid (HQ4.out.below hb6)
      have HX6 := Lib.hid (heap_alloc_new v5 (.cells (stA s2 p2) 36))
      have HCS := Lib.hid hcs
      obtain ⟨g16, hg⟩ : ∃ g, g = v5.heap.size := ⟨_, rfl⟩
      obtain ⟨w6, hw6⟩ : ∃ W, W = v5.alloc (.cells (stA s2 p2) 36) := ⟨_, rfl⟩
      rw [← hg, ← hw6] at HX6
      rw [← hw6] at HB6 HG6 HP6 HK6 HQ6
      rw [← hw6, ← hg]
      clear hw6 hg hb5 hb6 hcs HB4 HG4 HP4 HK4 HQ4 HCA
      try simp only [Act.put]
      go_cut [104] (fun x wc => x = .bool false ∧ wc = w6)
      case first =>
        rcases HCS.out with ⟨hkb, rfl, rfl, rfl, rfl⟩ | ⟨hkg, ⟨h1, rfl⟩ | ⟨h1, rfl⟩⟩
        · obtain rfl : z = false := by
            cases z with
            | false => rfl
            | true => have h4 := HZ.out.1 rfl; omega
          have hle := log_equal43 s2.log.from_ s2.log.n s2.log.end_ s2.log.safe s2.log.tail
          have hl1 := blkCell HX6.out
          have hl2 := blkCell HG6.out
          clear hkb HCS
          go_wp2_with (first | (with_reducible refine listPart (by kernel_rfl) 30 (.tmp 88) rfl g16 6 rfl #[.int .i64 s2.log.from_, .int .i64 s2.log.n, .int .i64 s2.log.end_, .int .i64 s2.log.safe, .string s2.log.tail] (stA s2 p2) _ HX6.out (by kernel_rfl) _ Tryz.underlying30 (by kernel_rfl) (by kernel_rfl) ?_) | (with_reducible refine listPart (by kernel_rfl) 30 (.tmp 90) rfl g9 6 rfl #[.int .i64 s2.log.from_, .int .i64 s2.log.n, .int .i64 s2.log.end_, .int .i64 s2.log.safe, .string s2.log.tail] (stA s2 p2) _ HG6.out (by kernel_rfl) _ Tryz.underlying30 (by kernel_rfl) (by kernel_rfl) ?_))
          go_meet
          case rel => exact ⟨rfl, rfl⟩
        · obtain rfl : z = true := HZ.out.2 hkg
          have hnb : (n == 1) = true := beq_iff_eq.2 h1
          have hnbi : ((n : Int) == 1) = true := beq_iff_eq.2 (by omega)
          clear hkg HCS h1
          go_wp2_with fail
          go_meet
          case rel => exact ⟨rfl, rfl⟩
        · obtain rfl : z = true := HZ.out.2 hkg
          have hnb : (n == 1) = false := beq_eq_false_iff_ne.2 h1
          have hnbi : ((n : Int) == 1) = false := beq_eq_false_iff_ne.2 (by omega)
          clear hkg HCS h1
          go_wp2_with fail
          go_meet
          case rel => exact ⟨rfl, rfl⟩
      case rest =>
        obtain ⟨rfl, rfl⟩ := hcut
        obtain ⟨w7, rfl⟩ : ∃ wm : World, wm = wc := ⟨_, rfl⟩
        clear HCS HX6 HZ
        have HCF := Lib.hid (fun W hw => sfree_each s p fs C HS.out _ HU.out pa W hw)
        go_upto_region 12 with (first
          | (with_reducible refine listLoad (by kernel_rfl) 36 (.tmp 9) rfl g9 rfl (stA s p) _ HG6.out _ Tryz.underlying36 (by kernel_rfl) (by kernel_rfl) ?_)
          | (go_at_call 10; (refine (HCF.out _ HP6.out).mono ?_); rintro e v7 ⟨yf, rfl, hcs, hb7⟩)
          | (with_reducible refine wpList_store_new rfl 36 (.tmp 19) (.tmp 110) rfl (stA s p) _ _ rfl (by kernel_rfl) (by kernel_rfl) (by kernel_rfl) (by kernel_rfl) ?_))
        have hb8 := joinB hb7 (allocB v7 (.cells (stA s p) 36))
        have HB8 := Lib.hid (joinB HB6.out hb8)
        have HG8 := Lib.hid (blkOld HG6.out hb8)
        have HP8 := Lib.hid (HP6.out.below hb8)
        have HK8 := Lib.hid (blkOld HK6.out hb8)
        have HQ8 := Lib.hid (HQ6.out.below hb8)
        have HCS := Lib.hid hcs
        obtain ⟨g19, hg⟩ : ∃ g, g = v7.heap.size := ⟨_, rfl⟩
        obtain ⟨w8, hw8⟩ : ∃ W, W = v7.alloc (.cells (stA s p) 36) := ⟨_, rfl⟩
        rw [← hw8] at HB8 HG8 HP8 HK8 HQ8
        rw [← hw8, ← hg]
        clear hw8 hg hb7 hb8 hcs HB6 HG6 HP6 HK6 HQ6 HCF
        try simp only [Act.put]
        go_cut [134] (fun x wc => x = .bool false ∧ wc = w8)
        case first =>
          rcases HCS.out with ⟨hx, rfl⟩ | ⟨⟨hx1, hx2⟩, rfl⟩
          · by_cases hx1 : pa < 1
            · have hx3 : ¬ 1 ≤ pa := by omega
              clear hx HCS
              go_wp2_with fail
              go_meet
              case rel => exact ⟨rfl, rfl⟩
            · have hx2 : (n : Int) ≤ pa := by omega
              have hx3 : 1 ≤ pa := by omega
              have hx4 : ¬ pa < (n : Int) := by omega
              clear hx HCS
              go_wp2_with fail
              go_meet
              case rel => exact ⟨rfl, rfl⟩
          · have hx3 : ¬ pa < 1 := by omega
            have hx4 : ¬ (n : Int) ≤ pa := by omega
            clear HCS
            go_wp2_with fail
            go_meet
            case rel => exact ⟨rfl, rfl⟩
        case rest =>
          obtain ⟨rfl, rfl⟩ := hcut
          obtain ⟨w9, rfl⟩ : ∃ wm : World, wm = wc := ⟨_, rfl⟩
          clear HCS
          have hz0 := (new_nrm 0 (by omega)).2
          have HBA := Lib.hid (fun W hw => salloc_bare r q _ _ HR.out (by rw [hz0]) 1 W hw)
          have HBF := Lib.hid (fun W hw => sfree_bare r q _ _ HR.out (by rw [hz0]) 1 1 W hw)
          have HBU := Lib.hid (fun W hw => sused_bare r q _ _ HR.out (by rw [hz0]) W hw)
          clear hz0
          go_upto_region 15 with (first
            | (with_reducible refine listLoad (by kernel_rfl) 36 (.tmp 12) rfl g12 rfl (stA r q) _ HK8.out _ Tryz.underlying36 (by kernel_rfl) (by kernel_rfl) ?_)
            | (go_at_call 12; (refine (HBA.out _ HQ8.out).mono ?_); rintro e v9 ⟨rfl, hb9⟩)
            | (with_reducible refine wpList_store_new rfl 36 (.tmp 21) (.tmp 139) rfl (stA r q) _ _ rfl (by kernel_rfl) (by kernel_rfl) (by kernel_rfl) (by kernel_rfl) ?_))
          have hb10 := joinB hb9 (allocB v9 (.cells (stA r q) 36))
          have HK10 := Lib.hid (blkOld HK8.out hb10)
          have HQ10 := Lib.hid (HQ8.out.below hb10)
          obtain ⟨g21, hg⟩ : ∃ g, g = v9.heap.size := ⟨_, rfl⟩
          obtain ⟨w10, hw10⟩ : ∃ W, W = v9.alloc (.cells (stA r q) 36) := ⟨_, rfl⟩
          rw [← hw10] at hb10 HK10 HQ10
          rw [← hw10, ← hg]
          clear hw10 hg hb9 HBA
          try simp only [Act.put]
          go_upto_region 16 with (first
            | (with_reducible refine listLoad (by kernel_rfl) 36 (.tmp 12) rfl g12 rfl (stA r q) _ HK10.out _ Tryz.underlying36 (by kernel_rfl) (by kernel_rfl) ?_)
            | (go_at_call 10; (refine (HBF.out _ HQ10.out).mono ?_); rintro e v11 ⟨rfl, hb11⟩)
            | (with_reducible refine wpList_store_new rfl 36 (.tmp 24) (.tmp 146) rfl (stA r q) _ _ rfl (by kernel_rfl) (by kernel_rfl) (by kernel_rfl) (by kernel_rfl) ?_))
          have hb12 := joinB hb11 (allocB v11 (.cells (stA r q) 36))
          have HK12 := Lib.hid (blkOld HK10.out hb12)
          have HQ12 := Lib.hid (HQ10.out.below hb12)
          obtain ⟨g24, hg⟩ : ∃ g, g = v11.heap.size := ⟨_, rfl⟩
          obtain ⟨w12, hw12⟩ : ∃ W, W = v11.alloc (.cells (stA r q) 36) := ⟨_, rfl⟩
          rw [← hw12] at hb12 HK12 HQ12
          rw [← hw12, ← hg]
          clear hw12 hg hb11 HBF
          try simp only [Act.put]
          go_upto_region 17 with (first
            | (with_reducible refine listLoad (by kernel_rfl) 36 (.tmp 12) rfl g12 rfl (stA r q) _ HK12.out _ Tryz.underlying36 (by kernel_rfl) (by kernel_rfl) ?_)
            | (go_at_call 14; (refine (HBU.out _ HQ12.out).mono ?_); rintro e v13 ⟨rfl, hb13⟩)
            | (with_reducible refine wpList_store_new rfl 36 (.tmp 26) (.tmp 151) rfl (stA r q) _ _ rfl (by kernel_rfl) (by kernel_rfl) (by kernel_rfl) (by kernel_rfl) ?_))
          have hb14 := joinB hb10 (joinB hb12 (joinB hb13 (allocB v13 (.cells (stA r q) 36))))
          have HB14 := Lib.hid (joinB HB8.out hb14)
          have HG14 := Lib.hid (blkOld HG8.out hb14)
          have HP14 := Lib.hid (HP8.out.below hb14)
          obtain ⟨g26, hg⟩ : ∃ g, g = v13.heap.size := ⟨_, rfl⟩
          obtain ⟨w14, hw14⟩ : ∃ W, W = v13.alloc (.cells (stA r q) 36) := ⟨_, rfl⟩
          rw [← hw14] at HB14 HG14 HP14
          rw [← hw14, ← hg]
          clear hw14 hg hb10 hb12 hb13 hb14 HBU HB8 HG8 HP8 HK8 HQ8 HK10 HQ10 HK12 HQ12
          try simp only [Act.put]
          by_cases ho : oa = 1
          · have hob : (oa == 1) = true := beq_iff_eq.2 ho
            clear ho
            go_wp2_with (go_at_call 6; (refine (HAW.out _).mono ?_); rintro e v15 ⟨rfl, hb15⟩)
            go_ret
            exact ⟨rfl, joinB HB14.out hb15⟩
          · have hob : (oa == 1) = false := beq_eq_false_iff_ne.2 ho
            by_cases h1 : n = 1
            · have hnb : (n == 1) = true := beq_iff_eq.2 h1
              have hnbi : ((n : Int) == 1) = true := beq_iff_eq.2 (by omega)
              have HCN := Lib.hid (fun W hw => show Calls Tryz.prog 12 #[storeV s p, .int .i64 oa, .int .i64 2] W fun e w' => e = .returned (.tuple #[storeV s p, .int .i64 0, .int .i64 18]) ∧ Below W.heap.size W w' from salloc_full s p fs C HS.out _ useN HU.out oa 2 (by omega) (upto_one h1) W hw)
              clear ho h1
              go_upto_region 22 with (first
                | (with_reducible refine listLoad (by kernel_rfl) 36 (.tmp 9) rfl g9 rfl (stA s p) _ HG14.out _ Tryz.underlying36 (by kernel_rfl) (by kernel_rfl) ?_)
                | (go_at_call 12; (refine (HCN.out _ HP14.out).mono ?_); rintro e v15 ⟨rfl, hb15⟩)
                | (with_reducible refine wpList_store_new rfl 36 (.tmp 29) (.tmp 172) rfl (stA s p) _ _ rfl (by kernel_rfl) (by kernel_rfl) (by kernel_rfl) (by kernel_rfl) ?_))
              have hb16 := joinB hb15 (allocB v15 (.cells (stA s p) 36))
              have HB16 := Lib.hid (joinB HB14.out hb16)
              clear hb15 hb16 HCN
              go_wp2_with (go_at_call 6; (refine (HAW.out _).mono ?_); rintro e v17 ⟨rfl, hb17⟩)
              go_ret
              exact ⟨rfl, joinB HB16.out hb17⟩
            · have hnb : (n == 1) = false := beq_eq_false_iff_ne.2 h1
              have hnbi : ((n : Int) == 1) = false := beq_eq_false_iff_ne.2 (by omega)
              have HCN := Lib.hid (fun W hw => show Calls Tryz.prog 12 #[storeV s p, .int .i64 oa, .int .i64 2] W fun e w' => e = .returned (.tuple #[storeV s p, .int .i64 0, .int .i64 21]) ∧ Below W.heap.size W w' from salloc_no s p fs C HS.out oa (by simpa using ho) _ useN HU.out 2 (by omega) 1 (by omega) (upto1 _ (by decide)) (by decide) W hw)
              clear ho h1
              go_upto_region 22 with (first
                | (with_reducible refine listLoad (by kernel_rfl) 36 (.tmp 9) rfl g9 rfl (stA s p) _ HG14.out _ Tryz.underlying36 (by kernel_rfl) (by kernel_rfl) ?_)
                | (go_at_call 12; (refine (HCN.out _ HP14.out).mono ?_); rintro e v15 ⟨rfl, hb15⟩)
                | (with_reducible refine wpList_store_new rfl 36 (.tmp 29) (.tmp 172) rfl (stA s p) _ _ rfl (by kernel_rfl) (by kernel_rfl) (by kernel_rfl) (by kernel_rfl) ?_))
              have hb16 := joinB hb15 (allocB v15 (.cells (stA s p) 36))
              have HB16 := Lib.hid (joinB HB14.out hb16)
              have HG16 := Lib.hid (blkOld HG14.out hb16)
              have HX16 := Lib.hid (heap_alloc_new v15 (.cells (stA s p) 36))
              obtain ⟨g29, hg⟩ : ∃ g, g = v15.heap.size := ⟨_, rfl⟩
              obtain ⟨w16, hw16⟩ : ∃ W, W = v15.alloc (.cells (stA s p) 36) := ⟨_, rfl⟩
              rw [← hg, ← hw16] at HX16
              rw [← hw16] at HB16 HG16
              rw [← hw16, ← hg]
              clear hw16 hg hb15 hb16 HCN
              try simp only [Act.put]
              have hle := log_equal43 s.log.from_ s.log.n s.log.end_ s.log.safe s.log.tail
              go_wp2_with (first
                | (go_at_call 6; (refine (HAW.out _).mono ?_); rintro e v17 ⟨rfl, hb17⟩; have HX17 := Lib.hid (blkOld HX16.out hb17); have HG17 := Lib.hid (blkOld HG16.out hb17))
                | (with_reducible refine listPart (by kernel_rfl) 30 (.tmp 183) rfl g29 6 rfl #[.int .i64 s.log.from_, .int .i64 s.log.n, .int .i64 s.log.end_, .int .i64 s.log.safe, .string s.log.tail] (stA s p) _ HX17.out (by kernel_rfl) _ Tryz.underlying30 (by kernel_rfl) (by kernel_rfl) ?_)
                | (with_reducible refine listPart (by kernel_rfl) 30 (.tmp 185) rfl g9 6 rfl #[.int .i64 s.log.from_, .int .i64 s.log.n, .int .i64 s.log.end_, .int .i64 s.log.safe, .string s.log.tail] (stA s p) _ HG17.out (by kernel_rfl) _ Tryz.underlying30 (by kernel_rfl) (by kernel_rfl) ?_))
              go_ret
              exact ⟨rfl, joinB HB16.out hb17⟩
end Go.Proofs.YtmebkghdkeeobaaGreatDoor
/- The frame of SpaceRefuses: the list of variables, and an argument of three whole numbers, opened. -/
namespace Go.Proofs.YtmebkghdkeeobaaGreatDoor
open Go.ChangeShapes Go.WideShapes Go.ChangeAt Go.RowKit
/-- The list, as every row of this seat has it. -/
def laidAll {H : Type} : List (String × DataW H) := [("math/bits.deBruijn32tab", Rows.laid_math_bits_deBruijn32tab), ("math/bits.deBruijn64tab", Rows.laid_math_bits_deBruijn64tab), ("internal/strconv.uint64pow10", Rows.laid_internal_strconv_uint64pow10), ("strconv.ErrRange", Rows.laid_strconv_ErrRange), ("strconv.ErrSyntax", Rows.laid_strconv_ErrSyntax)]
theorem laid_met (os : Os) (args : Array Value) : laidMet Tryz.prog laidAll ((World.doorLaid Tryz.prog 287 os).forCall (fun _ _ => 0) ⟨#[], args, []⟩).memory :=
  laidMet_of_run' 8 (by kernel_rfl) (by kernel_rfl)
theorem u8_nat {n : Int} (h : (Lit.int .u8 n).wf = true) : ∃ x : Nat, n = (x : Int) ∧ x < 256 := by
  have h1 := bounds_u8 h
  exact ⟨n.toNat, by omega, by omega⟩
theorem cells_i : Tryz.prog.cellsOf 3 = 1 := by kernel_rfl
theorem cells_i3 : Tryz.prog.cellsOf 56 = 3 := by kernel_rfl
section
variable {H : Type} {enc : TypeId × Value → H} {w : World} {base : Nat} {spare : Nat → Bool} {held : Bool}
set_option maxRecDepth 100000 in
theorem open_int3 {r : Reach} {b0 : Nat} {v : Value} {d : DataW H} {ps : List MemPlace} (hval : Value.okWide Tryz.prog w r b0 56 v) (hd : DataW.Trod enc Tryz.prog w base spare held 56 v d ps) :
    ∃ a b c : Int, v = .agg #[.int .i64 a, .int .i64 b, .int .i64 c] := by
  simp only [Value.okWide, Tryz.underlying56] at hval
  obtain ⟨cs, rfl, hn, _⟩ := hval
  obtain ⟨fuel, hf⟩ := hd
  obtain ⟨xs, m, _, _, _, hl, h⟩ := DataW.trod_array Tryz.underlying56 hf
  rw [cells_i3] at hn
  obtain ⟨L⟩ := cs
  match L, hn with
  | [u0, u1, u2], _ =>
    match xs, hl with
    | [y0, y1, y2], _ =>
      have h0 := h 0 (by decide)
      have h1 := h 1 (by decide)
      have h2 := h 2 (by decide)
      rw [cells_i] at h0 h1 h2
      simp only [Value.cells] at h0 h1 h2
      obtain ⟨i, hi, _, _⟩ := DataW.trod_int Tryz.underlying3 h0
      obtain ⟨j, hj, _, _⟩ := DataW.trod_int Tryz.underlying3 h1
      obtain ⟨k, hk, _, _⟩ := DataW.trod_int Tryz.underlying3 h2
      simp at hi hj hk
      exact ⟨i, j, k, by rw [hi, hj, hk]⟩
end
end Go.Proofs.YtmebkghdkeeobaaGreatDoor
