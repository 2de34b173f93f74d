import Derived.Test.YtmebkghdkeeobaaGreatDoorHo00
import Derived.Test.YtmebkghdkeeobaaGreatDoorHo01
import Derived.Lib.ConvBytes
import Derived.Lib.AppendStr
import Derived.Lib.FrozenHead
import Derived.Deep.MidRow
import Derived.Lib.LazyBuf
import Derived.Test.YtmebkghdkeeobaaGreatDoorHo20
import Derived.Test.YtmebkghdkeeobaaGreatDoorHo14
import Derived.Laws.BitsAllLaws
set_option maxRecDepth 100000
set_option maxHeartbeats 16000000
set_option linter.unusedSimpArgs false
namespace Go.Proofs.YtmebkghdkeeobaaGreatDoor
open Go.RowKit
def OwnB (B : Nat) (w : World) (v : Value) (l : List UInt8) : Prop :=
  ∃ g cap, v = .slice (some ⟨g, 0, none⟩) l.length cap ∧ B ≤ g ∧ g < w.heap.size ∧ l.length ≤ cap ∧ cap ≤ maxLen ∧
    (∀ j, j < cap → (w.cell? ⟨g, j, none⟩).isSome = true ∧ w.frozen? ⟨g, j, none⟩ = false) ∧ ∀ (j : Nat) (hj : j < l.length), w.cell? ⟨g, j, none⟩ = some (.int .u8 (l[j].toNat : Int))
theorem OwnB.below {B : Nat} {w w' : World} {v : Value} {l : List UInt8} (h : OwnB B w v l) (hb : Below w.heap.size w w') : OwnB B w' v l := by
  obtain ⟨g, cap, h1, h2, h3, h4, h5, h6, h7⟩ := h
  refine ⟨g, cap, h1, h2, Nat.lt_of_lt_of_le h3 hb.size, h4, h5, fun j hj => ?_, fun j hj => ?_⟩
  · rw [hb.cell (p := ⟨g, j, none⟩) h3, hb.frozen (p := ⟨g, j, none⟩) h3]; exact h6 j hj
  · rw [hb.cell (p := ⟨g, j, none⟩) h3]; exact h7 j hj
theorem OwnB.mono {B B' : Nat} {w : World} {v : Value} {l : List UInt8} (h : OwnB B w v l) (hb : B' ≤ B) : OwnB B' w v l := by
  obtain ⟨g, cap, h1, h2, h3⟩ := h
  exact ⟨g, cap, h1, Nat.le_trans hb h2, h3⟩
theorem ownB_conv (w : World) (s : ByteArray) (hs : s.size ≤ 1000000) : OwnB w.heap.size (Lib.bytesWorld w 5 s) (.slice (some ⟨w.heap.size, 0, none⟩) s.size (grownCap w s.size 0 5)) s.data.toList := by
  have hsz : s.data.toList.length = s.size := by simp
  have hge := grownCap_ge w s.size 0 5
  have hcm := grownCap_le_maxLen w s.size 0 5 (by simp only [maxLen]; omega)
  have hcs : (Lib.bytesCells w 5 s).size = grownCap w s.size 0 5 := by
    unfold Lib.bytesCells
    rw [Array.size_append, Array.size_map, Array.size_replicate]
    show s.size + _ = _
    omega
  have hn := Lib.bytesWorld_at_new w 5 s
  refine ⟨w.heap.size, _, by rw [hsz], Nat.le_refl _, by rw [Lib.bytesWorld_size]; omega, by rw [hsz]; exact hge, hcm, fun j hj => ⟨?_, ?_⟩, fun j hj => ?_⟩
  · unfold World.cell?
    rw [hn]
    simp only
    rw [Array.getElem?_eq_getElem (by rw [hcs]; exact hj)]
    rfl
  · unfold World.frozen?
    rw [hn]
    simp only [Bool.and_eq_false_iff, decide_eq_false_iff_not]
    left
    rw [hcs]; omega
  · rw [Lib.bytesWorld_cell w 5 s j (by omega)]
    rw [List.getD_eq_getElem?_getD, List.getElem?_eq_getElem hj, Option.getD_some]
theorem OwnB.back {P : Program} {B : Nat} {w : World} {v : Value} {l : List UInt8} (h : OwnB B w v l) {t u e : TypeId} (ht : P.underlying t = some (.slice e)) (he : P.underlying e = some (.int .u8)) (hu : P.underlying u = some .string) :
    (convert t u v).run P w = .ok (.string ⟨l.toArray⟩) w := by
  obtain ⟨g, cap, rfl, _, hg, _, _, _, h7⟩ := h
  exact run_convert_bytes_back w t u e ⟨g, 0, none⟩ cap l ht he hu (fun j hj => by rw [Addr.add_mid, Nat.zero_add]; exact h7 j hj)
theorem OwnB.set {B : Nat} {w : World} {v : Value} {l : List UInt8} (h : OwnB B w v l) : ∃ g c, v = .slice (some ⟨g, 0, none⟩) l.length c ∧ B ≤ g ∧ ∀ i (hi : i < l.length), w.cell? ⟨g, i, none⟩ = some (.int .u8 (l[i].toNat : Int)) ∧ w.frozen? ⟨g, i, none⟩ = false ∧
    ∀ y : UInt8, OwnB B (w.setCell ⟨g, i, none⟩ (.int .u8 (y.toNat : Int))) v (l.set i y) ∧ Below B w (w.setCell ⟨g, i, none⟩ (.int .u8 (y.toNat : Int))) := by
  obtain ⟨g, cap, h1, h2, h3, h4, h5, h6, h7⟩ := h
  refine ⟨g, cap, h1, h2, fun i hi => ⟨h7 i hi, (h6 i (by omega)).2, fun y => ⟨?_, (show Below B w w from ⟨rfl, rfl, rfl, Nat.le_refl _, fun _ _ => rfl⟩).setCell (p := ⟨g, i, none⟩) h2 _⟩⟩⟩
  have hs : (w.setCell ⟨g, i, none⟩ (.int .u8 (y.toNat : Int))).cell? ⟨g, i, none⟩ = some (.int .u8 (y.toNat : Int)) := World.cell?_setCell_same _ _ _ (h7 i hi)
  have ho : ∀ j, j ≠ i → (w.setCell ⟨g, i, none⟩ (.int .u8 (y.toNat : Int))).cell? ⟨g, j, none⟩ = w.cell? ⟨g, j, none⟩ := fun j hj => World.cell?_setCell_other _ _ _ _ (fun e : (⟨g, i, none⟩ : Addr) = ⟨g, j, none⟩ => hj (by injection e with _ e _; exact e.symm))
  refine ⟨g, cap, by rw [List.length_set]; exact h1, h2, by rw [World.size_setCell]; exact h3, by rw [List.length_set]; exact h4, h5, fun j hj => ⟨?_, ?_⟩, fun j hj => ?_⟩
  · by_cases e : j = i
    · subst e; rw [hs]; rfl
    · rw [ho j e]; exact (h6 j hj).1
  · rw [World.frozen?_setCell]; exact (h6 j hj).2
  · rw [List.length_set] at hj
    by_cases e : j = i
    · subst e; rw [hs, List.getElem_set_self]
    · rw [ho j e, List.getElem_set_ne (fun h => e h.symm)]; exact h7 j hj
open Sc
structure OwnU (B g : Nat) (w : World) (v : Value) (l : List UInt8) : Prop where
  own : OwnB B w v l
  at_ : ∃ c, v = .slice (some ⟨g, 0, none⟩) l.length c
  ty : ∃ cur fr, w.heap[g]? = some (.cells cur 5 fr)
theorem OwnU.below {B g : Nat} {w w' : World} {v : Value} {l : List UInt8} (h : OwnU B g w v l) (hb : Below w.heap.size w w') : OwnU B g w' v l := by
  obtain ⟨cur, fr, ht⟩ := h.ty
  exact ⟨h.own.below hb, h.at_, cur, fr, blkOld ht hb⟩
theorem OwnU.mono' {B B' g : Nat} {w : World} {v : Value} {l : List UInt8} (h : OwnU B g w v l) (hb : B' ≤ B) : OwnU B' g w v l := ⟨h.own.mono hb, h.at_, h.ty⟩
theorem OwnU.same {B g : Nat} {w w' : World} {v : Value} {l : List UInt8} (h : OwnU B g w v l) (hh : w'.heap[g]? = w.heap[g]?) : OwnU B g w' v l := by
  obtain ⟨cur, fr, ht⟩ := h.ty
  obtain ⟨c0, e0⟩ := h.at_
  obtain ⟨g', cap, h1, h2, h3, h4, h5, h6, h7⟩ := h.own
  have e1 := h1.symm.trans e0
  injection e1 with e1 e2 e3
  injection e1 with e1
  injection e1 with e1 _ _
  subst e1
  have hc : ∀ j, w'.cell? ⟨g', j, none⟩ = w.cell? ⟨g', j, none⟩ := fun j => by unfold World.cell?; rw [hh]
  have hz : ∀ j, w'.frozen? ⟨g', j, none⟩ = w.frozen? ⟨g', j, none⟩ := fun j => by unfold World.frozen?; rw [hh]
  exact ⟨⟨g', cap, h1, h2, heapLt (hh.trans ht), h4, h5, fun j hj => ⟨by rw [hc]; exact (h6 j hj).1, by rw [hz]; exact (h6 j hj).2⟩, fun j hj => by rw [hc]; exact h7 j hj⟩, h.at_, cur, fr, hh.trans ht⟩
theorem ownU_conv (w : World) (s : ByteArray) (hs : s.size ≤ 1000000) : OwnU w.heap.size w.heap.size (Lib.bytesWorld w 5 s) (.slice (some ⟨w.heap.size, 0, none⟩) s.size (grownCap w s.size 0 5)) s.data.toList :=
  ⟨ownB_conv w s hs, ⟨_, by rw [size_list]⟩, _, _, Lib.bytesWorld_at_new w 5 s⟩
theorem bit_and (y : UInt8) (r : Nat) : (bits BinOp.and IntKind.u8 ((y.toNat : Int) / 2 ^ r) 1 == 1) = y.toNat.testBit r := by
  have hy : y.toNat < 256 := y.toNat_lt
  have hd : y.toNat / 2 ^ r < 256 := Nat.lt_of_le_of_lt (Nat.div_le_self _ _) hy
  have e : ((y.toNat : Int) / 2 ^ r) = ((y.toNat / 2 ^ r : Nat) : Int) := by rw [Int.natCast_ediv, Int.natCast_pow]; rfl
  rw [e, show (1 : Int) = ((1 : Nat) : Int) from rfl, u8_and_nat _ 1 hd (by decide), Nat.and_one_is_mod, Nat.testBit_eq_decide_div_mod_eq]
  have h2 : y.toNat / 2 ^ r % 2 = 0 ∨ y.toNat / 2 ^ r % 2 = 1 := by omega
  rcases h2 with h2 | h2 <;> rw [h2] <;> rfl
set_option maxRecDepth 100000 in
set_option maxHeartbeats 8000000 in
theorem sused_any (v : Value) (b : ByteArray) (B : Nat) (p : Nat) (hp : p / 8 < b.size) (hp2 : p ≤ 1000) (w : World) (h : OwnB B w v b.data.toList) :
    Calls Tryz.prog 33 #[v, .int .i64 (p : Int)] w fun e w' => e = .returned (.bool (bit b p)) ∧ Below w.heap.size w w' := by
  have hp' : p / 8 < b.data.toList.length := by rw [size_list]; exact hp
  have hbt : bit b p = (b.data.toList[p / 8]).toNat.testBit (p % 8) := by unfold bit; rw [List.getElem?_eq_getElem hp', Option.getD_some]
  rw [hbt]
  clear hbt
  generalize b.data.toList = l at h hp' ⊢
  obtain ⟨g, cap, rfl, _, _, _, _, _, h7⟩ := h
  have hx := h7 (p / 8) hp'
  have hq : Int.tdiv (p : Int) 8 = ((p / 8 : Nat) : Int) := by rw [Int.tdiv_eq_ediv_of_nonneg (by omega)]; omega
  have hr : Int.tmod (p : Int) 8 = ((p % 8 : Nat) : Int) := by rw [Int.tmod_eq_emod_of_nonneg (by omega)]; omega
  have hw1 : IntKind.i64.wrap ((p / 8 : Nat) : Int) = ((p / 8 : Nat) : Int) := IntWalk.i64_in _ (by omega)
  have hw2 : IntKind.i64.wrap ((p % 8 : Nat) : Int) = ((p % 8 : Nat) : Int) := IntWalk.i64_in _ (by omega)
  have h8 : p % 8 < 8 := Nat.mod_lt _ (by decide)
  have hq0 : (0 : Int) ≤ ((p / 8 : Nat) : Int) := by omega
  have hql : ((p / 8 : Nat) : Int) < (l.length : Int) := by omega
  generalize hy : l[p / 8] = y at hx ⊢
  clear hy h7 hp
  generalize p / 8 = q at hx hq hw1 hq0 hql hp'
  generalize p % 8 = r at hr hw2 h8 ⊢
  have hr0 : (0 : Int) ≤ (r : Int) := by omega
  have hba := bit_and y r
  generalize y.toNat.testBit r = z at hba ⊢
  go_enter Tryz.func33, Tryz.ntmps33
  go_wp2_with fail
  go_ret
  exact ⟨rfl, Below.refl _ _⟩
def BiOut (N n k : Nat) (ids : List Int) (c : Int) (C : Nat → ByteArray) (b : ByteArray) (w : World) (e : Ending) (w' : World) : Prop :=
  ∃ (s' : Tx.St) (q : SP) (fs' : List Fr) (v : Value) (g : Nat), e = .returned (.tuple #[storeV s' q, v, .int .i64 0]) ∧ PoolR w' s' q fs' ∧ SS N n k ids c s' fs' C ∧ OwnU w.heap.size g w' v b.data.toList ∧ w.heap.size ≤ g ∧ Below w.heap.size w w'
set_option maxRecDepth 100000 in
set_option maxHeartbeats 16000000 in
theorem sbits_any {N n k : Nat} {ids : List Int} {c : Int} (s : Tx.St) (p : SP) (fs : List Fr) (C : Nat → ByteArray) (hS : SS N n k ids c s fs C) (b : ByteArray) (u : Nat → Nat) (hu : SI n C b u) (w : World) (h : PoolR w s p fs) :
    Calls Tryz.prog 31 #[storeV s p] w (BiOut N n k ids c C b w) := by
  have HGE := Lib.hid (fun W (hb : Below w.heap.size w W) => pget_any s p fs C hS.pi 0 (by have := hS.pi.n1; omega) W (h.below hb))
  have hn := hS.pi.n1
  have hnm := hS.pi.nm 0 (by omega)
  have HPG := Lib.hid (fun W => get_any_rec (C 0) 0 (by rw [hnm.size]; omega) W)
  have HKI := Lib.hid (fun W => kind_any (C 0) (by rw [hnm.size]; omega) W)
  have HSO := Lib.hid (fun W => slots_any (C 0) (by rw [hnm.size]; omega) W)
  have hsl : Pg.slotAt (leafP (C 0)).recs 0 = b := by rw [hu.r0]; rfl
  rw [hsl] at HPG
  rw [hu.k0] at HKI
  rw [hu.r0] at HSO
  have hsz := hu.sz
  have HLN := Lib.hid (fun (s1 : Tx.St) (p1 : SP) (hz : s1.zpages = (n : Int)) W => show Calls Tryz.prog 43 #[storeV s1 p1] W fun e w' => e = .returned (.int .i64 (b.size : Int)) ∧ Below W.heap.size W w' from by rw [hsz]; exact slong_any s1 p1 n hz (by omega) W)
  have hbb : b.size ≤ 1000 := by rw [hsz]; omega
  have hbp : ¬ b.size = 0 := by rw [hsz]; omega
  have hcv : ∀ W : World, (convert 9 67 (.string b)).run Tryz.prog W = .ok (.slice (some ⟨W.heap.size, 0, none⟩) b.size (grownCap W b.size 0 5)) (Lib.bytesWorld W 5 b) := fun W => Lib.run_convert_string_bytes W 9 67 5 b Tryz.underlying9 Tryz.underlying67 Tryz.underlying5
  have HCV := Lib.hid (fun W : World => ownU_conv W b (by omega))
  have HQ := Lib.hid (fun (s' : Tx.St) (q : SP) (fs' : List Fr) (v : Value) (g : Nat) w' h1 h2 h3 h4 h5 => show BiOut N n k ids c C b w (.returned (.tuple #[storeV s' q, v, .int .i64 0])) w' from ⟨s', q, fs', v, g, rfl, h1, h2, h3, h4, h5⟩)
  generalize BiOut N n k ids c C b w = Q at HQ ⊢
  have HSS := Lib.hid hS
  generalize decide (b.size = 0) = bz at HPG
  clear h hS hn hnm hsl hsz hbb hbp hu
  go_enter Tryz.func31, Tryz.ntmps31
  go_upto_region 1 with fail
  have H0 := Lib.hid (show BxL w.heap.size w [((stA s p), 36), (#[.int .i64 0, .int .i64 0, .int .i64 0, .slice none 0 0, .int .i64 0, .bool false, .int .i64 0, .int .i64 0, .int .i64 0, .int .i64 0, .string ⟨#[]⟩, .slice none 0 0, .int .i64 0, .slice none 0 0, .int .i64 0], 36)] ((w.alloc (.cells (stA s p) 36)).alloc (.cells #[.int .i64 0, .int .i64 0, .int .i64 0, .slice none 0 0, .int .i64 0, .bool false, .int .i64 0, .int .i64 0, .int .i64 0, .int .i64 0, .string ⟨#[]⟩, .slice none 0 0, .int .i64 0, .slice none 0 0, .int .i64 0] 36)) from (((BxL.nil (Below.refl w.heap.size w)).new (by simp) (stA s p) 36).new (by simp) #[.int .i64 0, .int .i64 0, .int .i64 0, .slice none 0 0, .int .i64 0, .bool false, .int .i64 0, .int .i64 0, .int .i64 0, .int .i64 0, .string ⟨#[]⟩, .slice none 0 0, .int .i64 0, .slice none 0 0, .int .i64 0] 36))
  obtain ⟨W0, hW0⟩ : ∃ W, W = ((w.alloc (.cells (stA s p) 36)).alloc (.cells #[.int .i64 0, .int .i64 0, .int .i64 0, .slice none 0 0, .int .i64 0, .bool false, .int .i64 0, .int .i64 0, .int .i64 0, .int .i64 0, .string ⟨#[]⟩, .slice none 0 0, .int .i64 0, .slice none 0 0, .int .i64 0] 36)) := ⟨_, rfl⟩
  rw [← hW0] at H0 ⊢
  clear hW0
  go_upto_region 4 with (first
    | (with_reducible refine listLoad (by kernel_rfl) 36 (.tmp 1) rfl w.heap.size rfl (stA s p) _ H0.out.get0 _ Tryz.underlying36 (by kernel_rfl) (by kernel_rfl) ?_)
    | (go_at_call 17; (refine (HGE.out _ H0.out.below).mono ?_); rintro e w1 ⟨s1, q1, fs1, rfl, hp1, hi1, hk1, hb1⟩; have H1 := Lib.hid (H0.out.step hb1))
    | (with_reducible refine listStore (by kernel_rfl) 36 (.tmp 1) (.tmp 12) rfl w.heap.size (stA s1 q1) _ _ rfl rfl H1.out.get0 (by kernel_rfl) (by kernel_rfl) (by kernel_rfl) ?_))
  have H2 := Lib.hid (show BxL w.heap.size w [((stA s1 q1), 36), (#[.int .i64 0, .int .i64 0, .int .i64 0, .slice none 0 0, .int .i64 0, .bool false, .int .i64 0, .int .i64 0, .int .i64 0, .int .i64 0, .string ⟨#[]⟩, .slice none 0 0, .int .i64 0, .slice none 0 0, .int .i64 0], 36)] (w1.setRow w.heap.size (stA s1 q1)) from H1.out.row 0 (stA s1 q1) _ rfl)
  have HP2 := Lib.hid (hp1.other (t := 36) H1.out.get0 (by decide) (by decide) (by decide) (stA s1 q1))
  have HS1 := Lib.hid (HSS.out.hk hk1 hi1)
  generalize w1.setRow w.heap.size (stA s1 q1) = w2 at H2 HP2 ⊢
  clear H0 H1 hp1 hi1 hk1 hb1 HGE
  try simp only [Act.put]
  have HLX := Lib.hid (HLN.out s1 q1 HS1.out.pi.zp)
  have hk1 : ((1 : Int) != 1) = false := rfl
  go_upto_region 7 with (first
    | (with_reducible refine listLoad (by kernel_rfl) 36 (.tmp 1) rfl w.heap.size rfl (stA s1 q1) _ H4.out.get0 _ Tryz.underlying36 (by kernel_rfl) (by kernel_rfl) ?_)
    | (go_at_call 57; (refine (HPG.out _).mono ?_); rintro e w3 ⟨rfl, hb3⟩)
    | (go_at_call 19; (refine (HKI.out _).mono ?_); rintro e w4 ⟨rfl, hb4⟩)
    | (go_at_call 20; (refine (HSO.out _).mono ?_); rintro e w5 ⟨rfl, hb5⟩; have hb25 := joinB hb3 (joinB hb4 hb5); have H4 := Lib.hid (H2.out.step hb25))
    | (go_at_call 43; (refine (HLX.out _).mono ?_); rintro e w6 ⟨rfl, hb6⟩))
  have hb26 := joinB hb25 hb6
  have H6 := Lib.hid (H2.out.step hb26)
  have HP6 := Lib.hid (HP2.out.below hb26)
  clear hb3 hb4 hb5 hb6 hb25 hb26 H2 H4 HP2 HPG HKI HSO HLN HLX
  have hb7 := below_bytes w6 5 b
  have H7 := Lib.hid (H6.out.step hb7)
  have HP7 := Lib.hid (HP6.out.below hb7)
  have HU := HCV.out w6
  generalize hW7 : Lib.bytesWorld w6 5 b = w7 at hb7 H7 HP7 HU
  go_wp2_with (first
    | (with_reducible refine listLoad (by kernel_rfl) 36 (.tmp 1) rfl w.heap.size rfl (stA s1 q1) _ H6.out.get0 _ Tryz.underlying36 (by kernel_rfl) (by kernel_rfl) ?_)
    | (with_reducible refine listStore (by kernel_rfl) 36 (.tmp 2) (.tmp 40) rfl (w.heap.size + 1) (stA s1 q1) _ _ rfl rfl H7.out.get1 (by kernel_rfl) (by kernel_rfl) (by kernel_rfl) ?_))
  have hu7 := HU
  refine bodyPost_ret (v := .tuple #[.agg (stA s1 q1), .slice (some ⟨w6.heap.size, 0, none⟩) b.size (grownCap w6 b.size 0 5), .int .i64 0]) (results_cell3 rfl _ _ rfl (load_whole (setRow_heap _ _ _ _ _ _ H7.out.get1) Tryz.underlying36 (by kernel_rfl) (by kernel_rfl)) rfl rfl) rfl ?_
  exact HQ.out s1 q1 fs1 _ w6.heap.size _ (HP7.out.other (t := 36) H7.out.get1 (by decide) (by decide) (by decide) _) HS1.out (OwnU.same (hu7.mono' (by have := H6.out.below.size; omega)) (heap_setRow_other _ _ _ _ (by have := H6.out.lt (i := 1) (by simp); omega))) H6.out.below.size (H7.out.row 1 (stA s1 q1) _ rfl).below
end Go.Proofs.YtmebkghdkeeobaaGreatDoor
