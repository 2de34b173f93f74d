/- The walk over the reference of tree pages: Split. -/
import Derived.Test.YtgbihdlahghonaaGs15
import Derived.Test.YtgbihdlahghonaaGs13
namespace Go.Proofs.Ytgbihdlahghonaa
open Go.RowKit

/-- What stands beside the cells that the last statement reads and writes. -/
structure HeldXT (X g : Nat) (w0 u : World) : Prop where
  xg : X < g
  xs : X < u.heap.size
  gs : g < u.heap.size
  low : w0.heap.size ≤ X
  bw : Below w0.heap.size w0 u
abbrev HeldX (X g j : Nat) (e : Nd.Entry) (w0 u : World) : Prop :=
  u.cell? ⟨g, j, none⟩ = some (.string e.key) ∧ u.cell? ⟨g, j + 1, none⟩ = some (.int .i64 e.page) ∧ u.cell? ⟨g, j + 2, none⟩ = some (.int .i64 e.slot) ∧
  u.cell? ⟨X, 0, none⟩ = some (cellOf u ⟨X, 0, none⟩) ∧ u.cell? ⟨X, 1, none⟩ = some (cellOf u ⟨X, 1, none⟩) ∧ u.cell? ⟨X, 2, none⟩ = some (cellOf u ⟨X, 2, none⟩) ∧
  u.frozen? ⟨X, 0, none⟩ = false ∧ u.frozen? ⟨X, 1, none⟩ = false ∧ u.frozen? ⟨X, 2, none⟩ = false ∧ HeldXT X g w0 u
theorem HeldX.set {X g j : Nat} {e : Nd.Entry} {w0 u : World} (h : HeldX X g j e w0 u) (i : Nat) (x : Value) : HeldX X g j e w0 (u.setCell ⟨X, i, none⟩ x) := by
  obtain ⟨h2, h3, h4, h5, h6, h7, h8, h9, h10, t⟩ := h
  have hg : (u.setCell ⟨X, i, none⟩ x).heap[g]? = u.heap[g]? := Below.heap_setCell u ⟨X, i, none⟩ x g (by have := t.xg; show g ≠ X; omega)
  refine ⟨?_, ?_, ?_, set_some h5, set_some h6, set_some h7, ?_, ?_, ?_, ⟨t.xg, by simpa using t.xs, by simpa using t.gs, t.low, t.bw.setCell t.low _⟩⟩
  · rw [cell_heap hg]; exact h2
  · rw [cell_heap hg]; exact h3
  · rw [cell_heap hg]; exact h4
  · simpa using h8
  · simpa using h9
  · simpa using h10
theorem HeldX.step {X g j : Nat} {e : Nd.Entry} {w0 u u' : World} (h : HeldX X g j e w0 u) (hb : Below u.heap.size u u') : HeldX X g j e w0 u' := by
  obtain ⟨h2, h3, h4, h5, h6, h7, h8, h9, h10, t⟩ := h
  have hs := hb.size
  refine ⟨?_, ?_, ?_, ?_, ?_, ?_, ?_, ?_, ?_, ⟨t.xg, Nat.lt_of_lt_of_le t.xs hs, Nat.lt_of_lt_of_le t.gs hs, t.low, andThen t.bw hb⟩⟩
  · rw [hb.cell (p := ⟨g, j, none⟩) t.gs]; exact h2
  · rw [hb.cell (p := ⟨g, j + 1, none⟩) t.gs]; exact h3
  · rw [hb.cell (p := ⟨g, j + 2, none⟩) t.gs]; exact h4
  · exact cellOf_eq ((hb.cell (p := ⟨X, 0, none⟩) t.xs).trans h5)
  · exact cellOf_eq ((hb.cell (p := ⟨X, 1, none⟩) t.xs).trans h6)
  · exact cellOf_eq ((hb.cell (p := ⟨X, 2, none⟩) t.xs).trans h7)
  · rw [hb.frozen (p := ⟨X, 0, none⟩) t.xs]; exact h8
  · rw [hb.frozen (p := ⟨X, 1, none⟩) t.xs]; exact h9
  · rw [hb.frozen (p := ⟨X, 2, none⟩) t.xs]; exact h10
/-- The slice at A reads as the entries l, in a block not below B. -/
def CellsB (B : Nat) (w : World) (A : Option Addr) (l : List Nd.Entry) : Prop :=
  0 < l.length → ∃ g, A = some ⟨g, 0, none⟩ ∧ B ≤ g ∧ g < w.heap.size ∧ EntsAt w g 0 l
theorem ownEs_cells2 {B : Nat} {w : World} {v : Value} {l : List Nd.Entry} (h : OwnEs B w v l) : ∃ A c, v = .slice A l.length c ∧ CellsB B w A l := by
  rcases ownEs_form h with ⟨rfl, rfl⟩ | ⟨g, cap, rfl, hB, hlt, hn, _, he⟩
  · exact ⟨none, 0, rfl, fun h0 => absurd h0 (by simp)⟩
  · exact ⟨_, _, rfl, fun _ => ⟨g, rfl, hB, hlt, he⟩⟩
theorem CellsB.below {B : Nat} {w w' : World} {A : Option Addr} {l : List Nd.Entry} (h : CellsB B w A l) (hb : Below w.heap.size w w') : CellsB B w' A l := fun h0 => by
  obtain ⟨g, hA, hB, hlt, he⟩ := h h0
  refine ⟨g, hA, hB, Nat.lt_of_lt_of_le hlt hb.size, fun j hj => ?_⟩
  obtain ⟨h1, h2, h3⟩ := he j hj
  refine ⟨?_, ?_, ?_⟩
  · rw [hb.cell (p := ⟨g, 0 + j * 3, none⟩) hlt]; exact h1
  · rw [hb.cell (p := ⟨g, 0 + j * 3 + 1, none⟩) hlt]; exact h2
  · rw [hb.cell (p := ⟨g, 0 + j * 3 + 2, none⟩) hlt]; exact h3
theorem CellsB.at_ {B : Nat} {w : World} {A : Option Addr} {l : List Nd.Entry} (h : CellsB B w A l) {k : Nat} (hk : k < l.length) : ∃ g, A = some ⟨g, 0, none⟩ ∧ B ≤ g ∧ g < w.heap.size ∧ EntsAt w g 0 l := h (by omega)
theorem ownT_cells2 {B : Nat} {w : World} {v : Value} {l : List ByteArray} (h : OwnT B w v l) (h0 : 0 < l.length) : ∃ b c, v = .slice (some ⟨b, 0, none⟩) l.length c ∧ l.length ≤ c ∧ c ≤ maxLen ∧ Cells w (some ⟨b, 0, none⟩) c l := by
  rcases ownT_form h with ⟨_, rfl⟩ | ⟨b, c, h1, _, _, h4, h5, h6⟩
  · exact absurd h0 (by simp)
  · exact ⟨b, c, h1, h4, h5, h6⟩
theorem fullR_tree {p : ByteArray} (h : rightP p = true) : Nd.fullR (leafP p).recs = true :=
  Nd.fullR_yes fun _ hk => (view_recs h).2.2 _ (List.getElem_mem hk)
set_option maxRecDepth 100000 in
set_option maxHeartbeats 8000000 in
theorem rnsplit_any (p : ByteArray) (hm : p.size ≤ 140737488355328) (w : World) :
    Calls Try.prog 55 #[.string p] w fun e w' => e = .returned (splitT (splitP p)) ∧ Below w.heap.size w w' := by
  have HP := Lib.hid (fun W => rpartsN_any p hm W)
  have HRc := Lib.hid (fun W => rrecords_any p hm W)
  have hbd := look_bound p
  have hvr := @view_recs p
  have hrs := @right_sub p
  have hfu := @fullR_tree p
  have HK := Lib.hid (fun W => rkind_any p hm W)
  have HLn := Lib.hid (fun W => rlink_any p hm W)
  have HLs := Lib.hid (fun W => rlsn_any p hm W)
  have HBX := Lib.hid (heap_alloc_new w (.cells #[.string ⟨#[]⟩, .int .i64 0, .int .i64 0] 45))
  unfold splitP
  generalize viewP p = V at HP hbd hvr ⊢
  generalize rightP p = ok at HP hvr hrs hfu ⊢
  obtain ⟨lf, rs, l, is⟩ := V
  simp only at HP hbd hvr ⊢
  obtain ⟨hb1, hb2, hb3⟩ := hbd
  have HVR := Lib.hid hvr
  have HRS := Lib.hid hrs
  have HFU := Lib.hid hfu
  clear hvr hrs hfu
  generalize hx : leafP p = x at HK HLn HLs HVR HRS HFU HRc ⊢
  clear hx
  cases ok with
  | false =>
    rw [if_pos (.inl rfl)]
    have hl2 : l.length ≤ 123 := by omega
    clear hb2 hb3 hb1
    go_enter Try.func55, Try.ntmps55
    go_wp2_with (go_at_call 95; refine (HP.out _).mono ?_; rintro e w1 ⟨v1, v2, rfl, ho1, ho2, hb1⟩; have hcc := ownEs_cells ho1; obtain ⟨A1, c1, rfl, hC1⟩ := hcc; have HB := Lib.hid (below_past hb1); have HXX := Lib.hid (blk_new hb1); obtain ⟨x0, x1, x2, f0, f1, f2⟩ := blkE (blk_new hb1); have hlt1 : w.heap.size < w1.heap.size := (by have h7 := hb1.size; simp at h7; omega); clear ho1 ho2 hC1 hb1)
    refine bodyPost_ret (v := .tuple #[.string ⟨#[]⟩, .string ⟨#[]⟩, .agg #[.string ⟨#[]⟩, .int .i64 0, .int .i64 0], .bool false]) (by simp [results, Try.results55, go_sem, x0, x1, x2]) rfl ?_
    refine ⟨rfl, ?_⟩
    exact ((HB.out.setCell (Nat.le_refl _) _).setCell (Nat.le_refl _) _).setCell (Nat.le_refl _) _
  | true =>
    by_cases hn : rs.length < 2
    · rw [if_pos (.inr hn)]
      have hn2 : (l.length : Int) < 2 := by omega
      clear hb2 hb3 hn
      go_enter Try.func55, Try.ntmps55
      go_wp2_with (go_at_call 95; refine (HP.out _).mono ?_; rintro e w1 ⟨v1, v2, rfl, ho1, ho2, hb1⟩; have hcc := ownEs_cells ho1; obtain ⟨A1, c1, rfl, hC1⟩ := hcc; have HB := Lib.hid (below_past hb1); have HXX := Lib.hid (blk_new hb1); obtain ⟨x0, x1, x2, f0, f1, f2⟩ := blkE (blk_new hb1); have hlt1 : w.heap.size < w1.heap.size := (by have h7 := hb1.size; simp at h7; omega); clear ho1 ho2 hC1 hb1)
      refine bodyPost_ret (v := .tuple #[.string ⟨#[]⟩, .string ⟨#[]⟩, .agg #[.string ⟨#[]⟩, .int .i64 0, .int .i64 0], .bool false]) (by simp [results, Try.results55, go_sem, x0, x1, x2]) rfl ?_
      refine ⟨rfl, ?_⟩
      exact ((HB.out.setCell (Nat.le_refl _) _).setCell (Nat.le_refl _) _).setCell (Nat.le_refl _) _
    · rw [if_neg (fun h => h.elim (fun h1 => (by cases h1)) hn)]
      obtain ⟨hpg, hrx, -⟩ := HVR.out rfl
      have hsub := HRS.out rfl
      rw [HFU.out rfl] at HRc
      obtain ⟨lsn, kind, link, recs⟩ := x
      simp only at hrx HK HLn HLs HRc ⊢
      subst hrx
      have hfit := hsub.fits
      have hsm : Pg.sumSizes rs ≤ 512 := by unfold Pg.sizeN at hfit; simp only at hfit; omega
      have hn2 : 2 ≤ rs.length := by omega
      have hnl : l.length = rs.length := hb2
      have HSB := Lib.hid hsub
      obtain ⟨K, hKe⟩ : ∃ K, K = Nd.splitK rs := ⟨_, rfl⟩
      have hK := Nd.splitK_in hn2
      rw [← hKe] at hK ⊢
      have HKe := Lib.hid hKe
      have hn3 : ¬ (l.length : Int) < 2 := by omega
      have HNL := Lib.hid hnl
      clear HVR HRS HFU hpg hsub hfit hKe hn hm hb2 hb3 hnl
      go_enter Try.func55, Try.ntmps55
      go_upto_region 5 with (first
        | (go_at_call 95; refine (HP.out _).mono ?_; rintro e w1 ⟨v1, v2, rfl, ho1, ho2, hb1⟩; have hcc := ownEs_cells2 ho1; obtain ⟨A1, c1, rfl, hC1⟩ := hcc; have HC1 := Lib.hid hC1; have HB1 := Lib.hid (below_past hb1); have HXX := Lib.hid (blk_new hb1); clear ho1 ho2 hC1 hb1)
        | (go_at_call 97; refine (HRc.out _).mono ?_; rintro e w2 ⟨v, rfl, ho3, hb2⟩; rw [if_pos rfl] at ho3; have hct := ownT_cells2 ho3; obtain ⟨b, c, rfl, hc1, hc2, hCT⟩ := hct (by omega); have HCT := Lib.hid hCT; have HB2 := Lib.hid (andThen HB1.out hb2); have HC2 := Lib.hid (HC1.out.below hb2); have HXY := Lib.hid (blk_old HXX.out hb2); clear ho3 hct hCT hb2))
      go_upto_block 0 with (fail)
      go_cut [11] (fun s we => s = .int .i64 (K : Nat) ∧ Below w2.heap.size w2 we)
      case first =>
        go_wp2_with fail
        go_loopw [11] (fun s wr => ∃ k : Nat, 1 ≤ k ∧ k < rs.length ∧ s = .int .i64 k ∧ Nd.splitGo rs k (rs.length - k) = K ∧ Below w2.heap.size w2 wr) (fun s _ => rs.length - (intOf s).toNat)
        case atStart => exact ⟨1, Nat.le_refl _, by omega, rfl, by rw [HKe.out]; rfl, Below.refl _ _⟩
        case round =>
          obtain ⟨k, hk1, hk2, rfl, hg, hb⟩ := hrel
          have HG := Lib.hid hg
          clear hg
          have hs1 := Pg.sumSizes_take_le rs k
          have hlk : (rs.take k).length = k := by rw [List.length_take]; omega
          have HS1 : Hid (∀ W, Cells W (some ⟨b, 0, none⟩) c rs → Calls Try.prog 98 #[.slice (some ⟨b, 0, none⟩) k c] W fun e w' => e = .returned (.int .i64 (Pg.sumSizes (rs.take k) : Nat)) ∧ W = w') := Lib.hid (fun W hW => by
            have h1 := rsize_any (rs.take k) (by omega) (by omega) (some ⟨b, 0, none⟩) c W ((hW.take k (by omega)).cap (by omega))
            rw [hlk] at h1
            exact h1)
          have HS2 := Lib.hid (fun W => rsize_any rs hsm hb1 (some ⟨b, 0, none⟩) c W)
          have HCr := Lib.hid (HCT.out.below hb)
          clear hlk
          obtain ⟨sa, hsa⟩ : ∃ sa, sa = Pg.sumSizes (rs.take k) := ⟨_, rfl⟩
          obtain ⟨sb, hsb⟩ : ∃ sb, sb = Pg.sumSizes rs := ⟨_, rfl⟩
          rw [← hsa] at HS1 hs1
          rw [← hsb] at HS2 hs1
          have HSA := Lib.hid hsa
          have HSB2 := Lib.hid hsb
          have hsb3 : sb ≤ 512 := by omega
          clear hsa hsb
          by_cases h1 : k + 1 < rs.length
          · have hd1 : decide ((k : Int) < (rs.length : Int) - 1) = true := by simp; omega
            by_cases h2 : 2 * sa < sb
            · have HG2 := Lib.hid ((Nd.split_go ⟨h1, by rw [← HSA.out, ← HSB2.out]; exact h2⟩).symm.trans HG.out)
              have hd2 : decide (2 * (sa : Int) < (sb : Int)) = true := by simp; omega
              go_wp2_with (first | (go_at_call 98; ((with_reducible refine (HS1.out _ HCr.out).mono ?_); rintro e w3 ⟨rfl, rfl⟩)) | (go_at_call 98; ((with_reducible refine (HS2.out _ HCr.out).mono ?_); rintro e w3 ⟨rfl, rfl⟩)))
              go_roundw
              case rel => exact ⟨k + 1, by omega, by omega, by go_num, HG2.out, hb⟩
              case measure => simp [intOf]; omega
            · have HG2 := Lib.hid ((Nd.split_end (fun h => h2 (by rw [HSA.out, HSB2.out]; exact h.2))).symm.trans HG.out)
              have hd2 : decide (2 * (sa : Int) < (sb : Int)) = false := by simp; omega
              go_wp2_with (first | (go_at_call 98; ((with_reducible refine (HS1.out _ HCr.out).mono ?_); rintro e w3 ⟨rfl, rfl⟩)) | (go_at_call 98; ((with_reducible refine (HS2.out _ HCr.out).mono ?_); rintro e w3 ⟨rfl, rfl⟩)))
              go_meet
              case rel => exact ⟨by rw [HG2.out], hb⟩
          · have HG2 := Lib.hid ((Nd.split_end (fun h => h1 h.1)).symm.trans HG.out)
            have hd1 : decide ((k : Int) < (rs.length : Int) - 1) = false := by simp; omega
            go_wp2_with fail
            go_meet
            case rel => exact ⟨by rw [HG2.out], hb⟩
      case rest =>
        obtain ⟨rfl, hb⟩ := hcut
        obtain ⟨wr, rfl⟩ : ∃ wr : World, wr = wc := ⟨_, rfl⟩
        clear HKe hsm HP HRc HBX
        have hKl : K < l.length := by have := HNL.out; omega
        have hK3 := hK.2
        obtain ⟨g, rfl, hg1, hg2, hE⟩ := (HC2.out.below hb).at_ hKl
        have hEK := hE K hKl
        have HSS := Lib.hid (show Cells wr.drew (some ⟨b, 0, none⟩) c rs ∧ Below wr.heap.size wr wr.drew from ⟨(HCT.out.below hb).below (Below.refl _ _).drew, (Below.refl _ _).drew⟩)
        have HF1 : Hid (∀ W, Cells W (some ⟨b, 0, none⟩) c rs → Calls Try.prog 99 #[.int .i64 kind, .int .i64 lsn, .int .i64 link, .slice (some ⟨b, 0, none⟩) K c] W fun e w' => e = .returned (.string (pageB ⟨lsn, kind, link, rs.take K⟩)) ∧ Below W.heap.size W w') := Lib.hid (fun W hW => by
          have hlk : (rs.take K).length = K := by rw [List.length_take]; omega
          have h1 := rlaid_any ⟨lsn, kind, link, rs.take K⟩ (HSB.out.take K) (some ⟨b, 0, none⟩) c W ((hW.take K (by omega)).cap (by omega))
          simp only [hlk] at h1
          exact h1)
        have HF2 : Hid (∀ W, Cells W (some ⟨b, 0, none⟩) c rs → Calls Try.prog 99 #[.int .i64 kind, .int .i64 0, .int .i64 link, (.slice (some ⟨b, K, none⟩) (rs.length - K) (c - K))] W fun e w' => e = .returned (.string (pageB ⟨0, kind, link, rs.drop K⟩)) ∧ Below W.heap.size W w') := Lib.hid (fun W hW => by
          have h1 := rlaid_any ⟨0, kind, link, rs.drop K⟩ (HSB.out.drop K) (some ⟨b, 0 + K, none⟩) (c - K) W (hW.drop K)
          simp only [List.length_drop, Nat.zero_add] at h1
          exact h1)
        have hi1 : (0 : Int) ≤ (K : Int) := by omega
        have hi2 : (K : Int) ≤ (c : Int) := by omega
        have hi3 : (K : Int) ≤ (rs.length : Int) := by omega
        have hi4 : (K : Int) < (rs.length : Int) := by omega
        have hi5 : ¬ c - K = 0 := by omega
        have hcK : ¬ c = K := by omega
        have hi6 : (K : Int) < (l.length : Int) := by omega
        have HeK : Hid ((l[K]?).getD Nd.zero = l[K]) := by show (l[K]?).getD Nd.zero = l[K]; rw [List.getElem?_eq_getElem hKl]; rfl
        have hsv : splitV ⟨lsn, kind, link, rs⟩ l K = (pageB ⟨lsn, kind, link, rs.take K⟩, pageB ⟨0, kind, link, rs.drop K⟩, l[K], true) := by unfold splitV; rw [HeK.out]
        have HSV := Lib.hid hsv
        have HEK := Lib.hid hEK
        generalize pageB ⟨lsn, kind, link, rs.take K⟩ = P1 at HF1 HSV
        generalize pageB ⟨0, kind, link, rs.drop K⟩ = P2 at HF2 HSV
        clear HeK hsv hEK hE
        generalize l[K] = ee at HEK HSV
        obtain ⟨ek, ep, es⟩ := ee
        have HBr := Lib.hid (andThen HB2.out hb)
        have HXR := Lib.hid (blk_old HXY.out hb)
        clear HC1 HC2 hb HXX HXY HB1 HB2 HSB HCT
        go_upto_region 8 with (fail)
        refine wp_region_held_drew (S := (fun we => Cells we (some ⟨b, 0, none⟩) c rs ∧ Below wr.heap.size wr we)) (by kernel_rfl) ?_ (fun hHeld => ?_)
        · first | exact HSS.out | exact hSn
        refine wpAnyH_take (i := 0) (oi := { dst := some 50, op := _, type := _, pos := _, after := _, guard := _ }) (v := ?_) rfl (by kernel_rfl) (by kernel_rfl) (by kernel_rfl) (fun _ _ _ h => h) (Or.inl ⟨by rfl, ?_⟩) (by assumption) ?_
        rotate_left
        · intro w hSw; (try dsimp only at hSw); go_simp; (try with_reducible rfl)
        try simp only [Act.put, List.setIfInBounds_toArray, List.set_cons_zero, List.set_cons_succ]
        refine wpAnyH_take (i := 2) (oi := { dst := some 52, op := _, type := _, pos := _, after := _, guard := _ }) (v := ?_) rfl (by kernel_rfl) (by kernel_rfl) (by kernel_rfl) (fun _ _ _ h => h) (Or.inl ⟨by rfl, ?_⟩) (by assumption) ?_
        rotate_left
        · intro w hSw; (try dsimp only at hSw); go_simp; (try with_reducible rfl)
        try simp only [Act.put, List.setIfInBounds_toArray, List.set_cons_zero, List.set_cons_succ]
        refine wpAnyH_take (i := 4) (oi := { dst := some 54, op := _, type := _, pos := _, after := _, guard := _ }) (v := ?_) rfl (by kernel_rfl) (by kernel_rfl) (by kernel_rfl) (fun _ _ _ h => h) (Or.inl ⟨by rfl, ?_⟩) (by assumption) ?_
        rotate_left
        · intro w hSw; (try dsimp only at hSw); go_simp; (try with_reducible rfl)
        try simp only [Act.put, List.setIfInBounds_toArray, List.set_cons_zero, List.set_cons_succ]
        refine wpAnyH_take (i := 6) (oi := { dst := some 56, op := _, type := _, pos := _, after := _, guard := _ }) (v := ?_) rfl (by kernel_rfl) (by kernel_rfl) (by kernel_rfl) (fun _ _ _ h => h) (Or.inl ⟨by rfl, ?_⟩) (by assumption) ?_
        rotate_left
        · intro w hSw; (try dsimp only at hSw); go_simp; (try with_reducible rfl)
        try simp only [Act.put, List.setIfInBounds_toArray, List.set_cons_zero, List.set_cons_succ]
        refine wpAnyH_take (i := 7) (oi := { dst := some 57, op := _, type := _, pos := _, after := _, guard := _ }) (v := ?_) rfl (by kernel_rfl) (by kernel_rfl) (by kernel_rfl) (fun _ _ _ h => h) (Or.inl ⟨by rfl, ?_⟩) (by assumption) ?_
        rotate_left
        · intro w hSw; (try dsimp only at hSw); go_simp; (try with_reducible rfl)
        try simp only [Act.put, List.setIfInBounds_toArray, List.set_cons_zero, List.set_cons_succ]
        refine wpAnyH_take (i := 8) (oi := { dst := some 58, op := _, type := _, pos := _, after := _, guard := _ }) (v := ?_) rfl (by kernel_rfl) (by kernel_rfl) (by kernel_rfl) (fun _ _ _ h => h) (Or.inl ⟨by rfl, ?_⟩) (by assumption) ?_
        rotate_left
        · intro w hSw; (try dsimp only at hSw); go_simp; (try with_reducible rfl)
        try simp only [Act.put, List.setIfInBounds_toArray, List.set_cons_zero, List.set_cons_succ]
        refine wpAnyH_ready (rs := [1]) (by kernel_rfl) (by simp) ?_
        refine AllReadyH.cons (o := { dst := some 51, op := _, type := _, pos := _, after := _, guard := _ }) rfl (fun K hK => ?_) ?_
        rotate_left
        · exact AllReadyH.nil
        go_simp
        refine (HK.out _).mono ?_; rintro e w7 ⟨rfl, hb7⟩; have hSn := And.intro (hHeld.1.below hb7) (andThen hHeld.2 hb7); clear hHeld hb7; try go_simp
        refine hK.out _ _ ?_ (fun hHeld => ?_)
        · first | exact HSS.out | exact hSn
        clear hK K
        try simp only [Act.put, List.setIfInBounds_toArray, List.set_cons_zero, List.set_cons_succ]
        refine wpAnyH_ready (rs := [3]) (by kernel_rfl) (by simp) ?_
        refine AllReadyH.cons (o := { dst := some 53, op := _, type := _, pos := _, after := _, guard := _ }) rfl (fun K hK => ?_) ?_
        rotate_left
        · exact AllReadyH.nil
        go_simp
        refine (HLs.out _).mono ?_; rintro e w7 ⟨rfl, hb7⟩; have hSn := And.intro (hHeld.1.below hb7) (andThen hHeld.2 hb7); clear hHeld hb7; try go_simp
        refine hK.out _ _ ?_ (fun hHeld => ?_)
        · first | exact HSS.out | exact hSn
        clear hK K
        try simp only [Act.put, List.setIfInBounds_toArray, List.set_cons_zero, List.set_cons_succ]
        refine wpAnyH_ready (rs := [5]) (by kernel_rfl) (by simp) ?_
        refine AllReadyH.cons (o := { dst := some 55, op := _, type := _, pos := _, after := _, guard := _ }) rfl (fun K hK => ?_) ?_
        rotate_left
        · exact AllReadyH.nil
        go_simp
        refine (HLn.out _).mono ?_; rintro e w7 ⟨rfl, hb7⟩; have hSn := And.intro (hHeld.1.below hb7) (andThen hHeld.2 hb7); clear hHeld hb7; try go_simp
        refine hK.out _ _ ?_ (fun hHeld => ?_)
        · first | exact HSS.out | exact hSn
        clear hK K
        try simp only [Act.put, List.setIfInBounds_toArray, List.set_cons_zero, List.set_cons_succ]
        refine wpAnyH_ready (rs := [9]) (by kernel_rfl) (by simp) ?_
        refine AllReadyH.cons (o := { dst := some 59, op := _, type := _, pos := _, after := _, guard := _ }) rfl (fun K hK => ?_) ?_
        rotate_left
        · exact AllReadyH.nil
        go_simp
        refine (HF1.out _ hHeld.1).mono ?_; rintro e w7 ⟨rfl, hb7⟩; have hSn := And.intro (hHeld.1.below hb7) (andThen hHeld.2 hb7); clear hHeld hb7; try go_simp
        refine hK.out _ _ ?_ (fun hHeld => ?_)
        · first | exact HSS.out | exact hSn
        clear hK K
        try simp only [Act.put, List.setIfInBounds_toArray, List.set_cons_zero, List.set_cons_succ]
        refine wpAnyH_take (i := 10) (oi := { dst := some 12, op := _, type := _, pos := _, after := _, guard := _ }) (v := ?_) rfl (by kernel_rfl) (by kernel_rfl) (by kernel_rfl) (fun _ _ _ h => h) (Or.inl ⟨by rfl, ?_⟩) (by assumption) ?_
        rotate_left
        · intro w hSw; (try dsimp only at hSw); go_simp; (try with_reducible rfl)
        try simp only [Act.put, List.setIfInBounds_toArray, List.set_cons_zero, List.set_cons_succ]
        refine wpAnyH_done (by kernel_rfl) ?_ _
        clear HSS
        have HSS := Lib.hid (And.intro (hHeld.1.below (Below.refl _ _).drew) (andThen hHeld.2 (Below.refl _ _).drew))
        clear hHeld
        go_upto_region 9 with (fail)
        refine wp_region_held_drew (S := (fun we => Cells we (some ⟨b, 0, none⟩) c rs ∧ Below wr.heap.size wr we)) (by kernel_rfl) ?_ (fun hHeld => ?_)
        · first | exact HSS.out | exact hSn
        refine wpAnyH_take (i := 0) (oi := { dst := some 60, op := _, type := _, pos := _, after := _, guard := _ }) (v := ?_) rfl (by kernel_rfl) (by kernel_rfl) (by kernel_rfl) (fun _ _ _ h => h) (Or.inl ⟨by rfl, ?_⟩) (by assumption) ?_
        rotate_left
        · intro w hSw; (try dsimp only at hSw); go_simp; (try with_reducible rfl)
        try simp only [Act.put, List.setIfInBounds_toArray, List.set_cons_zero, List.set_cons_succ]
        refine wpAnyH_take (i := 2) (oi := { dst := some 62, op := _, type := _, pos := _, after := _, guard := _ }) (v := ?_) rfl (by kernel_rfl) (by kernel_rfl) (by kernel_rfl) (fun _ _ _ h => h) (Or.inl ⟨by rfl, ?_⟩) (by assumption) ?_
        rotate_left
        · intro w hSw; (try dsimp only at hSw); go_simp; (try with_reducible rfl)
        try simp only [Act.put, List.setIfInBounds_toArray, List.set_cons_zero, List.set_cons_succ]
        refine wpAnyH_take (i := 4) (oi := { dst := some 64, op := _, type := _, pos := _, after := _, guard := _ }) (v := ?_) rfl (by kernel_rfl) (by kernel_rfl) (by kernel_rfl) (fun _ _ _ h => h) (Or.inl ⟨by rfl, ?_⟩) (by assumption) ?_
        rotate_left
        · intro w hSw; (try dsimp only at hSw); go_simp; (try with_reducible rfl)
        try simp only [Act.put, List.setIfInBounds_toArray, List.set_cons_zero, List.set_cons_succ]
        refine wpAnyH_take (i := 5) (oi := { dst := some 65, op := _, type := _, pos := _, after := _, guard := _ }) (v := ?_) rfl (by kernel_rfl) (by kernel_rfl) (by kernel_rfl) (fun _ _ _ h => h) (Or.inl ⟨by rfl, ?_⟩) (by assumption) ?_
        rotate_left
        · intro w hSw; (try dsimp only at hSw); go_simp; (try with_reducible rfl)
        try simp only [Act.put, List.setIfInBounds_toArray, List.set_cons_zero, List.set_cons_succ]
        refine wpAnyH_take (i := 6) (oi := { dst := some 66, op := _, type := _, pos := _, after := _, guard := _ }) (v := ?_) rfl (by kernel_rfl) (by kernel_rfl) (by kernel_rfl) (fun _ _ _ h => h) (Or.inl ⟨by rfl, ?_⟩) (by assumption) ?_
        rotate_left
        · intro w hSw; (try dsimp only at hSw); go_simp; (try with_reducible rfl)
        try simp only [Act.put, List.setIfInBounds_toArray, List.set_cons_zero, List.set_cons_succ]
        refine wpAnyH_ready (rs := [1]) (by kernel_rfl) (by simp) ?_
        refine AllReadyH.cons (o := { dst := some 61, op := _, type := _, pos := _, after := _, guard := _ }) rfl (fun K hK => ?_) ?_
        rotate_left
        · exact AllReadyH.nil
        go_simp
        refine (HK.out _).mono ?_; rintro e w7 ⟨rfl, hb7⟩; have hSn := And.intro (hHeld.1.below hb7) (andThen hHeld.2 hb7); clear hHeld hb7; try go_simp
        refine hK.out _ _ ?_ (fun hHeld => ?_)
        · first | exact HSS.out | exact hSn
        clear hK K
        try simp only [Act.put, List.setIfInBounds_toArray, List.set_cons_zero, List.set_cons_succ]
        refine wpAnyH_ready (rs := [3]) (by kernel_rfl) (by simp) ?_
        refine AllReadyH.cons (o := { dst := some 63, op := _, type := _, pos := _, after := _, guard := _ }) rfl (fun K hK => ?_) ?_
        rotate_left
        · exact AllReadyH.nil
        go_simp
        refine (HLn.out _).mono ?_; rintro e w7 ⟨rfl, hb7⟩; have hSn := And.intro (hHeld.1.below hb7) (andThen hHeld.2 hb7); clear hHeld hb7; try go_simp
        refine hK.out _ _ ?_ (fun hHeld => ?_)
        · first | exact HSS.out | exact hSn
        clear hK K
        try simp only [Act.put, List.setIfInBounds_toArray, List.set_cons_zero, List.set_cons_succ]
        refine wpAnyH_ready (rs := [7]) (by kernel_rfl) (by simp) ?_
        refine AllReadyH.cons (o := { dst := some 67, op := _, type := _, pos := _, after := _, guard := _ }) rfl (fun K hK => ?_) ?_
        rotate_left
        · exact AllReadyH.nil
        go_simp
        try rw [if_neg hcK]
        refine (HF2.out _ hHeld.1).mono ?_; rintro e w7 ⟨rfl, hb7⟩; have hSn := And.intro (hHeld.1.below hb7) (andThen hHeld.2 hb7); clear hHeld hb7; try go_simp
        refine hK.out _ _ ?_ (fun hHeld => ?_)
        · first | exact HSS.out | exact hSn
        clear hK K
        try simp only [Act.put, List.setIfInBounds_toArray, List.set_cons_zero, List.set_cons_succ]
        refine wpAnyH_take (i := 8) (oi := { dst := some 13, op := _, type := _, pos := _, after := _, guard := _ }) (v := ?_) rfl (by kernel_rfl) (by kernel_rfl) (by kernel_rfl) (fun _ _ _ h => h) (Or.inl ⟨by rfl, ?_⟩) (by assumption) ?_
        rotate_left
        · intro w hSw; (try dsimp only at hSw); go_simp; (try with_reducible rfl)
        try simp only [Act.put, List.setIfInBounds_toArray, List.set_cons_zero, List.set_cons_succ]
        refine wpAnyH_done (by kernel_rfl) ?_ _
        clear HSS
        have hwg : w.heap.size < g := by have h7 := hg1; simp at h7; omega
        have hEk := HEK.out
        rw [Nat.zero_add] at hEk
        have hX0 : HeldX w.heap.size g (K * 3) ⟨ek, ep, es⟩ w wr :=
          ⟨hEk.1, hEk.2.1, hEk.2.2, cellOf_eq (blkE HXR.out).1, cellOf_eq (blkE HXR.out).2.1, cellOf_eq (blkE HXR.out).2.2.1, (blkE HXR.out).2.2.2.1, (blkE HXR.out).2.2.2.2.1, (blkE HXR.out).2.2.2.2.2,
            ⟨hwg, heap_lt HXR.out, hg2, Nat.le_refl _, HBr.out⟩⟩
        have hS2 := (hX0.step hHeld.2).step (Below.refl _ _).drew
        obtain ⟨q0, q1, q2, x0, x1, x2, f0, f1, f2, -⟩ := hX0.step hHeld.2
        clear hX0 hEk hHeld HEK HXR HBr hSn HF1 HF2 HK HLn HLs
        go_upto_region 10 with (fail)
        refine wp_region_held_drew (S := (fun we => HeldX w.heap.size g (K * 3) ⟨ek, ep, es⟩ w we)) (by kernel_rfl) ?_ (fun hHeld => ?_)
        · first | exact hS2 | exact ((hS2.set 0 _).set 1 _).set 2 _
        refine wpAnyH_take (i := 0) (oi := { dst := some 68, op := _, type := _, pos := _, after := _, guard := _ }) (v := ?_) rfl (by kernel_rfl) (by kernel_rfl) (by kernel_rfl) (fun _ _ _ h => h) (Or.inl ⟨by rfl, ?_⟩) (by assumption) ?_
        rotate_left
        · intro w hSw; (try dsimp only at hSw); go_simp; (try with_reducible rfl)
        try simp only [Act.put, List.setIfInBounds_toArray, List.set_cons_zero, List.set_cons_succ]
        refine wpAnyH_take (i := 1) (oi := { dst := some 69, op := _, type := _, pos := _, after := _, guard := _ }) (v := ?_) rfl (by kernel_rfl) (by kernel_rfl) (by kernel_rfl) (fun _ _ _ h => h) (Or.inl ⟨by rfl, ?_⟩) (by assumption) ?_
        rotate_left
        · intro w hSw; (try dsimp only at hSw); go_simp; (try with_reducible rfl)
        try simp only [Act.put, List.setIfInBounds_toArray, List.set_cons_zero, List.set_cons_succ]
        refine wpAnyH_take (i := 2) (oi := { dst := some 70, op := _, type := _, pos := _, after := _, guard := _ }) (v := ?_) rfl (by kernel_rfl) (by kernel_rfl) (by kernel_rfl) (fun _ _ _ h => h) (Or.inl ⟨by rfl, ?_⟩) (by assumption) ?_
        rotate_left
        · intro w hSw; (try dsimp only at hSw); go_simp; (try with_reducible rfl)
        try simp only [Act.put, List.setIfInBounds_toArray, List.set_cons_zero, List.set_cons_succ]
        refine wpAnyH_take (i := 3) (oi := { dst := some 71, op := _, type := _, pos := _, after := _, guard := _ }) (v := ?_) rfl (by kernel_rfl) (by kernel_rfl) (by kernel_rfl) (fun _ _ _ h => h) (Or.inl ⟨by rfl, ?_⟩) (by assumption) ?_
        rotate_left
        · intro w hSw; (try dsimp only at hSw); go_simp; (try with_reducible rfl)
        try simp only [Act.put, List.setIfInBounds_toArray, List.set_cons_zero, List.set_cons_succ]
        refine wpAnyH_take (i := 4) (oi := { dst := some 72, op := _, type := _, pos := _, after := _, guard := _ }) (v := ?_) rfl (by kernel_rfl) (by kernel_rfl) (by kernel_rfl) (fun _ _ _ h => h) (Or.inl ⟨by rfl, ?_⟩) (by assumption) ?_
        rotate_left
        · intro w hSw; (try dsimp only at hSw); go_simp; (try with_reducible rfl)
        try simp only [Act.put, List.setIfInBounds_toArray, List.set_cons_zero, List.set_cons_succ]
        refine wpAnyH_take (i := 5) (oi := { dst := some 73, op := _, type := _, pos := _, after := _, guard := _ }) (v := ?_) rfl (by kernel_rfl) (by kernel_rfl) (by kernel_rfl) (fun _ _ _ h => h) (Or.inl ⟨by rfl, ?_⟩) (by assumption) ?_
        rotate_left
        · intro w hSw; (try dsimp only at hSw); go_simp; (try with_reducible rfl)
        try simp only [Act.put, List.setIfInBounds_toArray, List.set_cons_zero, List.set_cons_succ]
        refine wpAnyH_take (i := 6) (oi := { dst := some 2, op := _, type := _, pos := _, after := _, guard := _ }) (v := ?_) rfl (by kernel_rfl) (by kernel_rfl) (by kernel_rfl) (fun _ _ _ h => h) (Or.inl ⟨by rfl, ?_⟩) (by assumption) ?_
        rotate_left
        · intro w hSw; (try dsimp only at hSw); go_simp; (try with_reducible rfl)
        try simp only [Act.put, List.setIfInBounds_toArray, List.set_cons_zero, List.set_cons_succ]
        refine wpAnyH_take (i := 7) (oi := { dst := some 3, op := _, type := _, pos := _, after := _, guard := _ }) (v := ?_) rfl (by kernel_rfl) (by kernel_rfl) (by kernel_rfl) (fun _ _ _ h => h) (Or.inl ⟨by rfl, ?_⟩) (by assumption) ?_
        rotate_left
        · intro w hSw; (try dsimp only at hSw); go_simp; (try with_reducible rfl)
        try simp only [Act.put, List.setIfInBounds_toArray, List.set_cons_zero, List.set_cons_succ]
        refine wpAnyH_ready (rs := [8]) (by kernel_rfl) (by simp) ?_
        refine AllReadyH.cons (o := { dst := none, op := _, type := _, pos := _, after := _, guard := _ }) rfl (fun K hK => ?_) ?_
        rotate_left
        · exact AllReadyH.nil
        go_simp
        try go_simp
        refine hK.out _ _ ?_ (fun hHeld => ?_)
        · first | exact hS2 | exact ((hS2.set 0 _).set 1 _).set 2 _
        clear hK K
        try simp only [Act.put, List.setIfInBounds_toArray, List.set_cons_zero, List.set_cons_succ]
        refine wpAnyH_take (i := 9) (oi := { dst := some 5, op := _, type := _, pos := _, after := _, guard := _ }) (v := ?_) rfl (by kernel_rfl) (by kernel_rfl) (by kernel_rfl) (fun _ _ _ h => h) (Or.inl ⟨by rfl, ?_⟩) (by assumption) ?_
        rotate_left
        · intro w hSw; (try dsimp only at hSw); go_simp; (try with_reducible rfl)
        try simp only [Act.put, List.setIfInBounds_toArray, List.set_cons_zero, List.set_cons_succ]
        refine wpAnyH_done (by kernel_rfl) ?_ _
        have HBW := Lib.hid hHeld.2.2.2.2.2.2.2.2.2.bw
        clear hHeld hS2
        go_wp2_with fail
        refine bodyPost_ret (v := .tuple #[.string P1, .string P2, .agg #[.string ek, .int .i64 ep, .int .i64 es], .bool true]) (by simp [results, Try.results55, go_sem, x0, x1, x2]) rfl ?_
        refine ⟨by rw [HSV.out], ?_⟩
        exact HBW.out
end Go.Proofs.Ytgbihdlahghonaa
/- The walk of NodePages. -/
namespace Go.Proofs.Ytgbihdlahghonaa
open Go.RowKit

set_option maxRecDepth 100000 in
set_option maxHeartbeats 8000000 in
theorem pages_any (p : ByteArray) (e : Nd.Entry) (hm : p.size ≤ 140737488355328) (he : e.key.size ≤ 140737488355328) (w : World) :
    Calls Try.prog 9 #[.string p, entV e] w fun x w' => x = .returned (.bool true) ∧ Below w.heap.size w w' := by
  have HW := Lib.hid (fun W => nawake_any W)
  have HF := Lib.hid (fun W => nfind_any p e hm W)
  have HRF := Lib.hid (fun W => rnfind_any p e hm he W)
  have HS := Lib.hid (fun W => nsplit_any p hm W)
  have HRS := Lib.hid (fun W => rnsplit_any p hm W)
  have HR := Lib.hid (fun W => nright_any p hm W)
  have HRR := Lib.hid (fun W => rnright_any p hm W)
  have HE := Lib.hid (fun W => entries_form (nentries_any p hm W))
  have HRE := Lib.hid (fun W => entries_form (rnentries_any p hm W))
  have HK := Lib.hid (fun W => kids_form (nchildren_any p hm W))
  have HRK := Lib.hid (fun W => kids_form (rnchildren_any p hm W))
  have hbd := look_bound p
  have hkl := kids_bound p
  have hll : (viewP p).ents.length ≤ 123 := by omega
  clear hbd
  generalize splitP p = S at HS HRS
  generalize findP p e = F at HF HRF
  generalize rightP p = R at HR HRR
  generalize (viewP p).ents = l at HE HRE hll
  generalize kidsP p = ks at HK HRK hkl
  obtain ⟨P1, P2, ⟨k2, p2, s2⟩, ok⟩ := S
  obtain ⟨n, f⟩ := F
  unfold splitT at HS HRS
  simp only at HS HRS HF HRF
  have heq := fun W => (entry_equal ⟨k2, p2, s2⟩ ⟨k2, p2, s2⟩ W).trans (by rw [Nd.eqE_self])
  have HSm := Lib.hid (fun A A' c c' W (h : CellsE W A c l) (h' : CellsE W A' c' l) => same_any A A' c c' l (by omega) W h h')
  have HIs := Lib.hid (fun A A' c c' W (h : CellsI W A c ks) (h' : CellsI W A' c' ks) => isame_any A A' c c' ks (by omega) W h h')
  obtain ⟨ek, ep, es⟩ := e
  clear hm he
  go_enter Try.func9, Try.ntmps9
  go_wp2_with (first
    | (go_at_call 52; refine (HF.out _).mono ?_; rintro x w1 ⟨rfl, hb1⟩; obtain ⟨x0, x1, x2, -, -, -⟩ := blkE (blk_new hb1); have HB1 := Lib.hid (below_past hb1); clear hb1)
    | (go_at_call 53; refine (HRF.out _).mono ?_; rintro x w2 ⟨rfl, hb2⟩; clear x0 x1 x2; have HB2 := Lib.hid (andThen HB1.out hb2); clear hb2)
    | (go_at_call 54; refine (HS.out _).mono ?_; rintro x w3 ⟨rfl, hb3⟩; have HB3 := Lib.hid (andThen HB2.out hb3); clear hb3)
    | (go_at_call 55; refine (HRS.out _).mono ?_; rintro x w4 ⟨rfl, hb4⟩; have HA4 := Lib.hid (blk_new hb4); have HB4 := Lib.hid (andThen HB3.out (below_past hb4)); clear hb4)
    | (go_at_call 56; refine (HW.out _).mono ?_; rintro x w5 ⟨rfl, hb5⟩; have HA5 := Lib.hid (blk_old HA4.out (below_past hb5)); have HZ5 := Lib.hid (blk_new hb5); have HB5 := Lib.hid (andThen HB4.out (below_past hb5)); clear hb5)
    | (go_at_call 57; refine (HR.out _).mono ?_; rintro x w6 ⟨rfl, hb6⟩; have HA6 := Lib.hid (blk_old HA5.out hb6); have HZ6 := Lib.hid (blk_old HZ5.out hb6); have HB6 := Lib.hid (andThen HB5.out hb6); clear hb6)
    | (go_at_call 58; refine (HRR.out _).mono ?_; rintro x w7 ⟨rfl, hb7⟩; have HA7 := Lib.hid (blk_old HA6.out hb7); have HZ7 := Lib.hid (blk_old HZ6.out hb7); have HB7 := Lib.hid (andThen HB6.out hb7); clear hb7)
    | (go_at_call 60; refine (HE.out _).mono ?_; rintro x w8 ⟨a8, c8, rfl, hC8, hb8⟩; have HC8 := Lib.hid hC8; have HA8 := Lib.hid (blk_old HA7.out hb8); have HZ8 := Lib.hid (blk_old HZ7.out hb8); have HB8 := Lib.hid (andThen HB7.out hb8); clear hb8 hC8)
    | (go_at_call 61; refine (HRE.out _).mono ?_; rintro x w9 ⟨a9, c9, rfl, hC9, hb9⟩; have HC9 := Lib.hid hC9; have HC89 := Lib.hid (HC8.out.below hb9); have HA9 := Lib.hid (blk_old HA8.out hb9); have HZ9 := Lib.hid (blk_old HZ8.out hb9); have HB9 := Lib.hid (andThen HB8.out hb9); clear hb9 hC9)
    | (go_at_call 59; refine (HSm.out _ _ _ _ _ HC89.out HC9.out).mono ?_; rintro x w10 ⟨rfl, hb10⟩; have HA10 := Lib.hid (blk_old HA9.out hb10); have HZ10 := Lib.hid (blk_old HZ9.out hb10); have HB10 := Lib.hid (andThen HB9.out hb10); clear hb10)
    | (go_at_call 63; refine (HK.out _).mono ?_; rintro x w11 ⟨a11, c11, rfl, hC11, hb11⟩; have HC11 := Lib.hid hC11; have HA11 := Lib.hid (blk_old HA10.out hb11); have HZ11 := Lib.hid (blk_old HZ10.out hb11); have HB11 := Lib.hid (andThen HB10.out hb11); clear hb11 hC11)
    | (go_at_call 64; refine (HRK.out _).mono ?_; rintro x w12 ⟨a12, c12, rfl, hC12, hb12⟩; have HC12 := Lib.hid hC12; have HC112 := Lib.hid (HC11.out.below hb12); have HA12 := Lib.hid (blk_old HA11.out hb12); have HZ12 := Lib.hid (blk_old HZ11.out hb12); have HB12 := Lib.hid (andThen HB11.out hb12); clear hb12 hC12)
    | (go_at_call 62; refine (HIs.out _ _ _ _ _ HC112.out HC12.out).mono ?_; rintro x w13 ⟨rfl, hb13⟩; obtain ⟨y0, y1, y2, -, -, -⟩ := blkE (blk_old HA12.out hb13); obtain ⟨z0, z1, z2, -, -, -⟩ := blkE (blk_old HZ12.out hb13); have HB13 := Lib.hid (andThen HB12.out hb13); clear hb13))
  go_ret
  exact ⟨rfl, HB13.out⟩
end Go.Proofs.Ytgbihdlahghonaa
