/- The walk over package node: look. -/
import Derived.Test.YtgbihdlahghonaaGs06
import Derived.Deep.DeepCutAuto
import Derived.Laws.CopyOwn
import Derived.Laws.MakeOwn
namespace Go.Proofs.Ytgbihdlahghonaa
open Go.RowKit

/-- What look returns. -/
abbrev zeroView : Value := .agg #[.bool false, .slice none 0 0, .slice none 0 0, .slice none 0 0]
theorem blk4v {w : World} {b : Nat} {a c d e : Value} {T : TypeId} (h : w.heap[b]? = some (.cells #[a, c, d, e] T (0, 0))) : w.cell? ⟨b, 0, none⟩ = some a ∧ w.cell? ⟨b, 1, none⟩ = some c ∧ w.cell? ⟨b, 2, none⟩ = some d ∧ w.cell? ⟨b, 3, none⟩ = some e ∧ w.frozen? ⟨b, 0, none⟩ = false ∧ w.frozen? ⟨b, 1, none⟩ = false ∧ w.frozen? ⟨b, 2, none⟩ = false ∧ w.frozen? ⟨b, 3, none⟩ = false := by
  refine ⟨by rw [cell_of_blk h]; rfl, by rw [cell_of_blk h]; rfl, by rw [cell_of_blk h]; rfl, by rw [cell_of_blk h]; rfl, ?_, ?_, ?_, ?_⟩ <;> simp [World.frozen?, h]
def LookOut (R : Option Nd.View) (w : World) (e : Ending) (w' : World) : Prop :=
  match R with
    | some V => ∃ v1 v2 v3, e = .returned (.tuple #[.agg #[.bool V.leaf, v1, v2, v3], .bool true]) ∧ OwnT w.heap.size w' v1 V.recs ∧ OwnEs w.heap.size w' v2 V.ents ∧ OwnIs w.heap.size w' v3 V.kids
    | none => e = .returned (.tuple #[zeroView, .bool false])
theorem lookOut_some {V : Nd.View} {w w' : World} {v1 v2 v3 : Value} (h1 : OwnT w.heap.size w' v1 V.recs) (h2 : OwnEs w.heap.size w' v2 V.ents) (h3 : OwnIs w.heap.size w' v3 V.kids) :
    LookOut (some V) w (.returned (.tuple #[.agg #[.bool V.leaf, v1, v2, v3], .bool true])) w' := ⟨v1, v2, v3, rfl, h1, h2, h3⟩
theorem lookOut_none {w w' : World} : LookOut none w (.returned (.tuple #[zeroView, .bool false])) w' := rfl
/-- What a page of a tree has; none: it is no such page. -/
def lookP (p : ByteArray) : Option Nd.View := if isPg p then Nd.lookR (leafP p).kind (leafP p).recs else none
def LookGives (p : ByteArray) (w : World) (e : Ending) (w' : World) : Prop := LookOut (lookP p) w e w' ∧ Below w.heap.size w w'

/-- How far look has come: the first k records lie in the view's slices. -/
def LookAt (X Y B : Nat) (lf : Bool) (rs : List ByteArray) (w : World) (k : Nat) (wr : World) : Prop :=
  ∃ es v1 v2 v3, Nd.decN lf rs k = some es ∧ wr.heap[X]? = some (.cells #[.bool false, .slice none 0 0, .slice none 0 0, .slice none 0 0] 86 (0, 0)) ∧ wr.heap[Y]? = some (.cells #[.bool lf, v1, v2, v3] 86 (0, 0)) ∧
    OwnT B wr v1 (rs.take k) ∧ OwnEs B wr v2 (es.map (·.1)) ∧ OwnIs B wr v3 (es.map (·.2)) ∧ B ≤ wr.heap.size ∧ Below w.heap.size w wr
theorem lookAt_next {X Y Z B k : Nat} {lf : Bool} {rs : List ByteArray} {w U : World} {es : List (Nd.Entry × Int)} {r : ByteArray} {e : Nd.Entry} {c : Int} {v1 v2 v3 : Value} {D : Nat → Bool} {y : Nat → Value}
    (hk : k < rs.length) (hr : r = rs[k]) (hes : Nd.decN lf rs (k + 1) = some (es ++ [(e, c)])) (h : Reg ⟨X, Y, Z, B, lf, v1, v2, v3, rs.take k, es.map (·.1), es.map (·.2), r, e, c, w⟩ D y U) (hall : ∀ i, i < 21 → D i = true) :
    LookAt X Y B lf rs w (k + 1) U := by
  obtain ⟨h1, h2, h3, h4, h5, h6, h7⟩ := reg_done h hall
  have ht : rs.take (k + 1) = rs.take k ++ [r] := by rw [hr, List.take_succ_eq_append_getElem hk]
  refine ⟨_, _, _, _, hes, h5, h1, ?_, ?_, ?_, h6, h7⟩
  · rw [ht]; exact h2
  · rw [List.map_append]; exact h3
  · rw [List.map_append]; exact h4
set_option maxRecDepth 100000 in
set_option maxHeartbeats 4000000 in
theorem look_any (p : ByteArray) (hm : p.size ≤ 140737488355328) (w : World) :
    Calls Try.prog 92 #[.string p] w (LookGives p w) := by
  have HK := Lib.hid (fun W => kind_any p hm W)
  have HR := Lib.hid (fun W => right_any p hm W)
  unfold LookGives lookP
  cases hb : isPg p with
  | false =>
    rw [if_neg (by simp)]
    rw [hb] at HR
    rw [leafP_of_not hb] at HK
    have HK' : Hid (∀ W : World, Calls Try.prog 19 #[.string p] W fun e w' => e = .returned (.int .i64 0) ∧ Below W.heap.size W w') := HK
    clear HK hb
    go_enter Try.func92, Try.ntmps92
    go_wp2_with (first | (go_at_call 19; refine (HK'.out _).mono ?_; rintro e w1 ⟨rfl, hb1⟩) | (go_at_call 17; refine (HR.out _).mono ?_; rintro e w2 ⟨rfl, hb2⟩; obtain ⟨c0, c1, c2, c3, f0, f1, f2, f3⟩ := blk4v (blk_past (blk_new hb1) hb2)))
    refine bodyPost_ret (v := .tuple #[zeroView, .bool false]) (by simp [results, Try.results92, go_sem, c0, c1, c2, c3]) rfl ?_
    refine ⟨lookOut_none, ?_⟩
    have hbw := andThen (below_past hb1) (below_past hb2)
    repeat (first | (with_reducible exact hbw) | (with_reducible refine Below.setCell ?_ (by first | (simp; done) | (simp; omega)) _))
  | true =>
    rw [if_pos rfl]
    rw [hb] at HR
    have hfine := Pg.leafOf_fine p.data.toList
    change Pg.Fine (leafP p) at hfine
    have hlen := hfine.len
    have heach := hfine.each
    have HSl := Lib.hid (fun W => slots_any p hm W)
    have HG := Lib.hid (fun k W => get_any_rec p k hm W)
    generalize leafP p = x at HK HSl HG hlen heach ⊢
    clear hfine hb
    obtain ⟨kind, hkind⟩ : ∃ kind, kind = x.kind := ⟨_, rfl⟩
    rw [← hkind] at HK ⊢
    clear hkind
    by_cases h34 : kind ≠ 3 ∧ kind ≠ 4
    · rw [show Nd.lookR kind x.recs = none from (if_neg h34.1).trans (if_neg h34.2)]
      have e3 : ((kind : Int) == 3) = false := by simp; omega
      have e4 : ((kind : Int) != 4) = true := by simp; omega
      clear h34 HG HSl
      go_enter Try.func92, Try.ntmps92
      go_upto_region 2 with (first | (go_at_call 19; refine (HK.out _).mono ?_; rintro e w1 ⟨rfl, hb1⟩))
      go_wp2_with (first | (go_at_call 17; refine (HR.out _).mono ?_; rintro e w2 ⟨rfl, hb2⟩; obtain ⟨c0, c1, c2, c3, f0, f1, f2, f3⟩ := blk4v (blk_new hb2)) | (go_at_call 19; refine (HK.out _).mono ?_; rintro e w3 ⟨rfl, hb3⟩; obtain ⟨d0, d1, d2, d3, g0, g1, g2, g3⟩ := blk4v (blk_old (blk_past (blk_new hb1) hb2) hb3)))
      refine bodyPost_ret (v := .tuple #[zeroView, .bool false]) (by simp [results, Try.results92, go_sem, d0, d1, d2, d3]) rfl ?_
      refine ⟨lookOut_none, ?_⟩
      have hbw := andThen (andThen (below_past hb1) (below_past hb2)) hb3
      repeat (first | (with_reducible exact hbw) | (with_reducible refine Below.setCell ?_ (by first | (simp; done) | (simp; omega)) _))
    · have hk34 : kind = 3 ∨ kind = 4 := by omega
      clear h34
      obtain ⟨lf, hlf⟩ : ∃ lf, lf = (kind == 3) := ⟨_, rfl⟩
      have e3 : ((kind : Int) == 3) = lf := by rcases hk34 with rfl | rfl <;> rw [hlf] <;> rfl
      have e4 : lf = false → ((kind : Int) != 4) = false := fun h => by
        rcases hk34 with rfl | rfl
        · rw [h] at hlf; cases hlf
        · rfl
      have hL : Nd.lookR kind x.recs = Nd.lookL lf x.recs := by
        rcases hk34 with rfl | rfl
        · rw [hlf]; rfl
        · rw [hlf]; rfl
      rw [hL]
      clear hL hlf hk34
      have HE4 := Lib.hid e4
      clear e4
      generalize hrs : x.recs = rs at HSl HG hlen heach ⊢
      have HRS := Lib.hid heach
      clear hrs heach
      obtain ⟨R, hR⟩ : ∃ R, R = Nd.lookL lf rs := ⟨_, rfl⟩
      rw [← hR]
      have HLR := Lib.hid hR
      clear hR
      go_enter Try.func92, Try.ntmps92
      go_upto_region 2 with (first | (go_at_call 19; refine (HK.out _).mono ?_; rintro e w1 ⟨rfl, hb1⟩))
      obtain ⟨X, hX⟩ : ∃ X, X = w.heap.size := ⟨_, rfl⟩
      obtain ⟨Y, hY⟩ : ∃ Y, Y = w1.heap.size := ⟨_, rfl⟩
      obtain ⟨W1, hW1⟩ : ∃ W1, W1 = w1.alloc (.cells #[.bool lf, .slice none 0 0, .slice none 0 0, .slice none 0 0] 86) := ⟨_, rfl⟩
      have hXY : X < Y := by have := hb1.size; simp at this; omega
      have hYs : Y < W1.heap.size := by rw [hW1, hY]; simp
      have hcx : W1.heap[X]? = some (.cells #[.bool false, .slice none 0 0, .slice none 0 0, .slice none 0 0] 86 (0, 0)) := by
        rw [hW1, Below.heap_alloc _ _ _ (by omega), hX]; exact blk_new hb1
      have hcy : W1.heap[Y]? = some (.cells #[.bool lf, .slice none 0 0, .slice none 0 0, .slice none 0 0] 86 (0, 0)) := by
        rw [hW1, hY]; exact heap_alloc_new w1 _
      have hbw : Below w.heap.size w W1 := by rw [hW1]; exact below_past_alloc (below_past hb1)
      rw [← hW1, ← hY, ← hX]
      have HX := Lib.hid hX
      clear hX hY hW1 hb1
      go_cut [28] (fun s we => s = .bool false ∧ Below W1.heap.size W1 we)
      case first =>
        cases lf with
        | true =>
          obtain ⟨c0, c1, c2, c3, f0, f1, f2, f3⟩ := blk4v hcy
          go_wp2_with (first | (go_at_call 17; refine (HR.out _).mono ?_; rintro e w2 ⟨rfl, hb2⟩; obtain ⟨c0, c1, c2, c3, f0, f1, f2, f3⟩ := blk4v (blk_old hcy hb2)))
          go_meet
          case rel => exact ⟨rfl, hb2⟩
        | false =>
          have e4 := HE4.out rfl
          go_wp2_with (first | (go_at_call 17; refine (HR.out _).mono ?_; rintro e w2 ⟨rfl, hb2⟩; obtain ⟨c0, c1, c2, c3, f0, f1, f2, f3⟩ := blk4v (blk_old hcy hb2)) | (go_at_call 19; refine (HK.out _).mono ?_; rintro e w3 ⟨rfl, hb3⟩))
          go_meet
          case rel => exact ⟨rfl, andThen hb2 hb3⟩
      case rest =>
        obtain ⟨rfl, hbc⟩ := hcut
        have hcx2 := blk_old hcx hbc
        have hcy2 := blk_old hcy hbc
        have hYs2 : Y < wc.heap.size := Nat.lt_of_lt_of_le hYs hbc.size
        have hbw2 := andThen hbw hbc
        clear hcx hcy hYs hbw hbc e3 HE4 HK HR
        obtain ⟨W2, rfl⟩ : ∃ W2 : World, W2 = wc := ⟨_, rfl⟩
        go_upto_block 0 with (first | (go_at_call 25; refine (HSl.out _).mono ?_; rintro e w4 ⟨rfl, hb4⟩))
        have hcx4 := blk_old hcx2 hb4
        have hcy4 := blk_old hcy2 hb4
        have hYs4 : Y < w4.heap.size := Nat.lt_of_lt_of_le hYs2 hb4.size
        have hbw4 := andThen hbw2 hb4
        clear hcx2 hcy2 hYs2 hbw2 hb4
        obtain ⟨B, hB⟩ : ∃ B, B = w4.heap.size := ⟨_, rfl⟩
        rw [← hB] at hYs4
        have HB := Lib.hid hB
        clear hB
        go_cut [] (fun wc => LookAt X Y B lf rs w rs.length wc)
        case first =>
          go_wp2_with fail
          go_loopw [32] (fun i wr => ∃ k : Nat, k ≤ rs.length ∧ i = .int .i64 k ∧ LookAt X Y B lf rs w k wr) (fun i _ => rs.length - (intOf i).toNat)
          case atStart => exact ⟨0, Nat.zero_le _, rfl, [], _, _, _, rfl, hcx4, hcy4, ⟨rfl, .inl ⟨rfl, rfl⟩⟩, ⟨rfl, .inl ⟨rfl, rfl⟩⟩, ⟨rfl, .inl ⟨rfl, rfl⟩⟩, by rw [HB.out]; exact Nat.le_refl _, hbw4⟩
          case round =>
            obtain ⟨k, hk, rfl, es, v1, v2, v3, hes, hx, hy, hO1, hO2, hO3, hBs, hbr⟩ := hrel
            by_cases hlt : k < rs.length
            · obtain ⟨r, hr⟩ : ∃ r, r = rs[k] := ⟨_, rfl⟩
              have hrk : (rs[k]?).getD ⟨#[]⟩ = r := by rw [hr, List.getElem?_eq_getElem hlt]; rfl
              have hrs : r.size ≤ 400 := by rw [hr]; exact HRS.out _ (List.getElem_mem hlt)
              have HGk := Lib.hid (fun W => HG.out (k : Int) W)
              rw [Pg.slotAt_in hlt, ← hr] at HGk
              have HR1 := Lib.hid hr
              clear hr
              by_cases hz : r.size = 0
              · rw [decide_eq_true hz] at HGk
                have hN : R = none := by
                  rw [HLR.out]
                  exact Nd.lookL_none (Nd.decN_stop _ _ hes (by rw [hrk]; exact Nd.decR_empty lf hz) hlt)
                have HN := Lib.hid hN
                have HX2 := Lib.hid hx
                have hkl : (k : Int) < (rs.length : Int) := by omega
                clear hN hz hrk hes hO1 hO2 hO3
                go_wp2_with (first | (go_at_call 15; refine (HGk.out _).mono ?_; rintro e w5 ⟨rfl, hb5⟩; obtain ⟨x0, x1, x2, x3, n0, n1, n2, n3⟩ := blk4v (blk_old HX2.out hb5)))
                refine bodyPost_ret (v := .tuple #[zeroView, .bool false]) (by simp [results, Try.results92, go_sem, x0, x1, x2, x3]) rfl ?_
                refine ⟨by rw [HN.out]; exact lookOut_none, ?_⟩
                have hbw := andThen hbr hb5
                repeat (first | (with_reducible exact hbw) | (with_reducible refine Below.setCell ?_ (by rw [← HX.out]; exact Nat.le_refl _) _))
              · rw [decide_eq_false hz] at HGk
                clear hz
                have hkl : (k : Int) < (rs.length : Int) := by omega
                have HX2 := Lib.hid hx
                have HY2 := Lib.hid hy
                have hYr : Y < wr.heap.size := by omega
                clear hx hy
                cases lf with
                | true =>
                  have HE := Lib.hid (fun W => getentry_any r (by omega) W)
                  cases hE : Nd.getE r with
                  | none =>
                    rw [hE] at HE
                    have hN : R = none := by
                      rw [HLR.out]
                      exact Nd.lookL_none (Nd.decN_stop _ _ hes (by rw [hrk]; unfold Nd.decR; simp [hE]) hlt)
                    have HN := Lib.hid hN
                    clear hE hN hrk hes hO1 hO2 hO3
                    go_wp2_with (first | (go_at_call 15; refine (HGk.out _).mono ?_; rintro e w5 ⟨rfl, hb5⟩; have hzz := heap_alloc_new w5 (.cells #[.string ⟨#[]⟩, .int .i64 0, .int .i64 0] 45 (0, 0)); have hy5 := (Below.heap_alloc w5 (.cells #[.string ⟨#[]⟩, .int .i64 0, .int .i64 0] 45 (0, 0)) Y (Nat.lt_of_lt_of_le hYr hb5.size)).trans (blk_old HY2.out hb5); obtain ⟨q0, q1, q2, q3, o0, o1, o2, o3⟩ := blk4v hy5) | (go_at_call 66; refine (HE.out _).mono ?_; rintro ex w6 ⟨rfl, hb6⟩; have hneX : X ≠ w5.heap.size := (by have := hb5.size; omega); have hneX2 := hneX.symm; have hneY : Y ≠ w5.heap.size := (by have := hb5.size; omega); have hneY2 := hneY.symm; unfold getEV; obtain ⟨z0, z1, z2, m0, m1, m2⟩ := blkE (blk_new hb6); obtain ⟨y0, y1, y2, y3, n0, n1, n2, n3⟩ := blk4v (blk_past (blk_old HY2.out hb5) hb6); obtain ⟨x0, x1, x2, x3, l0, l1, l2, l3⟩ := blk4v (blk_past (blk_old HX2.out hb5) hb6); have hlt6 : wr.heap.size < w6.heap.size := (by have h7 := hb5.size; have h8 := hb6.size; simp at h8; omega)))
                    refine bodyPost_ret (v := .tuple #[zeroView, .bool false]) (by simp [results, Try.results92, go_sem, x0, x1, x2, x3]) rfl ?_
                    refine ⟨by rw [HN.out]; exact lookOut_none, ?_⟩
                    have hbw := (andThen hbr hb5).trans ((below_past hb6).mono (Nat.le_trans hbr.size hb5.size))
                    repeat (first | (with_reducible exact hbw) | (with_reducible refine Below.setCell ?_ (by first | (rw [← HX.out]; exact Nat.le_refl _) | exact Nat.le_trans hbr.size hb5.size) _))
                  | some e =>
                    rw [hE] at HE
                    have hes2 : Nd.decN true rs (k + 1) = some (es ++ [(e, 0)]) := by
                      simp only [Nd.decN, hes, hrk]
                      unfold Nd.decR
                      simp [hE]
                    have HES := Lib.hid hes2
                    have hel : es.length = k := Nd.decN_length _ _ _ _ hes
                    have HLN := Lib.hid (show (rs.take k).length < 1048576 ∧ (es.map (·.1)).length < 1048576 ∧ (es.map (·.2)).length < 1048576 from by rw [List.length_take, List.length_map, List.length_map, hel]; omega)
                    clear hel
                    have HO1 := Lib.hid hO1
                    have HO2 := Lib.hid hO2
                    have HO3 := Lib.hid hO3
                    clear hE hes hes2 hrk hO1 hO2 hO3
                    go_upto_region 17 with (first | (go_at_call 15; refine (HGk.out _).mono ?_; rintro e w5 ⟨rfl, hb5⟩; have hzz := heap_alloc_new w5 (.cells #[.string ⟨#[]⟩, .int .i64 0, .int .i64 0] 45 (0, 0)); have hy5 := (Below.heap_alloc w5 (.cells #[.string ⟨#[]⟩, .int .i64 0, .int .i64 0] 45 (0, 0)) Y (Nat.lt_of_lt_of_le hYr hb5.size)).trans (blk_old HY2.out hb5); obtain ⟨q0, q1, q2, q3, o0, o1, o2, o3⟩ := blk4v hy5) | (go_at_call 66; refine (HE.out _).mono ?_; rintro ex w6 ⟨rfl, hb6⟩; have hneX : X ≠ w5.heap.size := (by have := hb5.size; omega); have hneX2 := hneX.symm; have hneY : Y ≠ w5.heap.size := (by have := hb5.size; omega); have hneY2 := hneY.symm; unfold getEV; obtain ⟨z0, z1, z2, m0, m1, m2⟩ := blkE (blk_new hb6); obtain ⟨y0, y1, y2, y3, n0, n1, n2, n3⟩ := blk4v (blk_past (blk_old HY2.out hb5) hb6); obtain ⟨x0, x1, x2, x3, l0, l1, l2, l3⟩ := blk4v (blk_past (blk_old HX2.out hb5) hb6); have hlt6 : wr.heap.size < w6.heap.size := (by have h7 := hb5.size; have h8 := hb6.size; simp at h8; omega)))
                    obtain ⟨V, hV⟩ : ∃ V, V = ((w6.setCell ⟨w5.heap.size, 0, none⟩ (.string e.key)).setCell ⟨w5.heap.size, 1, none⟩ (.int .i64 e.page)).setCell ⟨w5.heap.size, 2, none⟩ (.int .i64 e.slot) := ⟨_, rfl⟩
                    have hbV : Below wr.heap.size wr V := by
                      rw [hV]
                      exact (((hb5.trans ((below_past hb6).mono hb5.size)).setCell hb5.size _).setCell hb5.size _).setCell hb5.size _
                    have hVZ : V.heap[w5.heap.size]? = some (.cells #[.string e.key, .int .i64 e.page, .int .i64 e.slot] 45 (0, 0)) := by
                      rw [hV]; exact blk_set 2 (blk_set 1 (blk_set 0 (blk_new hb6) _) _) _
                    have hZB : B ≤ w5.heap.size := Nat.le_trans hBs hb5.size
                    have hR0 : ∀ y, Reg ⟨X, Y, w5.heap.size, B, true, v1, v2, v3, rs.take k, es.map (·.1), es.map (·.2), r, e, 0, w⟩ (fun _ => false) y V.drew := fun y =>
                      have hq : ∀ {α : Prop}, false = true → α := fun p => absurd p (by simp)
                      { a0 := hq, a1 := hq, a2 := hq, a3 := fun p => hq p, a4 := hq, o1 := fun _ => (ownsRow_below HO1.out hbV.drew), b5 := hq, b6 := hq, b7 := hq, b8 := fun p => hq p, b9 := hq, o2 := fun _ => (ownsRow_below HO2.out hbV.drew),
                        c10 := hq, c11 := hq, c12 := hq, c13 := fun p => hq p, c14 := hq, o3 := fun _ => (ownsRow_below HO3.out hbV.drew), s15 := hq, s17 := hq, s19 := hq, box := blk_old HY2.out hbV.drew, st := (fun p => hq (by rcases p with p | p | p <;> exact p)), cl := ⟨hq, hq, hq⟩, la := ⟨hq, hq, hq⟩,
                        zc := fun _ => hVZ, xc := blk_old HX2.out hbV.drew, bs := Nat.le_trans hBs hbV.size, low := ⟨by rw [HX.out]; exact Nat.le_refl _, hXY, hYs4, hZB⟩, bw := andThen hbr hbV.drew }
                    have HR0 := Lib.hid hR0
                    rw [← hV]
                    clear hV hR0 hbV hVZ z0 z1 z2 m0 m1 m2 y0 y1 y2 y3 n0 n1 n2 n3 x0 x1 x2 x3 l0 l1 l2 l3
                    refine wp_region_G [60, 61, 62, 63, 64, 65, 66, 67, 68, 69, 70, 71, 72, 73, 74, 75, 76, 77] (fun D y U => Reg ⟨X, Y, w5.heap.size, B, true, v1, v2, v3, rs.take k, es.map (·.1), es.map (·.2), r, e, 0, w⟩ D y U) (by kernel_rfl) (by decide +kernel) ?_ ?_ ?_
                    · exact reg_step ⟨by simp, rfl, rfl, rfl, rfl, (HLN.out.1), (HLN.out.2.1), (HLN.out.2.2)⟩ rfl ⟨_, _, _, rfl, by decide +kernel⟩ ⟨_, _, _, rfl, by decide +kernel⟩ ⟨_, _, _, rfl, by decide +kernel⟩ ⟨_, _, _, rfl, by decide +kernel⟩ ⟨_, _, _, rfl, by decide +kernel⟩ ⟨_, _, _, rfl, by decide +kernel⟩ ⟨_, _, _, rfl, by decide +kernel⟩ ⟨_, _, _, rfl, by decide +kernel⟩ ⟨_, _, _, rfl, by decide +kernel⟩ ⟨_, _, _, rfl, by decide +kernel⟩ ⟨_, _, _, rfl, by decide +kernel⟩ ⟨_, _, _, rfl, by decide +kernel⟩ ⟨_, _, _, rfl, by decide +kernel⟩ ⟨_, _, _, rfl, by decide +kernel⟩ ⟨_, _, _, rfl, by decide +kernel⟩ ⟨_, _, _, rfl, by decide +kernel⟩ ⟨_, _, _, rfl, by decide +kernel⟩ ⟨_, _, _, rfl, by decide +kernel⟩ ⟨_, _, _, rfl, by decide +kernel⟩ ⟨_, _, _, rfl, by decide +kernel⟩ ⟨_, _, _, rfl, by decide +kernel⟩
                    · intro D y U h hall
                      dsimp only [updL, List.foldl]
                      simp only [List.setIfInBounds_toArray, List.set_cons_succ, List.set_cons_zero]
                      have hL := lookAt_next hlt HR1.out HES.out h hall
                      have HL := Lib.hid hL
                      clear hL h hall
                      generalize y 60 = y60, y 61 = y61, y 62 = y62, y 63 = y63, y 64 = y64, y 65 = y65, y 66 = y66, y 67 = y67, y 68 = y68, y 69 = y69, y 70 = y70, y 71 = y71, y 72 = y72, y 73 = y73, y 74 = y74, y 75 = y75, y 76 = y76, y 77 = y77
                      go_wp2_with fail
                      go_roundw
                      case rel => exact ⟨k + 1, by omega, by go_num, HL.out⟩
                      case measure => simp [intOf]; omega
                    · exact HR0.out _
                | false =>
                  have HE := Lib.hid (fun W => getchild_any r (by omega) W)
                  cases hE : Nd.getC r with
                  | none =>
                    rw [hE] at HE
                    have hN : R = none := by
                      rw [HLR.out]
                      exact Nd.lookL_none (Nd.decN_stop _ _ hes (by rw [hrk]; unfold Nd.decR; simp [hE]) hlt)
                    have HN := Lib.hid hN
                    clear hE hN hrk hes hO1 hO2 hO3
                    go_wp2_with (first | (go_at_call 15; refine (HGk.out _).mono ?_; rintro e w5 ⟨rfl, hb5⟩; have hzz := heap_alloc_new w5 (.cells #[.string ⟨#[]⟩, .int .i64 0, .int .i64 0] 45 (0, 0)); have hy5 := (Below.heap_alloc w5 (.cells #[.string ⟨#[]⟩, .int .i64 0, .int .i64 0] 45 (0, 0)) Y (Nat.lt_of_lt_of_le hYr hb5.size)).trans (blk_old HY2.out hb5); obtain ⟨q0, q1, q2, q3, o0, o1, o2, o3⟩ := blk4v hy5) | (go_at_call 68; refine (HE.out _).mono ?_; rintro ex w6 ⟨rfl, hb6⟩; have hneX : X ≠ w5.heap.size := (by have := hb5.size; omega); have hneX2 := hneX.symm; have hneY : Y ≠ w5.heap.size := (by have := hb5.size; omega); have hneY2 := hneY.symm; unfold getCV; obtain ⟨z0, z1, z2, m0, m1, m2⟩ := blkE (blk_new hb6); obtain ⟨y0, y1, y2, y3, n0, n1, n2, n3⟩ := blk4v (blk_past (blk_old HY2.out hb5) hb6); obtain ⟨x0, x1, x2, x3, l0, l1, l2, l3⟩ := blk4v (blk_past (blk_old HX2.out hb5) hb6); have hlt6 : wr.heap.size < w6.heap.size := (by have h7 := hb5.size; have h8 := hb6.size; simp at h8; omega)))
                    refine bodyPost_ret (v := .tuple #[zeroView, .bool false]) (by simp [results, Try.results92, go_sem, x0, x1, x2, x3]) rfl ?_
                    refine ⟨by rw [HN.out]; exact lookOut_none, ?_⟩
                    have hbw := (andThen hbr hb5).trans ((below_past hb6).mono (Nat.le_trans hbr.size hb5.size))
                    repeat (first | (with_reducible exact hbw) | (with_reducible refine Below.setCell ?_ (by first | (rw [← HX.out]; exact Nat.le_refl _) | exact Nat.le_trans hbr.size hb5.size) _))
                  | some ec =>
                    obtain ⟨e, c⟩ := ec
                    rw [hE] at HE
                    have hes2 : Nd.decN false rs (k + 1) = some (es ++ [(e, c)]) := by
                      simp only [Nd.decN, hes, hrk]
                      unfold Nd.decR
                      simp [hE]
                    have HES := Lib.hid hes2
                    have hel : es.length = k := Nd.decN_length _ _ _ _ hes
                    have HLN := Lib.hid (show (rs.take k).length < 1048576 ∧ (es.map (·.1)).length < 1048576 ∧ (es.map (·.2)).length < 1048576 from by rw [List.length_take, List.length_map, List.length_map, hel]; omega)
                    clear hel
                    have HO1 := Lib.hid hO1
                    have HO2 := Lib.hid hO2
                    have HO3 := Lib.hid hO3
                    clear hE hes hes2 hrk hO1 hO2 hO3
                    go_upto_region 17 with (first | (go_at_call 15; refine (HGk.out _).mono ?_; rintro e w5 ⟨rfl, hb5⟩; have hzz := heap_alloc_new w5 (.cells #[.string ⟨#[]⟩, .int .i64 0, .int .i64 0] 45 (0, 0)); have hy5 := (Below.heap_alloc w5 (.cells #[.string ⟨#[]⟩, .int .i64 0, .int .i64 0] 45 (0, 0)) Y (Nat.lt_of_lt_of_le hYr hb5.size)).trans (blk_old HY2.out hb5); obtain ⟨q0, q1, q2, q3, o0, o1, o2, o3⟩ := blk4v hy5) | (go_at_call 68; refine (HE.out _).mono ?_; rintro ex w6 ⟨rfl, hb6⟩; have hneX : X ≠ w5.heap.size := (by have := hb5.size; omega); have hneX2 := hneX.symm; have hneY : Y ≠ w5.heap.size := (by have := hb5.size; omega); have hneY2 := hneY.symm; unfold getCV; obtain ⟨z0, z1, z2, m0, m1, m2⟩ := blkE (blk_new hb6); obtain ⟨y0, y1, y2, y3, n0, n1, n2, n3⟩ := blk4v (blk_past (blk_old HY2.out hb5) hb6); obtain ⟨x0, x1, x2, x3, l0, l1, l2, l3⟩ := blk4v (blk_past (blk_old HX2.out hb5) hb6); have hlt6 : wr.heap.size < w6.heap.size := (by have h7 := hb5.size; have h8 := hb6.size; simp at h8; omega)))
                    obtain ⟨V, hV⟩ : ∃ V, V = ((w6.setCell ⟨w5.heap.size, 0, none⟩ (.string e.key)).setCell ⟨w5.heap.size, 1, none⟩ (.int .i64 e.page)).setCell ⟨w5.heap.size, 2, none⟩ (.int .i64 e.slot) := ⟨_, rfl⟩
                    have hbV : Below wr.heap.size wr V := by
                      rw [hV]
                      exact (((hb5.trans ((below_past hb6).mono hb5.size)).setCell hb5.size _).setCell hb5.size _).setCell hb5.size _
                    have hVZ : V.heap[w5.heap.size]? = some (.cells #[.string e.key, .int .i64 e.page, .int .i64 e.slot] 45 (0, 0)) := by
                      rw [hV]; exact blk_set 2 (blk_set 1 (blk_set 0 (blk_new hb6) _) _) _
                    have hZB : B ≤ w5.heap.size := Nat.le_trans hBs hb5.size
                    have hR0 : ∀ y, Reg ⟨X, Y, w5.heap.size, B, false, v1, v2, v3, rs.take k, es.map (·.1), es.map (·.2), r, e, c, w⟩ (fun _ => false) y V.drew := fun y =>
                      have hq : ∀ {α : Prop}, false = true → α := fun p => absurd p (by simp)
                      { a0 := hq, a1 := hq, a2 := hq, a3 := fun p => hq p, a4 := hq, o1 := fun _ => (ownsRow_below HO1.out hbV.drew), b5 := hq, b6 := hq, b7 := hq, b8 := fun p => hq p, b9 := hq, o2 := fun _ => (ownsRow_below HO2.out hbV.drew),
                        c10 := hq, c11 := hq, c12 := hq, c13 := fun p => hq p, c14 := hq, o3 := fun _ => (ownsRow_below HO3.out hbV.drew), s15 := hq, s17 := hq, s19 := hq, box := blk_old HY2.out hbV.drew, st := (fun p => hq (by rcases p with p | p | p <;> exact p)), cl := ⟨hq, hq, hq⟩, la := ⟨hq, hq, hq⟩,
                        zc := fun _ => hVZ, xc := blk_old HX2.out hbV.drew, bs := Nat.le_trans hBs hbV.size, low := ⟨by rw [HX.out]; exact Nat.le_refl _, hXY, hYs4, hZB⟩, bw := andThen hbr hbV.drew }
                    have HR0 := Lib.hid hR0
                    rw [← hV]
                    clear hV hR0 hbV hVZ z0 z1 z2 m0 m1 m2 y0 y1 y2 y3 n0 n1 n2 n3 x0 x1 x2 x3 l0 l1 l2 l3
                    refine wp_region_G [60, 61, 62, 63, 64, 65, 66, 67, 68, 69, 70, 71, 72, 73, 74, 75, 76, 77] (fun D y U => Reg ⟨X, Y, w5.heap.size, B, false, v1, v2, v3, rs.take k, es.map (·.1), es.map (·.2), r, e, c, w⟩ D y U) (by kernel_rfl) (by decide +kernel) ?_ ?_ ?_
                    · exact reg_step ⟨by simp, rfl, rfl, rfl, rfl, (HLN.out.1), (HLN.out.2.1), (HLN.out.2.2)⟩ rfl ⟨_, _, _, rfl, by decide +kernel⟩ ⟨_, _, _, rfl, by decide +kernel⟩ ⟨_, _, _, rfl, by decide +kernel⟩ ⟨_, _, _, rfl, by decide +kernel⟩ ⟨_, _, _, rfl, by decide +kernel⟩ ⟨_, _, _, rfl, by decide +kernel⟩ ⟨_, _, _, rfl, by decide +kernel⟩ ⟨_, _, _, rfl, by decide +kernel⟩ ⟨_, _, _, rfl, by decide +kernel⟩ ⟨_, _, _, rfl, by decide +kernel⟩ ⟨_, _, _, rfl, by decide +kernel⟩ ⟨_, _, _, rfl, by decide +kernel⟩ ⟨_, _, _, rfl, by decide +kernel⟩ ⟨_, _, _, rfl, by decide +kernel⟩ ⟨_, _, _, rfl, by decide +kernel⟩ ⟨_, _, _, rfl, by decide +kernel⟩ ⟨_, _, _, rfl, by decide +kernel⟩ ⟨_, _, _, rfl, by decide +kernel⟩ ⟨_, _, _, rfl, by decide +kernel⟩ ⟨_, _, _, rfl, by decide +kernel⟩ ⟨_, _, _, rfl, by decide +kernel⟩
                    · intro D y U h hall
                      dsimp only [updL, List.foldl]
                      simp only [List.setIfInBounds_toArray, List.set_cons_succ, List.set_cons_zero]
                      have hL := lookAt_next hlt HR1.out HES.out h hall
                      have HL := Lib.hid hL
                      clear hL h hall
                      generalize y 60 = y60, y 61 = y61, y 62 = y62, y 63 = y63, y 64 = y64, y 65 = y65, y 66 = y66, y 67 = y67, y 68 = y68, y 69 = y69, y 70 = y70, y 71 = y71, y 72 = y72, y 73 = y73, y 74 = y74, y 75 = y75, y 76 = y76, y 77 = y77
                      go_wp2_with fail
                      go_roundw
                      case rel => exact ⟨k + 1, by omega, by go_num, HL.out⟩
                      case measure => simp [intOf]; omega
                    · exact HR0.out _
            · obtain rfl : k = rs.length := by omega
              have HL := Lib.hid (show LookAt X Y B lf rs w rs.length wr from ⟨es, v1, v2, v3, hes, hx, hy, hO1, hO2, hO3, hBs, hbr⟩)
              clear hes hx hy hO1 hO2 hO3 hBs hbr
              go_wp2_with fail
              go_meet
              case rel => exact HL.out
        case rest =>
          obtain ⟨wm, rfl⟩ : ∃ wm : World, wm = wc := ⟨_, rfl⟩
          obtain ⟨es, v1, v2, v3, hes, hx, hy, hO1, hO2, hO3, hBs, hbr⟩ := hcut
          have hel : es.length = rs.length := Nd.decN_length _ _ _ _ hes
          rw [Nd.lookL_some hes] at HLR
          have HX2 := Lib.hid hx
          have HY2 := Lib.hid hy
          have HO1 := Lib.hid hO1
          have HO2 := Lib.hid hO2
          have HO3 := Lib.hid hO3
          obtain ⟨y0, y1, y2, y3, m0, m1, m2, m3⟩ := blk4v hy
          obtain ⟨x0, x1, x2, x3, n0, n1, n2, n3⟩ := blk4v hx
          obtain ⟨a1, c1, hv1⟩ := own_len hO1
          have hF := ownEs_form hO2
          have hlr : (rs.take rs.length).length = rs.length := by simp
          rw [hlr] at hv1
          obtain ⟨l, hl⟩ : ∃ l, l = es.map (·.1) := ⟨_, rfl⟩
          rw [← hl] at hF HO2
          have hll : l.length = rs.length := by rw [hl, List.length_map, hel]
          have HEL := Lib.hid hl
          clear hO1 hO2 hO3 hlr hes hel hl hcx4 hbw4 hx hy
          obtain ⟨rise, hrise⟩ : ∃ rise, rise = (if lf then l else l.drop 1) := ⟨_, rfl⟩
          by_cases h0 : lf = false ∧ rs.length = 0
          · obtain ⟨rfl, h0⟩ := h0
            have hN : R = none := by
              rw [HLR.out, if_pos ⟨rfl, List.eq_nil_of_length_eq_zero (by rw [← List.length_map (f := (·.1)), ← HEL.out, hll, h0])⟩]
            have HN := Lib.hid hN
            have e0 : ((rs.length : Int) == 0) = true := by rw [h0]; rfl
            obtain rfl := hv1
            clear hN hF hll h0
            go_wp2_with fail
            refine bodyPost_ret (v := .tuple #[zeroView, .bool false]) (by simp [results, Try.results92, go_sem, x0, x1, x2, x3]) rfl ?_
            refine ⟨by rw [HN.out]; exact lookOut_none, ?_⟩
            repeat (first | (with_reducible exact hbr) | (with_reducible refine Below.setCell ?_ (by rw [← HX.out]; exact Nat.le_refl _) _))
          · have hR : R = if Nd.rises rise then some (Nd.viewOf lf rs es) else none := by
              rw [HLR.out, if_neg (fun h => h0 ⟨h.1, by rw [← hll, HEL.out, h.2]; rfl⟩), hrise, HEL.out]; rfl
            have HRR := Lib.hid hR
            clear hR HLR
            go_upto_region 19 with (fail)
            generalize Value.int IntKind.i64 (rs.length : Int) = u31
            go_cut [87] (fun s we => s = .bool false ∧ wm = we)
            case first =>
              cases lf with
              | true =>
                go_wp2_with fail
                go_meet
                case rel => exact ⟨rfl, rfl⟩
              | false =>
                have e0 : ((rs.length : Int) == 0) = false := by simp at h0 ⊢; exact fun h => h0 (by rw [h])
                obtain rfl := hv1
                clear h0 hll hF
                go_wp2_with fail
                go_meet
                case rel => exact ⟨rfl, rfl⟩
            case rest =>
              obtain ⟨rfl, rfl⟩ := hcut
              go_upto_if 93 with (fail)
              go_cut [10] (fun s we => (∃ A c, s = .slice A rise.length c ∧ CellsE wm A c rise) ∧ wm = we)
              case first =>
                cases lf with
                | true =>
                  obtain ⟨A, c, hv2, hC2⟩ := ownEs_cells HO2.out
                  have HC2 := Lib.hid hC2
                  have HRI := Lib.hid hrise
                  obtain rfl := hv2
                  clear hC2 hrise hF hll h0
                  go_wp2_with fail
                  go_meet
                  case rel => exact ⟨⟨A, c, by rw [HRI.out]; rfl, by rw [HRI.out]; exact HC2.out⟩, rfl⟩
                | false =>
                  rcases hF with ⟨-, h1⟩ | ⟨g, cap, hv2, hg1, hg2, hg3, hg4, hE⟩
                  · exact absurd ⟨rfl, by rw [← hll, h1]; rfl⟩ h0
                  · have HE := Lib.hid hE
                    have HRI := Lib.hid hrise
                    obtain rfl := hv2
                    clear hE hrise
                    have hl1 : 1 ≤ l.length := by
                      have h1 : ¬ rs.length = 0 := fun h => h0 ⟨rfl, h⟩
                      omega
                    clear h0
                    go_wp2_with fail
                    · go_meet
                      case rel =>
                        have h1 : l.drop 1 = [] := List.drop_eq_nil_of_le (by omega)
                        exact ⟨⟨_, 0, by rw [HRI.out, if_neg (by simp), h1]; rfl, by rw [HRI.out, if_neg (by simp), h1]; exact fun h0 => absurd h0 (by simp)⟩, rfl⟩
                    · go_meet
                      case rel =>
                        have h1 : (l.drop 1).length = rs.length - 1 := by rw [List.length_drop, hll]
                        exact ⟨⟨_, rs.length - 1, by rw [HRI.out, if_neg (by simp), h1], by rw [HRI.out, if_neg (by simp)]; exact fun _ => ⟨g, 3, rfl, by omega, hg2, by have := entsAt_drop HE.out; simpa using this⟩⟩, rfl⟩
              case rest =>
                obtain ⟨⟨A, c, rfl, hC⟩, rfl⟩ := hcut
                have HC := Lib.hid hC
                have HRI := Lib.hid hrise
                have hrl : rise.length ≤ 123 := by rw [hrise]; split <;> (try rw [List.length_drop]) <;> omega
                clear hC hrise hv1 hF hll h0
                go_wp2_with fail
                go_loopw [11] (fun i wr => ∃ k : Nat, k ≤ rise.length ∧ i = .int .i64 (↑k + 1) ∧ LessTo rise k ∧ Below wm.heap.size wm wr) (fun i _ => rise.length + 1 - (intOf i).toNat)
                case atStart => exact ⟨0, Nat.zero_le _, rfl, lessTo_zero _, Below.refl _ _⟩
                case round =>
                  obtain ⟨k, hk, rfl, hL, hbr2⟩ := hrel
                  have HLT := Lib.hid hL
                  clear hL
                  by_cases hlt : k + 1 < rise.length
                  · obtain ⟨g, off, rfl, hc, hg, hE⟩ := (HC.out.below hbr2).at_ (by omega)
                    have HLL := Lib.hid (heldL_of hE hg (show k < rise.length by omega) hlt)
                    have HRS := Lib.hid (fun h => lessTo_succ HLT.out hlt h)
                    have HRF := Lib.hid (fun h => Nd.rises_false k hlt h)
                    have HLess := Lib.hid (fun W => less_any rise[k] rise[k + 1] W)
                    clear hE
                    generalize rise[k] = ea at HLL HRS HRF HLess
                    generalize rise[k + 1] = eb at HLL HRS HRF HLess
                    generalize Nd.lessE ea eb = lb at HLess HRS HRF
                    obtain ⟨ak, ap, as_⟩ := ea
                    obtain ⟨bk, bp, bs⟩ := eb
                    have hw1 : IntKind.i64.wrap ((k : Int) + 1 - 1) = (k : Int) := by
                      rw [show (k : Int) + 1 - 1 = (k : Int) by omega]; exact IntWalk.i64_in _ (by omega)
                    clear y0 y1 y2 y3 m0 m1 m2 m3 x0 x1 x2 x3 n0 n1 n2 n3
                    have hi1 : (0 : Int) ≤ (k : Int) := by omega
                    have hi2 : (k : Int) < (rise.length : Int) := by omega
                    have hi3 : (0 : Int) ≤ (k : Int) + 1 := by omega
                    have hi4 : (k : Int) + 1 < (rise.length : Int) := by omega
                    have hi5 : ((k : Int) + 1).toNat = k + 1 := by omega
                    have hw2 : IntKind.i64.wrap (k : Int) = (k : Int) := IntWalk.i64_in _ (by omega)
                    cases lb with
                    | true =>
                      go_upto_region 27 with (fail)
                      go_region_held3 (fun we => HeldL g (off + k * 3) (off + (k + 1) * 3) ⟨ak, ap, as_⟩ ⟨bk, bp, bs⟩ wr we) (first | assumption | exact HLL.out.step ((Below.refl _ _).drew) | go_keep) (first
                        | (go_at_call 65; refine (HLess.out _).mono ?_; rintro e w2 ⟨rfl, hb2⟩; have hSS := (HLL.out.step ((Below.refl _ _).drew)).step hb2))
                      go_wp2_with fail
                      go_roundw
                      case rel => exact ⟨k + 1, by omega, by go_num, HRS.out (by trivial), andThen hbr2 hSS.2.2.2.2.2.2.2⟩
                      case measure => simp [intOf]; omega
                    | false =>
                      go_upto_region 27 with (fail)
                      go_region_held3 (fun we => HeldL g (off + k * 3) (off + (k + 1) * 3) ⟨ak, ap, as_⟩ ⟨bk, bp, bs⟩ wr we) (first | assumption | exact HLL.out.step ((Below.refl _ _).drew) | go_keep) (first
                        | (go_at_call 65; refine (HLess.out _).mono ?_; rintro e w2 ⟨rfl, hb2⟩; have hSS := (HLL.out.step ((Below.refl _ _).drew)).step hb2))
                      have hR : R = none := by rw [HRR.out, if_neg (by rw [HRF.out (by trivial)]; simp)]
                      have HR2 := Lib.hid hR
                      clear hR
                      obtain ⟨q0, q1, q2, q3, i0, i1, i2, i3⟩ := blk4v (blk_old (blk_old HX2.out hbr2) hSS.2.2.2.2.2.2.2)
                      have hbw := andThen hbr (andThen hbr2 hSS.2.2.2.2.2.2.2)
                      clear hSS
                      go_wp2_with fail
                      refine bodyPost_ret (v := .tuple #[zeroView, .bool false]) (by simp [results, Try.results92, go_sem, q0, q1, q2, q3]) rfl ?_
                      refine ⟨by rw [HR2.out]; exact lookOut_none, ?_⟩
                      repeat (first | (with_reducible exact hbw) | (with_reducible refine Below.setCell ?_ (by rw [← HX.out]; exact Nat.le_refl _) _))
                  · obtain ⟨z0, z1, z2, z3, j0, j1, j2, j3⟩ := blk4v (blk_old HY2.out hbr2)
                    obtain ⟨q0, q1, q2, q3, i0, i1, i2, i3⟩ := blk4v (blk_old HX2.out hbr2)
                    clear y0 y1 y2 y3 m0 m1 m2 m3 x0 x1 x2 x3 n0 n1 n2 n3
                    obtain ⟨a1, c1, hv1⟩ := own_len HO1.out
                    obtain ⟨a2, c2, hv2⟩ := own_len HO2.out
                    obtain ⟨a3, c3, hv3⟩ := own_len HO3.out
                    obtain rfl := hv1
                    obtain rfl := hv2
                    obtain rfl := hv3
                    have hR : R = some (Nd.viewOf lf rs es) := by rw [HRR.out, if_pos (lessTo_all HLT.out (by omega))]
                    have HR2 := Lib.hid hR
                    clear hR
                    go_wp2_with fail
                    refine bodyPost_ret (v := .tuple #[.agg #[.bool lf, .slice a1 rs.length c1, .slice a2 l.length c2, .slice a3 es.length c3], .bool true]) (by simp [results, Try.results92, go_sem, q0, q1, q2, q3]) rfl ?_
                    have hNX : w.heap.size ≤ X := by rw [← HX.out]; exact Nat.le_refl _
                    have hNB : w.heap.size ≤ B := by omega
                    have hXB : X < B := by omega
                    have h1 := own_after HO1.out hbr2 hNB hXB (.bool lf) (.slice a1 rs.length c1) (.slice a2 l.length c2) (.slice a3 es.length c3)
                    have h2 := own_after HO2.out hbr2 hNB hXB (.bool lf) (.slice a1 rs.length c1) (.slice a2 l.length c2) (.slice a3 es.length c3)
                    have h3 := own_after HO3.out hbr2 hNB hXB (.bool lf) (.slice a1 rs.length c1) (.slice a2 l.length c2) (.slice a3 es.length c3)
                    rw [HR2.out]
                    refine ⟨lookOut_some (V := Nd.viewOf lf rs es) (by simpa [OwnT, Nd.viewOf] using h1) (by have e := HEL.out; subst e; simpa [OwnEs, Nd.viewOf] using h2) (by simpa [OwnIs, Nd.viewOf] using h3), ?_⟩
                    have hbw := andThen hbr hbr2
                    repeat (first | (with_reducible exact hbw) | (with_reducible refine Below.setCell ?_ hNX _))
end Go.Proofs.Ytgbihdlahghonaa
/- The walks over package node: Right, Entries, Children. -/
namespace Go
section
variable {P : Program}
/-- copy into a row of the call's own from its head on, elements of any size. -/
theorem run_copy_wide (w : World) (dT sT ty elem : TypeId) (g dLen dCap : Nat) (sp : Option Addr) (sLen sCap size m : Nat) (cur : Array Value) (t : TypeId) (cs : List Value)
    (hu : P.underlying dT = some (.slice elem)) (hs : (P.info? elem).map (·.size) = some size)
    (hg : w.heap[g]? = some (.cells cur t (0, 0))) (hm : m = Nat.min sLen dLen) (hn : cs.length = m * size)
    (hsrc : ∀ ad, sp = some ad → ∀ j v, cs[j]? = some v → w.cell? (ad.add j) = some v) (hnil : sp = none → cs = []) (hfit : cs.length ≤ cur.size) (h1 : ∀ v ∈ cs, v.oneCell' = true) :
    (Builtin.copy_ #[dT, sT] ty #[.slice (some ⟨g, 0, none⟩) dLen dCap, .slice sp sLen sCap]).run P w =
      .ok (goInt m) (w.setRow g (cs ++ cur.toList.drop cs.length).toArray) := by
  have hst := run_storeCells_at P g 0 t cs 0 cur w hg (by simpa using hfit) h1
  simp only [Nat.zero_add, List.take_zero, List.nil_append] at hst
  cases hq : P.info? elem with
  | none => simp [hq] at hs
  | some i =>
    have hi : i.size = size := by simpa [hq] using hs
    cases sp with
    | none =>
      have h0 := hnil rfl
      subst h0
      simp [Builtin.copy_, run_underlying hu, Builtin.lenOf, Builtin.firstCells, sizeOf, typeInfo, hq, ← hm, storeCells]
      rw [setRow_self w g cur t (0, 0) hg]
    | some ad =>
      have hl := run_loadCells_list (P := P) w ad cs (hsrc ad rfl)
      simp [Builtin.copy_, run_underlying hu, Builtin.lenOf, Builtin.firstCells, sizeOf, typeInfo, hq, hi, ← hm, ← hn, hl, hst]
theorem wpList_copy_wide {w : World} {ops : Array Oper} {rest : List Oper} {o : Oper} {a : Act} {Q : Exit → Act → World → Prop} (hgd : o.guard = none) (d s : Operand) (dT sT : TypeId)
    (ho : o.op = .call { callee := .builtin .copy, args := #[d, s], argTypes := #[dT, sT] }) (elem : TypeId) (hu : P.underlying dT = some (.slice elem)) (size : Nat) (hsz : (P.info? elem).map (·.size) = some size)
    (g dLen dCap : Nat) (sp : Option Addr) (sLen sCap m : Nat) (hd : a.eval d = .slice (some ⟨g, 0, none⟩) dLen dCap) (hs : a.eval s = .slice sp sLen sCap)
    (cur : Array Value) (t : TypeId) (hg : w.heap[g]? = some (.cells cur t (0, 0))) (cs : List Value) (hm : m = Nat.min sLen dLen) (hn : cs.length = m * size)
    (hsrc : ∀ ad, sp = some ad → ∀ j v, cs[j]? = some v → w.cell? (ad.add j) = some v) (hnil : sp = none → cs = []) (hfit : cs.length ≤ cur.size) (h1 : ∀ v ∈ cs, v.oneCell' = true)
    (h : wpList P ops Q rest (a.put o.dst (goInt m)) (w.setRow g (cs ++ cur.toList.drop cs.length).toArray)) : wpList P ops Q (o :: rest) a w := by
  refine wpList_plain hgd fun K hK => ?_
  have hrun := run_copy_wide (P := P) w dT sT o.type elem g dLen dCap sp sLen sCap size m cur t cs hu hsz hg hm hn hsrc hnil hfit h1
  unfold Oper.wp
  simp [execOp, ho, resolve, invoke, builtin, hd, hs, hrun, Result.andThen]
  exact hK _ _ h
end
end Go
namespace Go.Proofs.Ytgbihdlahghonaa
open Go.RowKit

/-- What a page has; nothing, if it is none of a tree. -/
def viewP (p : ByteArray) : Nd.View := (lookP p).getD ⟨false, [], [], []⟩
def rightP (p : ByteArray) : Bool := (lookP p).isSome
theorem nil_row (w : World) (B : Nat) (e : TypeId) (size : Nat) : w.ownsRow B e size (.slice none 0 0) 0 [] := World.ownsRow_nil w B e size
theorem look_view (p : ByteArray) (hm : p.size ≤ 140737488355328) (w : World) :
    Calls Try.prog 92 #[.string p] w fun e w' => ∃ a1 c1 a2 c2 a3 c3, e = .returned (.tuple #[.agg #[.bool (viewP p).leaf, .slice a1 (viewP p).recs.length c1, .slice a2 (viewP p).ents.length c2, .slice a3 (viewP p).kids.length c3], .bool (rightP p)]) ∧
      OwnT w.heap.size w' (.slice a1 (viewP p).recs.length c1) (viewP p).recs ∧ OwnEs w.heap.size w' (.slice a2 (viewP p).ents.length c2) (viewP p).ents ∧ OwnIs w.heap.size w' (.slice a3 (viewP p).kids.length c3) (viewP p).kids ∧ Below w.heap.size w w' := by
  refine (look_any p hm w).mono ?_
  rintro e w' ⟨h, hb⟩
  unfold viewP rightP
  cases hl : lookP p with
  | none =>
    rw [hl] at h
    exact ⟨_, _, _, _, _, _, h, nil_row _ _ _ _, nil_row _ _ _ _, nil_row _ _ _ _, hb⟩
  | some V =>
    rw [hl] at h
    obtain ⟨v1, v2, v3, he, h1, h2, h3⟩ := h
    obtain ⟨a1, c1, rfl⟩ := own_len h1
    obtain ⟨a2, c2, rfl⟩ := own_len h2
    obtain ⟨a3, c3, rfl⟩ := own_len h3
    exact ⟨a1, c1, a2, c2, a3, c3, he, h1, h2, h3, hb⟩
theorem look_bound (p : ByteArray) : (viewP p).recs.length ≤ 123 ∧ (viewP p).ents.length = (viewP p).recs.length ∧ (viewP p).kids.length = (viewP p).recs.length := by
  have hfine := Pg.leafOf_fine p.data.toList
  change Pg.Fine (leafP p) at hfine
  have hlen := hfine.len
  have key : ∀ lf V, Nd.lookL lf (leafP p).recs = some V → V.recs.length ≤ 123 ∧ V.ents.length = V.recs.length ∧ V.kids.length = V.recs.length := by
    intro lf V h
    cases hd : Nd.decN lf (leafP p).recs (leafP p).recs.length with
    | none => rw [Nd.lookL_none hd] at h; cases h
    | some l =>
      rw [Nd.lookL_some hd] at h
      have hel := Nd.decN_length _ _ _ _ hd
      split at h
      · cases h
      · split at h
        · injection h with h
          subst h
          simp only [Nd.viewOf, List.length_map]
          exact ⟨hlen, hel, hel⟩
        · cases h
  unfold viewP
  cases hl : lookP p with
  | none => exact ⟨by simp, rfl, rfl⟩
  | some V =>
    unfold lookP at hl
    split at hl
    · unfold Nd.lookR at hl
      split at hl
      · exact key true V hl
      · split at hl
        · exact key false V hl
        · cases hl
    · cases hl

/-- The box of a view. -/
theorem blkV {w w' : World} {lf : Bool} {a1 a2 a3 : Option Addr} {n1 n2 n3 c1 c2 c3 : Nat} (hb : Below (w.alloc (.cells #[.bool lf, .slice a1 n1 c1, .slice a2 n2 c2, .slice a3 n3 c3] 86)).heap.size (w.alloc (.cells #[.bool lf, .slice a1 n1 c1, .slice a2 n2 c2, .slice a3 n3 c3] 86)) w') :
    w'.cell? ⟨w.heap.size, 0, none⟩ = some (.bool lf) ∧ w'.cell? ⟨w.heap.size, 1, none⟩ = some (.slice a1 n1 c1) ∧ w'.cell? ⟨w.heap.size, 2, none⟩ = some (.slice a2 n2 c2) ∧ w'.cell? ⟨w.heap.size, 3, none⟩ = some (.slice a3 n3 c3) := by
  have h := blk4v (blk_new hb)
  exact ⟨h.1, h.2.1, h.2.2.1, h.2.2.2.1⟩
theorem nright_any (p : ByteArray) (hm : p.size ≤ 140737488355328) (w : World) :
    Calls Try.prog 57 #[.string p] w fun e w' => e = .returned (.bool (rightP p)) ∧ Below w.heap.size w w' := by
  have HL := Lib.hid (fun W => look_view p hm W)
  generalize viewP p = V at HL
  generalize rightP p = ok at HL ⊢
  obtain ⟨lf, rs, es, is⟩ := V
  go_enter Try.func57, Try.ntmps57
  go_wp2_with (go_at_call 92; refine (HL.out _).mono ?_; rintro e w1 ⟨a1, c1, a2, c2, a3, c3, rfl, h1, h2, h3, hb1⟩; have HB := Lib.hid hb1; clear h1 h2 h3 hb1)
  go_ret
  exact ⟨rfl, below_past_alloc HB.out⟩

/-- The children of a page. -/
def kidsP (p : ByteArray) : List Int := if rightP p = true ∧ (viewP p).leaf = false then (viewP p).kids else []
set_option maxHeartbeats 1000000 in
theorem nchildren_any (p : ByteArray) (hm : p.size ≤ 140737488355328) (w : World) :
    Calls Try.prog 63 #[.string p] w fun e w' => ∃ v, e = .returned v ∧ OwnIs w.heap.size w' v (kidsP p) ∧ Below w.heap.size w w' := by
  have HL := Lib.hid (fun W => look_view p hm W)
  unfold kidsP
  generalize viewP p = V at HL ⊢
  generalize rightP p = ok at HL ⊢
  obtain ⟨lf, rs, es, is⟩ := V
  simp only
  cases ok with
  | false =>
    rw [if_neg (by simp)]
    go_enter Try.func63, Try.ntmps63
    go_wp2_with (go_at_call 92; refine (HL.out _).mono ?_; rintro e w1 ⟨a1, c1, a2, c2, a3, c3, rfl, h1, h2, h3, hb1⟩; have HB := Lib.hid hb1; clear h1 h2 h3 hb1)
    go_ret
    exact ⟨_, rfl, nil_row _ _ _ _, below_past_alloc HB.out⟩
  | true =>
    cases lf with
    | true =>
      rw [if_neg (by simp)]
      go_enter Try.func63, Try.ntmps63
      go_wp2_with (go_at_call 92; refine (HL.out _).mono ?_; rintro e w1 ⟨a1, c1, a2, c2, a3, c3, rfl, h1, h2, h3, hb1⟩; have HB := Lib.hid hb1; clear h1 h2 h3 hb1)
      go_ret
      exact ⟨_, rfl, nil_row _ _ _ _, below_past_alloc HB.out⟩
    | false =>
      rw [if_pos ⟨rfl, rfl⟩]
      go_enter Try.func63, Try.ntmps63
      go_wp2_with (go_at_call 92; refine (HL.out _).mono ?_; rintro e w1 ⟨a1, c1, a2, c2, a3, c3, rfl, h1, h2, h3, hb1⟩; have HB := Lib.hid hb1; have H3 := Lib.hid h3; clear h1 h2 h3 hb1)
      go_ret
      exact ⟨_, rfl, H3.out.alloc _, below_past_alloc HB.out⟩

/-- As many zero entries. -/
def madeE (n : Nat) : Array Value := madeCells (Value.agg #[.string ⟨#[]⟩, .int .i64 0, .int .i64 0]).cells (n * 3)
theorem madeE_size (n : Nat) : (madeE n).size = n * 3 := size_madeCells _ _
theorem make_entries (n : Nat) (hn : n ≤ 4096) (W : World) : (Instr.makeSlice 51 (.int .i64 (n : Int)) (.int .i64 (n : Int))).run Try.prog W = .ok (.slice (some ⟨W.heap.size, 0, none⟩) n n) (W.alloc (.cells (madeE n) 45)) := by
  obtain ⟨i0, hi, hz0, hz1, hz2⟩ := info_parts info_entry
  have h := run_make (P := Try.prog) W 51 45 i0 _ Try.underlying51 hi hz0 .i64 .i64 n n (by omega) (by omega) (by rw [hz2]; omega) (by omega)
  rw [hz1, Int.toNat_natCast] at h
  exact h
theorem size_entry : (Try.prog.info? 45).map (·.size) = some 3 := by kernel_rfl
theorem entCells_one (l : List Nd.Entry) : ∀ v ∈ entCells l, v.oneCell' = true := by
  intro v hv
  unfold entCells at hv
  rw [List.mem_flatMap] at hv
  obtain ⟨e, _, he⟩ := hv
  simp at he
  rcases he with rfl | rfl | rfl <;> rfl
theorem ownEs_src {B : Nat} {w : World} {a : Option Addr} {c : Nat} {l : List Nd.Entry} (h : OwnEs B w (.slice a l.length c) l) : (∀ ad, a = some ad → ∀ j v, (entCells l)[j]? = some v → w.cell? (ad.add j) = some v) ∧ (a = none → entCells l = []) := by
  rcases h.2 with ⟨h1, h0⟩ | ⟨g, cap, cur, h1, hg, hh, hn, hm, hs, ht⟩
  · injection h1 with h1 _ _
    have hl := List.eq_nil_of_length_eq_zero h0
    subst h1 hl
    exact ⟨fun ad h => (by cases h), fun _ => rfl⟩
  · injection h1 with h1 _ _
    subst h1
    refine ⟨fun ad h j v hv => ?_, fun h => by cases h⟩
    injection h with h
    subst h
    rw [show (⟨g, 0, none⟩ : Addr).add j = ⟨g, 0 + j, none⟩ from Addr.add_mid g 0 j, cell_of_blk hh, Nat.zero_add]
    rw [← ht, List.getElem?_take] at hv
    split at hv
    · rw [Array.getElem?_toList] at hv; exact hv
    · cases hv
set_option maxHeartbeats 1000000 in
theorem nentries_any (p : ByteArray) (hm : p.size ≤ 140737488355328) (w : World) :
    Calls Try.prog 60 #[.string p] w fun e w' => ∃ v, e = .returned v ∧ OwnEs w.heap.size w' v (viewP p).ents ∧ Below w.heap.size w w' := by
  have HL := Lib.hid (fun W => look_view p hm W)
  have hn : (viewP p).ents.length ≤ 4096 := by have := look_bound p; omega
  generalize viewP p = V at HL hn ⊢
  generalize rightP p = ok at HL
  obtain ⟨lf, rs, es, is⟩ := V
  simp only at hn ⊢
  have hmk := make_entries es.length hn
  go_enter Try.func60, Try.ntmps60
  go_upto_region 3 with (go_at_call 92; refine (HL.out _).mono ?_; rintro e w1 ⟨a1, c1, a2, c2, a3, c3, rfl, h1, h2, h3, hb1⟩; have HB := Lib.hid hb1; have H2 := Lib.hid h2; clear h1 h2 h3 hb1)
  have hG := heap_alloc_new (w1.alloc (.cells #[.bool lf, .slice a1 rs.length c1, .slice a2 es.length c2, .slice a3 is.length c3] 86)) (.cells (madeE es.length) 45)
  have HG := Lib.hid (show ((w1.alloc (.cells #[.bool lf, .slice a1 rs.length c1, .slice a2 es.length c2, .slice a3 is.length c3] 86)).alloc (.cells (madeE es.length) 45)).heap[w1.heap.size + 1]? = some (.cells (madeE es.length) 45 (0, 0)) by simpa using hG)
  have HS := Lib.hid (ownEs_src ((H2.out.alloc (.cells #[.bool lf, .slice a1 rs.length c1, .slice a2 es.length c2, .slice a3 is.length c3] 86)).alloc (.cells (madeE es.length) 45)))
  have HBB := Lib.hid (below_past_alloc (o := .cells (madeE es.length) 45) (below_past_alloc (o := .cells #[.bool lf, .slice a1 rs.length c1, .slice a2 es.length c2, .slice a3 is.length c3] 86) HB.out))
  have hws := HB.out.size
  clear hG hmk
  obtain ⟨G, hGe⟩ : ∃ G, G = w1.heap.size + 1 := ⟨_, rfl⟩
  have hGw : w.heap.size ≤ G := by omega
  obtain ⟨W3, hW3⟩ : ∃ W3, W3 = (w1.alloc (.cells #[.bool lf, .slice a1 rs.length c1, .slice a2 es.length c2, .slice a3 is.length c3] 86)).alloc (.cells (madeE es.length) 45) := ⟨_, rfl⟩
  have hx := blk4v (w := W3) (b := w1.heap.size) (by rw [hW3, Below.heap_alloc _ _ _ (by simp)]; exact heap_alloc_new w1 _)
  obtain ⟨x0, x1, x2, x3, -, -, -, -⟩ := hx
  rw [← hW3] at HG HS HBB ⊢
  rw [← hGe] at HG ⊢
  clear hGe hW3 HL
  have hmn : es.length = Nat.min es.length es.length := (Nat.min_self _).symm
  have HM := Lib.hid hmn
  clear hmn
  go_wp2_with (with_reducible refine wpList_copy_wide rfl (.tmp 15) (.tmp 17) 51 51 rfl 45 Try.underlying51 3 size_entry G es.length es.length a2 es.length c2 es.length rfl rfl (madeE es.length) 45 HG.out (entCells es) HM.out (by rw [entCells_length, Nat.mul_comm]) HS.out.1 HS.out.2 (by rw [entCells_length, madeE_size]; omega) (entCells_one es) ?_)
  go_ret
  refine ⟨_, rfl, ⟨by rw [entCells_length, Nat.mul_comm], .inr ⟨G, es.length, _, rfl, hGw, setRow_heap _ _ _ _ _ _ HG.out, Nat.le_refl _, by unfold maxLen; omega, ?_, ?_⟩⟩, below_setRow HBB.out hGw _⟩
  · simp [entCells_length, madeE_size, Nat.mul_comm]
  · simp [entCells_length, Nat.mul_comm]
end Go.Proofs.Ytgbihdlahghonaa
/- The walks over package node: a place in a sorted list, by halving; Find. -/
namespace Nd
/-- Between which places the search is. -/
def Among (l : List Entry) (e : Entry) (lo hi : Nat) : Prop :=
  (∀ t (h : t < l.length), t < lo → lessE l[t] e = true) ∧ (∀ t (h : t < l.length), hi ≤ t → lessE l[t] e = false)
theorem among_start (l : List Entry) (e : Entry) : Among l e 0 l.length := ⟨fun _ _ h => absurd h (by omega), fun _ h h2 => absurd h2 (by omega)⟩
theorem among_up {l : List Entry} {e : Entry} {lo hi m : Nat} (hr : rises l = true) (h : Among l e lo hi) (hm : m < l.length) (hl : lessE l[m] e = true) : Among l e (m + 1) hi :=
  ⟨fun t ht htm => by
    rcases Nat.lt_or_eq_of_le (Nat.le_of_lt_succ htm) with h1 | h1
    · exact less_trans (rises_less hr h1 hm) hl
    · subst h1; exact hl, h.2⟩
theorem among_down {l : List Entry} {e : Entry} {lo hi m : Nat} (hr : rises l = true) (h : Among l e lo hi) (hm : m < l.length) (hl : lessE l[m] e = false) : Among l e lo m :=
  ⟨h.1, fun t ht htm => by
    rcases Nat.lt_or_eq_of_le htm with h1 | h1
    · exact not_less_of (rises_less hr h1 ht) hl
    · subst h1; exact hl⟩
theorem among_end {l : List Entry} {e : Entry} {lo : Nat} (hlo : lo ≤ l.length) (h : Among l e lo lo) : placeE l e = lo :=
  place_is hlo (fun j hj hjl => h.1 j hj hjl) (fun hl => h.2 lo hl (Nat.le_refl _))
theorem found_in {l : List Entry} {e : Entry} {lo : Nat} (hp : placeE l e = lo) (h : lo < l.length) : foundE l e = (ordE l[lo] e == 0) := by
  unfold foundE; rw [hp, List.getElem?_eq_getElem h]
theorem found_out {l : List Entry} {e : Entry} {lo : Nat} (hp : placeE l e = lo) (h : ¬ lo < l.length) : foundE l e = false := by
  unfold foundE; rw [hp, List.getElem?_eq_none (by omega)]
end Nd
namespace Go.Proofs.Ytgbihdlahghonaa
open Go.RowKit

/-- Two entries in two blocks, while nothing but new blocks is made. -/
abbrev HeldN (g i h j : Nat) (a b : Nd.Entry) (w0 u : World) : Prop :=
  u.cell? ⟨g, i, none⟩ = some (.string a.key) ∧ u.cell? ⟨g, i + 1, none⟩ = some (.int .i64 a.page) ∧ u.cell? ⟨g, i + 2, none⟩ = some (.int .i64 a.slot) ∧
  u.cell? ⟨h, j, none⟩ = some (.string b.key) ∧ u.cell? ⟨h, j + 1, none⟩ = some (.int .i64 b.page) ∧ u.cell? ⟨h, j + 2, none⟩ = some (.int .i64 b.slot) ∧ g < u.heap.size ∧ h < u.heap.size ∧ Below w0.heap.size w0 u
theorem HeldN.step {g i k j : Nat} {a b : Nd.Entry} {w0 u v : World} (h : HeldN g i k j a b w0 u) (hb : Below u.heap.size u v) : HeldN g i k j a b w0 v := by
  obtain ⟨h0, h1, h2, h3, h4, h5, h6, h7, h8⟩ := h
  have := hb.size
  refine ⟨?_, ?_, ?_, ?_, ?_, ?_, by omega, by omega, andThen h8 hb⟩
  · rw [hb.cell (p := ⟨g, i, none⟩) h6]; exact h0
  · rw [hb.cell (p := ⟨g, i + 1, none⟩) h6]; exact h1
  · rw [hb.cell (p := ⟨g, i + 2, none⟩) h6]; exact h2
  · rw [hb.cell (p := ⟨k, j, none⟩) h7]; exact h3
  · rw [hb.cell (p := ⟨k, j + 1, none⟩) h7]; exact h4
  · rw [hb.cell (p := ⟨k, j + 2, none⟩) h7]; exact h5
theorem heldN_of {w : World} {g off i X : Nat} {l : List Nd.Entry} {b : Nd.Entry} {T : TypeId} (h : EntsAt w g off l) (hg : g < w.heap.size) (hi : i < l.length) (hX : w.heap[X]? = some (.cells #[.string b.key, .int .i64 b.page, .int .i64 b.slot] T (0, 0))) : HeldN g (off + i * 3) X 0 l[i] b w w :=
  ⟨(h i hi).1, (h i hi).2.1, (h i hi).2.2, (blkE hX).1, (blkE hX).2.1, (blkE hX).2.2.1, hg, heap_lt hX, Below.refl _ _⟩

set_option maxRecDepth 100000 in
set_option maxHeartbeats 4000000 in
theorem bsearch_any (A : Option Addr) (c : Nat) (l : List Nd.Entry) (e : Nd.Entry) (hl : l.length ≤ 4096) (hr : Nd.rises l = true) (w : World) (h : CellsE w A c l) :
    Calls Try.prog 93 #[.slice A l.length c, entV e, .func (.func 94) #[] #[]] w fun x w' =>
      x = .returned (.tuple #[.int .i64 (Nd.placeE l e), .bool (Nd.foundE l e)]) ∧ Below w.heap.size w w' := by
  have HC := Lib.hid h
  have HR := Lib.hid hr
  have HX := Lib.hid (heap_alloc_new w (.cells #[.string e.key, .int .i64 e.page, .int .i64 e.slot] 45))
  have HO := Lib.hid (fun (x : Nd.Entry) W => order_any x e W)
  clear h hr
  obtain ⟨P, hP⟩ : ∃ P, P = Nd.placeE l e := ⟨_, rfl⟩
  obtain ⟨F, hF⟩ : ∃ F, F = Nd.foundE l e := ⟨_, rfl⟩
  rw [← hP, ← hF]
  have HP := Lib.hid hP
  have HF := Lib.hid hF
  clear hP hF
  obtain ⟨ek, ep, es⟩ := e
  go_enter Try.func93, Try.ntmps93
  go_wp2_with fail
  obtain ⟨V, hV⟩ : ∃ V, V = w.alloc (.cells #[.string ek, .int .i64 ep, .int .i64 es] 45) := ⟨_, rfl⟩
  have HB := Lib.hid (show Below w.heap.size w V by rw [hV]; exact below_past_alloc (Below.refl _ _))
  simp only [← hV] at HX ⊢
  have HCV := Lib.hid (HC.out.below HB.out)
  clear hV HC
  go_loopg [9, 10] l.length (fun g s9 s10 wr => ∃ lo hi : Nat, s9 = .int .i64 lo ∧ s10 = .int .i64 hi ∧ lo ≤ hi ∧ hi ≤ l.length ∧ hi - lo ≤ g ∧ Nd.Among l ⟨ek, ep, es⟩ lo hi ∧ Below V.heap.size V wr)
  case atStart => exact ⟨0, l.length, rfl, rfl, Nat.zero_le _, Nat.le_refl _, by omega, Nd.among_start _ _, Below.refl _ _⟩
  case round =>
    obtain ⟨lo, hi, rfl, rfl, hlh, hin, hg, hA, hb⟩ := hrel
    have HA := Lib.hid hA
    clear hA
    by_cases hlt : lo < hi
    · obtain ⟨m, hm⟩ : ∃ m, m = (lo + hi) / 2 := ⟨_, rfl⟩
      have hm1 : m < l.length := by omega
      have hm2 : lo ≤ m ∧ m < hi := by omega
      have hm3 : ((lo : Int) + (hi : Int)) / 2 = (m : Int) := by omega
      have HM := Lib.hid hm3
      clear hm hm3
      obtain ⟨g, off, rfl, hc, hgl, hE⟩ := (HCV.out.below hb).at_ (by omega)
      have HLL := Lib.hid (heldN_of (b := ⟨ek, ep, es⟩) hE hgl hm1 (blk_old HX.out hb))
      have HUP := Lib.hid (fun h => Nd.among_up HR.out HA.out hm1 h)
      have HDN := Lib.hid (fun h => Nd.among_down HR.out HA.out hm1 h)
      have HOm := Lib.hid (fun W => HO.out l[m] W)
      simp only [Nd.lessE] at HUP HDN
      clear hE
      generalize l[m] = x at HLL HOm HUP HDN
      generalize Nd.ordE x ⟨ek, ep, es⟩ = r at HOm HUP HDN
      obtain ⟨ak, ap, as_⟩ := x
      have hi1 : (0 : Int) ≤ (m : Int) := by omega
      have hi2 : (m : Int) < (l.length : Int) := by omega
      go_upto_region 5 with (fail)
      rw [HM.out]
      cases hd : decide (r < 0) with
      | true =>
        have HA2 := Lib.hid (HUP.out hd)
        clear HUP HDN
        go_region_held3 (fun we => HeldN g (off + m * 3) w.heap.size 0 ⟨ak, ap, as_⟩ ⟨ek, ep, es⟩ wr we) (first | assumption | exact HLL.out.step ((Below.refl _ _).drew) | go_keep) (first
          | (go_at_call 94; refine (HOm.out _).mono ?_; rintro x w2 ⟨rfl, hb2⟩; have hSS := (HLL.out.step ((Below.refl _ _).drew)).step hb2))
        go_wp2_with fail
        go_roundg (hi - (m + 1))
        case measure => omega
        case rel => exact ⟨m + 1, hi, by go_num, rfl, by omega, hin, Nat.le_refl _, HA2.out, andThen hb hSS.2.2.2.2.2.2.2.2⟩
      | false =>
        have HA2 := Lib.hid (HDN.out hd)
        clear HUP HDN
        go_region_held3 (fun we => HeldN g (off + m * 3) w.heap.size 0 ⟨ak, ap, as_⟩ ⟨ek, ep, es⟩ wr we) (first | assumption | exact HLL.out.step ((Below.refl _ _).drew) | go_keep) (first
          | (go_at_call 94; refine (HOm.out _).mono ?_; rintro x w2 ⟨rfl, hb2⟩; have hSS := (HLL.out.step ((Below.refl _ _).drew)).step hb2))
        go_wp2_with fail
        go_roundg (m - lo)
        case measure => omega
        case rel => exact ⟨lo, m, rfl, rfl, by omega, by omega, Nat.le_refl _, HA2.out, andThen hb hSS.2.2.2.2.2.2.2.2⟩
    · obtain rfl : hi = lo := by omega
      have hp := Nd.among_end hin HA.out
      have HP2 := Lib.hid (HP.out.trans hp)
      by_cases hn : hi < l.length
      · have hf := Nd.found_in hp hn
        obtain ⟨g, off, rfl, hc, hgl, hE⟩ := (HCV.out.below hb).at_ (by omega)
        have HLL := Lib.hid (heldN_of (b := ⟨ek, ep, es⟩) hE hgl hn (blk_old HX.out hb))
        have HOm := Lib.hid (fun W => HO.out l[hi] W)
        clear hE hp
        have HF2 := Lib.hid (HF.out.trans hf)
        clear hf
        generalize l[hi] = x at HLL HOm HF2
        generalize Nd.ordE x ⟨ek, ep, es⟩ = r at HOm HF2
        obtain ⟨ak, ap, as_⟩ := x
        have hi1 : (0 : Int) ≤ (hi : Int) := by omega
        have hi2 : (hi : Int) < (l.length : Int) := by omega
        have hi3 : decide ((hi : Int) < (l.length : Int)) = true := by simp; omega
        go_upto_region 8 with (fail)
        go_region_held3 (fun we => HeldN g (off + hi * 3) w.heap.size 0 ⟨ak, ap, as_⟩ ⟨ek, ep, es⟩ wr we) (first | assumption | exact HLL.out.step ((Below.refl _ _).drew) | go_keep) (first
          | (go_at_call 94; refine (HOm.out _).mono ?_; rintro x w2 ⟨rfl, hb2⟩; have hSS := (HLL.out.step ((Below.refl _ _).drew)).step hb2))
        go_wp2_with fail
        go_ret2
        refine ⟨by rw [HP2.out, HF2.out]; rfl, andThen (andThen HB.out hb) hSS.2.2.2.2.2.2.2.2⟩
      · have hf := Nd.found_out hp hn
        have HF2 := Lib.hid (HF.out.trans hf)
        clear hf hp
        have hi3 : decide ((hi : Int) < (l.length : Int)) = false := by simp; omega
        go_upto_region 8 with (fail)
        go_quiet (fail)
        go_wp2_with fail
        go_ret2
        refine ⟨by rw [HP2.out, HF2.out]; rfl, andThen (andThen HB.out hb) (below_drewN _ _)⟩
end Go.Proofs.Ytgbihdlahghonaa
