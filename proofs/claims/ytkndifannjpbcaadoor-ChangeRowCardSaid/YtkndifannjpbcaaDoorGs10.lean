/- Changes one behind the other: the pages that come; own rows of texts and of changes, and what is appended to them. -/
import Derived.Test.YtkndifannjpbcaaDoorGs09
import Derived.Test.YtkndifannjpbcaaDoorGs01
import Derived.Deep.Slices
namespace Go.Proofs.YtkndifannjpbcaaDoor
open Go.RowKit

/-- ps: the pages, one behind the other; ds: the changes that were done. -/
structure Chain (ps : List ByteArray) (ds : List Cop) : Prop where
  len : ps.length = ds.length + 1
  pg : ∀ q ∈ ps, isPg q = true ∧ plB q = q ∧ q.size = 512
  step : ∀ j q o, ps[j]? = some q → ds[j]? = some o → rightO q o = true ∧ ps[j + 1]? = some (madeO q o).1
  small : ∀ d ∈ ds, d.old.size ≤ 600 ∧ d.new.size ≤ 600
theorem chain_one {p : ByteArray} (h : isPg p = true) : Chain [plB p] [] := by
  obtain ⟨h1, h2, h3⟩ := plB_page h
  refine ⟨rfl, fun q hq => ?_, fun j q o _ h => by simp at h, fun d hd => by simp at hd⟩
  obtain rfl := List.mem_singleton.1 hq
  exact ⟨h1, plB_plB h, h3⟩
theorem Chain.last {ps : List ByteArray} {ds : List Cop} (h : Chain ps ds) : ∃ q, ps[ds.length]? = some q ∧ q.size = 512 := by
  have hl := h.len
  have hj : ds.length < ps.length := by omega
  exact ⟨ps[ds.length], List.getElem?_eq_getElem hj, (h.pg _ (List.getElem_mem hj)).2.2⟩
theorem Chain.push {ps : List ByteArray} {ds : List Cop} (h : Chain ps ds) {q : ByteArray} {o : Cop} (hq : ps[ds.length]? = some q) (hr : rightO q o = true) (ho : o.old.size ≤ 600 ∧ o.new.size ≤ 600) : Chain (ps ++ [(madeO q o).1]) (ds ++ [o]) := by
  have U := undone hr
  have hl := h.len
  refine ⟨by simp [hl], fun x hx => ?_, fun j x d hx hd => ?_, fun d hd => ?_⟩
  · rcases List.mem_append.1 hx with hx | hx
    · exact h.pg x hx
    · obtain rfl := List.mem_singleton.1 hx
      exact ⟨U.page, U.norm, U.size⟩
  · by_cases hj : j < ds.length
    · rw [List.getElem?_append_left hj] at hd
      rw [List.getElem?_append_left (by omega)] at hx
      obtain ⟨h1, h2⟩ := h.step j x d hx hd
      refine ⟨h1, ?_⟩
      rw [List.getElem?_append_left (by omega)]
      exact h2
    · have hj2 : j = ds.length := by
        have := (List.getElem?_eq_some_iff.1 hd).1
        simp at this
        omega
      subst hj2
      rw [List.getElem?_append_left (by omega), hq] at hx
      rw [List.getElem?_append_right (Nat.le_refl _), Nat.sub_self] at hd
      injection hx with hx
      injection hd with hd
      subst hx hd
      refine ⟨hr, ?_⟩
      rw [List.getElem?_append_right (by omega), hl, Nat.sub_self]
      rfl
  · rcases List.mem_append.1 hd with hd | hd
    · exact h.small d hd
    · obtain rfl := List.mem_singleton.1 hd
      exact ho
/-- One step back. -/
theorem Chain.back {ps : List ByteArray} {ds : List Cop} (h : Chain ps ds) {j : Nat} (hj : j < ds.length) : ∃ q r, ps[j]? = some q ∧ ps[j + 1]? = some r ∧ r.size = 512 ∧ ds[j].old.size ≤ 600 ∧ doO r (backO ds[j]) = (q, 0) := by
  have hl := h.len
  have h1 : j < ps.length := by omega
  have h2 : j + 1 < ps.length := by omega
  obtain ⟨hr, he⟩ := h.step j ps[j] ds[j] (List.getElem?_eq_getElem h1) (List.getElem?_eq_getElem hj)
  obtain ⟨_, _, d3⟩ := do_back hr
  refine ⟨ps[j], ps[j + 1], List.getElem?_eq_getElem h1, List.getElem?_eq_getElem h2, (h.pg _ (List.getElem_mem h2)).2.2, (h.small _ (List.getElem_mem hj)).1, ?_⟩
  rw [List.getElem?_eq_getElem h2] at he
  injection he with he
  rw [he, d3, (h.pg _ (List.getElem_mem h1)).2.1]

abbrev copC (o : Cop) : List Value := [.int .i64 o.kind, .int .i64 o.slot, .string o.old, .string o.new]
theorem copC_len (o : Cop) : (copC o).length = 4 := rfl
abbrev OwnO (B : Nat) (w : World) (v : Value) (ds : List Cop) : Prop := w.ownsRow B 23 4 v ds.length (ds.flatMap copC)
abbrev ReadsO (w : World) (A : Option Addr) (c : Nat) (ds : List Cop) : Prop := Reads w A c ds.length (ds.flatMap copC)
theorem info_cop : (Tryd.prog.info? 23).map (fun i => (i.zero, i.size, i.bytes)) = some (some (.agg #[.int .i64 0, .int .i64 0, .string ⟨#[]⟩, .string ⟨#[]⟩]), 4, 48) := by kernel_rfl
theorem own_pages_ne {w : World} {B B' : Nat} {v u : Value} {n m size size' : Nat} {xs ys : List Value} {e t : TypeId} (h : w.ownsRow B e size v n xs) (k : w.ownsRow B' t size' u m ys) (hne : e ≠ t) : v.ownBlock = none ∨ v.ownBlock ≠ u.ownBlock := by
  rcases h.2 with ⟨rfl, _⟩ | ⟨g, cap, cur, rfl, _, hh, _⟩
  · exact .inl (by simp [Value.ownBlock])
  · right
    rcases k.2 with ⟨rfl, _⟩ | ⟨g', cap', cur', rfl, _, hh', _⟩
    · simp [Value.ownBlock]
    · intro he
      have hgg : g = g' := by simpa [Value.ownBlock] using he
      subst hgg
      rw [hh'] at hh
      injection hh with hh
      injection hh with _ ht
      exact hne ht.symm
/-- One text is appended. -/
theorem wp_push_text {o : Oper} {a : Act} {K : Act → World → Prop} {Q : Exit → Act → World → Prop} (w : World) (s x : Operand)
    (ho : o.op = .call { callee := .builtin .append, args := #[s, x], argTypes := #[34, 34] })
    (B : Nat) (v : Value) (ps : List ByteArray) (hs : a.eval s = v) (hown : OwnT B w v ps) (g : Nat) (r : ByteArray) (hx : a.eval x = .slice (some ⟨g, 0, none⟩) 1 1) (hg : w.heap[g]? = some (.cells #[.string r] 9 (0, 0)))
    (hlen : ps.length + 1 ≤ 1048576) (hbase : B ≤ w.heap.size)
    (h : ∀ v' w', OwnT B w' v' (ps ++ [r]) → w.grownBy w' v.ownBlock → Below B w w' → K (a.put o.dst v') w') : o.wp Tryd.prog a w K Q := by
  obtain ⟨i0, hi, hz0, hz1, hz2⟩ := info_parts info_string
  refine wp_appR w s x 34 9 i0 _ 1 16 Tryd.underlying34 hi hz0 hz1 hz2 rfl (by omega) ho B v ps.length (ps.map Value.string) hs hown _ 1 1 [.string r] hx (reads_blk (cs := [.string r]) hg (Nat.le_refl _)) rfl (by simp [Value.oneCell']) hlen (by omega) hbase ?_
  intro v' w' h1 h2 h3
  refine h v' w' ?_ h2 h3
  unfold OwnT
  rw [List.length_append, List.map_append]
  exact h1
/-- One change is appended. -/
theorem wp_push_cop {o : Oper} {a : Act} {K : Act → World → Prop} {Q : Exit → Act → World → Prop} (w : World) (s x : Operand)
    (ho : o.op = .call { callee := .builtin .append, args := #[s, x], argTypes := #[33, 33] })
    (B : Nat) (v : Value) (ds : List Cop) (hs : a.eval s = v) (hown : OwnO B w v ds) (g : Nat) (d : Cop) (hx : a.eval x = .slice (some ⟨g, 0, none⟩) 1 1) (hg : w.heap[g]? = some (.cells #[.int .i64 d.kind, .int .i64 d.slot, .string d.old, .string d.new] 23 (0, 0)))
    (hlen : ds.length + 1 ≤ 1048576) (hbase : B ≤ w.heap.size)
    (h : ∀ v' w', OwnO B w' v' (ds ++ [d]) → w.grownBy w' v.ownBlock → Below B w w' → K (a.put o.dst v') w') : o.wp Tryd.prog a w K Q := by
  obtain ⟨i0, hi, hz0, hz1, hz2⟩ := info_parts info_cop
  refine wp_appR w s x 33 23 i0 _ 4 48 Tryd.underlying33 hi hz0 hz1 hz2 rfl (by omega) ho B v ds.length (ds.flatMap copC) hs hown _ 1 1 (copC d) hx (reads_blk (cs := copC d) hg (Nat.le_refl _)) rfl (by simp [Value.oneCell']) hlen (by omega) hbase ?_
  intro v' w' h1 h2 h3
  refine h v' w' ?_ h2 h3
  unfold OwnO
  rw [List.length_append, List.flatMap_append]
  simpa using h1
/-- A text of an own row is read. -/
theorem own_text {B : Nat} {w : World} {v : Value} {ps : List ByteArray} (h : OwnT B w v ps) {j : Nat} {q : ByteArray} (hq : ps[j]? = some q) : ∃ g c, v = .slice (some ⟨g, 0, none⟩) ps.length c ∧ B ≤ g ∧ ps.length ≤ c ∧ g < w.heap.size ∧ w.cell? ⟨g, j, none⟩ = some (.string q) := by
  have hj := (List.getElem?_eq_some_iff.1 hq).1
  rcases h.2 with ⟨_, hz⟩ | ⟨g, cap, cur, hv, hb, hh, hn, hm, hs, ht⟩
  · omega
  · refine ⟨g, cap, hv, hb, hn, heapLt hh, ?_⟩
    have h5 : cur.toList[j]? = some (Value.string q) := by
      have h6 : (ps.map Value.string)[j]? = some (Value.string q) := by rw [List.getElem?_map, hq]; rfl
      rw [← ht, List.getElem?_take] at h6
      split at h6
      · exact h6
      · cases h6
    rw [blkCell hh]
    simpa using h5
theorem own_first {w : World} {B : Nat} (p : ByteArray) (hb : B ≤ w.heap.size) : OwnT B (w.alloc (.cells #[.string p] 9)) (.slice (some ⟨w.heap.size, 0, none⟩) 1 1) [p] :=
  ⟨by simp, .inr ⟨w.heap.size, 1, #[.string p], rfl, hb, heap_alloc_new w _, Nat.le_refl _, by simp [maxLen], rfl, by simp⟩⟩
end Go.Proofs.YtkndifannjpbcaaDoor
/- The walk of ChangeRow. -/
namespace Go.Proofs.YtkndifannjpbcaaDoor
open Go.RowKit

theorem ownBlkNe {w : World} {B g n size : Nat} {e t : TypeId} {v : Value} {xs : List Value} {cs : Array Value} {fr : Nat × Nat} (h : w.ownsRow B e size v n xs) (hg : w.heap[g]? = some (.cells cs t fr)) (hne : e ≠ t) : v.ownBlock ≠ some g := by
  rcases h.2 with ⟨rfl, _⟩ | ⟨g', cap, cur, rfl, _, hh, _⟩
  · simp [Value.ownBlock]
  · intro he
    have hgg : g' = g := by simpa [Value.ownBlock] using he
    subst hgg
    rw [hh] at hg
    injection hg with hg
    injection hg with _ ht
    exact hne ht
theorem grownBlk {w w' : World} {row : Option Nat} {g : Nat} {o : Obj} (hg : w.grownBy w' row) (h : w.heap[g]? = some o) (hne : row ≠ some g) : w'.heap[g]? = some o :=
  (hg.block g (heapLt h) (fun e => hne e.symm)).trans h
theorem wantedIf {c : Prop} [Decidable c] {p q : Prop} (hc : c) (h : p) : if c then p else q := by rw [if_pos hc]; exact h
set_option maxRecDepth 100000 in
theorem row_off (p : ByteArray) (l : List Cop) (A : Option Addr) (c : Nat) (w : World) (hv : Vars w) (h : p.size > 600 ∨ l.length > 20 ∨ isPg p = false) :
    Calls Tryd.prog 4 #[.string p, .slice A l.length c] w fun e w' => e = .returned (.bool true) ∧ Below w.heap.size w w' := by
  have HW := Lib.hid (fun W hW => cawake_any W hW)
  have HV := Lib.hid hv
  clear hv
  by_cases h1 : p.size > 600
  · clear h
    go_enter Tryd.func4, Tryd.ntmps4
    go_wp2_with ((go_at_call 6; refine (HW.out _ HV.out).mono ?_; rintro e w2 ⟨rfl, hb2⟩))
    go_ret
    exact ⟨rfl, hb2⟩
  have h1b : p.size ≤ 600 := by omega
  by_cases h2 : l.length > 20
  · clear h
    go_enter Tryd.func4, Tryd.ntmps4
    go_wp2_with ((go_at_call 6; refine (HW.out _ HV.out).mono ?_; rintro e w2 ⟨rfl, hb2⟩))
    go_ret
    exact ⟨rfl, hb2⟩
  have h2b : l.length ≤ 20 := by omega
  have h3 : isPg p = false := by
    rcases h with h | h | h
    · exact absurd h h1
    · exact absurd h h2
    · exact h
  have HP := Lib.hid (fun W => right_any p (by omega) W)
  rw [h3] at HP
  clear h h3
  go_enter Tryd.func4, Tryd.ntmps4
  go_wp2_with (first | (go_at_call 10; refine (HP.out _).mono ?_; rintro e w1 ⟨rfl, hb1⟩) | (go_at_call 6; refine (HW.out _ (HV.out.below hb1)).mono ?_; rintro e w2 ⟨rfl, hb2⟩))
  go_ret
  exact ⟨rfl, joinB hb1 hb2⟩

set_option maxRecDepth 100000 in
set_option maxHeartbeats 8000000 in
theorem row_on (p : ByteArray) (l : List Cop) (A : Option Addr) (c : Nat) (w : World) (hv : Vars w) (hr : ReadsO w A c l) (h1 : p.size ≤ 600) (h2 : l.length ≤ 20) (h3 : isPg p = true) :
    Calls Tryd.prog 4 #[.string p, .slice A l.length c] w fun e w' => e = .returned (.bool true) ∧ Below w.heap.size w w' := by
  have HW := Lib.hid (fun W hW => cawake_any W hW)
  have HV := Lib.hid (fun W (hb : Below w.heap.size w W) => hv.below hb)
  have HR := Lib.hid hr
  have HP := Lib.hid (fun W => right_any p (by omega) W)
  rw [h3] at HP
  have HL := Lib.hid (fun W => lsn_any p (by omega) W)
  have HSL := Lib.hid (fun W => setlsn_any p ((leafP p).lsn : Nat) (by omega) W)
  change Hid (∀ W, Calls _ _ _ _ fun e w' => e = .returned (.string (plB p)) ∧ _) at HSL
  have HC1 := Lib.hid (chain_one h3)
  clear hv hr h3
  generalize plB p = pl at HSL HC1
  generalize ((leafP p).lsn : Nat) = ln at HL HSL
  go_enter Tryd.func4, Tryd.ntmps4
  go_wp2_with (first | (go_at_call 10; refine (HP.out _).mono ?_; rintro e w1 ⟨rfl, hb1⟩) | (go_at_call 11; refine (HL.out _).mono ?_; rintro e w2 ⟨rfl, hb2⟩) | (go_at_call 12; refine (HSL.out _).mono ?_; rintro e w3 ⟨rfl, hb3⟩))
  have HB3 := Lib.hid (joinB (joinB hb1 hb2) hb3)
  have HO3 := Lib.hid (own_first pl HB3.out.size)
  have HN3 := Lib.hid (ownNil (w3.alloc (.cells #[.string pl] 9)) w.heap.size 23 4)
  have HB4 := Lib.hid (pastAlloc (o := .cells #[.string pl] 9) HB3.out)
  clear hb1 hb2 hb3 HB3 HP HL HSL
  go_loopw [5, 6, 7] (fun v5 v6 i wr => ∃ (k : Nat) (ps : List ByteArray) (ds : List Cop), k ≤ l.length ∧ i = .int .i64 k ∧ Chain ps ds ∧ ds.length ≤ k ∧ OwnT w.heap.size wr v5 ps ∧ OwnO w.heap.size wr v6 ds ∧ Below w.heap.size w wr) (fun _ _ i _ => l.length - (intOf i).toNat)
  case atStart => exact ⟨0, [pl], [], Nat.zero_le _, rfl, HC1.out, Nat.le_refl _, HO3.out, HN3.out, HB4.out⟩
  case round =>
    clear HO3 HN3 HB4 HC1
    obtain ⟨k, ps, ds, hk, rfl, hch, hdk, ho5, ho6, hbw⟩ := hrel
    have HCH := Lib.hid hch
    have HO5 := Lib.hid ho5
    have HO6 := Lib.hid ho6
    have HB := Lib.hid hbw
    clear hch ho5 ho6 hbw
    by_cases hlt : k < l.length
    · obtain ⟨b, off, rfl, hc, hbl, hcell⟩ := read_at copC_len HR.out hlt
      have HC := Lib.hid (show ∀ u, Below w.heap.size w u → u.cell? ⟨b, off + k * 4, none⟩ = some (.int .i64 l[k].kind) ∧ u.cell? ⟨b, off + k * 4 + 1, none⟩ = some (.int .i64 l[k].slot) ∧ u.cell? ⟨b, off + k * 4 + 2, none⟩ = some (.string l[k].old) ∧ u.cell? ⟨b, off + k * 4 + 3, none⟩ = some (.string l[k].new) from fun u hu =>
        ⟨(hu.cell (p := ⟨b, off + k * 4, none⟩) hbl).trans (hcell 0 _ rfl), (hu.cell (p := ⟨b, off + k * 4 + 1, none⟩) hbl).trans (hcell 1 _ rfl), (hu.cell (p := ⟨b, off + k * 4 + 2, none⟩) hbl).trans (hcell 2 _ rfl), (hu.cell (p := ⟨b, off + k * 4 + 3, none⟩) hbl).trans (hcell 3 _ rfl)⟩)
      clear hcell
      generalize l[k] = o at HC
      have HOV := Lib.hid (fun h W => over_yes ⟨#[]⟩ o h W)
      have HON := Lib.hid (fun h2 h3 W => over_no ⟨#[]⟩ o (by show 0 ≤ 600; omega) h2 h3 W)
      have HD := Lib.hid (fun q (hq : q.size ≤ 140737488355328) (hn : o.new.size ≤ 140737488355328) W hW => do_any q o hq hn W hW)
      obtain ⟨q0, q1, q2, q3⟩ := HC.out _ HB.out
      by_cases hbig : ¬ (o.old.size ≤ 600 ∧ o.new.size ≤ 600)
      · have HOV2 := Lib.hid (HOV.out (fun h => hbig ⟨h.2.1, h.2.2⟩))
        clear hbig HOV HON HD HCH HO5 HO6 HC
        obtain ⟨kind, slot, old, new⟩ := o
        dsimp only [copV] at *
        go_wp2_with (first | (go_at_call 5; refine (HOV2.out _).mono ?_; rintro e w1 ⟨rfl, hb1⟩) | (go_at_call 6; refine (HW.out _ (HV.out _ (HB.out.trans (hb1.mono HB.out.size)))).mono ?_; rintro e w2 ⟨rfl, hb2⟩))
        go_ret
        exact ⟨rfl, joinB (HB.out.trans (hb1.mono HB.out.size)) hb2⟩
      obtain ⟨z2, z3⟩ : o.old.size ≤ 600 ∧ o.new.size ≤ 600 := Classical.byContradiction fun h => hbig h
      have HZ := Lib.hid (And.intro z2 z3)
      have HON2 := Lib.hid (HON.out z2 z3)
      obtain ⟨q, hq, hqs⟩ := HCH.out.last
      obtain ⟨g, c5, rfl, hg1, hg2, hg3, hqc⟩ := own_text HO5.out hq
      have HQ := Lib.hid hqc
      have HQI := Lib.hid hq
      have HD2 := Lib.hid (HD.out q (by omega) (by omega))
      have hpl := HCH.out.len
      obtain ⟨m, hm⟩ : ∃ m, m = ds.length := ⟨_, rfl⟩
      have HM := Lib.hid hm
      obtain ⟨n, hn⟩ : ∃ n, n = ps.length := ⟨_, rfl⟩
      have HN := Lib.hid hn
      rw [← hn] at hpl hg2 HO5 ⊢
      rw [← hm] at hpl hqc HQ hdk
      have HPL := Lib.hid hpl
      have hn1 : n ≤ 21 := by omega
      have hn2 : 1 ≤ n := by omega
      clear hbig HOV HON HD hq hm hn z2 z3 hqs
      have hidx : ((n : Int) - 1) = (m : Int) := by omega
      have hwm : IntKind.i64.wrap (m : Int) = m := IntWalk.i64_in _ (by omega)
      have hm0 : (0 : Int) ≤ (m : Int) := by omega
      have hmn : (m : Int) < (n : Int) := by omega
      have hmN : m < n := by omega
      have hm21 : m ≤ 21 := by omega
      clear hpl
      have ho := Lib.hid (Eq.refl o)
      cases hrt : rightO q o with
      | false =>
        have HD3 := Lib.hid (by have h := HD2.out; rw [do_no hrt] at h; exact h)
        clear HD2 hrt
        obtain ⟨kind, slot, old, new⟩ := o
        dsimp only [copV, outV] at *
        go_upto_region 10 with (first | (go_at_call 5; refine (HON2.out _).mono ?_; rintro e w1 ⟨rfl, hb1⟩))
        have HB1 := Lib.hid (HB.out.trans (hb1.mono HB.out.size))
        have HO51 := Lib.hid (ownBelow (ownBelow HO5.out hb1) (Below.refl _ w1).drew)
        have HO61 := Lib.hid (ownBelow (ownBelow HO6.out hb1) (Below.refl _ w1).drew)
        have HQ1 := Lib.hid ((hb1.cell (p := ⟨g, m, none⟩) hg3).trans HQ.out)
        have hg4 : g < w1.heap.size := Nat.lt_of_lt_of_le hg3 hb1.size
        clear q0 q1 q2 q3 hb1 HO5 HO6 HQ hqc hg3
        refine wp_region_held_drew (S := (fun u => Below w.heap.size w u ∧ u.cell? ⟨g, m, none⟩ = some (.string q))) (by kernel_rfl) ?_ (fun hHeld => ?_)
        · first | exact hSn | exact ⟨HB1.out.drew, HQ1.out⟩
        refine wpAnyH_take (i := 0) (oi := { dst := some 45, op := _, type := _, pos := _, after := _, guard := _ }) (v := ?_) rfl (by kernel_rfl) (by kernel_rfl) (by kernel_rfl) (fun _ _ _ h => h) (Or.inl ⟨by rfl, ?_⟩) (by assumption) ?_
        rotate_left
        · intro u hSu; obtain ⟨hSa, hSb⟩ := hSu; obtain ⟨q0, q1, q2, q3⟩ := HC.out _ hSa; clear hSa; go_simp; (try with_reducible rfl)
        try simp only [Act.put, List.setIfInBounds_toArray, List.set_cons_zero, List.set_cons_succ]
        refine wpAnyH_take (i := 1) (oi := { dst := some 46, op := _, type := _, pos := _, after := _, guard := _ }) (v := ?_) rfl (by kernel_rfl) (by kernel_rfl) (by kernel_rfl) (fun _ _ _ h => h) (Or.inl ⟨by rfl, ?_⟩) (by assumption) ?_
        rotate_left
        · intro u hSu; obtain ⟨hSa, hSb⟩ := hSu; obtain ⟨q0, q1, q2, q3⟩ := HC.out _ hSa; clear hSa; go_simp; (try with_reducible rfl)
        try simp only [Act.put, List.setIfInBounds_toArray, List.set_cons_zero, List.set_cons_succ]
        refine wpAnyH_take (i := 2) (oi := { dst := some 47, op := _, type := _, pos := _, after := _, guard := _ }) (v := ?_) rfl (by kernel_rfl) (by kernel_rfl) (by kernel_rfl) (fun _ _ _ h => h) (Or.inl ⟨by rfl, ?_⟩) (by assumption) ?_
        rotate_left
        · intro u hSu; obtain ⟨hSa, hSb⟩ := hSu; obtain ⟨q0, q1, q2, q3⟩ := HC.out _ hSa; clear hSa; go_simp; (try with_reducible rfl)
        try simp only [Act.put, List.setIfInBounds_toArray, List.set_cons_zero, List.set_cons_succ]
        refine wpAnyH_take (i := 3) (oi := { dst := some 48, op := _, type := _, pos := _, after := _, guard := _ }) (v := ?_) rfl (by kernel_rfl) (by kernel_rfl) (by kernel_rfl) (fun _ _ _ h => h) (Or.inl ⟨by rfl, ?_⟩) (by assumption) ?_
        rotate_left
        · intro u hSu; obtain ⟨hSa, hSb⟩ := hSu; obtain ⟨q0, q1, q2, q3⟩ := HC.out _ hSa; clear hSa; go_simp; (try with_reducible rfl)
        try simp only [Act.put, List.setIfInBounds_toArray, List.set_cons_zero, List.set_cons_succ]
        refine wpAnyH_take (i := 4) (oi := { dst := some 49, op := _, type := _, pos := _, after := _, guard := _ }) (v := ?_) rfl (by kernel_rfl) (by kernel_rfl) (by kernel_rfl) (fun _ _ _ h => h) (Or.inl ⟨by rfl, ?_⟩) (by assumption) ?_
        rotate_left
        · intro u hSu; obtain ⟨hSa, hSb⟩ := hSu; obtain ⟨q0, q1, q2, q3⟩ := HC.out _ hSa; clear hSa; go_simp; (try with_reducible rfl)
        try simp only [Act.put, List.setIfInBounds_toArray, List.set_cons_zero, List.set_cons_succ]
        refine wpAnyH_take (i := 5) (oi := { dst := some 50, op := _, type := _, pos := _, after := _, guard := _ }) (v := ?_) rfl (by kernel_rfl) (by kernel_rfl) (by kernel_rfl) (fun _ _ _ h => h) (Or.inl ⟨by rfl, ?_⟩) (by assumption) ?_
        rotate_left
        · intro u hSu; obtain ⟨hSa, hSb⟩ := hSu; obtain ⟨q0, q1, q2, q3⟩ := HC.out _ hSa; clear hSa; go_simp; (try with_reducible rfl)
        try simp only [Act.put, List.setIfInBounds_toArray, List.set_cons_zero, List.set_cons_succ]
        refine wpAnyH_take (i := 6) (oi := { dst := some 51, op := _, type := _, pos := _, after := _, guard := _ }) (v := ?_) rfl (by kernel_rfl) (by kernel_rfl) (by kernel_rfl) (fun _ _ _ h => h) (Or.inl ⟨by rfl, ?_⟩) (by assumption) ?_
        rotate_left
        · intro u hSu; obtain ⟨hSa, hSb⟩ := hSu; obtain ⟨q0, q1, q2, q3⟩ := HC.out _ hSa; clear hSa; go_simp; (try with_reducible rfl)
        try simp only [Act.put, List.setIfInBounds_toArray, List.set_cons_zero, List.set_cons_succ]
        refine wpAnyH_take (i := 7) (oi := { dst := some 52, op := _, type := _, pos := _, after := _, guard := _ }) (v := ?_) rfl (by kernel_rfl) (by kernel_rfl) (by kernel_rfl) (fun _ _ _ h => h) (Or.inl ⟨by rfl, ?_⟩) (by assumption) ?_
        rotate_left
        · intro u hSu; obtain ⟨hSa, hSb⟩ := hSu; obtain ⟨q0, q1, q2, q3⟩ := HC.out _ hSa; clear hSa; go_simp; (try with_reducible rfl)
        try simp only [Act.put, List.setIfInBounds_toArray, List.set_cons_zero, List.set_cons_succ]
        refine wpAnyH_take (i := 8) (oi := { dst := some 53, op := _, type := _, pos := _, after := _, guard := _ }) (v := ?_) rfl (by kernel_rfl) (by kernel_rfl) (by kernel_rfl) (fun _ _ _ h => h) (Or.inl ⟨by rfl, ?_⟩) (by assumption) ?_
        rotate_left
        · intro u hSu; obtain ⟨hSa, hSb⟩ := hSu; obtain ⟨q0, q1, q2, q3⟩ := HC.out _ hSa; clear hSa; go_simp; (try with_reducible rfl)
        try simp only [Act.put, List.setIfInBounds_toArray, List.set_cons_zero, List.set_cons_succ]
        refine wpAnyH_take (i := 9) (oi := { dst := some 54, op := _, type := _, pos := _, after := _, guard := _ }) (v := ?_) rfl (by kernel_rfl) (by kernel_rfl) (by kernel_rfl) (fun _ _ _ h => h) (Or.inl ⟨by rfl, ?_⟩) (by assumption) ?_
        rotate_left
        · intro u hSu; obtain ⟨hSa, hSb⟩ := hSu; obtain ⟨q0, q1, q2, q3⟩ := HC.out _ hSa; clear hSa; go_simp; (try with_reducible rfl)
        try simp only [Act.put, List.setIfInBounds_toArray, List.set_cons_zero, List.set_cons_succ]
        refine wpAnyH_ready (rs := [10]) (by kernel_rfl) (by simp) ?_
        refine AllReadyH.cons (o := { dst := some 55, op := _, type := _, pos := _, after := _, guard := _ }) rfl (fun K hK => ?_) ?_
        rotate_left
        · exact AllReadyH.nil
        go_simp
        refine (HD3.out _ (HV.out _ HB1.out.drew)).mono ?_; rintro e w2 ⟨rfl, hb2⟩; have hSn := And.intro (HB1.out.drew.trans (hb2.mono HB1.out.size)) ((hb2.cell (p := ⟨g, m, none⟩) hg4).trans HQ1.out); try go_simp
        refine hK.out _ _ ?_ (fun hHeld => ?_)
        · first | exact hSn | exact ⟨HB1.out.drew, HQ1.out⟩
        clear hK K
        try simp only [Act.put, List.setIfInBounds_toArray, List.set_cons_zero, List.set_cons_succ]
        refine wpAnyH_take (i := 11) (oi := { dst := some 44, op := _, type := _, pos := _, after := _, guard := _ }) (v := ?_) rfl (by kernel_rfl) (by kernel_rfl) (by kernel_rfl) (fun _ _ _ h => h) (Or.inl ⟨by rfl, ?_⟩) (by assumption) ?_
        rotate_left
        · intro u hSu; obtain ⟨hSa, hSb⟩ := hSu; obtain ⟨q0, q1, q2, q3⟩ := HC.out _ hSa; clear hSa; go_simp; (try with_reducible rfl)
        try simp only [Act.put, List.setIfInBounds_toArray, List.set_cons_zero, List.set_cons_succ]
        refine wpAnyH_take (i := 12) (oi := { dst := some 56, op := _, type := _, pos := _, after := _, guard := _ }) (v := ?_) rfl (by kernel_rfl) (by kernel_rfl) (by kernel_rfl) (fun _ _ _ h => h) (Or.inl ⟨by rfl, ?_⟩) (by assumption) ?_
        rotate_left
        · intro u hSu; obtain ⟨hSa, hSb⟩ := hSu; obtain ⟨q0, q1, q2, q3⟩ := HC.out _ hSa; clear hSa; go_simp; (try with_reducible rfl)
        try simp only [Act.put, List.setIfInBounds_toArray, List.set_cons_zero, List.set_cons_succ]
        refine wpAnyH_take (i := 13) (oi := { dst := some 57, op := _, type := _, pos := _, after := _, guard := _ }) (v := ?_) rfl (by kernel_rfl) (by kernel_rfl) (by kernel_rfl) (fun _ _ _ h => h) (Or.inl ⟨by rfl, ?_⟩) (by assumption) ?_
        rotate_left
        · intro u hSu; obtain ⟨hSa, hSb⟩ := hSu; obtain ⟨q0, q1, q2, q3⟩ := HC.out _ hSa; clear hSa; go_simp; (try with_reducible rfl)
        try simp only [Act.put, List.setIfInBounds_toArray, List.set_cons_zero, List.set_cons_succ]
        refine wpAnyH_take (i := 14) (oi := { dst := some 8, op := _, type := _, pos := _, after := _, guard := _ }) (v := ?_) rfl (by kernel_rfl) (by kernel_rfl) (by kernel_rfl) (fun _ _ _ h => h) (Or.inl ⟨by rfl, ?_⟩) (by assumption) ?_
        rotate_left
        · intro u hSu; obtain ⟨hSa, hSb⟩ := hSu; obtain ⟨q0, q1, q2, q3⟩ := HC.out _ hSa; clear hSa; go_simp; (try with_reducible rfl)
        try simp only [Act.put, List.setIfInBounds_toArray, List.set_cons_zero, List.set_cons_succ]
        refine wpAnyH_take (i := 15) (oi := { dst := some 9, op := _, type := _, pos := _, after := _, guard := _ }) (v := ?_) rfl (by kernel_rfl) (by kernel_rfl) (by kernel_rfl) (fun _ _ _ h => h) (Or.inl ⟨by rfl, ?_⟩) (by assumption) ?_
        rotate_left
        · intro u hSu; obtain ⟨hSa, hSb⟩ := hSu; obtain ⟨q0, q1, q2, q3⟩ := HC.out _ hSa; clear hSa; go_simp; (try with_reducible rfl)
        try simp only [Act.put, List.setIfInBounds_toArray, List.set_cons_zero, List.set_cons_succ]
        refine wpAnyH_done (by kernel_rfl) ?_ _
        have HB2 := Lib.hid (HB1.out.drew.trans (hb2.mono HB1.out.size))
        have HO52 := Lib.hid (ownBelow HO51.out hb2)
        have HO62 := Lib.hid (ownBelow HO61.out hb2)
        clear hb2 hSn hHeld HB1 HO51 HO61 HQ1 HB
        go_wp2_with fail
        go_roundw
        case rel => exact ⟨k + 1, ps, ds, by omega, by go_num, HCH.out, by rw [← HM.out]; omega, HO52.out, HO62.out, HB2.out⟩
        case measure => simp [intOf]; omega
      | true =>
        have HD3 := Lib.hid (by have h := HD2.out; rw [(do_back hrt).1] at h; exact h)
        have HCN := Lib.hid (HCH.out.push HQI.out hrt HZ.out)
        clear HD2 hrt HQI HCH
        generalize (madeO q o).1 = r at HD3 HCN
        obtain ⟨kind, slot, old, new⟩ := o
        dsimp only [copV, outV] at *
        go_upto_region 10 with (first | (go_at_call 5; refine (HON2.out _).mono ?_; rintro e w1 ⟨rfl, hb1⟩))
        have HB1 := Lib.hid (HB.out.trans (hb1.mono HB.out.size))
        have HO51 := Lib.hid (ownBelow (ownBelow HO5.out hb1) (Below.refl _ w1).drew)
        have HO61 := Lib.hid (ownBelow (ownBelow HO6.out hb1) (Below.refl _ w1).drew)
        have HQ1 := Lib.hid ((hb1.cell (p := ⟨g, m, none⟩) hg3).trans HQ.out)
        have hg4 : g < w1.heap.size := Nat.lt_of_lt_of_le hg3 hb1.size
        clear q0 q1 q2 q3 hb1 HO5 HO6 HQ hqc hg3
        refine wp_region_held_drew (S := (fun u => Below w.heap.size w u ∧ u.cell? ⟨g, m, none⟩ = some (.string q))) (by kernel_rfl) ?_ (fun hHeld => ?_)
        · first | exact hSn | exact ⟨HB1.out.drew, HQ1.out⟩
        refine wpAnyH_take (i := 0) (oi := { dst := some 45, op := _, type := _, pos := _, after := _, guard := _ }) (v := ?_) rfl (by kernel_rfl) (by kernel_rfl) (by kernel_rfl) (fun _ _ _ h => h) (Or.inl ⟨by rfl, ?_⟩) (by assumption) ?_
        rotate_left
        · intro u hSu; obtain ⟨hSa, hSb⟩ := hSu; obtain ⟨q0, q1, q2, q3⟩ := HC.out _ hSa; clear hSa; go_simp; (try with_reducible rfl)
        try simp only [Act.put, List.setIfInBounds_toArray, List.set_cons_zero, List.set_cons_succ]
        refine wpAnyH_take (i := 1) (oi := { dst := some 46, op := _, type := _, pos := _, after := _, guard := _ }) (v := ?_) rfl (by kernel_rfl) (by kernel_rfl) (by kernel_rfl) (fun _ _ _ h => h) (Or.inl ⟨by rfl, ?_⟩) (by assumption) ?_
        rotate_left
        · intro u hSu; obtain ⟨hSa, hSb⟩ := hSu; obtain ⟨q0, q1, q2, q3⟩ := HC.out _ hSa; clear hSa; go_simp; (try with_reducible rfl)
        try simp only [Act.put, List.setIfInBounds_toArray, List.set_cons_zero, List.set_cons_succ]
        refine wpAnyH_take (i := 2) (oi := { dst := some 47, op := _, type := _, pos := _, after := _, guard := _ }) (v := ?_) rfl (by kernel_rfl) (by kernel_rfl) (by kernel_rfl) (fun _ _ _ h => h) (Or.inl ⟨by rfl, ?_⟩) (by assumption) ?_
        rotate_left
        · intro u hSu; obtain ⟨hSa, hSb⟩ := hSu; obtain ⟨q0, q1, q2, q3⟩ := HC.out _ hSa; clear hSa; go_simp; (try with_reducible rfl)
        try simp only [Act.put, List.setIfInBounds_toArray, List.set_cons_zero, List.set_cons_succ]
        refine wpAnyH_take (i := 3) (oi := { dst := some 48, op := _, type := _, pos := _, after := _, guard := _ }) (v := ?_) rfl (by kernel_rfl) (by kernel_rfl) (by kernel_rfl) (fun _ _ _ h => h) (Or.inl ⟨by rfl, ?_⟩) (by assumption) ?_
        rotate_left
        · intro u hSu; obtain ⟨hSa, hSb⟩ := hSu; obtain ⟨q0, q1, q2, q3⟩ := HC.out _ hSa; clear hSa; go_simp; (try with_reducible rfl)
        try simp only [Act.put, List.setIfInBounds_toArray, List.set_cons_zero, List.set_cons_succ]
        refine wpAnyH_take (i := 4) (oi := { dst := some 49, op := _, type := _, pos := _, after := _, guard := _ }) (v := ?_) rfl (by kernel_rfl) (by kernel_rfl) (by kernel_rfl) (fun _ _ _ h => h) (Or.inl ⟨by rfl, ?_⟩) (by assumption) ?_
        rotate_left
        · intro u hSu; obtain ⟨hSa, hSb⟩ := hSu; obtain ⟨q0, q1, q2, q3⟩ := HC.out _ hSa; clear hSa; go_simp; (try with_reducible rfl)
        try simp only [Act.put, List.setIfInBounds_toArray, List.set_cons_zero, List.set_cons_succ]
        refine wpAnyH_take (i := 5) (oi := { dst := some 50, op := _, type := _, pos := _, after := _, guard := _ }) (v := ?_) rfl (by kernel_rfl) (by kernel_rfl) (by kernel_rfl) (fun _ _ _ h => h) (Or.inl ⟨by rfl, ?_⟩) (by assumption) ?_
        rotate_left
        · intro u hSu; obtain ⟨hSa, hSb⟩ := hSu; obtain ⟨q0, q1, q2, q3⟩ := HC.out _ hSa; clear hSa; go_simp; (try with_reducible rfl)
        try simp only [Act.put, List.setIfInBounds_toArray, List.set_cons_zero, List.set_cons_succ]
        refine wpAnyH_take (i := 6) (oi := { dst := some 51, op := _, type := _, pos := _, after := _, guard := _ }) (v := ?_) rfl (by kernel_rfl) (by kernel_rfl) (by kernel_rfl) (fun _ _ _ h => h) (Or.inl ⟨by rfl, ?_⟩) (by assumption) ?_
        rotate_left
        · intro u hSu; obtain ⟨hSa, hSb⟩ := hSu; obtain ⟨q0, q1, q2, q3⟩ := HC.out _ hSa; clear hSa; go_simp; (try with_reducible rfl)
        try simp only [Act.put, List.setIfInBounds_toArray, List.set_cons_zero, List.set_cons_succ]
        refine wpAnyH_take (i := 7) (oi := { dst := some 52, op := _, type := _, pos := _, after := _, guard := _ }) (v := ?_) rfl (by kernel_rfl) (by kernel_rfl) (by kernel_rfl) (fun _ _ _ h => h) (Or.inl ⟨by rfl, ?_⟩) (by assumption) ?_
        rotate_left
        · intro u hSu; obtain ⟨hSa, hSb⟩ := hSu; obtain ⟨q0, q1, q2, q3⟩ := HC.out _ hSa; clear hSa; go_simp; (try with_reducible rfl)
        try simp only [Act.put, List.setIfInBounds_toArray, List.set_cons_zero, List.set_cons_succ]
        refine wpAnyH_take (i := 8) (oi := { dst := some 53, op := _, type := _, pos := _, after := _, guard := _ }) (v := ?_) rfl (by kernel_rfl) (by kernel_rfl) (by kernel_rfl) (fun _ _ _ h => h) (Or.inl ⟨by rfl, ?_⟩) (by assumption) ?_
        rotate_left
        · intro u hSu; obtain ⟨hSa, hSb⟩ := hSu; obtain ⟨q0, q1, q2, q3⟩ := HC.out _ hSa; clear hSa; go_simp; (try with_reducible rfl)
        try simp only [Act.put, List.setIfInBounds_toArray, List.set_cons_zero, List.set_cons_succ]
        refine wpAnyH_take (i := 9) (oi := { dst := some 54, op := _, type := _, pos := _, after := _, guard := _ }) (v := ?_) rfl (by kernel_rfl) (by kernel_rfl) (by kernel_rfl) (fun _ _ _ h => h) (Or.inl ⟨by rfl, ?_⟩) (by assumption) ?_
        rotate_left
        · intro u hSu; obtain ⟨hSa, hSb⟩ := hSu; obtain ⟨q0, q1, q2, q3⟩ := HC.out _ hSa; clear hSa; go_simp; (try with_reducible rfl)
        try simp only [Act.put, List.setIfInBounds_toArray, List.set_cons_zero, List.set_cons_succ]
        refine wpAnyH_ready (rs := [10]) (by kernel_rfl) (by simp) ?_
        refine AllReadyH.cons (o := { dst := some 55, op := _, type := _, pos := _, after := _, guard := _ }) rfl (fun K hK => ?_) ?_
        rotate_left
        · exact AllReadyH.nil
        go_simp
        refine (HD3.out _ (HV.out _ HB1.out.drew)).mono ?_; rintro e w2 ⟨rfl, hb2⟩; have hSn := And.intro (HB1.out.drew.trans (hb2.mono HB1.out.size)) ((hb2.cell (p := ⟨g, m, none⟩) hg4).trans HQ1.out); try go_simp
        refine hK.out _ _ ?_ (fun hHeld => ?_)
        · first | exact hSn | exact ⟨HB1.out.drew, HQ1.out⟩
        clear hK K
        try simp only [Act.put, List.setIfInBounds_toArray, List.set_cons_zero, List.set_cons_succ]
        refine wpAnyH_take (i := 11) (oi := { dst := some 44, op := _, type := _, pos := _, after := _, guard := _ }) (v := ?_) rfl (by kernel_rfl) (by kernel_rfl) (by kernel_rfl) (fun _ _ _ h => h) (Or.inl ⟨by rfl, ?_⟩) (by assumption) ?_
        rotate_left
        · intro u hSu; obtain ⟨hSa, hSb⟩ := hSu; obtain ⟨q0, q1, q2, q3⟩ := HC.out _ hSa; clear hSa; go_simp; (try with_reducible rfl)
        try simp only [Act.put, List.setIfInBounds_toArray, List.set_cons_zero, List.set_cons_succ]
        refine wpAnyH_take (i := 12) (oi := { dst := some 56, op := _, type := _, pos := _, after := _, guard := _ }) (v := ?_) rfl (by kernel_rfl) (by kernel_rfl) (by kernel_rfl) (fun _ _ _ h => h) (Or.inl ⟨by rfl, ?_⟩) (by assumption) ?_
        rotate_left
        · intro u hSu; obtain ⟨hSa, hSb⟩ := hSu; obtain ⟨q0, q1, q2, q3⟩ := HC.out _ hSa; clear hSa; go_simp; (try with_reducible rfl)
        try simp only [Act.put, List.setIfInBounds_toArray, List.set_cons_zero, List.set_cons_succ]
        refine wpAnyH_take (i := 13) (oi := { dst := some 57, op := _, type := _, pos := _, after := _, guard := _ }) (v := ?_) rfl (by kernel_rfl) (by kernel_rfl) (by kernel_rfl) (fun _ _ _ h => h) (Or.inl ⟨by rfl, ?_⟩) (by assumption) ?_
        rotate_left
        · intro u hSu; obtain ⟨hSa, hSb⟩ := hSu; obtain ⟨q0, q1, q2, q3⟩ := HC.out _ hSa; clear hSa; go_simp; (try with_reducible rfl)
        try simp only [Act.put, List.setIfInBounds_toArray, List.set_cons_zero, List.set_cons_succ]
        refine wpAnyH_take (i := 14) (oi := { dst := some 8, op := _, type := _, pos := _, after := _, guard := _ }) (v := ?_) rfl (by kernel_rfl) (by kernel_rfl) (by kernel_rfl) (fun _ _ _ h => h) (Or.inl ⟨by rfl, ?_⟩) (by assumption) ?_
        rotate_left
        · intro u hSu; obtain ⟨hSa, hSb⟩ := hSu; obtain ⟨q0, q1, q2, q3⟩ := HC.out _ hSa; clear hSa; go_simp; (try with_reducible rfl)
        try simp only [Act.put, List.setIfInBounds_toArray, List.set_cons_zero, List.set_cons_succ]
        refine wpAnyH_take (i := 15) (oi := { dst := some 9, op := _, type := _, pos := _, after := _, guard := _ }) (v := ?_) rfl (by kernel_rfl) (by kernel_rfl) (by kernel_rfl) (fun _ _ _ h => h) (Or.inl ⟨by rfl, ?_⟩) (by assumption) ?_
        rotate_left
        · intro u hSu; obtain ⟨hSa, hSb⟩ := hSu; obtain ⟨q0, q1, q2, q3⟩ := HC.out _ hSa; clear hSa; go_simp; (try with_reducible rfl)
        try simp only [Act.put, List.setIfInBounds_toArray, List.set_cons_zero, List.set_cons_succ]
        refine wpAnyH_done (by kernel_rfl) ?_ _
        have HB2 := Lib.hid (HB1.out.drew.trans (hb2.mono HB1.out.size))
        have HO52 := Lib.hid (ownBelow HO51.out hb2)
        have HO62 := Lib.hid (ownBelow HO61.out hb2)
        clear hb2 hSn hHeld HB1 HO51 HO61 HQ1 HB
        go_upto_region 12 with fail
        refine wp_region_held_drew (S := (fun u => Below w.heap.size w u)) (by kernel_rfl) HB2.out.drew (fun hHeld => ?_)
        obtain ⟨w3, hw3⟩ : ∃ x, x = w2.drew := ⟨_, rfl⟩
        have HO53 := Lib.hid (ownBelow HO52.out (Below.refl _ w2).drew)
        have HO63 := Lib.hid (ownBelow HO62.out (Below.refl _ w2).drew)
        rw [← hw3] at hHeld HO53 HO63 ⊢
        have HB3 := Lib.hid hHeld
        clear hw3 HO52 HO62 HB2
        refine wpAnyH_take (i := 0) (oi := { dst := some 60, op := _, type := _, pos := _, after := _, guard := _ }) (v := ?_) rfl (by kernel_rfl) (by kernel_rfl) (by kernel_rfl) (fun _ _ _ h => h) (Or.inl ⟨by rfl, ?_⟩) (by assumption) ?_
        rotate_left
        · intro u hSu; obtain ⟨q0, q1, q2, q3⟩ := HC.out _ hSu; clear hSu; go_simp; (try with_reducible rfl)
        try simp only [Act.put, List.setIfInBounds_toArray, List.set_cons_zero, List.set_cons_succ]
        refine wpAnyH_take (i := 1) (oi := { dst := some 61, op := _, type := _, pos := _, after := _, guard := _ }) (v := ?_) rfl (by kernel_rfl) (by kernel_rfl) (by kernel_rfl) (fun _ _ _ h => h) (Or.inl ⟨by rfl, ?_⟩) (by assumption) ?_
        rotate_left
        · intro u hSu; obtain ⟨q0, q1, q2, q3⟩ := HC.out _ hSu; clear hSu; go_simp; (try with_reducible rfl)
        try simp only [Act.put, List.setIfInBounds_toArray, List.set_cons_zero, List.set_cons_succ]
        refine wpAnyH_take (i := 4) (oi := { dst := some 64, op := _, type := _, pos := _, after := _, guard := _ }) (v := ?_) rfl (by kernel_rfl) (by kernel_rfl) (by kernel_rfl) (fun _ _ _ h => h) (Or.inl ⟨by rfl, ?_⟩) (by assumption) ?_
        rotate_left
        · intro u hSu; obtain ⟨q0, q1, q2, q3⟩ := HC.out _ hSu; clear hSu; go_simp; (try with_reducible rfl)
        try simp only [Act.put, List.setIfInBounds_toArray, List.set_cons_zero, List.set_cons_succ]
        refine wpAnyH_take (i := 5) (oi := { dst := some 65, op := _, type := _, pos := _, after := _, guard := _ }) (v := ?_) rfl (by kernel_rfl) (by kernel_rfl) (by kernel_rfl) (fun _ _ _ h => h) (Or.inl ⟨by rfl, ?_⟩) (by assumption) ?_
        rotate_left
        · intro u hSu; obtain ⟨q0, q1, q2, q3⟩ := HC.out _ hSu; clear hSu; go_simp; (try with_reducible rfl)
        try simp only [Act.put, List.setIfInBounds_toArray, List.set_cons_zero, List.set_cons_succ]
        refine wpAnyH_take (i := 6) (oi := { dst := some 66, op := _, type := _, pos := _, after := _, guard := _ }) (v := ?_) rfl (by kernel_rfl) (by kernel_rfl) (by kernel_rfl) (fun _ _ _ h => h) (Or.inl ⟨by rfl, ?_⟩) (by assumption) ?_
        rotate_left
        · intro u hSu; obtain ⟨q0, q1, q2, q3⟩ := HC.out _ hSu; clear hSu; go_simp; (try with_reducible rfl)
        try simp only [Act.put, List.setIfInBounds_toArray, List.set_cons_zero, List.set_cons_succ]
        refine wpAnyH_take (i := 7) (oi := { dst := some 67, op := _, type := _, pos := _, after := _, guard := _ }) (v := ?_) rfl (by kernel_rfl) (by kernel_rfl) (by kernel_rfl) (fun _ _ _ h => h) (Or.inl ⟨by rfl, ?_⟩) (by assumption) ?_
        rotate_left
        · intro u hSu; obtain ⟨q0, q1, q2, q3⟩ := HC.out _ hSu; clear hSu; go_simp; (try with_reducible rfl)
        try simp only [Act.put, List.setIfInBounds_toArray, List.set_cons_zero, List.set_cons_succ]
        refine wpAnyH_take (i := 8) (oi := { dst := some 68, op := _, type := _, pos := _, after := _, guard := _ }) (v := ?_) rfl (by kernel_rfl) (by kernel_rfl) (by kernel_rfl) (fun _ _ _ h => h) (Or.inl ⟨by rfl, ?_⟩) (by assumption) ?_
        rotate_left
        · intro u hSu; obtain ⟨q0, q1, q2, q3⟩ := HC.out _ hSu; clear hSu; go_simp; (try with_reducible rfl)
        try simp only [Act.put, List.setIfInBounds_toArray, List.set_cons_zero, List.set_cons_succ]
        refine wpAnyH_ready (rs := [2, 9]) (by kernel_rfl) (by simp) ?_
        refine (AllReadyH.cons (o := { dst := some 62, op := _, type := _, pos := _, after := _, guard := _ }) rfl (fun K hK => ?_) (AllReadyH.cons (o := { dst := some 69, op := _, type := _, pos := _, after := _, guard := _ }) rfl (fun K hK => ?_) AllReadyH.nil))
        · refine wantedIf (by rfl) ?_
          go_simp
          refine hK.out _ (w3.alloc (.cells #[.string r] 9)) ?_ (fun hHeld => ?_)
          · exact HB3.out.alloc HB3.out.size _
          clear hK K
          try simp only [Act.put, List.setIfInBounds_toArray, List.set_cons_zero, List.set_cons_succ]
          have hG := heap_alloc_new w3 (.cells #[.string r] 9)
          have hT := ownBelow HO53.out (allocB w3 (.cells #[.string r] 9))
          have hO := ownBelow HO63.out (allocB w3 (.cells #[.string r] 9))
          have hB := HB3.out.alloc HB3.out.size (.cells #[.string r] 9)
          obtain ⟨g4, hg4⟩ : ∃ x, x = w3.heap.size := ⟨_, rfl⟩
          rw [← hg4] at hG ⊢
          obtain ⟨w4, hw4⟩ : ∃ x, x = w3.alloc (.cells #[.string r] 9) := ⟨_, rfl⟩
          rw [← hw4] at hG hT hO hB hHeld ⊢
          have HG4 := Lib.hid hG; have HT4 := Lib.hid hT; have HP4 := Lib.hid hO; have HB4 := Lib.hid hB
          clear hG hT hO hB hw4 hg4
          refine wpAnyH_ready (rs := [3, 9]) (by kernel_rfl) (by simp) ?_
          refine (AllReadyH.cons (o := { dst := some 63, op := _, type := _, pos := _, after := _, guard := _ }) rfl (fun K hK => ?_) (AllReadyH.cons (o := { dst := some 69, op := _, type := _, pos := _, after := _, guard := _ }) rfl (fun K hK => ?_) AllReadyH.nil))
          · refine wantedIf (by rfl) ?_
            refine wp_push_text w4 (.tmp 60) (.tmp 62) rfl w.heap.size _ ps rfl HT4.out g4 r rfl HG4.out (by have := HN.out; omega) HB4.out.size ?_
            intro v5 w5 ho hg hb
            refine hK.out _ _ (HB4.out.trans hb) (fun hHeld => ?_)
            clear hK K
            try simp only [Act.put, List.setIfInBounds_toArray, List.set_cons_zero, List.set_cons_succ]
            have HT5 := Lib.hid ho; have HP5 := Lib.hid (HP4.out.kept hg (own_pages_ne HP4.out HT4.out (by decide))); have HB5 := Lib.hid (HB4.out.trans hb)
            clear ho hg hb
            refine wpAnyH_ready (rs := [9]) (by kernel_rfl) (by simp) ?_
            refine (AllReadyH.cons (o := { dst := some 69, op := _, type := _, pos := _, after := _, guard := _ }) rfl (fun K hK => ?_) AllReadyH.nil)
            · refine wantedIf (by rfl) ?_
              go_simp
              refine hK.out _ (w5.alloc (.cells #[.int .i64 kind, .int .i64 slot, .string old, .string new] 23)) ?_ (fun hHeld => ?_)
              · exact HB5.out.alloc HB5.out.size _
              clear hK K
              try simp only [Act.put, List.setIfInBounds_toArray, List.set_cons_zero, List.set_cons_succ]
              have hG := heap_alloc_new w5 (.cells #[.int .i64 kind, .int .i64 slot, .string old, .string new] 23)
              have hT := ownBelow HT5.out (allocB w5 (.cells #[.int .i64 kind, .int .i64 slot, .string old, .string new] 23))
              have hO := ownBelow HP5.out (allocB w5 (.cells #[.int .i64 kind, .int .i64 slot, .string old, .string new] 23))
              have hB := HB5.out.alloc HB5.out.size (.cells #[.int .i64 kind, .int .i64 slot, .string old, .string new] 23)
              obtain ⟨g6, hg6⟩ : ∃ x, x = w5.heap.size := ⟨_, rfl⟩
              rw [← hg6] at hG ⊢
              obtain ⟨w6, hw6⟩ : ∃ x, x = w5.alloc (.cells #[.int .i64 kind, .int .i64 slot, .string old, .string new] 23) := ⟨_, rfl⟩
              rw [← hw6] at hG hT hO hB hHeld ⊢
              have HG6 := Lib.hid hG; have HT6 := Lib.hid hT; have HP6 := Lib.hid hO; have HB6 := Lib.hid hB
              clear hG hT hO hB hw6 hg6
              refine wpAnyH_ready (rs := [10]) (by kernel_rfl) (by simp) ?_
              refine (AllReadyH.cons (o := { dst := some 70, op := _, type := _, pos := _, after := _, guard := _ }) rfl (fun K hK => ?_) AllReadyH.nil)
              · refine wantedIf (by rfl) ?_
                refine wp_push_cop w6 (.tmp 64) (.tmp 69) rfl w.heap.size _ ds rfl HP6.out g6 ⟨kind, slot, old, new⟩ rfl HG6.out (by have := HM.out; omega) HB6.out.size ?_
                intro v7 w7 ho hg hb
                refine hK.out _ _ (HB6.out.trans hb) (fun hHeld => ?_)
                clear hK K
                try simp only [Act.put, List.setIfInBounds_toArray, List.set_cons_zero, List.set_cons_succ]
                have HP7 := Lib.hid ho; have HT7 := Lib.hid (HT6.out.kept hg (own_pages_ne HT6.out HP6.out (by decide))); have HB7 := Lib.hid (HB6.out.trans hb)
                clear ho hg hb
                refine wpAnyH_take (i := 11) (oi := { dst := some 5, op := _, type := _, pos := _, after := _, guard := _ }) (v := ?_) rfl (by kernel_rfl) (by kernel_rfl) (by kernel_rfl) (fun _ _ _ h => h) (Or.inl ⟨by rfl, ?_⟩) (by assumption) ?_
                rotate_left
                · intro u hSu; clear hSu; go_simp; (try with_reducible rfl)
                try simp only [Act.put, List.setIfInBounds_toArray, List.set_cons_zero, List.set_cons_succ]
                refine wpAnyH_take (i := 12) (oi := { dst := some 6, op := _, type := _, pos := _, after := _, guard := _ }) (v := ?_) rfl (by kernel_rfl) (by kernel_rfl) (by kernel_rfl) (fun _ _ _ h => h) (Or.inl ⟨by rfl, ?_⟩) (by assumption) ?_
                rotate_left
                · intro u hSu; clear hSu; go_simp; (try with_reducible rfl)
                try simp only [Act.put, List.setIfInBounds_toArray, List.set_cons_zero, List.set_cons_succ]
                refine wpAnyH_done (by kernel_rfl) ?_ _
                clear hHeld
                go_wp2_with fail
                go_roundw
                case rel => exact ⟨k + 1, ps ++ [r], ds ++ [⟨kind, slot, old, new⟩], by omega, by go_num, HCN.out, by rw [List.length_append, ← HM.out]; simp; omega, HT7.out, HP7.out, HB7.out⟩
                case measure => simp [intOf]; omega
          · refine wantedIf (by rfl) ?_
            go_simp
            refine hK.out _ (w4.alloc (.cells #[.int .i64 kind, .int .i64 slot, .string old, .string new] 23)) ?_ (fun hHeld => ?_)
            · exact HB4.out.alloc HB4.out.size _
            clear hK K
            try simp only [Act.put, List.setIfInBounds_toArray, List.set_cons_zero, List.set_cons_succ]
            have hG := heap_alloc_new w4 (.cells #[.int .i64 kind, .int .i64 slot, .string old, .string new] 23)
            have hT := ownBelow HT4.out (allocB w4 (.cells #[.int .i64 kind, .int .i64 slot, .string old, .string new] 23))
            have hO := ownBelow HP4.out (allocB w4 (.cells #[.int .i64 kind, .int .i64 slot, .string old, .string new] 23))
            have hB := HB4.out.alloc HB4.out.size (.cells #[.int .i64 kind, .int .i64 slot, .string old, .string new] 23)
            have hX := blkOld HG4.out (allocB w4 (.cells #[.int .i64 kind, .int .i64 slot, .string old, .string new] 23))
            obtain ⟨g8, hg8⟩ : ∃ x, x = w4.heap.size := ⟨_, rfl⟩
            rw [← hg8] at hG ⊢
            obtain ⟨w8, hw8⟩ : ∃ x, x = w4.alloc (.cells #[.int .i64 kind, .int .i64 slot, .string old, .string new] 23) := ⟨_, rfl⟩
            rw [← hw8] at hG hT hO hB hX hHeld ⊢
            have HG8 := Lib.hid hG; have HT8 := Lib.hid hT; have HP8 := Lib.hid hO; have HB8 := Lib.hid hB; have HX8 := Lib.hid hX
            clear hG hT hO hB hX hw8 hg8
            refine wpAnyH_ready (rs := [3]) (by kernel_rfl) (by simp) ?_
            refine (AllReadyH.cons (o := { dst := some 63, op := _, type := _, pos := _, after := _, guard := _ }) rfl (fun K hK => ?_) AllReadyH.nil)
            · refine wantedIf (by rfl) ?_
              refine wp_push_text w8 (.tmp 60) (.tmp 62) rfl w.heap.size _ ps rfl HT8.out g4 r rfl HX8.out (by have := HN.out; omega) HB8.out.size ?_
              intro v9 w9 ho hg hb
              refine hK.out _ _ (HB8.out.trans hb) (fun hHeld => ?_)
              clear hK K
              try simp only [Act.put, List.setIfInBounds_toArray, List.set_cons_zero, List.set_cons_succ]
              have HT9 := Lib.hid ho; have HP9 := Lib.hid (HP8.out.kept hg (own_pages_ne HP8.out HT8.out (by decide))); have HB9 := Lib.hid (HB8.out.trans hb); have HX9 := Lib.hid (grownBlk hg HG8.out (ownBlkNe HT8.out HG8.out (by decide)))
              clear ho hg hb
              refine wpAnyH_ready (rs := [10]) (by kernel_rfl) (by simp) ?_
              refine (AllReadyH.cons (o := { dst := some 70, op := _, type := _, pos := _, after := _, guard := _ }) rfl (fun K hK => ?_) AllReadyH.nil)
              · refine wantedIf (by rfl) ?_
                refine wp_push_cop w9 (.tmp 64) (.tmp 69) rfl w.heap.size _ ds rfl HP9.out g8 ⟨kind, slot, old, new⟩ rfl HX9.out (by have := HM.out; omega) HB9.out.size ?_
                intro v10 w10 ho hg hb
                refine hK.out _ _ (HB9.out.trans hb) (fun hHeld => ?_)
                clear hK K
                try simp only [Act.put, List.setIfInBounds_toArray, List.set_cons_zero, List.set_cons_succ]
                have HP10 := Lib.hid ho; have HT10 := Lib.hid (HT9.out.kept hg (own_pages_ne HT9.out HP9.out (by decide))); have HB10 := Lib.hid (HB9.out.trans hb)
                clear ho hg hb
                refine wpAnyH_take (i := 11) (oi := { dst := some 5, op := _, type := _, pos := _, after := _, guard := _ }) (v := ?_) rfl (by kernel_rfl) (by kernel_rfl) (by kernel_rfl) (fun _ _ _ h => h) (Or.inl ⟨by rfl, ?_⟩) (by assumption) ?_
                rotate_left
                · intro u hSu; clear hSu; go_simp; (try with_reducible rfl)
                try simp only [Act.put, List.setIfInBounds_toArray, List.set_cons_zero, List.set_cons_succ]
                refine wpAnyH_take (i := 12) (oi := { dst := some 6, op := _, type := _, pos := _, after := _, guard := _ }) (v := ?_) rfl (by kernel_rfl) (by kernel_rfl) (by kernel_rfl) (fun _ _ _ h => h) (Or.inl ⟨by rfl, ?_⟩) (by assumption) ?_
                rotate_left
                · intro u hSu; clear hSu; go_simp; (try with_reducible rfl)
                try simp only [Act.put, List.setIfInBounds_toArray, List.set_cons_zero, List.set_cons_succ]
                refine wpAnyH_done (by kernel_rfl) ?_ _
                clear hHeld
                go_wp2_with fail
                go_roundw
                case rel => exact ⟨k + 1, ps ++ [r], ds ++ [⟨kind, slot, old, new⟩], by omega, by go_num, HCN.out, by rw [List.length_append, ← HM.out]; simp; omega, HT10.out, HP10.out, HB10.out⟩
                case measure => simp [intOf]; omega
        · refine wantedIf (by rfl) ?_
          go_simp
          refine hK.out _ (w3.alloc (.cells #[.int .i64 kind, .int .i64 slot, .string old, .string new] 23)) ?_ (fun hHeld => ?_)
          · exact HB3.out.alloc HB3.out.size _
          clear hK K
          try simp only [Act.put, List.setIfInBounds_toArray, List.set_cons_zero, List.set_cons_succ]
          have hG := heap_alloc_new w3 (.cells #[.int .i64 kind, .int .i64 slot, .string old, .string new] 23)
          have hT := ownBelow HO53.out (allocB w3 (.cells #[.int .i64 kind, .int .i64 slot, .string old, .string new] 23))
          have hO := ownBelow HO63.out (allocB w3 (.cells #[.int .i64 kind, .int .i64 slot, .string old, .string new] 23))
          have hB := HB3.out.alloc HB3.out.size (.cells #[.int .i64 kind, .int .i64 slot, .string old, .string new] 23)
          obtain ⟨g11, hg11⟩ : ∃ x, x = w3.heap.size := ⟨_, rfl⟩
          rw [← hg11] at hG ⊢
          obtain ⟨w11, hw11⟩ : ∃ x, x = w3.alloc (.cells #[.int .i64 kind, .int .i64 slot, .string old, .string new] 23) := ⟨_, rfl⟩
          rw [← hw11] at hG hT hO hB hHeld ⊢
          have HG11 := Lib.hid hG; have HT11 := Lib.hid hT; have HP11 := Lib.hid hO; have HB11 := Lib.hid hB
          clear hG hT hO hB hw11 hg11
          refine wpAnyH_ready (rs := [2]) (by kernel_rfl) (by simp) ?_
          refine (AllReadyH.cons (o := { dst := some 62, op := _, type := _, pos := _, after := _, guard := _ }) rfl (fun K hK => ?_) AllReadyH.nil)
          · refine wantedIf (by rfl) ?_
            go_simp
            refine hK.out _ (w11.alloc (.cells #[.string r] 9)) ?_ (fun hHeld => ?_)
            · exact HB11.out.alloc HB11.out.size _
            clear hK K
            try simp only [Act.put, List.setIfInBounds_toArray, List.set_cons_zero, List.set_cons_succ]
            have hG := heap_alloc_new w11 (.cells #[.string r] 9)
            have hT := ownBelow HT11.out (allocB w11 (.cells #[.string r] 9))
            have hO := ownBelow HP11.out (allocB w11 (.cells #[.string r] 9))
            have hB := HB11.out.alloc HB11.out.size (.cells #[.string r] 9)
            have hX := blkOld HG11.out (allocB w11 (.cells #[.string r] 9))
            obtain ⟨g12, hg12⟩ : ∃ x, x = w11.heap.size := ⟨_, rfl⟩
            rw [← hg12] at hG ⊢
            obtain ⟨w12, hw12⟩ : ∃ x, x = w11.alloc (.cells #[.string r] 9) := ⟨_, rfl⟩
            rw [← hw12] at hG hT hO hB hX hHeld ⊢
            have HG12 := Lib.hid hG; have HT12 := Lib.hid hT; have HP12 := Lib.hid hO; have HB12 := Lib.hid hB; have HX12 := Lib.hid hX
            clear hG hT hO hB hX hw12 hg12
            refine wpAnyH_ready (rs := [3]) (by kernel_rfl) (by simp) ?_
            refine (AllReadyH.cons (o := { dst := some 63, op := _, type := _, pos := _, after := _, guard := _ }) rfl (fun K hK => ?_) AllReadyH.nil)
            · refine wantedIf (by rfl) ?_
              refine wp_push_text w12 (.tmp 60) (.tmp 62) rfl w.heap.size _ ps rfl HT12.out g12 r rfl HG12.out (by have := HN.out; omega) HB12.out.size ?_
              intro v13 w13 ho hg hb
              refine hK.out _ _ (HB12.out.trans hb) (fun hHeld => ?_)
              clear hK K
              try simp only [Act.put, List.setIfInBounds_toArray, List.set_cons_zero, List.set_cons_succ]
              have HT13 := Lib.hid ho; have HP13 := Lib.hid (HP12.out.kept hg (own_pages_ne HP12.out HT12.out (by decide))); have HB13 := Lib.hid (HB12.out.trans hb); have HX13 := Lib.hid (grownBlk hg HX12.out (ownBlkNe HT12.out HX12.out (by decide)))
              clear ho hg hb
              refine wpAnyH_ready (rs := [10]) (by kernel_rfl) (by simp) ?_
              refine (AllReadyH.cons (o := { dst := some 70, op := _, type := _, pos := _, after := _, guard := _ }) rfl (fun K hK => ?_) AllReadyH.nil)
              · refine wantedIf (by rfl) ?_
                refine wp_push_cop w13 (.tmp 64) (.tmp 69) rfl w.heap.size _ ds rfl HP13.out g11 ⟨kind, slot, old, new⟩ rfl HX13.out (by have := HM.out; omega) HB13.out.size ?_
                intro v14 w14 ho hg hb
                refine hK.out _ _ (HB13.out.trans hb) (fun hHeld => ?_)
                clear hK K
                try simp only [Act.put, List.setIfInBounds_toArray, List.set_cons_zero, List.set_cons_succ]
                have HP14 := Lib.hid ho; have HT14 := Lib.hid (HT13.out.kept hg (own_pages_ne HT13.out HP13.out (by decide))); have HB14 := Lib.hid (HB13.out.trans hb)
                clear ho hg hb
                refine wpAnyH_take (i := 11) (oi := { dst := some 5, op := _, type := _, pos := _, after := _, guard := _ }) (v := ?_) rfl (by kernel_rfl) (by kernel_rfl) (by kernel_rfl) (fun _ _ _ h => h) (Or.inl ⟨by rfl, ?_⟩) (by assumption) ?_
                rotate_left
                · intro u hSu; clear hSu; go_simp; (try with_reducible rfl)
                try simp only [Act.put, List.setIfInBounds_toArray, List.set_cons_zero, List.set_cons_succ]
                refine wpAnyH_take (i := 12) (oi := { dst := some 6, op := _, type := _, pos := _, after := _, guard := _ }) (v := ?_) rfl (by kernel_rfl) (by kernel_rfl) (by kernel_rfl) (fun _ _ _ h => h) (Or.inl ⟨by rfl, ?_⟩) (by assumption) ?_
                rotate_left
                · intro u hSu; clear hSu; go_simp; (try with_reducible rfl)
                try simp only [Act.put, List.setIfInBounds_toArray, List.set_cons_zero, List.set_cons_succ]
                refine wpAnyH_done (by kernel_rfl) ?_ _
                clear hHeld
                go_wp2_with fail
                go_roundw
                case rel => exact ⟨k + 1, ps ++ [r], ds ++ [⟨kind, slot, old, new⟩], by omega, by go_num, HCN.out, by rw [List.length_append, ← HM.out]; simp; omega, HT14.out, HP14.out, HB14.out⟩
                case measure => simp [intOf]; omega
    · have hpl := HCH.out.len
      obtain ⟨wo, rfl⟩ : ∃ wo : World, wo = wr := ⟨_, rfl⟩
      obtain ⟨A6, c6, hv6⟩ := ownLen HO6.out
      have HO62 := Lib.hid (by have h := HO6.out; rw [hv6] at h; exact own_reads h)
      rw [hv6]
      clear HO6 hv6
      have hps : 0 < ps.length := by omega
      have HT := Lib.hid (fun j q (hq : ps[j]? = some q) => own_text HO5.out hq)
      obtain ⟨q0, hq0, -⟩ := HCH.out.last
      obtain ⟨g, c5, rfl, hg1, hg2, hg3, -⟩ := HT.out _ _ hq0
      have HT2 := Lib.hid (show ∀ j q, ps[j]? = some q → wo.cell? ⟨g, j, none⟩ = some (.string q) from fun j q hq => by
        obtain ⟨g', c', h1, _, _, _, h2⟩ := HT.out j q hq
        injection h1 with h1
        injection h1 with h1
        injection h1 with h1
        rw [h1]; exact h2)
      clear HT hq0 q0 HO5 hps
      obtain ⟨m, hm⟩ : ∃ m, m = ds.length := ⟨_, rfl⟩
      have HM := Lib.hid hm
      obtain ⟨n, hn⟩ : ∃ n, n = ps.length := ⟨_, rfl⟩
      rw [← hn] at hpl hg2 ⊢
      rw [← hm] at hpl hdk ⊢
      have hm21 : m ≤ 20 := by omega
      have HPL := Lib.hid hpl
      have hwm : IntKind.i64.wrap ((m : Int) - 1) = (m : Int) - 1 := IntWalk.i64_in _ (by omega)
      clear hn hm hpl
      go_wp2_with fail
      go_loopw [10] (fun i wx => ∃ x : Int, -1 ≤ x ∧ x < m ∧ i = .int .i64 x ∧ Below wo.heap.size wo wx) (fun i _ => (intOf i + 1).toNat)
      case atStart => exact ⟨(m : Int) - 1, by omega, by omega, rfl, Below.refl _ _⟩
      case round =>
        obtain ⟨x, hx1, hx2, rfl, hbx⟩ := hrel
        have HBX := Lib.hid hbx
        have HBW := Lib.hid (joinB HB.out hbx)
        clear hbx
        by_cases hx0 : x = -1
        · subst hx0
          go_wp2_with ((go_at_call 6; refine (HW.out _ (HV.out _ HBW.out)).mono ?_; rintro e w5 ⟨rfl, hb5⟩))
          go_ret
          exact ⟨rfl, joinB HBW.out hb5⟩
        · obtain ⟨j, rfl⟩ := Int.eq_ofNat_of_zero_le (show 0 ≤ x by omega)
          have hjm : j < m := by omega
          have hjd : j < ds.length := by rw [← HM.out]; exact hjm
          obtain ⟨q, r, hq, hr2, hrs, hos, hdo⟩ := HCH.out.back hjd
          have e1 := HT2.out _ _ hq
          have e2 := HT2.out _ _ hr2
          obtain ⟨b6, off6, rfl, hc6, hb6, hcell⟩ := read_at copC_len HO62.out hjd
          rw [← HM.out] at hc6
          have HD := Lib.hid (fun W hW => do_any r (backO ds[j]) (by omega) (by show ds[j].old.size ≤ _; omega) W hW)
          rw [hdo] at HD
          have HK := Lib.hid (fun W => cback_any ds[j] W)
          have HC2 := Lib.hid (show ∀ u, Below wo.heap.size wo u → u.cell? ⟨g, j, none⟩ = some (.string q) ∧ u.cell? ⟨g, j + 1, none⟩ = some (.string r) ∧ u.cell? ⟨b6, off6 + j * 4, none⟩ = some (.int .i64 ds[j].kind) ∧ u.cell? ⟨b6, off6 + j * 4 + 1, none⟩ = some (.int .i64 ds[j].slot) ∧ u.cell? ⟨b6, off6 + j * 4 + 2, none⟩ = some (.string ds[j].old) ∧ u.cell? ⟨b6, off6 + j * 4 + 3, none⟩ = some (.string ds[j].new) from fun u hu =>
            ⟨(hu.cell (p := ⟨g, j, none⟩) hg3).trans e1, (hu.cell (p := ⟨g, j + 1, none⟩) hg3).trans e2, (hu.cell (p := ⟨b6, off6 + j * 4, none⟩) hb6).trans (hcell 0 _ rfl), (hu.cell (p := ⟨b6, off6 + j * 4 + 1, none⟩) hb6).trans (hcell 1 _ rfl), (hu.cell (p := ⟨b6, off6 + j * 4 + 2, none⟩) hb6).trans (hcell 2 _ rfl), (hu.cell (p := ⟨b6, off6 + j * 4 + 3, none⟩) hb6).trans (hcell 3 _ rfl)⟩)
          clear hcell hdo hos hq hr2 e1 e2 hrs
          generalize ds[j] = o at HD HK HC2
          clear hjd
          generalize backO o = bo at HD HK
          obtain ⟨kind, slot, old, new⟩ := o
          obtain ⟨bk, bs, bold, bnew⟩ := bo
          dsimp only [copV, outV] at *
          have hself : (q.toList == q.toList) = true := beq_self_eq_true _
          have hself2 : (q.toList != q.toList) = false := by simp
          have hj0 : (0 : Int) ≤ (j : Int) := by omega
          have hw1 : IntKind.i64.wrap ((j : Int) + 1) = (j : Int) + 1 := IntWalk.i64_in _ (by omega)
          have hw2 : IntKind.i64.wrap ((j : Int) - 1) = (j : Int) - 1 := IntWalk.i64_in _ (by omega)
          have hw3 : IntKind.i64.wrap (j : Int) = (j : Int) := IntWalk.i64_in _ (by omega)
          have ht1 : ((j : Int) + 1).toNat = j + 1 := by omega
          have hn0 : j < n := by have := HPL.out; omega
          have hn1 : j + 1 < n := by have := HPL.out; omega
          have hn2 : (j : Int) + 1 < (n : Int) := by omega
          have hn3 : (j : Int) < (n : Int) := by omega
          have hn4 : (j : Int) < (m : Int) := by omega
          have hn5 : (0 : Int) ≤ (j : Int) + 1 := by omega
          clear hx0 hx1
          go_upto_region 16 with fail
          refine wp_region_held_drew (S := (fun u => Below wo.heap.size wo u)) (by kernel_rfl) ?_ (fun hHeld => ?_)
          · first | exact hSn | exact HBX.out.drew
          refine wpAnyH_take (i := 0) (oi := { dst := some 79, op := _, type := _, pos := _, after := _, guard := _ }) (v := ?_) rfl (by kernel_rfl) (by kernel_rfl) (by kernel_rfl) (fun _ _ _ h => h) (Or.inl ⟨by rfl, ?_⟩) (by assumption) ?_
          rotate_left
          · intro u hSu; obtain ⟨c0, c1, c2, c3, c4, c5'⟩ := HC2.out _ hSu; clear hSu; go_simp; (try with_reducible rfl)
          try simp only [Act.put, List.setIfInBounds_toArray, List.set_cons_zero, List.set_cons_succ]
          refine wpAnyH_take (i := 1) (oi := { dst := some 80, op := _, type := _, pos := _, after := _, guard := _ }) (v := ?_) rfl (by kernel_rfl) (by kernel_rfl) (by kernel_rfl) (fun _ _ _ h => h) (Or.inl ⟨by rfl, ?_⟩) (by assumption) ?_
          rotate_left
          · intro u hSu; obtain ⟨c0, c1, c2, c3, c4, c5'⟩ := HC2.out _ hSu; clear hSu; go_simp; (try with_reducible rfl)
          try simp only [Act.put, List.setIfInBounds_toArray, List.set_cons_zero, List.set_cons_succ]
          refine wpAnyH_take (i := 2) (oi := { dst := some 81, op := _, type := _, pos := _, after := _, guard := _ }) (v := ?_) rfl (by kernel_rfl) (by kernel_rfl) (by kernel_rfl) (fun _ _ _ h => h) (Or.inl ⟨by rfl, ?_⟩) (by assumption) ?_
          rotate_left
          · intro u hSu; obtain ⟨c0, c1, c2, c3, c4, c5'⟩ := HC2.out _ hSu; clear hSu; go_simp; (try with_reducible rfl)
          try simp only [Act.put, List.setIfInBounds_toArray, List.set_cons_zero, List.set_cons_succ]
          refine wpAnyH_take (i := 3) (oi := { dst := some 82, op := _, type := _, pos := _, after := _, guard := _ }) (v := ?_) rfl (by kernel_rfl) (by kernel_rfl) (by kernel_rfl) (fun _ _ _ h => h) (Or.inl ⟨by rfl, ?_⟩) (by assumption) ?_
          rotate_left
          · intro u hSu; obtain ⟨c0, c1, c2, c3, c4, c5'⟩ := HC2.out _ hSu; clear hSu; go_simp; (try with_reducible rfl)
          try simp only [Act.put, List.setIfInBounds_toArray, List.set_cons_zero, List.set_cons_succ]
          refine wpAnyH_take (i := 4) (oi := { dst := some 83, op := _, type := _, pos := _, after := _, guard := _ }) (v := ?_) rfl (by kernel_rfl) (by kernel_rfl) (by kernel_rfl) (fun _ _ _ h => h) (Or.inl ⟨by rfl, ?_⟩) (by assumption) ?_
          rotate_left
          · intro u hSu; obtain ⟨c0, c1, c2, c3, c4, c5'⟩ := HC2.out _ hSu; clear hSu; go_simp; (try with_reducible rfl)
          try simp only [Act.put, List.setIfInBounds_toArray, List.set_cons_zero, List.set_cons_succ]
          refine wpAnyH_take (i := 5) (oi := { dst := some 84, op := _, type := _, pos := _, after := _, guard := _ }) (v := ?_) rfl (by kernel_rfl) (by kernel_rfl) (by kernel_rfl) (fun _ _ _ h => h) (Or.inl ⟨by rfl, ?_⟩) (by assumption) ?_
          rotate_left
          · intro u hSu; obtain ⟨c0, c1, c2, c3, c4, c5'⟩ := HC2.out _ hSu; clear hSu; go_simp; (try with_reducible rfl)
          try simp only [Act.put, List.setIfInBounds_toArray, List.set_cons_zero, List.set_cons_succ]
          refine wpAnyH_take (i := 6) (oi := { dst := some 85, op := _, type := _, pos := _, after := _, guard := _ }) (v := ?_) rfl (by kernel_rfl) (by kernel_rfl) (by kernel_rfl) (fun _ _ _ h => h) (Or.inl ⟨by rfl, ?_⟩) (by assumption) ?_
          rotate_left
          · intro u hSu; obtain ⟨c0, c1, c2, c3, c4, c5'⟩ := HC2.out _ hSu; clear hSu; go_simp; (try with_reducible rfl)
          try simp only [Act.put, List.setIfInBounds_toArray, List.set_cons_zero, List.set_cons_succ]
          refine wpAnyH_take (i := 7) (oi := { dst := some 86, op := _, type := _, pos := _, after := _, guard := _ }) (v := ?_) rfl (by kernel_rfl) (by kernel_rfl) (by kernel_rfl) (fun _ _ _ h => h) (Or.inl ⟨by rfl, ?_⟩) (by assumption) ?_
          rotate_left
          · intro u hSu; obtain ⟨c0, c1, c2, c3, c4, c5'⟩ := HC2.out _ hSu; clear hSu; go_simp; (try with_reducible rfl)
          try simp only [Act.put, List.setIfInBounds_toArray, List.set_cons_zero, List.set_cons_succ]
          refine wpAnyH_take (i := 8) (oi := { dst := some 87, op := _, type := _, pos := _, after := _, guard := _ }) (v := ?_) rfl (by kernel_rfl) (by kernel_rfl) (by kernel_rfl) (fun _ _ _ h => h) (Or.inl ⟨by rfl, ?_⟩) (by assumption) ?_
          rotate_left
          · intro u hSu; obtain ⟨c0, c1, c2, c3, c4, c5'⟩ := HC2.out _ hSu; clear hSu; go_simp; (try with_reducible rfl)
          try simp only [Act.put, List.setIfInBounds_toArray, List.set_cons_zero, List.set_cons_succ]
          refine wpAnyH_ready (rs := [9]) (by kernel_rfl) (by simp) ?_
          refine AllReadyH.cons (o := { dst := some 88, op := _, type := _, pos := _, after := _, guard := _ }) rfl (fun K hK => ?_) ?_
          rotate_left
          · exact AllReadyH.nil
          go_simp
          refine (HK.out _).mono ?_; rintro e w5 ⟨rfl, hb5⟩; have hSn := HBX.out.drew.trans (hb5.mono HBX.out.size); try go_simp
          refine hK.out _ _ ?_ (fun hHeld => ?_)
          · first | exact hSn | exact HBX.out.drew
          clear hK K
          try simp only [Act.put, List.setIfInBounds_toArray, List.set_cons_zero, List.set_cons_succ]
          refine wpAnyH_ready (rs := [10]) (by kernel_rfl) (by simp) ?_
          refine AllReadyH.cons (o := { dst := some 89, op := _, type := _, pos := _, after := _, guard := _ }) rfl (fun K hK => ?_) ?_
          rotate_left
          · exact AllReadyH.nil
          go_simp
          refine (HD.out _ (HV.out _ (joinB HB.out hSn))).mono ?_; rintro e w6 ⟨rfl, hb6⟩; have hS2 := hSn.trans (hb6.mono hSn.size); clear hSn hb5 hb6; have hSn := hS2; clear hS2; try go_simp
          refine hK.out _ _ ?_ (fun hHeld => ?_)
          · first | exact hSn | exact HBX.out.drew
          clear hK K
          try simp only [Act.put, List.setIfInBounds_toArray, List.set_cons_zero, List.set_cons_succ]
          refine wpAnyH_take (i := 11) (oi := { dst := some 78, op := _, type := _, pos := _, after := _, guard := _ }) (v := ?_) rfl (by kernel_rfl) (by kernel_rfl) (by kernel_rfl) (fun _ _ _ h => h) (Or.inl ⟨by rfl, ?_⟩) (by assumption) ?_
          rotate_left
          · intro u hSu; obtain ⟨c0, c1, c2, c3, c4, c5'⟩ := HC2.out _ hSu; clear hSu; go_simp; (try with_reducible rfl)
          try simp only [Act.put, List.setIfInBounds_toArray, List.set_cons_zero, List.set_cons_succ]
          refine wpAnyH_take (i := 12) (oi := { dst := some 90, op := _, type := _, pos := _, after := _, guard := _ }) (v := ?_) rfl (by kernel_rfl) (by kernel_rfl) (by kernel_rfl) (fun _ _ _ h => h) (Or.inl ⟨by rfl, ?_⟩) (by assumption) ?_
          rotate_left
          · intro u hSu; obtain ⟨c0, c1, c2, c3, c4, c5'⟩ := HC2.out _ hSu; clear hSu; go_simp; (try with_reducible rfl)
          try simp only [Act.put, List.setIfInBounds_toArray, List.set_cons_zero, List.set_cons_succ]
          refine wpAnyH_take (i := 13) (oi := { dst := some 91, op := _, type := _, pos := _, after := _, guard := _ }) (v := ?_) rfl (by kernel_rfl) (by kernel_rfl) (by kernel_rfl) (fun _ _ _ h => h) (Or.inl ⟨by rfl, ?_⟩) (by assumption) ?_
          rotate_left
          · intro u hSu; obtain ⟨c0, c1, c2, c3, c4, c5'⟩ := HC2.out _ hSu; clear hSu; go_simp; (try with_reducible rfl)
          try simp only [Act.put, List.setIfInBounds_toArray, List.set_cons_zero, List.set_cons_succ]
          refine wpAnyH_take (i := 14) (oi := { dst := some 11, op := _, type := _, pos := _, after := _, guard := _ }) (v := ?_) rfl (by kernel_rfl) (by kernel_rfl) (by kernel_rfl) (fun _ _ _ h => h) (Or.inl ⟨by rfl, ?_⟩) (by assumption) ?_
          rotate_left
          · intro u hSu; obtain ⟨c0, c1, c2, c3, c4, c5'⟩ := HC2.out _ hSu; clear hSu; go_simp; (try with_reducible rfl)
          try simp only [Act.put, List.setIfInBounds_toArray, List.set_cons_zero, List.set_cons_succ]
          refine wpAnyH_take (i := 15) (oi := { dst := some 12, op := _, type := _, pos := _, after := _, guard := _ }) (v := ?_) rfl (by kernel_rfl) (by kernel_rfl) (by kernel_rfl) (fun _ _ _ h => h) (Or.inl ⟨by rfl, ?_⟩) (by assumption) ?_
          rotate_left
          · intro u hSu; obtain ⟨c0, c1, c2, c3, c4, c5'⟩ := HC2.out _ hSu; clear hSu; go_simp; (try with_reducible rfl)
          try simp only [Act.put, List.setIfInBounds_toArray, List.set_cons_zero, List.set_cons_succ]
          refine wpAnyH_done (by kernel_rfl) ?_ _
          have HB6 := Lib.hid hHeld
          clear hHeld hSn HBX HBW
          obtain ⟨c0, c1, c2, c3, c4, c5'⟩ := HC2.out _ HB6.out
          go_wp2_with fail
          go_roundw
          case rel => exact ⟨(j : Int) - 1, by omega, by omega, by go_num, HB6.out⟩
          case measure => first | (simp [intOf]; done) | (simp [intOf]; omega)
theorem changerow_any (p : ByteArray) (l : List Cop) (A : Option Addr) (c : Nat) (w : World) (hv : Vars w) (hr : ReadsO w A c l) :
    Calls Tryd.prog 4 #[.string p, .slice A l.length c] w fun e w' => e = .returned (.bool true) ∧ Below w.heap.size w w' := by
  by_cases h : p.size > 600 ∨ l.length > 20 ∨ isPg p = false
  · exact row_off p l A c w hv h
  · exact row_on p l A c w hv hr (by omega) (by omega) (by cases hb : isPg p with | true => rfl | false => exact absurd (.inr (.inr hb)) h)
end Go.Proofs.YtkndifannjpbcaaDoor
/- An argument that is a row of changes, opened. -/
namespace Go.Proofs.YtkndifannjpbcaaDoor
open Go.ChangeShapes Go.WideShapes Go.ChangeAt Go.RowKit

theorem op_fields : ∃ f0 f1 f2 f3 : Field, Tryd.prog.underlying 23 = some (.struct #[f0, f1, f2, f3]) ∧ (f0.offset = 0 ∧ f1.offset = 1 ∧ f2.offset = 2 ∧ f3.offset = 3) ∧ f0.type = 3 ∧ f1.type = 3 ∧ f2.type = 9 ∧ f3.type = 9 := ⟨_, _, _, _, Tryd.underlying23, ⟨rfl, rfl, rfl, rfl⟩, rfl, rfl, rfl, rfl⟩
theorem op_cells : Tryd.prog.cellsOf 23 = 4 := by kernel_rfl
theorem cells_s : Tryd.prog.cellsOf 9 = 1 := by kernel_rfl
theorem cells_i : Tryd.prog.cellsOf 3 = 1 := by kernel_rfl
theorem list4 {α : Type} {l : List α} (h : l.length = 4) : ∃ a b c d, l = [a, b, c, d] := by
  match l, h with
  | [a, b, c, d], _ => exact ⟨a, b, c, d, rfl⟩
section
variable {H : Type} {enc : TypeId × Value → H} {w : World} {base : Nat} {spare : Nat → Bool} {held : Bool}
set_option maxRecDepth 100000 in
theorem trod_op {fuel : Nat} {cs : List Value} {x : DataW H × List MemPlace} (h : DataW.trod enc Tryd.prog w base spare held fuel 23 cs = some x) : ∃ o : Cop, cs = copC o := by
  obtain ⟨f0, f1, f2, f3, hu, ⟨o0, o1, o2, o3⟩, t0, t1, t2, t3⟩ := op_fields
  obtain ⟨y0, y1, y2, y3, n, hx, hl, h0, h1, h2, h3⟩ := Joins.trod_struct4 hu h
  rw [op_cells] at hl
  obtain ⟨c0, c1, c2, c3, rfl⟩ := list4 hl
  rw [o0, t0, cells_i] at h0
  rw [o1, t1, cells_i] at h1
  rw [o2, t2, cells_s] at h2
  rw [o3, t3, cells_s] at h3
  obtain ⟨i, hi, _, _⟩ := DataW.trod_int Tryd.underlying3 h0
  obtain ⟨j, hj, _, _⟩ := DataW.trod_int Tryd.underlying3 h1
  obtain ⟨s, hs, _, _⟩ := DataW.trod_string Tryd.underlying9 h2
  obtain ⟨t, ht, _, _⟩ := DataW.trod_string Tryd.underlying9 h3
  simp at hi hj hs ht
  exact ⟨⟨i, j, s, t⟩, by rw [hi, hj, hs, ht]⟩
theorem spot_of_cell {w : World} {a : Addr} {v : Value} (h : w.cell? a = some v) : a = ⟨a.block, a.off, none⟩ ∧ a.block < w.heap.size := by
  obtain ⟨b, off, sp⟩ := a
  unfold World.cell? at h
  cases hh : w.heap[b]? with
  | none => simp [hh] at h
  | some o =>
    have hlt : b < w.heap.size := (Array.getElem?_eq_some_iff.1 hh).1
    cases o with
    | cells c t f =>
      simp only [hh] at h
      cases sp with
      | none => exact ⟨rfl, hlt⟩
      | some x => simp at h
    | _ => simp [hh] at h
set_option maxRecDepth 100000 in
theorem open_ops {r : Reach} {b0 : Nat} {v : Value} {d : DataW H} {ps : List MemPlace} (hval : Value.okWide Tryd.prog w r b0 33 v) (hd : DataW.Trod enc Tryd.prog w base (fun _ => true) held 33 v d ps) :
    ∃ (A : Option Addr) (c : Nat) (l : List Cop), v = .slice A l.length c ∧ ReadsO w A c l := by
  obtain ⟨a, len, cap, rfl⟩ := okWide_slice Tryd.underlying33 hval
  obtain ⟨fuel, hf⟩ := hd
  rcases Deep.open_slice Tryd.underlying33 hf with ⟨hcs, _⟩ | ⟨a', len', cap', m, n, D, Pl, hcs, hb, hl, hm, hmm, hx, hall⟩
  · have e : Value.slice a len cap = .slice none 0 0 := by simpa [Value.cells] using hcs
    rw [e]
    exact ⟨none, 0, [], rfl, Reads.none_ _ _ _ _⟩
  · have e : Value.slice a len cap = .slice (some a') len' cap' := by simpa [Value.cells] using hcs
    rw [e]
    clear e hcs hval hf hx
    rw [if_pos rfl] at hmm
    subst hmm
    rw [op_cells] at hall
    haveI : Inhabited Cop := ⟨⟨0, 0, ⟨#[]⟩, ⟨#[]⟩⟩⟩
    obtain ⟨f, hf⟩ := Deep.choose_lt (α := Cop) (n := len') (p := fun i o => ∀ q u, (copC o)[q]? = some u → w.cell? ((a'.add (i * 4)).add q) = some u) (fun i hi => by
      obtain ⟨cs', h1, h2⟩ := hall i (by omega)
      obtain ⟨o, rfl⟩ := trod_op h2
      obtain ⟨_, _, h3⟩ := World.cells?_some h1
      refine ⟨o, fun q u hq => ?_⟩
      have hq4 : q < 4 := by have := (List.getElem?_eq_some_iff.1 hq).1; simpa using this
      rw [h3 q hq4]; exact hq)
    refine ⟨some a', m, (List.range len').map f, by simp, ?_⟩
    intro h0
    have h0' : 0 < len' := by simpa using h0
    have hz := hf 0 h0' 0 _ rfl
    have hz2 : w.cell? a' = some (.int .i64 (f 0).kind) := by simpa [Addr.add] using hz
    obtain ⟨hsp, hlt⟩ := spot_of_cell hz2
    refine ⟨a'.block, a'.off, by rw [← hsp], by simpa using hl, hlt, fun j u hj => ?_⟩
    have hjl : j < len' * 4 := by
      have := (List.getElem?_eq_some_iff.1 hj).1
      rw [flat_len copC_len] at this
      simpa using this
    obtain ⟨q, i, hi, rfl⟩ : ∃ q i, i < 4 ∧ j = q * 4 + i := ⟨j / 4, j % 4, Nat.mod_lt _ (by omega), by omega⟩
    have hq : q < len' := by omega
    rw [flat_at copC_len _ q i (by simpa using hq) hi] at hj
    have h5 := hf q hq i u (by simpa using hj)
    rw [hsp, Addr.add_mid, Addr.add_mid] at h5
    rw [← Nat.add_assoc]
    exact h5
end
end Go.Proofs.YtkndifannjpbcaaDoor
