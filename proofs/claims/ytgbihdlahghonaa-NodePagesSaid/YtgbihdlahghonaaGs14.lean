/- The walks over the reference of tree pages: records, read. -/
import Derived.Test.YtgbihdlahghonaaGs13
namespace Nd
/-- Has every record a byte? -/
def fullR (rs : List ByteArray) : Bool := rs.all fun r => decide (r.size ≠ 0)
theorem fullR_no {rs : List ByteArray} {k : Nat} (h : k < rs.length) (h0 : rs[k].size = 0) : fullR rs = false := by
  unfold fullR
  rw [List.all_eq_false]
  exact ⟨_, List.getElem_mem h, by simp [h0]⟩
theorem fullR_yes {rs : List ByteArray} (h : ∀ k (hk : k < rs.length), rs[k].size ≠ 0) : fullR rs = true := by
  unfold fullR
  rw [List.all_eq_true]
  intro r hr
  obtain ⟨k, hk, rfl⟩ := List.getElem_of_mem hr
  exact decide_eq_true (h k hk)
end Nd
namespace Go.Proofs.Ytgbihdlahghonaa
open Go.RowKit

/-- An append of one text to an own slice. -/
theorem wp_app1 {o : Oper} {a : Act} {K : Act → World → Prop} {Q : Exit → Act → World → Prop} (w : World) (s x : Operand)
    (ho : o.op = .call { callee := .builtin .append, args := #[s, x], argTypes := #[40, 40] })
    (B : Nat) (v : Value) (xs : List ByteArray) (hs : a.eval s = v) (hown : OwnT B w v xs) (g : Nat) (r : ByteArray) (hx : a.eval x = .slice (some ⟨g, 0, none⟩) 1 1) (hg : w.heap[g]? = some (.cells #[.string r] 9 (0, 0)))
    (hlen : xs.length ≤ 4096) (hbase : B ≤ w.heap.size)
    (h : ∀ v' w', OwnT B w' v' (xs ++ [r]) → Below B w w' → K (a.put o.dst v') w') : o.wp Try.prog a w K Q := by
  obtain ⟨i0, hi, hz0, hz1, hz2⟩ := info_parts info_string
  refine wp_append_own w s x _ ho B 9 i0 (.string ⟨#[]⟩) 1 16 Try.underlying40 hi hz0 hz1 hz2 rfl (by omega) v xs.length (xs.map Value.string) hs hown ⟨g, 0, none⟩ 1 1 [.string r] hx rfl (news1 hg) (by simp [Value.oneCell']) (by simp only [maxLen]; omega) (by omega) hbase ?_
  intro v' w' h1 h2 _
  refine h v' w' ?_ ((Below.refl _ _).grown h2 hbase (fun k hk => (hown.lt k hk).1))
  unfold OwnT
  rw [List.length_append, List.map_append]; exact h1
def RecsOut (F : Bool) (rs : List ByteArray) (w : World) (e : Ending) (w' : World) : Prop := ∃ v, e = .returned (.tuple #[v, .bool F]) ∧ OwnT w.heap.size w' v (if F then rs else []) ∧ Below w.heap.size w w'
set_option maxRecDepth 100000 in
set_option maxHeartbeats 4000000 in
theorem rrecords_any (p : ByteArray) (hm : p.size ≤ 140737488355328) (w : World) :
    Calls Try.prog 97 #[.string p] w (RecsOut (Nd.fullR (leafP p).recs) (leafP p).recs w) := by
  have HS := Lib.hid (fun W => rslots_any p hm W)
  have HG := Lib.hid (fun k W => rget_any_rec p k hm W)
  have hfine := Pg.leafOf_fine p.data.toList
  change Pg.Fine (leafP p) at hfine
  have hlen := hfine.len
  generalize (leafP p).recs = rs at HS HG hlen ⊢
  clear hfine
  obtain ⟨F, hF⟩ : ∃ F, F = Nd.fullR rs := ⟨_, rfl⟩
  rw [← hF]
  have HF := Lib.hid hF
  clear hF
  go_enter Try.func97, Try.ntmps97
  go_wp2_with fail
  go_loopw [4, 5] (fun out i wr => ∃ k : Nat, k ≤ rs.length ∧ i = .int .i64 k ∧ OwnT w.heap.size wr out (rs.take k) ∧ (∀ j (h : j < rs.length), j < k → rs[j].size ≠ 0) ∧ Below w.heap.size w wr) (fun _ i _ => rs.length - (intOf i).toNat)
  case atStart => exact ⟨0, Nat.zero_le _, rfl, own_empty w 9 1, fun _ _ h => absurd h (by omega), below_past_alloc (Below.refl _ _)⟩
  case round =>
    obtain ⟨k, hk, rfl, hO, hne, hb⟩ := hrel
    have HO := Lib.hid hO
    have HNE := Lib.hid hne
    clear hO hne
    by_cases hlt : k < rs.length
    · have HGk := Lib.hid (fun W => HG.out (k : Int) W)
      rw [Pg.slotAt_in hlt] at HGk
      have HTK := Lib.hid (List.take_succ_eq_append_getElem hlt)
      have HN1 := Lib.hid (fun h => Nd.fullR_no hlt h)
      have hkl : (k : Int) < (rs.length : Int) := by omega
      have HN2 := Lib.hid (show rs[k].size ≠ 0 → ∀ j (h : j < rs.length), j < k + 1 → rs[j].size ≠ 0 from fun h j hj hjk => by
        rcases Nat.lt_or_eq_of_le (Nat.le_of_lt_succ hjk) with h1 | h1
        · exact HNE.out j hj h1
        · subst h1; exact h)
      generalize rs[k] = r at HGk HTK HN1 HN2
      by_cases h0 : r.size = 0
      · rw [decide_eq_true h0] at HGk
        have HFF := Lib.hid (HF.out.trans (HN1.out h0))
        clear HN1 HN2 h0
        go_wp2_with (first
          | (go_at_call 26; refine (HS.out _).mono ?_; rintro e w6 ⟨rfl, hb6⟩)
          | (go_at_call 16; refine (HGk.out _).mono ?_; rintro e w7 ⟨rfl, hb7⟩))
        go_ret2
        rw [HFF.out]
        exact ⟨.slice none 0 0, rfl, nil_row _ _ _ _, andThen (andThen hb hb6) hb7⟩
      · rw [decide_eq_false h0] at HGk
        have HNN := Lib.hid (HN2.out h0)
        clear HN1 HN2 h0
        go_wp2_with (first
          | (go_at_call 26; refine (HS.out _).mono ?_; rintro e w6 ⟨rfl, hb6⟩; have HB6 := Lib.hid hb6; clear hb6)
          | (go_at_call 16; refine (HGk.out _).mono ?_; rintro e w7 ⟨rfl, hb7⟩; have HB7 := Lib.hid (andThen (andThen hb HB6.out) hb7); have HO7 := Lib.hid (ownsRow_below (ownsRow_below HO.out HB6.out) hb7); clear hb7)
          | (at_builtin; refine wpList_wants (by rfl) (fun KK hKK => wp_app1 (w7.alloc (.cells #[.string r] 9)) (.tmp 23) (.tmp 25) rfl w.heap.size u4 (rs.take k) rfl (HO7.out.alloc _) w7.heap.size r rfl (heap_alloc_new w7 _) (by rw [List.length_take]; omega) (by have := HB7.out.size; simp; omega) ?_); intro v8 w8 ho8 hb8; rw [← HTK.out] at ho8; have HO8 := Lib.hid ho8; have HB8 := Lib.hid ((below_past_alloc HB7.out).trans hb8); clear ho8 hb8; refine hKK _ _ ?_; clear hKK KK))
        go_roundw
        case rel => exact ⟨k + 1, by omega, by go_num, HO8.out, HNN.out, HB8.out⟩
        case measure => simp [intOf]; omega
    · obtain rfl : k = rs.length := by omega
      have HFF := Lib.hid (HF.out.trans (Nd.fullR_yes fun j hj => HNE.out j hj hj))
      go_wp2_with (first
          | (go_at_call 26; refine (HS.out _).mono ?_; rintro e w6 ⟨rfl, hb6⟩))
      go_ret2
      rw [HFF.out]
      exact ⟨u4, rfl, by have := ownsRow_below HO.out hb6; rwa [List.take_length] at this, andThen hb hb6⟩
end Go.Proofs.Ytgbihdlahghonaa
/- The walk over the reference of tree pages: read. -/
namespace Go.Proofs.Ytgbihdlahghonaa
open Go.RowKit

/-- An append of one entry to an own slice. -/
theorem wp_app1E {o : Oper} {a : Act} {K : Act → World → Prop} {Q : Exit → Act → World → Prop} (w : World) (s x : Operand)
    (ho : o.op = .call { callee := .builtin .append, args := #[s, x], argTypes := #[51, 51] })
    (B : Nat) (v : Value) (xs : List Nd.Entry) (hs : a.eval s = v) (hown : OwnEs B w v xs) (g : Nat) (e : Nd.Entry) (hx : a.eval x = .slice (some ⟨g, 0, none⟩) 1 1) (hg : w.heap[g]? = some (.cells #[.string e.key, .int .i64 e.page, .int .i64 e.slot] 45 (0, 0)))
    (hlen : xs.length ≤ 4096) (hbase : B ≤ w.heap.size)
    (h : ∀ v' w', OwnEs B w' v' (xs ++ [e]) → Below B w w' → K (a.put o.dst v') w') : o.wp Try.prog a w K Q :=
  wp_appE w s x ho B v xs hs hown (some ⟨g, 0, none⟩) 1 1 [e] rfl hx (fun _ => ⟨g, 0, rfl, Nat.le_refl _, heap_lt hg, fun j hj => by
    have hj0 : j = 0 := by simpa using hj
    subst hj0
    exact ⟨(blkE hg).1, (blkE hg).2.1, (blkE hg).2.2.1⟩⟩) (by omega) hbase h
theorem wp_app1I {o : Oper} {a : Act} {K : Act → World → Prop} {Q : Exit → Act → World → Prop} (w : World) (s x : Operand)
    (ho : o.op = .call { callee := .builtin .append, args := #[s, x], argTypes := #[54, 54] })
    (B : Nat) (v : Value) (xs : List Int) (hs : a.eval s = v) (hown : OwnIs B w v xs) (g : Nat) (n : Int) (hx : a.eval x = .slice (some ⟨g, 0, none⟩) 1 1) (hg : w.heap[g]? = some (.cells #[.int .i64 n] 3 (0, 0)))
    (hlen : xs.length ≤ 4096) (hbase : B ≤ w.heap.size)
    (h : ∀ v' w', OwnIs B w' v' (xs ++ [n]) → w.grownBy w' v.ownBlock → Below B w w' → K (a.put o.dst v') w') : o.wp Try.prog a w K Q := by
  obtain ⟨i0, hi, hz0, hz1, hz2⟩ := info_parts info_int
  refine wp_append_own w s x _ ho B 3 i0 _ 1 8 Try.underlying54 hi hz0 hz1 hz2 rfl (by omega) v xs.length (xs.map (Value.int .i64)) hs hown ⟨g, 0, none⟩ 1 1 [.int .i64 n] hx rfl (news1 hg) (by simp [Value.oneCell']) (by simp only [maxLen]; omega) (by omega) hbase ?_
  intro v' w' h1 h2 _
  refine h v' w' ?_ h2 ((Below.refl _ _).grown h2 hbase (fun k hk => (hown.lt k hk).1))
  unfold OwnIs
  rw [List.length_append, List.map_append]; exact h1
theorem wp_app1G {o : Oper} {a : Act} {K : Act → World → Prop} {Q : Exit → Act → World → Prop} (w : World) (s x : Operand)
    (ho : o.op = .call { callee := .builtin .append, args := #[s, x], argTypes := #[51, 51] })
    (B : Nat) (v : Value) (xs : List Nd.Entry) (hs : a.eval s = v) (hown : OwnEs B w v xs) (g : Nat) (e : Nd.Entry) (hx : a.eval x = .slice (some ⟨g, 0, none⟩) 1 1) (hg : w.heap[g]? = some (.cells #[.string e.key, .int .i64 e.page, .int .i64 e.slot] 45 (0, 0)))
    (hlen : xs.length ≤ 4096) (hbase : B ≤ w.heap.size)
    (h : ∀ v' w', OwnEs B w' v' (xs ++ [e]) → w.grownBy w' v.ownBlock → Below B w w' → K (a.put o.dst v') w') : o.wp Try.prog a w K Q := by
  obtain ⟨i0, hi, hz0, hz1, hz2⟩ := info_parts info_entry
  refine wp_append_own w s x _ ho B 45 i0 _ 3 32 Try.underlying51 hi hz0 hz1 hz2 rfl (by omega) v xs.length (entCells xs) hs hown ⟨g, 0, none⟩ 1 1 [.string e.key, .int .i64 e.page, .int .i64 e.slot] hx rfl (news3 hg) (by simp [Value.oneCell']) (by simp only [maxLen]; omega) (by omega) hbase ?_
  intro v' w' h1 h2 _
  refine h v' w' ?_ h2 ((Below.refl _ _).grown h2 hbase (fun k hk => (hown.lt k hk).1))
  unfold OwnEs
  rw [List.length_append, entCells_append]; exact h1
/-- What read returns. -/
def ReadOut (lf : Bool) (o : Option (List (Nd.Entry × Int))) (w : World) (e : Ending) (w' : World) : Prop :=
  Below w.heap.size w w' ∧ match o with
    | some l => ∃ v1 v2, e = .returned (.tuple #[v1, v2, .bool true]) ∧ OwnEs w.heap.size w' v1 (l.map (·.1)) ∧ OwnIs w.heap.size w' v2 (if lf then [] else l.map (·.2))
    | none => e = .returned (.tuple #[.slice none 0 0, .slice none 0 0, .bool false])
/-- How far read has come. -/
def ReadAt (lf : Bool) (rs : List ByteArray) (w : World) (k : Nat) (v1 v2 : Value) (wr : World) : Prop :=
  ∃ l, Nd.decN lf rs k = some l ∧ OwnEs w.heap.size wr v1 (l.map (·.1)) ∧ OwnIs w.heap.size wr v2 (if lf then [] else l.map (·.2)) ∧ Below w.heap.size w wr
theorem decN_next {lf : Bool} {rs : List ByteArray} {k : Nat} {l : List (Nd.Entry × Int)} {x : Nd.Entry × Int} (h : Nd.decN lf rs k = some l) (hk : k < rs.length) (hx : Nd.decR lf rs[k] = some x) : Nd.decN lf rs (k + 1) = some (l ++ [x]) := by
  simp only [Nd.decN, h, List.getElem?_eq_getElem hk, Option.getD_some, hx]
set_option maxRecDepth 100000 in
set_option maxHeartbeats 8000000 in
theorem rread_any (kind : Nat) (A : Option Addr) (c : Nat) (rs : List ByteArray) (hlen : rs.length ≤ 123) (heach : ∀ r ∈ rs, r.size ≤ 400) (w : World) (h : Cells w A c rs) :
    Calls Try.prog 120 #[.int .i64 kind, .slice A rs.length c] w (ReadOut (kind == 3) (Nd.decN (kind == 3) rs rs.length) w) := by
  have HC := Lib.hid h
  have HEA := Lib.hid heach
  obtain ⟨lf, hlf⟩ : ∃ lf, lf = (kind == 3) := ⟨_, rfl⟩
  rw [← hlf]
  have e3 : ((kind : Int) == 3) = lf := by
    rw [hlf]
    by_cases hk : kind = 3
    · subst hk; rfl
    · rw [beq_eq_false_iff_ne.2 hk]; simp; omega
  obtain ⟨O, hO⟩ : ∃ O, O = Nd.decN lf rs rs.length := ⟨_, rfl⟩
  rw [← hO]
  have HO := Lib.hid hO
  clear h heach hlf hO
  go_enter Try.func120, Try.ntmps120
  go_wp2_with fail
  go_loopw [7, 8, 9] (fun v1 v2 i wr => ∃ k : Nat, k ≤ rs.length ∧ i = .int .i64 k ∧ ReadAt lf rs w k v1 v2 wr) (fun _ _ i _ => rs.length - (intOf i).toNat)
  case atStart =>
    refine ⟨0, Nat.zero_le _, rfl, [], rfl, (own_empty w 45 3).alloc _, ?_, below_past_alloc (below_past_alloc (Below.refl _ _))⟩
    have h1 := own_mono (own_empty (w.alloc (.cells #[] 45)) 3 1) (show w.heap.size ≤ _ by simp)
    cases lf <;> simpa [OwnIs] using h1
  case round =>
    obtain ⟨k, hk, rfl, l, hd, hO1, hO2, hb⟩ := hrel
    have HD := Lib.hid hd
    have hll : l.length = k := Nd.decN_length _ _ _ _ hd
    have HO1 := Lib.hid hO1
    have HO2 := Lib.hid hO2
    clear hd hO1 hO2
    by_cases hlt : k < rs.length
    · obtain ⟨b, off, rfl, hc, hbl, hck⟩ := (HC.out.below hb).at_ hlt
      have hrs : rs[k].size ≤ 400 := HEA.out _ (List.getElem_mem hlt)
      have HN := Lib.hid (fun (h : Nd.decR lf rs[k] = none) => Nd.decN_stop (n := rs.length) lf rs HD.out (by rw [List.getElem?_eq_getElem hlt]; exact h) hlt)
      have HY := Lib.hid (fun x (h : Nd.decR lf rs[k] = some x) => decN_next HD.out hlt h)
      generalize rs[k] = r at hck hrs HN HY
      have hi1 : (0 : Int) ≤ (k : Int) := by omega
      have hi2 : (k : Int) < (rs.length : Int) := by omega
      cases lf with
      | true =>
        have HE := Lib.hid (fun W => rgetentry_any r (by omega) W)
        cases hE : Nd.getE r with
        | none =>
          rw [hE] at HE
          unfold getEV at HE
          have HN2 := Lib.hid (HO.out.trans (HN.out (by unfold Nd.decR; rw [if_pos rfl, hE]; rfl)))
          clear hE HN HY hll
          go_wp2_with (go_at_call 67; refine (HE.out _).mono ?_; rintro e w5 ⟨rfl, hb5⟩)
          go_ret3
          rw [HN2.out]
          exact ⟨below_past_alloc (andThen hb hb5), rfl⟩
        | some e =>
          rw [hE] at HE
          unfold getEV at HE
          have HY2 := Lib.hid (HY.out (e, 0) (by unfold Nd.decR; rw [if_pos rfl, hE]; rfl))
          have hml : (l.map (·.1)).length ≤ 4096 := by rw [List.length_map]; omega
          clear hE HN HY hll
          obtain ⟨ek, ep, es⟩ := e
          go_wp2_with (first
            | (go_at_call 67; refine (HE.out _).mono ?_; rintro e w5 ⟨rfl, hb5⟩; have HB5 := Lib.hid (andThen hb hb5); have HO15 := Lib.hid (ownsRow_below HO1.out hb5); have HO25 := Lib.hid (ownsRow_below HO2.out hb5); clear hb5)
            | (at_builtin; refine wpList_wants (by rfl) (fun KK hKK => wp_app1G ((w5.alloc (.cells #[.string ek, .int .i64 ep, .int .i64 es] 45)).alloc (.cells #[.string ek, .int .i64 ep, .int .i64 es] 45)) (.tmp 35) (.tmp 37) rfl w.heap.size u7 (l.map (·.1)) rfl ((HO15.out.alloc _).alloc _) (w5.heap.size + 1) ⟨ek, ep, es⟩ rfl (by have := heap_alloc_new (w5.alloc (.cells #[.string ek, .int .i64 ep, .int .i64 es] 45)) (.cells #[.string ek, .int .i64 ep, .int .i64 es] 45); simpa using this) hml (by have := HB5.out.size; simp; omega) ?_); intro v8 w8 ho8 hg8 hb8; have HO8 := Lib.hid ho8; have HG8 := Lib.hid hg8; have HB8 := Lib.hid ((below_past_alloc (below_past_alloc HB5.out)).trans hb8); clear ho8 hb8 hg8; refine hKK _ _ ?_; clear hKK KK))
          go_roundw
          case rel =>
            refine ⟨k + 1, by omega, by go_num, l ++ [(⟨ek, ep, es⟩, 0)], HY2.out, by rw [List.map_append]; exact HO8.out, ?_, HB8.out⟩
            have hI : OwnIs w.heap.size ((w5.alloc (.cells #[.string ek, .int .i64 ep, .int .i64 es] 45)).alloc (.cells #[.string ek, .int .i64 ep, .int .i64 es] 45)) u8 [] := (HO25.out.alloc _).alloc _
            exact hI.kept HG8.out (own_own_ne hI ((HO15.out.alloc _).alloc _) (by decide))
          case measure => simp [intOf]; omega
      | false =>
        have HE := Lib.hid (fun W => rgetchild_any r (by omega) W)
        cases hE : Nd.getC r with
        | none =>
          rw [hE] at HE
          unfold getCV at HE
          have HN2 := Lib.hid (HO.out.trans (HN.out (by unfold Nd.decR; rw [if_neg (by simp), hE])))
          clear hE HN HY hll
          go_wp2_with (go_at_call 69; refine (HE.out _).mono ?_; rintro e w5 ⟨rfl, hb5⟩)
          go_ret3
          rw [HN2.out]
          exact ⟨below_past_alloc (andThen hb hb5), rfl⟩
        | some ec =>
          obtain ⟨e, n⟩ := ec
          rw [hE] at HE
          unfold getCV at HE
          have HY2 := Lib.hid (HY.out (e, n) (by unfold Nd.decR; rw [if_neg (by simp), hE]))
          have hml : (l.map (·.1)).length ≤ 4096 := by rw [List.length_map]; omega
          have hml2 : (l.map (·.2)).length ≤ 4096 := by rw [List.length_map]; omega
          clear hE HN HY hll
          obtain ⟨ek, ep, es⟩ := e
          go_wp2_with (first
            | (go_at_call 69; refine (HE.out _).mono ?_; rintro e w5 ⟨rfl, hb5⟩; have HB5 := Lib.hid (andThen hb hb5); have HO15 := Lib.hid (ownsRow_below HO1.out hb5); have HO25 := Lib.hid (show OwnIs w.heap.size w5 u8 (l.map (·.2)) from ownsRow_below HO2.out hb5); clear hb5)
            | (at_builtin; refine wpList_wants (by rfl) (fun KK hKK => wp_app1G ((w5.alloc (.cells #[.string ek, .int .i64 ep, .int .i64 es] 45)).alloc (.cells #[.string ek, .int .i64 ep, .int .i64 es] 45)) (.tmp 50) (.tmp 52) rfl w.heap.size u7 (l.map (·.1)) rfl ((HO15.out.alloc _).alloc _) (w5.heap.size + 1) ⟨ek, ep, es⟩ rfl (by have := heap_alloc_new (w5.alloc (.cells #[.string ek, .int .i64 ep, .int .i64 es] 45)) (.cells #[.string ek, .int .i64 ep, .int .i64 es] 45); simpa using this) hml (by have := HB5.out.size; simp; omega) ?_); intro v8 w8 ho8 hg8 hb8; have HO8 := Lib.hid ho8; have hI8 : OwnIs w.heap.size ((w5.alloc (.cells #[.string ek, .int .i64 ep, .int .i64 es] 45)).alloc (.cells #[.string ek, .int .i64 ep, .int .i64 es] 45)) u8 (l.map (·.2)) := (HO25.out.alloc _).alloc _; have hE8 : OwnEs w.heap.size ((w5.alloc (.cells #[.string ek, .int .i64 ep, .int .i64 es] 45)).alloc (.cells #[.string ek, .int .i64 ep, .int .i64 es] 45)) u7 (l.map (·.1)) := (HO15.out.alloc _).alloc _; have HI8 := Lib.hid (hI8.kept hg8 (own_own_ne hI8 hE8 (by decide))); have HB8 := Lib.hid ((below_past_alloc (below_past_alloc HB5.out)).trans hb8); clear ho8 hb8 hg8 hI8 hE8; refine hKK _ _ ?_; clear hKK KK)
            | (at_builtin; refine wpList_wants (by rfl) (fun KK hKK => wp_app1I (w8.alloc (.cells #[.int .i64 n] 3)) (.tmp 54) (.tmp 56) rfl w.heap.size u8 (l.map (·.2)) rfl (HI8.out.alloc _) w8.heap.size n rfl (heap_alloc_new w8 _) hml2 (by have := HB8.out.size; simp; omega) ?_); intro v9 w9 ho9 hg9 hb9; have HI9 := Lib.hid ho9; have hE9 : OwnEs w.heap.size (w8.alloc (.cells #[.int .i64 n] 3)) v8 (l.map (·.1) ++ [⟨ek, ep, es⟩]) := HO8.out.alloc _; have hI9 : OwnIs w.heap.size (w8.alloc (.cells #[.int .i64 n] 3)) u8 (l.map (·.2)) := HI8.out.alloc _; have HO9 := Lib.hid (hE9.kept hg9 (own_own_ne hE9 hI9 (by decide))); have HB9 := Lib.hid ((below_past_alloc HB8.out).trans hb9); clear ho9 hb9 hg9 hE9 hI9; refine hKK _ _ ?_; clear hKK KK))
          go_roundw
          case rel =>
            refine ⟨k + 1, by omega, by go_num, l ++ [(⟨ek, ep, es⟩, n)], HY2.out, by rw [List.map_append]; exact HO9.out, ?_, HB9.out⟩
            rw [if_neg (by simp), List.map_append]; exact HI9.out
          case measure => simp [intOf]; omega
    · obtain rfl : k = rs.length := by omega
      have HDD := Lib.hid (HO.out.trans HD.out)
      go_wp2_with fail
      go_ret3
      rw [HDD.out]
      exact ⟨hb, u7, u8, rfl, HO1.out, HO2.out⟩
end Go.Proofs.Ytgbihdlahghonaa
/- The walk over the reference of tree pages: parts. -/
namespace Nd
theorem getE_key {s : ByteArray} {e : Entry} (h : getE s = some e) : e.key.size ≤ 140737488355328 := by
  unfold getE at h
  split at h
  · cases h
  · rename_i hs
    injection h with h
    subst h
    show (s.extract 5 s.size).size ≤ _
    rw [ByteArray.size_extract]
    omega
theorem decR_key {lf : Bool} {s : ByteArray} {x : Entry × Int} (h : decR lf s = some x) : x.1.key.size ≤ 140737488355328 := by
  unfold decR at h
  split at h
  · cases hE : getE s with
    | none => rw [hE] at h; cases h
    | some e => rw [hE] at h; injection h with h; subst h; exact getE_key hE
  · unfold getC at h
    split at h
    · cases h
    · cases hE : getE (s.extract 3 s.size) with
      | none => rw [hE] at h; cases h
      | some e => rw [hE] at h; injection h with h; subst h; exact getE_key hE
theorem decN_key {lf : Bool} {rs : List ByteArray} : ∀ (n : Nat) (l : List (Entry × Int)), decN lf rs n = some l → ∀ x ∈ l, x.1.key.size ≤ 140737488355328 := by
  intro n
  induction n with
  | zero => intro l h; injection h with h; subst h; intro x hx; cases hx
  | succ n ih =>
    intro l h x hx
    simp only [decN] at h
    split at h
    · cases h
    · rename_i l0 h0
      split at h
      · cases h
      · rename_i y hy
        injection h with h
        subst h
        rw [List.mem_append, List.mem_singleton] at hx
        rcases hx with hx | rfl
        · exact ih l0 h0 x hx
        · exact decR_key hy
/-- Each from the one on up to m stands behind the one before it. -/
def LessFrom (l : List Entry) (from_ m : Nat) : Prop := ∀ j (h : j < l.length), from_ ≤ j → j < m → lessE (l[j - 1]'(by omega)) l[j] = true
theorem lessFrom_start (l : List Entry) (f : Nat) : LessFrom l f f := fun _ _ h1 h2 => by omega
theorem lessFrom_succ {l : List Entry} {f m : Nat} (h : LessFrom l f m) (hm : m < l.length) (hl : lessE (l[m - 1]'(by omega)) l[m] = true) : LessFrom l f (m + 1) := fun j hj h1 h2 => by
  rcases Nat.lt_or_eq_of_le (Nat.le_of_lt_succ h2) with h3 | h3
  · exact h j hj h1 h3
  · subst h3; exact hl
theorem lessFrom_leaf {l : List Entry} {m : Nat} (h : LessFrom l 1 m) (hm : l.length ≤ m) : rises l = true := (rises_iff l).2 fun j hj => by
  have := h (j + 1) hj (by omega) (by omega)
  simpa using this
theorem lessFrom_node {l : List Entry} {m : Nat} (h : LessFrom l 2 m) (hm : l.length ≤ m) : rises (l.drop 1) = true := (rises_iff _).2 fun j hj => by
  rw [List.length_drop] at hj
  have h1 := h (j + 2) (by omega) (by omega) (by omega)
  rw [List.getElem_drop, List.getElem_drop]
  have e1 : l[1 + j]'(by omega) = l[j + 2 - 1]'(by omega) := by congr 1; omega
  have e2 : l[1 + (j + 1)]'(by omega) = l[j + 2]'(by omega) := by congr 1; omega
  rw [e1, e2]; exact h1
theorem lessFrom_not {l : List Entry} {m : Nat} (hm1 : 1 ≤ m) (hm : m < l.length) (hl : lessE (l[m - 1]'(by omega)) l[m] = false) : rises l = false := by
  refine rises_false (m - 1) (by omega) ?_
  have e2 : l[m - 1 + 1]'(by omega) = l[m]'hm := by congr 1; omega
  rw [e2]; exact hl
theorem lessFrom_not2 {l : List Entry} {m : Nat} (hm1 : 2 ≤ m) (hm : m < l.length) (hl : lessE (l[m - 1]'(by omega)) l[m] = false) : rises (l.drop 1) = false := by
  refine rises_false (m - 2) (by rw [List.length_drop]; omega) ?_
  rw [List.getElem_drop, List.getElem_drop]
  have e1 : l[1 + (m - 2)]'(by omega) = l[m - 1]'(by omega) := by congr 1; omega
  have e2 : l[1 + (m - 2 + 1)]'(by omega) = l[m]'hm := by congr 1; omega
  rw [e1, e2]; exact hl
theorem fullR_false {lf : Bool} {rs : List ByteArray} (h : fullR rs = false) : decN lf rs rs.length = none := by
  unfold fullR at h
  rw [List.all_eq_false] at h
  obtain ⟨r, hr, h0⟩ := h
  obtain ⟨j, hj, rfl⟩ := List.getElem_of_mem hr
  have hz : rs[j].size = 0 := by simpa using h0
  cases hd : decN lf rs j with
  | none =>
    obtain ⟨d, hd2⟩ : ∃ d, rs.length = j + d := ⟨rs.length - j, by omega⟩
    rw [hd2]; exact decN_none lf rs hd d
  | some l => exact decN_stop lf rs hd (by rw [List.getElem?_eq_getElem hj]; exact decR_empty lf hz) hj
end Nd
namespace Go.Proofs.Ytgbihdlahghonaa
open Go.RowKit

/-- What parts returns. -/
def PartsOut (ok : Bool) (es : List Nd.Entry) (ks : List Int) (w : World) (e : Ending) (w' : World) : Prop :=
  ∃ v1 v2, e = .returned (.tuple #[v1, v2, .bool ok]) ∧ OwnEs w.heap.size w' v1 es ∧ OwnIs w.heap.size w' v2 ks ∧ Below w.heap.size w w'
theorem partsOut_no {w w' : World} (h : Below w.heap.size w w') : PartsOut false [] [] w (.returned (.tuple #[.slice none 0 0, .slice none 0 0, .bool false])) w' :=
  ⟨_, _, rfl, nil_row _ _ _ _, nil_row _ _ _ _, h⟩
/-- The parts of a page that is none of a tree. -/
theorem look_no {p : ByteArray} (h : lookP p = none) : rightP p = false ∧ (viewP p).ents = [] ∧ kidsP p = [] := by
  have hr : rightP p = false := by unfold rightP; rw [h]; rfl
  exact ⟨hr, by rw [(view_wrong hr).1], (view_wrong hr).2⟩
theorem look_yes {p : ByteArray} {lf : Bool} {l : List (Nd.Entry × Int)} (h : lookP p = some (Nd.viewOf lf (leafP p).recs l)) : rightP p = true ∧ (viewP p).ents = l.map (·.1) ∧ kidsP p = if lf then [] else l.map (·.2) := by
  have hr : rightP p = true := by unfold rightP; rw [h]; rfl
  have hv : viewP p = Nd.viewOf lf (leafP p).recs l := by unfold viewP; rw [h]; rfl
  refine ⟨hr, by rw [hv]; rfl, ?_⟩
  unfold kidsP
  rw [hr, hv]
  cases lf <;> simp [Nd.viewOf]
set_option maxRecDepth 100000 in
set_option maxHeartbeats 8000000 in
theorem rpartsN_any (p : ByteArray) (hm : p.size ≤ 140737488355328) (w : World) :
    Calls Try.prog 95 #[.string p] w (PartsOut (rightP p) (viewP p).ents (kidsP p) w) := by
  have HK := Lib.hid (fun W => rkind_any p hm W)
  have HRc := Lib.hid (fun W => rrecords_any p hm W)
  have HR := Lib.hid (fun W => rright_any p hm W)
  have hfine := Pg.leafOf_fine p.data.toList
  change Pg.Fine (leafP p) at hfine
  cases hb : isPg p with
  | false =>
    have hl : lookP p = none := by unfold lookP; rw [hb]; rfl
    obtain ⟨h1, h2, h3⟩ := look_no hl
    rw [h1, h2, h3]
    rw [hb] at HR
    generalize Nd.fullR (leafP p).recs = F at HRc
    generalize (leafP p).recs = rs at HRc
    generalize (leafP p).kind = kd at HK
    clear h1 h2 h3 hl hb hfine
    go_enter Try.func95, Try.ntmps95
    go_wp2_with (first
      | (go_at_call 20; refine (HK.out _).mono ?_; rintro e w1 ⟨rfl, hb1⟩; have HB1 := Lib.hid hb1; clear hb1)
      | (go_at_call 97; refine (HRc.out _).mono ?_; rintro e w2 ⟨v, rfl, -, hb2⟩; have HB2 := Lib.hid (andThen HB1.out hb2); clear hb2)
      | (go_at_call 18; refine (HR.out _).mono ?_; rintro e w3 ⟨rfl, hb3⟩; have HB3 := Lib.hid (andThen HB2.out hb3); clear hb3))
    go_ret3
    exact partsOut_no HB3.out
  | true =>
    rw [hb] at HR
    have hlk : lookP p = Nd.lookR (leafP p).kind (leafP p).recs := by unfold lookP; rw [if_pos hb]
    cases hF : Nd.fullR (leafP p).recs with
    | false =>
      have hl : lookP p = none := by
        rw [hlk]
        unfold Nd.lookR
        split
        · exact Nd.lookL_none (Nd.fullR_false hF)
        · split
          · exact Nd.lookL_none (Nd.fullR_false hF)
          · rfl
      obtain ⟨h1, h2, h3⟩ := look_no hl
      rw [h1, h2, h3]
      rw [hF] at HRc
      generalize (leafP p).recs = rs at HRc
      generalize (leafP p).kind = kd at HK
      clear h1 h2 h3 hl hlk hb hF hfine
      go_enter Try.func95, Try.ntmps95
      go_wp2_with (first
        | (go_at_call 20; refine (HK.out _).mono ?_; rintro e w1 ⟨rfl, hb1⟩; have HB1 := Lib.hid hb1; clear hb1)
        | (go_at_call 97; refine (HRc.out _).mono ?_; rintro e w2 ⟨v, rfl, -, hb2⟩; have HB2 := Lib.hid (andThen HB1.out hb2); clear hb2)
        | (go_at_call 18; refine (HR.out _).mono ?_; rintro e w3 ⟨rfl, hb3⟩; have HB3 := Lib.hid (andThen HB2.out hb3); clear hb3))
      go_ret3
      exact partsOut_no HB3.out
    | true =>
      rw [hF] at HRc
      by_cases h34 : (leafP p).kind ≠ 3 ∧ (leafP p).kind ≠ 4
      · have hl : lookP p = none := by
          rw [hlk]; exact (if_neg h34.1).trans (if_neg h34.2)
        obtain ⟨h1, h2, h3⟩ := look_no hl
        rw [h1, h2, h3]
        have e3 : (((leafP p).kind : Int) != 3) = true := by simp; omega
        have e4 : (((leafP p).kind : Int) != 4) = true := by simp; omega
        generalize (leafP p).recs = rs at HRc
        generalize (leafP p).kind = kd at HK e3 e4
        clear h1 h2 h3 hl hlk hb hF hfine h34
        go_enter Try.func95, Try.ntmps95
        go_wp2_with (first
          | (go_at_call 20; refine (HK.out _).mono ?_; rintro e w1 ⟨rfl, hb1⟩; have HB1 := Lib.hid hb1; clear hb1)
          | (go_at_call 97; refine (HRc.out _).mono ?_; rintro e w2 ⟨v, rfl, -, hb2⟩; have HB2 := Lib.hid (andThen HB1.out hb2); clear hb2)
          | (go_at_call 18; refine (HR.out _).mono ?_; rintro e w3 ⟨rfl, hb3⟩; have HB3 := Lib.hid (andThen HB2.out hb3); clear hb3))
        go_ret3
        exact partsOut_no HB3.out
      · have hlen := hfine.len
        have heach := hfine.each
        have hk34 : (leafP p).kind = 3 ∨ (leafP p).kind = 4 := by omega
        have hyes := fun lf l => @look_yes p lf l
        have hno := @look_no p
        generalize (leafP p).recs = rs at HRc hlk hlen heach hyes
        generalize (leafP p).kind = kd at HK hlk hk34
        have HNO := Lib.hid hno
        have HYES := Lib.hid hyes
        generalize lookP p = LK at hlk HNO HYES
        clear hb hF hfine h34 hyes hno
        subst hlk
        generalize rightP p = ok at HNO HYES ⊢
        generalize (viewP p).ents = ves at HNO HYES ⊢
        generalize kidsP p = vks at HNO HYES ⊢
        have HRD := Lib.hid (fun A c W h => rread_any kd A c rs hlen heach W h)
        rcases hk34 with rfl | rfl
        · skip
          have hlr : Nd.lookR 3 rs = Nd.lookL true rs := rfl
          rw [hlr] at HNO HYES
          have HRD : Hid (∀ A c W, Cells W A c rs → Calls Try.prog 120 #[.int .i64 (3 : Int), .slice A rs.length c] W (ReadOut true (Nd.decN true rs rs.length) W)) := HRD
          cases hO : Nd.decN true rs rs.length with
          | none =>
            obtain ⟨rfl, rfl, rfl⟩ := HNO.out (Nd.lookL_none hO)
            rw [hO] at HRD
            clear hO HNO HYES hlr
            go_enter Try.func95, Try.ntmps95
            go_wp2_with (first
              | (go_at_call 20; refine (HK.out _).mono ?_; rintro e w1 ⟨rfl, hb1⟩; have HB1 := Lib.hid hb1; clear hb1)
              | (go_at_call 97; refine (HRc.out _).mono ?_; rintro e w2 ⟨v, rfl, ho2, hb2⟩; have HB2 := Lib.hid (andThen HB1.out hb2); obtain ⟨A2, c2, rfl⟩ := own_len ho2; have HT2 := Lib.hid (ownT_cells ho2).1; clear hb2 ho2)
              | (go_at_call 18; refine (HR.out _).mono ?_; rintro e w3 ⟨rfl, hb3⟩; have HB3 := Lib.hid (andThen HB2.out hb3); have HT3 := Lib.hid (HT2.out.below hb3); clear hb3)
              | (go_at_call 120; refine (HRD.out A2 c2 _ HT3.out).mono ?_; rintro e w4 ⟨hb4, rfl⟩; have HB4 := Lib.hid (andThen HB3.out hb4); clear hb4))
            go_ret3
            exact partsOut_no HB4.out
          | some l =>
            rw [hO] at HRD
            have hkey := Nd.decN_key _ _ hO
            have hll : l.length = rs.length := Nd.decN_length _ _ _ _ hO
            obtain ⟨es, hes⟩ : ∃ es, es = l.map (·.1) := ⟨_, rfl⟩
            have hel : es.length ≤ 123 := by rw [hes, List.length_map]; omega
            have hek : ∀ x ∈ es, x.key.size ≤ 140737488355328 := by
              rw [hes]
              intro x hx
              obtain ⟨y, hy, rfl⟩ := List.mem_map.1 hx
              exact hkey y hy
            have HEK := Lib.hid hek
            have HL2 := Lib.hid (show Nd.lookL true rs = if Nd.rises es then some (Nd.viewOf true rs l) else none by rw [Nd.lookL_some hO, if_neg (by simp), hes]; rfl)
            have HES := Lib.hid hes
            clear hO hlr hkey hll hes hek
            go_enter Try.func95, Try.ntmps95
            go_upto_region 11 with (first
              | (go_at_call 20; refine (HK.out _).mono ?_; rintro e w1 ⟨rfl, hb1⟩; have HB1 := Lib.hid hb1; clear hb1)
              | (go_at_call 97; refine (HRc.out _).mono ?_; rintro e w2 ⟨v, rfl, ho2, hb2⟩; have HB2 := Lib.hid (andThen HB1.out hb2); obtain ⟨A2, c2, rfl⟩ := own_len ho2; have HT2 := Lib.hid (ownT_cells ho2).1; clear hb2 ho2)
              | (go_at_call 18; refine (HR.out _).mono ?_; rintro e w3 ⟨rfl, hb3⟩; have HB3 := Lib.hid (andThen HB2.out hb3); have HT3 := Lib.hid (HT2.out.below hb3); clear hb3)
              | (go_at_call 120; refine (HRD.out A2 c2 _ HT3.out).mono ?_; rintro e w4 ⟨hb4, v1, v2, rfl, ho1, ho2⟩; rw [← HES.out] at ho1; have HO1 := Lib.hid (own_mono ho1 HB3.out.size); have HO2 := Lib.hid (own_mono ho2 HB3.out.size); have HB4 := Lib.hid (andThen HB3.out hb4); have hcc := ownEs_cells ho1; obtain ⟨A4, c4, rfl, hC4⟩ := hcc; have HC4 := Lib.hid hC4; clear hb4 ho1 ho2 hC4))
            go_wp2_with fail
            go_loopw [12] (fun i wr => ∃ m : Nat, 1 ≤ m ∧ (m ≤ es.length ∨ m = 1) ∧ i = .int .i64 m ∧ Nd.LessFrom es 1 m ∧ Below w4.heap.size w4 wr) (fun i _ => es.length + 1 - (intOf i).toNat)
            case atStart => exact ⟨1, Nat.le_refl _, .inr rfl, rfl, Nd.lessFrom_start _ _, Below.refl _ _⟩
            case round =>
              obtain ⟨m, hm1, hm2, rfl, hL, hb⟩ := hrel
              have HL := Lib.hid hL
              clear hL
              by_cases hlt : m < es.length
              · obtain ⟨g, off, rfl, hc, hgl, hE⟩ := (HC4.out.below hb).at_ (by omega)
                have HS0 := heldL_of hE hgl (show m - 1 < es.length by omega) hlt
                have HSS := Lib.hid (HS0.step (Below.refl _ _).drew)
                have HLess := Lib.hid (fun W => rless_any es[m - 1] es[m] (HEK.out _ (List.getElem_mem _)) (HEK.out _ (List.getElem_mem _)) W)
                have HUP := Lib.hid (fun h => Nd.lessFrom_succ HL.out hlt h)
                have HDN := Lib.hid (fun h => Nd.lessFrom_not hm1 hlt h)
                clear hE HS0
                generalize es[m - 1] = ea at HSS HLess HUP HDN
                generalize es[m] = eb at HSS HLess HUP HDN
                generalize Nd.lessE ea eb = lb at HLess HUP HDN
                obtain ⟨ak, ap, as_⟩ := ea
                obtain ⟨bk, bp, bs⟩ := eb
                have hi1 : (0 : Int) ≤ (m : Int) - 1 := by omega
                have hi2 : (m : Int) - 1 < (es.length : Int) := by omega
                have hi3 : (0 : Int) ≤ (m : Int) := by omega
                have hi4 : (m : Int) < (es.length : Int) := by omega
                have hi5 : ((m : Int) - 1).toNat = m - 1 := by omega
                have hi6 : (1 : Int) ≤ (m : Int) := by omega
                have hi7 : 1 ≤ m := by omega
                have hw1 : IntKind.i64.wrap ((m : Int) - 1) = (m : Int) - 1 := IntWalk.i64_in _ (by omega)
                cases lb with
                | true =>
                  have HUP2 := Lib.hid (HUP.out rfl)
                  clear HUP HDN
                  go_upto_region 14 with (fail)
                  refine wp_region_held_drew (S := (fun we => HeldL g (off + (m - 1) * 3) (off + m * 3) ⟨ak, ap, as_⟩ ⟨bk, bp, bs⟩ wr we)) (by kernel_rfl) ?_ (fun hHeld => ?_)
                  · first | exact HSS.out | exact hSn
                  refine wpAnyH_take (i := 0) (oi := { dst := some 62, op := _, type := _, pos := _, after := _, guard := _ }) (v := ?_) rfl (by kernel_rfl) (by kernel_rfl) (by kernel_rfl) (fun _ _ _ h => h) (Or.inl ⟨by rfl, ?_⟩) (by assumption) ?_
                  rotate_left
                  · intro w hSw; (try dsimp only at hSw); go_simp; (try with_reducible rfl)
                  try simp only [Act.put, List.setIfInBounds_toArray, List.set_cons_zero, List.set_cons_succ]
                  refine wpAnyH_take (i := 1) (oi := { dst := some 63, op := _, type := _, pos := _, after := _, guard := _ }) (v := ?_) rfl (by kernel_rfl) (by kernel_rfl) (by kernel_rfl) (fun _ _ _ h => h) (Or.inl ⟨by rfl, ?_⟩) (by assumption) ?_
                  rotate_left
                  · intro w hSw; (try dsimp only at hSw); go_simp; (try with_reducible rfl)
                  try simp only [Act.put, List.setIfInBounds_toArray, List.set_cons_zero, List.set_cons_succ]
                  refine wpAnyH_take (i := 2) (oi := { dst := some 64, op := _, type := _, pos := _, after := _, guard := _ }) (v := ?_) rfl (by kernel_rfl) (by kernel_rfl) (by kernel_rfl) (fun _ _ _ h => h) (Or.inl ⟨by rfl, ?_⟩) (by assumption) ?_
                  rotate_left
                  · intro w hSw; (try dsimp only at hSw); go_simp; (try with_reducible rfl)
                  try simp only [Act.put, List.setIfInBounds_toArray, List.set_cons_zero, List.set_cons_succ]
                  refine wpAnyH_take (i := 3) (oi := { dst := some 65, op := _, type := _, pos := _, after := _, guard := _ }) (v := ?_) rfl (by kernel_rfl) (by kernel_rfl) (by kernel_rfl) (fun _ _ _ h => h) (Or.inl ⟨by rfl, ?_⟩) (by assumption) ?_
                  rotate_left
                  · intro w hSw; (try dsimp only at hSw); go_simp; (try with_reducible rfl)
                  try simp only [Act.put, List.setIfInBounds_toArray, List.set_cons_zero, List.set_cons_succ]
                  refine wpAnyH_take (i := 4) (oi := { dst := some 66, op := _, type := _, pos := _, after := _, guard := _ }) (v := ?_) rfl (by kernel_rfl) (by kernel_rfl) (by kernel_rfl) (fun _ _ _ h => h) (Or.inl ⟨by rfl, ?_⟩) (by assumption) ?_
                  rotate_left
                  · intro w hSw; (try dsimp only at hSw); go_simp; (try with_reducible rfl)
                  try simp only [Act.put, List.setIfInBounds_toArray, List.set_cons_zero, List.set_cons_succ]
                  refine wpAnyH_take (i := 5) (oi := { dst := some 67, op := _, type := _, pos := _, after := _, guard := _ }) (v := ?_) rfl (by kernel_rfl) (by kernel_rfl) (by kernel_rfl) (fun _ _ _ h => h) (Or.inl ⟨by rfl, ?_⟩) (by assumption) ?_
                  rotate_left
                  · intro w hSw; (try dsimp only at hSw); go_simp; (try with_reducible rfl)
                  try simp only [Act.put, List.setIfInBounds_toArray, List.set_cons_zero, List.set_cons_succ]
                  refine wpAnyH_take (i := 6) (oi := { dst := some 68, op := _, type := _, pos := _, after := _, guard := _ }) (v := ?_) rfl (by kernel_rfl) (by kernel_rfl) (by kernel_rfl) (fun _ _ _ h => h) (Or.inl ⟨by rfl, ?_⟩) (by assumption) ?_
                  rotate_left
                  · intro w hSw; (try dsimp only at hSw); go_simp; (try with_reducible rfl)
                  try simp only [Act.put, List.setIfInBounds_toArray, List.set_cons_zero, List.set_cons_succ]
                  refine wpAnyH_take (i := 7) (oi := { dst := some 69, op := _, type := _, pos := _, after := _, guard := _ }) (v := ?_) rfl (by kernel_rfl) (by kernel_rfl) (by kernel_rfl) (fun _ _ _ h => h) (Or.inl ⟨by rfl, ?_⟩) (by assumption) ?_
                  rotate_left
                  · intro w hSw; (try dsimp only at hSw); go_simp; (try with_reducible rfl)
                  try simp only [Act.put, List.setIfInBounds_toArray, List.set_cons_zero, List.set_cons_succ]
                  refine wpAnyH_take (i := 8) (oi := { dst := some 70, op := _, type := _, pos := _, after := _, guard := _ }) (v := ?_) rfl (by kernel_rfl) (by kernel_rfl) (by kernel_rfl) (fun _ _ _ h => h) (Or.inl ⟨by rfl, ?_⟩) (by assumption) ?_
                  rotate_left
                  · intro w hSw; (try dsimp only at hSw); go_simp; (try with_reducible rfl)
                  try simp only [Act.put, List.setIfInBounds_toArray, List.set_cons_zero, List.set_cons_succ]
                  refine wpAnyH_ready (rs := [9]) (by kernel_rfl) (by simp) ?_
                  refine AllReadyH.cons (o := { dst := some 71, op := _, type := _, pos := _, after := _, guard := _ }) rfl (fun K hK => ?_) ?_
                  rotate_left
                  · exact AllReadyH.nil
                  go_simp
                  refine (HLess.out _).mono ?_; rintro e w7 ⟨rfl, hb7⟩; have hSn := hHeld.step hb7; clear hHeld hb7; try go_simp
                  refine hK.out _ _ ?_ (fun hHeld => ?_)
                  · first | exact HSS.out | exact hSn
                  clear hK K
                  try simp only [Act.put, List.setIfInBounds_toArray, List.set_cons_zero, List.set_cons_succ]
                  refine wpAnyH_take (i := 10) (oi := { dst := some 72, op := _, type := _, pos := _, after := _, guard := _ }) (v := ?_) rfl (by kernel_rfl) (by kernel_rfl) (by kernel_rfl) (fun _ _ _ h => h) (Or.inl ⟨by rfl, ?_⟩) (by assumption) ?_
                  rotate_left
                  · intro w hSw; (try dsimp only at hSw); go_simp; (try with_reducible rfl)
                  try simp only [Act.put, List.setIfInBounds_toArray, List.set_cons_zero, List.set_cons_succ]
                  refine wpAnyH_done (by kernel_rfl) ?_ _
                  go_wp2_with fail
                  go_roundw
                  case rel => exact ⟨m + 1, by omega, .inl (by omega), by go_num, HUP2.out, andThen hb hHeld.2.2.2.2.2.2.2⟩
                  case measure => simp [intOf]; omega
                | false =>
                  have hn : ok = false ∧ ves = [] ∧ vks = [] := HNO.out (by rw [HL2.out, HDN.out rfl]; rfl)
                  obtain ⟨rfl, rfl, rfl⟩ := hn
                  clear HUP HDN
                  go_upto_region 14 with (fail)
                  refine wp_region_held_drew (S := (fun we => HeldL g (off + (m - 1) * 3) (off + m * 3) ⟨ak, ap, as_⟩ ⟨bk, bp, bs⟩ wr we)) (by kernel_rfl) ?_ (fun hHeld => ?_)
                  · first | exact HSS.out | exact hSn
                  refine wpAnyH_take (i := 0) (oi := { dst := some 62, op := _, type := _, pos := _, after := _, guard := _ }) (v := ?_) rfl (by kernel_rfl) (by kernel_rfl) (by kernel_rfl) (fun _ _ _ h => h) (Or.inl ⟨by rfl, ?_⟩) (by assumption) ?_
                  rotate_left
                  · intro w hSw; (try dsimp only at hSw); go_simp; (try with_reducible rfl)
                  try simp only [Act.put, List.setIfInBounds_toArray, List.set_cons_zero, List.set_cons_succ]
                  refine wpAnyH_take (i := 1) (oi := { dst := some 63, op := _, type := _, pos := _, after := _, guard := _ }) (v := ?_) rfl (by kernel_rfl) (by kernel_rfl) (by kernel_rfl) (fun _ _ _ h => h) (Or.inl ⟨by rfl, ?_⟩) (by assumption) ?_
                  rotate_left
                  · intro w hSw; (try dsimp only at hSw); go_simp; (try with_reducible rfl)
                  try simp only [Act.put, List.setIfInBounds_toArray, List.set_cons_zero, List.set_cons_succ]
                  refine wpAnyH_take (i := 2) (oi := { dst := some 64, op := _, type := _, pos := _, after := _, guard := _ }) (v := ?_) rfl (by kernel_rfl) (by kernel_rfl) (by kernel_rfl) (fun _ _ _ h => h) (Or.inl ⟨by rfl, ?_⟩) (by assumption) ?_
                  rotate_left
                  · intro w hSw; (try dsimp only at hSw); go_simp; (try with_reducible rfl)
                  try simp only [Act.put, List.setIfInBounds_toArray, List.set_cons_zero, List.set_cons_succ]
                  refine wpAnyH_take (i := 3) (oi := { dst := some 65, op := _, type := _, pos := _, after := _, guard := _ }) (v := ?_) rfl (by kernel_rfl) (by kernel_rfl) (by kernel_rfl) (fun _ _ _ h => h) (Or.inl ⟨by rfl, ?_⟩) (by assumption) ?_
                  rotate_left
                  · intro w hSw; (try dsimp only at hSw); go_simp; (try with_reducible rfl)
                  try simp only [Act.put, List.setIfInBounds_toArray, List.set_cons_zero, List.set_cons_succ]
                  refine wpAnyH_take (i := 4) (oi := { dst := some 66, op := _, type := _, pos := _, after := _, guard := _ }) (v := ?_) rfl (by kernel_rfl) (by kernel_rfl) (by kernel_rfl) (fun _ _ _ h => h) (Or.inl ⟨by rfl, ?_⟩) (by assumption) ?_
                  rotate_left
                  · intro w hSw; (try dsimp only at hSw); go_simp; (try with_reducible rfl)
                  try simp only [Act.put, List.setIfInBounds_toArray, List.set_cons_zero, List.set_cons_succ]
                  refine wpAnyH_take (i := 5) (oi := { dst := some 67, op := _, type := _, pos := _, after := _, guard := _ }) (v := ?_) rfl (by kernel_rfl) (by kernel_rfl) (by kernel_rfl) (fun _ _ _ h => h) (Or.inl ⟨by rfl, ?_⟩) (by assumption) ?_
                  rotate_left
                  · intro w hSw; (try dsimp only at hSw); go_simp; (try with_reducible rfl)
                  try simp only [Act.put, List.setIfInBounds_toArray, List.set_cons_zero, List.set_cons_succ]
                  refine wpAnyH_take (i := 6) (oi := { dst := some 68, op := _, type := _, pos := _, after := _, guard := _ }) (v := ?_) rfl (by kernel_rfl) (by kernel_rfl) (by kernel_rfl) (fun _ _ _ h => h) (Or.inl ⟨by rfl, ?_⟩) (by assumption) ?_
                  rotate_left
                  · intro w hSw; (try dsimp only at hSw); go_simp; (try with_reducible rfl)
                  try simp only [Act.put, List.setIfInBounds_toArray, List.set_cons_zero, List.set_cons_succ]
                  refine wpAnyH_take (i := 7) (oi := { dst := some 69, op := _, type := _, pos := _, after := _, guard := _ }) (v := ?_) rfl (by kernel_rfl) (by kernel_rfl) (by kernel_rfl) (fun _ _ _ h => h) (Or.inl ⟨by rfl, ?_⟩) (by assumption) ?_
                  rotate_left
                  · intro w hSw; (try dsimp only at hSw); go_simp; (try with_reducible rfl)
                  try simp only [Act.put, List.setIfInBounds_toArray, List.set_cons_zero, List.set_cons_succ]
                  refine wpAnyH_take (i := 8) (oi := { dst := some 70, op := _, type := _, pos := _, after := _, guard := _ }) (v := ?_) rfl (by kernel_rfl) (by kernel_rfl) (by kernel_rfl) (fun _ _ _ h => h) (Or.inl ⟨by rfl, ?_⟩) (by assumption) ?_
                  rotate_left
                  · intro w hSw; (try dsimp only at hSw); go_simp; (try with_reducible rfl)
                  try simp only [Act.put, List.setIfInBounds_toArray, List.set_cons_zero, List.set_cons_succ]
                  refine wpAnyH_ready (rs := [9]) (by kernel_rfl) (by simp) ?_
                  refine AllReadyH.cons (o := { dst := some 71, op := _, type := _, pos := _, after := _, guard := _ }) rfl (fun K hK => ?_) ?_
                  rotate_left
                  · exact AllReadyH.nil
                  go_simp
                  refine (HLess.out _).mono ?_; rintro e w7 ⟨rfl, hb7⟩; have hSn := hHeld.step hb7; clear hHeld hb7; try go_simp
                  refine hK.out _ _ ?_ (fun hHeld => ?_)
                  · first | exact HSS.out | exact hSn
                  clear hK K
                  try simp only [Act.put, List.setIfInBounds_toArray, List.set_cons_zero, List.set_cons_succ]
                  refine wpAnyH_take (i := 10) (oi := { dst := some 72, op := _, type := _, pos := _, after := _, guard := _ }) (v := ?_) rfl (by kernel_rfl) (by kernel_rfl) (by kernel_rfl) (fun _ _ _ h => h) (Or.inl ⟨by rfl, ?_⟩) (by assumption) ?_
                  rotate_left
                  · intro w hSw; (try dsimp only at hSw); go_simp; (try with_reducible rfl)
                  try simp only [Act.put, List.setIfInBounds_toArray, List.set_cons_zero, List.set_cons_succ]
                  refine wpAnyH_done (by kernel_rfl) ?_ _
                  go_wp2_with fail
                  go_ret3
                  exact partsOut_no (andThen (andThen HB4.out hb) hHeld.2.2.2.2.2.2.2)
              · have hy : ok = true ∧ ves = l.map (·.1) ∧ vks = if true then [] else l.map (·.2) := HYES.out true l (by rw [HL2.out, if_pos (Nd.lessFrom_leaf HL.out (by omega))])
                obtain ⟨rfl, rfl, rfl⟩ := hy
                go_wp2_with fail
                go_ret3
                refine ⟨_, _, rfl, ?_, ownsRow_below HO2.out hb, andThen HB4.out hb⟩
                have h1 := ownsRow_below HO1.out hb
                have e := HES.out
                subst e
                exact h1
        · skip
          have hlr : Nd.lookR 4 rs = Nd.lookL false rs := rfl
          rw [hlr] at HNO HYES
          have HRD : Hid (∀ A c W, Cells W A c rs → Calls Try.prog 120 #[.int .i64 (4 : Int), .slice A rs.length c] W (ReadOut false (Nd.decN false rs rs.length) W)) := HRD
          cases hO : Nd.decN false rs rs.length with
          | none =>
            obtain ⟨rfl, rfl, rfl⟩ := HNO.out (Nd.lookL_none hO)
            rw [hO] at HRD
            clear hO HNO HYES hlr
            go_enter Try.func95, Try.ntmps95
            go_wp2_with (first
              | (go_at_call 20; refine (HK.out _).mono ?_; rintro e w1 ⟨rfl, hb1⟩; have HB1 := Lib.hid hb1; clear hb1)
              | (go_at_call 97; refine (HRc.out _).mono ?_; rintro e w2 ⟨v, rfl, ho2, hb2⟩; have HB2 := Lib.hid (andThen HB1.out hb2); obtain ⟨A2, c2, rfl⟩ := own_len ho2; have HT2 := Lib.hid (ownT_cells ho2).1; clear hb2 ho2)
              | (go_at_call 18; refine (HR.out _).mono ?_; rintro e w3 ⟨rfl, hb3⟩; have HB3 := Lib.hid (andThen HB2.out hb3); have HT3 := Lib.hid (HT2.out.below hb3); clear hb3)
              | (go_at_call 120; refine (HRD.out A2 c2 _ HT3.out).mono ?_; rintro e w4 ⟨hb4, rfl⟩; have HB4 := Lib.hid (andThen HB3.out hb4); clear hb4))
            go_ret3
            exact partsOut_no HB4.out
          | some l =>
            rw [hO] at HRD
            have hkey := Nd.decN_key _ _ hO
            have hll : l.length = rs.length := Nd.decN_length _ _ _ _ hO
            obtain ⟨es, hes⟩ : ∃ es, es = l.map (·.1) := ⟨_, rfl⟩
            have hel : es.length ≤ 123 := by rw [hes, List.length_map]; omega
            have hek : ∀ x ∈ es, x.key.size ≤ 140737488355328 := by
              rw [hes]
              intro x hx
              obtain ⟨y, hy, rfl⟩ := List.mem_map.1 hx
              exact hkey y hy
            have HEK := Lib.hid hek
            by_cases hnil : l = []
            · obtain ⟨rfl, rfl, rfl⟩ := HNO.out (by rw [Nd.lookL_some hO, if_pos ⟨rfl, hnil⟩])
              subst hnil
              clear hO HNO HYES hlr hkey hll hes hel hek HEK
              go_enter Try.func95, Try.ntmps95
              go_wp2_with (first
                | (go_at_call 20; refine (HK.out _).mono ?_; rintro e w1 ⟨rfl, hb1⟩; have HB1 := Lib.hid hb1; clear hb1)
                | (go_at_call 97; refine (HRc.out _).mono ?_; rintro e w2 ⟨v, rfl, ho2, hb2⟩; have HB2 := Lib.hid (andThen HB1.out hb2); obtain ⟨A2, c2, rfl⟩ := own_len ho2; have HT2 := Lib.hid (ownT_cells ho2).1; clear hb2 ho2)
                | (go_at_call 18; refine (HR.out _).mono ?_; rintro e w3 ⟨rfl, hb3⟩; have HB3 := Lib.hid (andThen HB2.out hb3); have HT3 := Lib.hid (HT2.out.below hb3); clear hb3)
                | (go_at_call 120; refine (HRD.out A2 c2 _ HT3.out).mono ?_; rintro e w4 ⟨hb4, v1, v2, rfl, ho1, ho2⟩; have HB4 := Lib.hid (andThen HB3.out hb4); obtain ⟨A4, c4, rfl⟩ := own_len ho1; clear hb4 ho1 ho2))
              go_ret3
              exact partsOut_no HB4.out
            have hpos : 0 < es.length := by
              rw [hes, List.length_map]
              rcases Nat.eq_zero_or_pos l.length with h0 | h0
              · exact absurd (List.eq_nil_of_length_eq_zero h0) hnil
              · exact h0
            have e0 : ((es.length : Int) == 0) = false := by simp; exact fun h => by rw [h] at hpos; simp at hpos
            have HL2 := Lib.hid (show Nd.lookL false rs = if Nd.rises (es.drop 1) then some (Nd.viewOf false rs l) else none by rw [Nd.lookL_some hO, if_neg (fun h => hnil h.2), hes]; rfl)
            clear hnil
            have HES := Lib.hid hes
            clear hO hlr hkey hll hes hek
            go_enter Try.func95, Try.ntmps95
            go_upto_region 11 with (first
              | (go_at_call 20; refine (HK.out _).mono ?_; rintro e w1 ⟨rfl, hb1⟩; have HB1 := Lib.hid hb1; clear hb1)
              | (go_at_call 97; refine (HRc.out _).mono ?_; rintro e w2 ⟨v, rfl, ho2, hb2⟩; have HB2 := Lib.hid (andThen HB1.out hb2); obtain ⟨A2, c2, rfl⟩ := own_len ho2; have HT2 := Lib.hid (ownT_cells ho2).1; clear hb2 ho2)
              | (go_at_call 18; refine (HR.out _).mono ?_; rintro e w3 ⟨rfl, hb3⟩; have HB3 := Lib.hid (andThen HB2.out hb3); have HT3 := Lib.hid (HT2.out.below hb3); clear hb3)
              | (go_at_call 120; refine (HRD.out A2 c2 _ HT3.out).mono ?_; rintro e w4 ⟨hb4, v1, v2, rfl, ho1, ho2⟩; rw [← HES.out] at ho1; have HO1 := Lib.hid (own_mono ho1 HB3.out.size); have HO2 := Lib.hid (own_mono ho2 HB3.out.size); have HB4 := Lib.hid (andThen HB3.out hb4); have hcc := ownEs_cells ho1; obtain ⟨A4, c4, rfl, hC4⟩ := hcc; have HC4 := Lib.hid hC4; clear hb4 ho1 ho2 hC4))
            go_wp2_with fail
            go_loopw [12] (fun i wr => ∃ m : Nat, 2 ≤ m ∧ (m ≤ es.length ∨ m = 2) ∧ i = .int .i64 m ∧ Nd.LessFrom es 2 m ∧ Below w4.heap.size w4 wr) (fun i _ => es.length + 2 - (intOf i).toNat)
            case atStart => exact ⟨2, Nat.le_refl _, .inr rfl, rfl, Nd.lessFrom_start _ _, Below.refl _ _⟩
            case round =>
              obtain ⟨m, hm1, hm2, rfl, hL, hb⟩ := hrel
              have HL := Lib.hid hL
              clear hL
              by_cases hlt : m < es.length
              · obtain ⟨g, off, rfl, hc, hgl, hE⟩ := (HC4.out.below hb).at_ (by omega)
                have HS0 := heldL_of hE hgl (show m - 1 < es.length by omega) hlt
                have HSS := Lib.hid (HS0.step (Below.refl _ _).drew)
                have HLess := Lib.hid (fun W => rless_any es[m - 1] es[m] (HEK.out _ (List.getElem_mem _)) (HEK.out _ (List.getElem_mem _)) W)
                have HUP := Lib.hid (fun h => Nd.lessFrom_succ HL.out hlt h)
                have HDN := Lib.hid (fun h => Nd.lessFrom_not2 hm1 hlt h)
                clear hE HS0
                generalize es[m - 1] = ea at HSS HLess HUP HDN
                generalize es[m] = eb at HSS HLess HUP HDN
                generalize Nd.lessE ea eb = lb at HLess HUP HDN
                obtain ⟨ak, ap, as_⟩ := ea
                obtain ⟨bk, bp, bs⟩ := eb
                have hi1 : (0 : Int) ≤ (m : Int) - 1 := by omega
                have hi2 : (m : Int) - 1 < (es.length : Int) := by omega
                have hi3 : (0 : Int) ≤ (m : Int) := by omega
                have hi4 : (m : Int) < (es.length : Int) := by omega
                have hi5 : ((m : Int) - 1).toNat = m - 1 := by omega
                have hi6 : (1 : Int) ≤ (m : Int) := by omega
                have hi7 : 1 ≤ m := by omega
                have hw1 : IntKind.i64.wrap ((m : Int) - 1) = (m : Int) - 1 := IntWalk.i64_in _ (by omega)
                cases lb with
                | true =>
                  have HUP2 := Lib.hid (HUP.out rfl)
                  clear HUP HDN
                  go_upto_region 14 with (fail)
                  refine wp_region_held_drew (S := (fun we => HeldL g (off + (m - 1) * 3) (off + m * 3) ⟨ak, ap, as_⟩ ⟨bk, bp, bs⟩ wr we)) (by kernel_rfl) ?_ (fun hHeld => ?_)
                  · first | exact HSS.out | exact hSn
                  refine wpAnyH_take (i := 0) (oi := { dst := some 62, op := _, type := _, pos := _, after := _, guard := _ }) (v := ?_) rfl (by kernel_rfl) (by kernel_rfl) (by kernel_rfl) (fun _ _ _ h => h) (Or.inl ⟨by rfl, ?_⟩) (by assumption) ?_
                  rotate_left
                  · intro w hSw; (try dsimp only at hSw); go_simp; (try with_reducible rfl)
                  try simp only [Act.put, List.setIfInBounds_toArray, List.set_cons_zero, List.set_cons_succ]
                  refine wpAnyH_take (i := 1) (oi := { dst := some 63, op := _, type := _, pos := _, after := _, guard := _ }) (v := ?_) rfl (by kernel_rfl) (by kernel_rfl) (by kernel_rfl) (fun _ _ _ h => h) (Or.inl ⟨by rfl, ?_⟩) (by assumption) ?_
                  rotate_left
                  · intro w hSw; (try dsimp only at hSw); go_simp; (try with_reducible rfl)
                  try simp only [Act.put, List.setIfInBounds_toArray, List.set_cons_zero, List.set_cons_succ]
                  refine wpAnyH_take (i := 2) (oi := { dst := some 64, op := _, type := _, pos := _, after := _, guard := _ }) (v := ?_) rfl (by kernel_rfl) (by kernel_rfl) (by kernel_rfl) (fun _ _ _ h => h) (Or.inl ⟨by rfl, ?_⟩) (by assumption) ?_
                  rotate_left
                  · intro w hSw; (try dsimp only at hSw); go_simp; (try with_reducible rfl)
                  try simp only [Act.put, List.setIfInBounds_toArray, List.set_cons_zero, List.set_cons_succ]
                  refine wpAnyH_take (i := 3) (oi := { dst := some 65, op := _, type := _, pos := _, after := _, guard := _ }) (v := ?_) rfl (by kernel_rfl) (by kernel_rfl) (by kernel_rfl) (fun _ _ _ h => h) (Or.inl ⟨by rfl, ?_⟩) (by assumption) ?_
                  rotate_left
                  · intro w hSw; (try dsimp only at hSw); go_simp; (try with_reducible rfl)
                  try simp only [Act.put, List.setIfInBounds_toArray, List.set_cons_zero, List.set_cons_succ]
                  refine wpAnyH_take (i := 4) (oi := { dst := some 66, op := _, type := _, pos := _, after := _, guard := _ }) (v := ?_) rfl (by kernel_rfl) (by kernel_rfl) (by kernel_rfl) (fun _ _ _ h => h) (Or.inl ⟨by rfl, ?_⟩) (by assumption) ?_
                  rotate_left
                  · intro w hSw; (try dsimp only at hSw); go_simp; (try with_reducible rfl)
                  try simp only [Act.put, List.setIfInBounds_toArray, List.set_cons_zero, List.set_cons_succ]
                  refine wpAnyH_take (i := 5) (oi := { dst := some 67, op := _, type := _, pos := _, after := _, guard := _ }) (v := ?_) rfl (by kernel_rfl) (by kernel_rfl) (by kernel_rfl) (fun _ _ _ h => h) (Or.inl ⟨by rfl, ?_⟩) (by assumption) ?_
                  rotate_left
                  · intro w hSw; (try dsimp only at hSw); go_simp; (try with_reducible rfl)
                  try simp only [Act.put, List.setIfInBounds_toArray, List.set_cons_zero, List.set_cons_succ]
                  refine wpAnyH_take (i := 6) (oi := { dst := some 68, op := _, type := _, pos := _, after := _, guard := _ }) (v := ?_) rfl (by kernel_rfl) (by kernel_rfl) (by kernel_rfl) (fun _ _ _ h => h) (Or.inl ⟨by rfl, ?_⟩) (by assumption) ?_
                  rotate_left
                  · intro w hSw; (try dsimp only at hSw); go_simp; (try with_reducible rfl)
                  try simp only [Act.put, List.setIfInBounds_toArray, List.set_cons_zero, List.set_cons_succ]
                  refine wpAnyH_take (i := 7) (oi := { dst := some 69, op := _, type := _, pos := _, after := _, guard := _ }) (v := ?_) rfl (by kernel_rfl) (by kernel_rfl) (by kernel_rfl) (fun _ _ _ h => h) (Or.inl ⟨by rfl, ?_⟩) (by assumption) ?_
                  rotate_left
                  · intro w hSw; (try dsimp only at hSw); go_simp; (try with_reducible rfl)
                  try simp only [Act.put, List.setIfInBounds_toArray, List.set_cons_zero, List.set_cons_succ]
                  refine wpAnyH_take (i := 8) (oi := { dst := some 70, op := _, type := _, pos := _, after := _, guard := _ }) (v := ?_) rfl (by kernel_rfl) (by kernel_rfl) (by kernel_rfl) (fun _ _ _ h => h) (Or.inl ⟨by rfl, ?_⟩) (by assumption) ?_
                  rotate_left
                  · intro w hSw; (try dsimp only at hSw); go_simp; (try with_reducible rfl)
                  try simp only [Act.put, List.setIfInBounds_toArray, List.set_cons_zero, List.set_cons_succ]
                  refine wpAnyH_ready (rs := [9]) (by kernel_rfl) (by simp) ?_
                  refine AllReadyH.cons (o := { dst := some 71, op := _, type := _, pos := _, after := _, guard := _ }) rfl (fun K hK => ?_) ?_
                  rotate_left
                  · exact AllReadyH.nil
                  go_simp
                  refine (HLess.out _).mono ?_; rintro e w7 ⟨rfl, hb7⟩; have hSn := hHeld.step hb7; clear hHeld hb7; try go_simp
                  refine hK.out _ _ ?_ (fun hHeld => ?_)
                  · first | exact HSS.out | exact hSn
                  clear hK K
                  try simp only [Act.put, List.setIfInBounds_toArray, List.set_cons_zero, List.set_cons_succ]
                  refine wpAnyH_take (i := 10) (oi := { dst := some 72, op := _, type := _, pos := _, after := _, guard := _ }) (v := ?_) rfl (by kernel_rfl) (by kernel_rfl) (by kernel_rfl) (fun _ _ _ h => h) (Or.inl ⟨by rfl, ?_⟩) (by assumption) ?_
                  rotate_left
                  · intro w hSw; (try dsimp only at hSw); go_simp; (try with_reducible rfl)
                  try simp only [Act.put, List.setIfInBounds_toArray, List.set_cons_zero, List.set_cons_succ]
                  refine wpAnyH_done (by kernel_rfl) ?_ _
                  go_wp2_with fail
                  go_roundw
                  case rel => exact ⟨m + 1, by omega, .inl (by omega), by go_num, HUP2.out, andThen hb hHeld.2.2.2.2.2.2.2⟩
                  case measure => simp [intOf]; omega
                | false =>
                  have hn : ok = false ∧ ves = [] ∧ vks = [] := HNO.out (by rw [HL2.out, HDN.out rfl]; rfl)
                  obtain ⟨rfl, rfl, rfl⟩ := hn
                  clear HUP HDN
                  go_upto_region 14 with (fail)
                  refine wp_region_held_drew (S := (fun we => HeldL g (off + (m - 1) * 3) (off + m * 3) ⟨ak, ap, as_⟩ ⟨bk, bp, bs⟩ wr we)) (by kernel_rfl) ?_ (fun hHeld => ?_)
                  · first | exact HSS.out | exact hSn
                  refine wpAnyH_take (i := 0) (oi := { dst := some 62, op := _, type := _, pos := _, after := _, guard := _ }) (v := ?_) rfl (by kernel_rfl) (by kernel_rfl) (by kernel_rfl) (fun _ _ _ h => h) (Or.inl ⟨by rfl, ?_⟩) (by assumption) ?_
                  rotate_left
                  · intro w hSw; (try dsimp only at hSw); go_simp; (try with_reducible rfl)
                  try simp only [Act.put, List.setIfInBounds_toArray, List.set_cons_zero, List.set_cons_succ]
                  refine wpAnyH_take (i := 1) (oi := { dst := some 63, op := _, type := _, pos := _, after := _, guard := _ }) (v := ?_) rfl (by kernel_rfl) (by kernel_rfl) (by kernel_rfl) (fun _ _ _ h => h) (Or.inl ⟨by rfl, ?_⟩) (by assumption) ?_
                  rotate_left
                  · intro w hSw; (try dsimp only at hSw); go_simp; (try with_reducible rfl)
                  try simp only [Act.put, List.setIfInBounds_toArray, List.set_cons_zero, List.set_cons_succ]
                  refine wpAnyH_take (i := 2) (oi := { dst := some 64, op := _, type := _, pos := _, after := _, guard := _ }) (v := ?_) rfl (by kernel_rfl) (by kernel_rfl) (by kernel_rfl) (fun _ _ _ h => h) (Or.inl ⟨by rfl, ?_⟩) (by assumption) ?_
                  rotate_left
                  · intro w hSw; (try dsimp only at hSw); go_simp; (try with_reducible rfl)
                  try simp only [Act.put, List.setIfInBounds_toArray, List.set_cons_zero, List.set_cons_succ]
                  refine wpAnyH_take (i := 3) (oi := { dst := some 65, op := _, type := _, pos := _, after := _, guard := _ }) (v := ?_) rfl (by kernel_rfl) (by kernel_rfl) (by kernel_rfl) (fun _ _ _ h => h) (Or.inl ⟨by rfl, ?_⟩) (by assumption) ?_
                  rotate_left
                  · intro w hSw; (try dsimp only at hSw); go_simp; (try with_reducible rfl)
                  try simp only [Act.put, List.setIfInBounds_toArray, List.set_cons_zero, List.set_cons_succ]
                  refine wpAnyH_take (i := 4) (oi := { dst := some 66, op := _, type := _, pos := _, after := _, guard := _ }) (v := ?_) rfl (by kernel_rfl) (by kernel_rfl) (by kernel_rfl) (fun _ _ _ h => h) (Or.inl ⟨by rfl, ?_⟩) (by assumption) ?_
                  rotate_left
                  · intro w hSw; (try dsimp only at hSw); go_simp; (try with_reducible rfl)
                  try simp only [Act.put, List.setIfInBounds_toArray, List.set_cons_zero, List.set_cons_succ]
                  refine wpAnyH_take (i := 5) (oi := { dst := some 67, op := _, type := _, pos := _, after := _, guard := _ }) (v := ?_) rfl (by kernel_rfl) (by kernel_rfl) (by kernel_rfl) (fun _ _ _ h => h) (Or.inl ⟨by rfl, ?_⟩) (by assumption) ?_
                  rotate_left
                  · intro w hSw; (try dsimp only at hSw); go_simp; (try with_reducible rfl)
                  try simp only [Act.put, List.setIfInBounds_toArray, List.set_cons_zero, List.set_cons_succ]
                  refine wpAnyH_take (i := 6) (oi := { dst := some 68, op := _, type := _, pos := _, after := _, guard := _ }) (v := ?_) rfl (by kernel_rfl) (by kernel_rfl) (by kernel_rfl) (fun _ _ _ h => h) (Or.inl ⟨by rfl, ?_⟩) (by assumption) ?_
                  rotate_left
                  · intro w hSw; (try dsimp only at hSw); go_simp; (try with_reducible rfl)
                  try simp only [Act.put, List.setIfInBounds_toArray, List.set_cons_zero, List.set_cons_succ]
                  refine wpAnyH_take (i := 7) (oi := { dst := some 69, op := _, type := _, pos := _, after := _, guard := _ }) (v := ?_) rfl (by kernel_rfl) (by kernel_rfl) (by kernel_rfl) (fun _ _ _ h => h) (Or.inl ⟨by rfl, ?_⟩) (by assumption) ?_
                  rotate_left
                  · intro w hSw; (try dsimp only at hSw); go_simp; (try with_reducible rfl)
                  try simp only [Act.put, List.setIfInBounds_toArray, List.set_cons_zero, List.set_cons_succ]
                  refine wpAnyH_take (i := 8) (oi := { dst := some 70, op := _, type := _, pos := _, after := _, guard := _ }) (v := ?_) rfl (by kernel_rfl) (by kernel_rfl) (by kernel_rfl) (fun _ _ _ h => h) (Or.inl ⟨by rfl, ?_⟩) (by assumption) ?_
                  rotate_left
                  · intro w hSw; (try dsimp only at hSw); go_simp; (try with_reducible rfl)
                  try simp only [Act.put, List.setIfInBounds_toArray, List.set_cons_zero, List.set_cons_succ]
                  refine wpAnyH_ready (rs := [9]) (by kernel_rfl) (by simp) ?_
                  refine AllReadyH.cons (o := { dst := some 71, op := _, type := _, pos := _, after := _, guard := _ }) rfl (fun K hK => ?_) ?_
                  rotate_left
                  · exact AllReadyH.nil
                  go_simp
                  refine (HLess.out _).mono ?_; rintro e w7 ⟨rfl, hb7⟩; have hSn := hHeld.step hb7; clear hHeld hb7; try go_simp
                  refine hK.out _ _ ?_ (fun hHeld => ?_)
                  · first | exact HSS.out | exact hSn
                  clear hK K
                  try simp only [Act.put, List.setIfInBounds_toArray, List.set_cons_zero, List.set_cons_succ]
                  refine wpAnyH_take (i := 10) (oi := { dst := some 72, op := _, type := _, pos := _, after := _, guard := _ }) (v := ?_) rfl (by kernel_rfl) (by kernel_rfl) (by kernel_rfl) (fun _ _ _ h => h) (Or.inl ⟨by rfl, ?_⟩) (by assumption) ?_
                  rotate_left
                  · intro w hSw; (try dsimp only at hSw); go_simp; (try with_reducible rfl)
                  try simp only [Act.put, List.setIfInBounds_toArray, List.set_cons_zero, List.set_cons_succ]
                  refine wpAnyH_done (by kernel_rfl) ?_ _
                  go_wp2_with fail
                  go_ret3
                  exact partsOut_no (andThen (andThen HB4.out hb) hHeld.2.2.2.2.2.2.2)
              · have hy : ok = true ∧ ves = l.map (·.1) ∧ vks = if false then [] else l.map (·.2) := HYES.out false l (by rw [HL2.out, if_pos (Nd.lessFrom_node HL.out (by omega))])
                obtain ⟨rfl, rfl, rfl⟩ := hy
                go_wp2_with fail
                go_ret3
                refine ⟨_, _, rfl, ?_, ownsRow_below HO2.out hb, andThen HB4.out hb⟩
                have h1 := ownsRow_below HO1.out hb
                have e := HES.out
                subst e
                exact h1
end Go.Proofs.Ytgbihdlahghonaa
