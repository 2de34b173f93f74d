/- A region that draws its order, and whose last store turns what its loads read: a condition on the world that is shown anew behind each operation until a named one has come up. -/
import Derived.OrdersHeld
import Derived.Deep.RegionHeld3
import Derived.Test.YtojaagnfjenhoaaGreatGl02
import Derived.BigRegion
import Derived.Test.YtojaagnfjenhoaaGreatGl01
namespace Go
section
variable {P : Program} {ops : Array Oper} {Q : Exit → Act → World → Prop} {md : Region.Mode} {S : World → Prop} {z : Nat}
/-- Whatever has come up, what it waits for has come up. -/
def ShutDown (md : Region.Mode) (ops : Array Oper) (l : Array Bool) : Prop :=
  ∀ j o, ops[j]? = some o → l.getD j false = true → ∀ e ∈ o.after, Region.binds md e = true → l.getD e.on false = true
def shutDownB (md : Region.Mode) (ops : Array Oper) (l : Array Bool) : Bool :=
  (List.range ops.size).all fun j => !l.getD j false || match ops[j]? with
    | none => true
    | some o => o.after.all fun e => !Region.binds md e || l.getD e.on false
theorem shutDown_of {l : Array Bool} (h : shutDownB md ops l = true) : ShutDown md ops l := by
  intro j o ho hj e he hb
  unfold shutDownB at h
  rw [List.all_eq_true] at h
  have h1 := h j (List.mem_range.2 (Array.getElem?_eq_some_iff.1 ho).1)
  rw [ho, hj] at h1
  simp only [Bool.not_true, Bool.false_or] at h1
  have h2 := Array.all_eq_true_iff_forall_mem.1 h1 e he
  rw [hb] at h2
  simpa using h2
theorem getD_swap {l : Array Bool} {i : Nat} (h : l.getD i true = false) : l.getD i false = false := by
  rcases Nat.lt_or_ge i l.size with h' | h'
  · simp [h'] at h ⊢; exact h
  · simp [Array.getElem?_eq_none h'] at h
theorem getD_setSelf {l : Array Bool} {i : Nat} (h : l.getD i true = false) : (l.setIfInBounds i true).getD i false = true := by
  rcases Nat.lt_or_ge i l.size with h' | h'
  · simp [h']
  · simp [Array.getElem?_eq_none h'] at h
theorem shutDown_set {l : Array Bool} {j : Nat} (h : ShutDown md ops l) (hj : j ∈ Region.ready md ops l) : ShutDown md ops (l.setIfInBounds j true) := by
  obtain ⟨h0, oj, hoj, hall⟩ := mem_ready.1 hj
  intro k o hk hl e he hb
  by_cases hkj : j = k
  · subst hkj
    rw [hoj] at hk
    injection hk with hk
    subst hk
    exact getD_set_true (hall e he hb)
  · rw [getD_set_ne false hkj] at hl
    exact getD_set_true (h k o hk hl e he hb)
/-- Each of a list waits for the one ahead of it. -/
def pathB (md : Region.Mode) (ops : Array Oper) : List Nat → Bool
  | [] => true
  | [_] => true
  | a :: b :: r => (match ops[b]? with
    | none => false
    | some o => o.after.any fun e => Region.binds md e && e.on == a) && pathB md ops (b :: r)
theorem path_listed {l : Array Bool} (hc : ShutDown md ops l) : ∀ (p : List Nat) (a : Nat), pathB md ops (a :: p) = true → l.getD ((a :: p).getLast (by simp)) false = true → l.getD a false = true := by
  intro p
  induction p with
  | nil => intro a _ h; simpa using h
  | cons b r ih =>
    intro a hp hl
    unfold pathB at hp
    rw [Bool.and_eq_true] at hp
    have hb := ih b hp.2 (by simpa using hl)
    cases ho : ops[b]? with
    | none => rw [ho] at hp; simp at hp
    | some o =>
      rw [ho] at hp
      obtain ⟨e, he, h2⟩ := Array.any_eq_true'.1 hp.1
      rw [Bool.and_eq_true] at h2
      have h3 := hc b o ho hb e he h2.1
      rwa [show e.on = a by simpa using h2.2] at h3
/-- From i a list of waiting leads to z. -/
def leads (md : Region.Mode) (ops : Array Oper) (i : Nat) (p : List Nat) (z : Nat) : Bool := pathB md ops (i :: p) && (i :: p).getLast (by simp) == z && i != z
theorem leads_not {l : Array Bool} {i : Nat} {p : List Nat} (h : leads md ops i p z = true) (hc : ShutDown md ops l) (hi : l.getD i true = false) : z ∉ Region.ready md ops l := by
  unfold leads at h
  rw [Bool.and_eq_true, Bool.and_eq_true] at h
  obtain ⟨⟨h1, h2⟩, h3⟩ := h
  intro hz
  have h4 := shutDown_set hc hz
  have h5 := path_listed h4 p i h1 (by rw [show (i :: p).getLast (by simp) = z by simpa using h2]; exact getD_setSelf (mem_ready.1 hz).1)
  rw [getD_set_ne false (by simp at h3; exact fun e => h3 e.symm)] at h5
  rw [getD_swap hi] at h5
  cases h5
/-- Whatever order is picked from here on, and S holds behind every operation that is carried out, as long as z has not come up. -/
def wpAnyZ (P : Program) (md : Region.Mode) (ops : Array Oper) (Q : Exit → Act → World → Prop) (S : World → Prop) (z : Nat) : Nat → Array Bool → Act → World → Prop
  | 0, listed, a, w => Region.ready md ops listed = [] ∧ Q .normal a w
  | fuel + 1, listed, a, w =>
    (Region.ready md ops listed = [] → Q .normal a w) ∧
    ∀ i ∈ Region.ready md ops listed, wpOp P ops Q i (fun a' w' => ((listed.setIfInBounds i true).getD z true = false → S w') ∧ wpAnyZ P md ops Q S z fuel (listed.setIfInBounds i true) a' w') a w
theorem wpAny_of_Z : ∀ (fuel : Nat) (listed : Array Bool) (a : Act) (w : World), wpAnyZ P md ops Q S z fuel listed a w → wpAny P md ops Q fuel listed a w
  | 0, _, _, _, h => h
  | fuel + 1, _, _, _, h => ⟨h.1, fun i hi => wpOp_mono (fun a' w' h' => wpAny_of_Z fuel _ a' w' h'.2) (h.2 i hi)⟩
theorem wpAnyZ_first {i : Nat} {oi : Oper} {v : Value} {p : List Nat} (hi : ops[i]? = some oi) (hsel : ∀ (j : Nat) (o : Oper) cs b, ops[j]? = some o → o.op ≠ .select cs b)
    (hQ : ∀ c a w, Q (.panic c) (a.put oi.dst v) w → Q (.panic c) a w) (hl : leads md ops i p z = true) :
    ∀ (fuel : Nat) (listed : Array Bool) (a : Act) (w : World), ShutDown md ops listed → listed.getD z true = false →
      (∀ j oj, ops[j]? = some oj → j ≠ i → listed.getD j true = false → (∀ e ∈ oj.after, Region.binds md e = true → e.on ≠ i) → oi.apart ops oj = true) →
      i ∈ Region.ready md ops listed → YieldsIf P ops S oi v a → S w →
      wpAnyZ P md ops Q S z fuel (listed.setIfInBounds i true) (a.put oi.dst v) w → wpAnyZ P md ops Q S z (fuel + 1) listed a w := by
  have hiz : i ≠ z := by
    unfold leads at hl
    rw [Bool.and_eq_true] at hl
    simpa using hl.2
  intro fuel
  induction fuel with
  | zero =>
    intro listed a w _ hzu _ hr hy hS H
    refine ⟨fun h => (by rw [h] at hr; cases hr), fun j hj => ?_⟩
    by_cases hji : j = i
    · subst hji; exact hy.wpOp hi hS ⟨fun _ => hS, H⟩
    · have := ready_mono hj hji
      rw [H.1] at this
      cases this
  | succ fuel ih =>
    intro listed a w hsd hzu hfree hr hy hS H
    refine ⟨fun h => (by rw [h] at hr; cases hr), fun j hj => ?_⟩
    by_cases hji : j = i
    · subst hji; exact hy.wpOp hi hS ⟨fun _ => hS, H⟩
    · have hjz : j ≠ z := fun e => leads_not hl hsd (mem_ready.1 hr).1 (e ▸ hj)
      have h1 := H.2 j (ready_mono hj hji)
      obtain ⟨hjun, oj, hoj, hall⟩ := mem_ready.1 hj
      have hnot : ∀ e ∈ oj.after, Region.binds md e = true → e.on ≠ i := fun e he hb heq => by
        have h1 := hall e he hb
        have h0 := (mem_ready.1 hr).1
        rw [heq] at h1
        rw [getD_swap h0] at h1
        cases h1
      have h2 := wpOp_putIf hoj (hfree j oj hoj hji hjun hnot) (fun cs b => hsel i oi cs b hi) (fun cs b => hsel j oj cs b hoj) hQ hy h1
      have hfree' : ∀ k ok, ops[k]? = some ok → k ≠ i → (listed.setIfInBounds j true).getD k true = false →
          (∀ e ∈ ok.after, Region.binds md e = true → e.on ≠ i) → oi.apart ops ok = true := fun k ok hk hki hun hno => by
        refine hfree k ok hk hki ?_ hno
        by_cases hjk : j = k
        · subst hjk; exact hjun
        · rw [getD_set_ne true hjk] at hun; exact hun
      refine wpOp_mono (fun a' w' h3 => ?_) h2
      have hSw : S w' := h3.2.1 (by rw [getD_set_ne true hjz, getD_set_ne true hiz]; exact hzu)
      refine ⟨fun _ => hSw, ih (listed.setIfInBounds j true) a' w' (shutDown_set hsd hj) (by rw [getD_set_ne true hjz]; exact hzu) hfree' (ready_mono hr (Ne.symm hji)) h3.1 hSw ?_⟩
      rw [Array.setIfInBounds_comm _ _ hji]
      exact h3.2.2
theorem wpAnyZ_take {i : Nat} {oi : Oper} {v : Value} {p : List Nat} {fuel : Nat} {listed : Array Bool} {a : Act} {w : World} (hi : ops[i]? = some oi)
    (hl : leads md ops i p z = true) (hsd : shutDownB md ops listed = true) (hzu : listed.getD z true = false)
    (hs : Region.noSelect ops = true) (hf : Region.free md ops listed i = true) (hr : (Region.ready md ops listed).contains i = true)
    (hQ : ∀ c a w, Q (.panic c) (a.put oi.dst v) w → Q (.panic c) a w) (hy : YieldsIf P ops S oi v a) (hS : S w)
    (h : wpAnyZ P md ops Q S z fuel (listed.setIfInBounds i true) (a.put oi.dst v) w) : wpAnyZ P md ops Q S z (fuel + 1) listed a w :=
  wpAnyZ_first hi (Region.noSelect_spec hs) hQ hl fuel listed a w (shutDown_of hsd) hzu (Region.free_spec hi hf) (by simpa using hr) hy hS h
theorem wpAnyZ_done {listed : Array Bool} {a : Act} {w : World} (hr : Region.ready md ops listed = []) (h : Q .normal a w) :
    ∀ fuel, wpAnyZ P md ops Q S z fuel listed a w
  | 0 => ⟨hr, h⟩
  | _ + 1 => ⟨fun _ => h, by rw [hr]; simp⟩
def AllReadyZ (P : Program) (md : Region.Mode) (ops : Array Oper) (Q : Exit → Act → World → Prop) (S : World → Prop) (z fuel : Nat) (listed : Array Bool) (a : Act) (w : World) (rs : List Nat) : Prop :=
  ∀ i ∈ rs, wpOp P ops Q i (fun a' w' => ((listed.setIfInBounds i true).getD z true = false → S w') ∧ wpAnyZ P md ops Q S z fuel (listed.setIfInBounds i true) a' w') a w
theorem AllReadyZ.nil {fuel : Nat} {listed : Array Bool} {a : Act} {w : World} : AllReadyZ P md ops Q S z fuel listed a w [] := fun _ h => by cases h
theorem AllReadyZ.cons {fuel : Nat} {listed : Array Bool} {a : Act} {w : World} {i : Nat} {o : Oper} {rs : List Nat} (ho : ops[i]? = some o)
    (h : ∀ K' : Act → World → Prop, Shut (∀ a w, S w → (S w → wpAnyZ P md ops Q S z fuel (listed.setIfInBounds i true) a w) → K' a w) → if Region.wanted o (yielded ops a.tmps) = true then Oper.wp P o a w K' Q else K' (a.put o.dst undef) w)
    (hs : AllReadyZ P md ops Q S z fuel listed a w rs) : AllReadyZ P md ops Q S z fuel listed a w (i :: rs) := fun j hj => by
  rcases List.mem_cons.1 hj with rfl | hj
  · exact wpOp_step ho (fun K' hK => h K' (fun a w hS hW => hK a w ⟨fun _ => hS, hW hS⟩))
  · exact hs j hj
/-- At z itself, and behind it: nothing is asked. -/
theorem AllReadyZ.last {fuel : Nat} {listed : Array Bool} {a : Act} {w : World} {i : Nat} {o : Oper} {rs : List Nat} (ho : ops[i]? = some o) (hz : (listed.setIfInBounds i true).getD z true = true)
    (h : ∀ K' : Act → World → Prop, Shut (∀ a w, wpAnyZ P md ops Q S z fuel (listed.setIfInBounds i true) a w → K' a w) → if Region.wanted o (yielded ops a.tmps) = true then Oper.wp P o a w K' Q else K' (a.put o.dst undef) w)
    (hs : AllReadyZ P md ops Q S z fuel listed a w rs) : AllReadyZ P md ops Q S z fuel listed a w (i :: rs) := fun j hj => by
  rcases List.mem_cons.1 hj with rfl | hj
  · exact wpOp_step ho (fun K' hK => h K' (fun a w hW => hK a w ⟨fun h0 => (by rw [hz] at h0; cases h0), hW⟩))
  · exact hs j hj
theorem wpAnyZ_ready {rs : List Nat} {fuel : Nat} {listed : Array Bool} {a : Act} {w : World} (hr : Region.ready md ops listed = rs) (hne : rs ≠ [])
    (h : AllReadyZ P md ops Q S z fuel listed a w rs) : wpAnyZ P md ops Q S z (fuel + 1) listed a w :=
  ⟨fun h0 => absurd (hr ▸ h0) hne, hr ▸ h⟩
theorem wp_region_Z {id : Nat} {a : Act} {w : World} (z : Nat) (hm : P.follows .mixedOrders = true) (hS : S w.drew)
    (h : S w.drew → wpAnyZ P .any ops Q S z ops.size (Array.replicate ops.size false) a w.drew) : (Code.region id ops true).wp P Q a w :=
  wp_region_any hm (wpAny_of_Z _ _ _ _ (h hS))
end
end Go
/- The walks over the reference of the disk: New, Arm, Start. -/
namespace Go.Proofs.YtojaagnfjenhoaaGreat
open Go.RowKit
theorem make_zeros (n : Nat) (hn : n ≤ 4096) (W : World) : (Instr.makeSlice 74 (.int .i64 (n : Int)) (.int .i64 (n : Int))).run Tryz.prog W = .ok (.slice (some ⟨W.heap.size, 0, none⟩) n n) (W.alloc (.cells (madeCells #[Value.int .u8 0] n) 5)) := by
  obtain ⟨i0, hi, hz0, hz1, hz2⟩ := info_parts info_byte
  have h := run_make (P := Tryz.prog) W 74 5 i0 (.int .u8 0) Tryz.underlying74 hi hz0 .i64 .i64 n n (by omega) (by omega) (by rw [hz2]; omega) (by omega)
  rw [hz1, Int.toNat_natCast, Nat.mul_one] at h
  exact h
theorem zeros_back (n : Nat) (W : World) : (convert 74 9 (.slice (some ⟨W.heap.size, 0, none⟩) n n)).run Tryz.prog (W.alloc (.cells (madeCells #[Value.int .u8 0] n) 5)) = .ok (.string ⟨(List.replicate n 0).toArray⟩) (W.alloc (.cells (madeCells #[Value.int .u8 0] n) 5)) := by
  have h := run_convert_bytes_back (P := Tryz.prog) (W.alloc (.cells (madeCells #[Value.int .u8 0] n) 5)) 74 9 5 ⟨W.heap.size, 0, none⟩ n (List.replicate n 0) Tryz.underlying74 Tryz.underlying5 Tryz.underlying9 (fun j hj => by
    have hj' : j < n := by simpa using hj
    have ha : (⟨W.heap.size, 0, none⟩ : Addr).add j = ⟨W.heap.size, j, none⟩ := by
      unfold Addr.add; split
      · rename_i h; rw [h]
      · simp
    rw [ha, World.cell?_alloc_new]
    simp [madeCells, hj', Nat.mod_one])
  rw [List.length_replicate] at h
  exact h
theorem info_string : (Tryz.prog.info? 9).map (fun i => (i.zero, i.size, i.bytes)) = some (some (.string ⟨#[]⟩), 1, 16) := by kernel_rfl
set_option maxRecDepth 100000 in
theorem zeros_any (w : World) :
    Calls Tryz.prog 21 #[] w fun e w' => e = .returned (.string Lg.zero128) ∧ Below w.heap.size w w' := by
  have hmk := make_zeros 128 (by omega)
  have hcv := zeros_back 128
  unfold Lg.zero128
  generalize hR : (⟨(List.replicate 128 0).toArray⟩ : ByteArray) = R at hcv ⊢
  clear hR
  have hmk2 : ∀ W : World, (Instr.makeSlice 74 (.int .i64 128) (.int .i64 128)).run Tryz.prog W = .ok (.slice (some ⟨W.heap.size, 0, none⟩) 128 128) (W.alloc (.cells (madeCells #[Value.int .u8 0] 128) 5)) := hmk
  clear hmk
  go_enter Tryz.func21, Tryz.ntmps21
  go_wp2_with fail
  go_ret
  exact ⟨rfl, allocB _ _⟩
/-- What New answers. -/
def NewOut (d : Lg.Dk) (w : World) (e : Ending) (w' : World) : Prop :=
  ∃ A c, e = .returned (.tuple #[diskV d A c, .int .i64 0]) ∧ DiskR w' d A c ∧ NewT w.heap.size w' 9 A ∧ Below w.heap.size w w'
set_option maxRecDepth 100000 in
set_option maxHeartbeats 4000000 in
theorem dnew_any (n : Nat) (h1 : 1 ≤ n) (h2 : n ≤ 65536) (w : World) :
    Calls Tryz.prog 5 #[.int .i64 (n : Int)] w (NewOut (Lg.newD n) w) := by
  have HZ := Lib.hid (fun W => zeros_any W)
  have HF := Lib.hid (fun v c A w' (ho : OwnL strC 1 9 (w.heap.size + 2) w' v (List.replicate n Lg.zero128)) (hv : v = .slice A n c) (hr : Reads w' A c n ((List.replicate n Lg.zero128).flatMap strC)) (hb : Below w.heap.size w w') => show NewOut (Lg.newD n) w (.returned (.tuple #[.agg #[.slice A n c, .int .i64 (-1), .bool false], .int .i64 0])) w' from by
    refine ⟨A, c, ?_, ⟨?_, ?_⟩, ?_, hb⟩
    · unfold diskV Lg.newD; simp
    · unfold Lg.newD; simpa using hr
    · unfold Lg.newD; simp; omega
    · unfold OwnL at ho
      rw [List.length_replicate, hv] at ho
      exact (NewT.own ho).mono (by omega))
  generalize Lg.zero128 = z at HZ HF ⊢
  generalize NewOut (Lg.newD n) w = Q at HF ⊢
  have h1' : ¬ (n : Int) < 1 := by omega
  have h2' : (n : Int) ≤ 65536 := by omega
  go_enter Tryz.func5, Tryz.ntmps5
  go_upto_region 4 with fail
  have H0 := Lib.hid (show BxL w.heap.size w [(#[.slice none 0 0, .int .i64 0, .bool false], 26), (#[.slice none 0 0, .int .i64 (-1), .bool false], 26)] ((w.alloc (.cells #[.slice none 0 0, .int .i64 0, .bool false] 26)).alloc (.cells #[.slice none 0 0, .int .i64 (-1), .bool false] 26)) from ((BxL.nil (Below.refl w.heap.size w)).new (by simp) #[.slice none 0 0, .int .i64 0, .bool false] 26).new (by simp) #[.slice none 0 0, .int .i64 (-1), .bool false] 26)
  obtain ⟨W0, hW0⟩ : ∃ W, W = ((w.alloc (.cells #[.slice none 0 0, .int .i64 0, .bool false] 26)).alloc (.cells #[.slice none 0 0, .int .i64 (-1), .bool false] 26)) := ⟨_, rfl⟩
  rw [← hW0] at H0 ⊢
  clear hW0
  go_wp2_with fail
  go_loopw [5] (fun i wr => ∃ (k : Nat) (v : Value), k ≤ n ∧ i = .int .i64 (k : Int) ∧ BxL w.heap.size w [(#[.slice none 0 0, .int .i64 0, .bool false], 26), (#[v, .int .i64 (-1), .bool false], 26)] wr ∧ OwnL strC 1 9 (w.heap.size + 2) wr v (List.replicate k z)) (fun i _ => n - (intOf i).toNat)
  case atStart => exact ⟨0, .slice none 0 0, Nat.zero_le _, rfl, H0.out, ownNil _ _ _ _⟩
  case round =>
    obtain ⟨k, v, hk, rfl, hbx, hown⟩ := hrel
    have HB := Lib.hid hbx
    have hO : wr.ownsRow (w.heap.size + 2) 9 1 v k ((List.replicate k z).flatMap strC) := by
      have h := hown
      unfold OwnL at h
      rwa [List.length_replicate] at h
    have hsz := hbx.lt (i := 1) (by simp)
    obtain ⟨A, c, rfl⟩ := ownLen hO
    clear hbx hown
    by_cases hlt : k < n
    · go_upto_region 7 with fail
      have HBd := Lib.hid (HB.out.drew)
      have hO0 := ownBelow hO (Below.refl _ wr).drew
      refine wp_region_Z (S := (fun u => u.heap[w.heap.size + 1]? = some (.cells #[.slice A k c, .int .i64 (-1), .bool false] 26 (0, 0)))) 6 (by kernel_rfl) ?_ (fun hHeld => ?_)
      · first | exact hSn | exact HBd.out.get 1 _ rfl
      refine wpAnyZ_take (i := 0) (oi := { dst := some 19, op := _, type := _, pos := _, after := _, guard := _ }) (v := ?_) (p := [6]) rfl (by kernel_rfl) (by kernel_rfl) (by kernel_rfl) (by kernel_rfl) (by kernel_rfl) (by kernel_rfl) (fun _ _ _ h => h) (Or.inl ⟨by rfl, ?_⟩) (by assumption) ?_
      rotate_left
      · intro u hSu; have hSv := blkCell hSu; clear hSu; go_simp; (try with_reducible rfl)
      try simp only [Act.put, pS]
      refine wpAnyZ_take (i := 1) (oi := { dst := some 20, op := _, type := _, pos := _, after := _, guard := _ }) (v := ?_) (p := [6]) rfl (by kernel_rfl) (by kernel_rfl) (by kernel_rfl) (by kernel_rfl) (by kernel_rfl) (by kernel_rfl) (fun _ _ _ h => h) (Or.inl ⟨by rfl, ?_⟩) (by assumption) ?_
      rotate_left
      · intro u hSu; have hSv := blkCell hSu; clear hSu; go_simp; (try with_reducible rfl)
      try simp only [Act.put, pS]
      refine wpAnyZ_ready (rs := [2]) (by kernel_rfl) (by simp) ?_
      refine AllReadyZ.cons (o := { dst := some 21, op := _, type := _, pos := _, after := _, guard := _ }) rfl (fun K hK => ?_) ?_
      rotate_left
      · exact AllReadyZ.nil
      go_simp
      refine (HZ.out _).mono ?_; rintro e w1 ⟨rfl, hb1⟩; have hB1 := HBd.out.step hb1; have hSn := hB1.get 1 _ rfl; have hO1 := ownBelow hO0 hb1; try go_simp
      refine hK.out _ _ ?_ (fun hHeld => ?_)
      · first | exact hSn | exact HBd.out.get 1 _ rfl
      clear hK K
      try simp only [Act.put, pS]
      refine wpAnyZ_ready (rs := [3]) (by kernel_rfl) (by simp) ?_
      refine AllReadyZ.cons (o := { dst := some 22, op := _, type := _, pos := _, after := _, guard := _ }) rfl (fun K hK => ?_) ?_
      rotate_left
      · exact AllReadyZ.nil
      go_simp
      have hB2 := hB1.step (allocB w1 (.cells #[.string z] 9)); have hSn := hB2.get 1 _ rfl; have hO2 := ownBelow hO1 (allocB w1 (.cells #[.string z] 9)); have hG := heap_alloc_new w1 (.cells #[.string z] 9)
      refine hK.out _ _ ?_ (fun hHeld => ?_)
      · first | exact hSn | exact HBd.out.get 1 _ rfl
      clear hK K
      try simp only [Act.put, pS]
      refine wpAnyZ_ready (rs := [4]) (by kernel_rfl) (by simp) ?_
      refine AllReadyZ.cons (o := { dst := some 23, op := _, type := _, pos := _, after := _, guard := _ }) rfl (fun K hK => ?_) ?_
      rotate_left
      · exact AllReadyZ.nil
      refine wantedIf (by rfl) ?_
      refine wp_push _ (.tmp 20) (.tmp 22) 24 9 Tryz.underlying24 info_string rfl (by omega) (by omega) rfl (w.heap.size + 2) _ k ((List.replicate k z).flatMap strC) rfl hO2 w1.heap.size (strC z) 9 rfl hG rfl (by simp [strC, Value.oneCell']) (by omega) (by have h1 := hB2.lt (i := 1) (by simp); omega) ?_
      intro v7 w7 ho hg hb
      obtain ⟨A7, c7, rfl⟩ := ownLen ho
      have hB7 := hB2.under (M := w.heap.size + 2) (Nat.le_refl _) hb
      have hSn := hB7.get 1 _ rfl
      have hcx7 := blkCell (hB7.get 1 _ rfl)
      have hz7 := blkFrozen (hB7.get 1 _ rfl)
      refine hK.out _ _ ?_ (fun hHeld => ?_)
      · first | exact hSn | exact HBd.out.get 1 _ rfl
      clear hK K
      try simp only [Act.put, pS]
      refine wpAnyZ_take (i := 5) (oi := { dst := some 24, op := _, type := _, pos := _, after := _, guard := _ }) (v := ?_) (p := [6]) rfl (by kernel_rfl) (by kernel_rfl) (by kernel_rfl) (by kernel_rfl) (by kernel_rfl) (by kernel_rfl) (fun _ _ _ h => h) (Or.inl ⟨by rfl, ?_⟩) (by assumption) ?_
      rotate_left
      · intro u hSu; have hSv := blkCell hSu; clear hSu; go_simp; (try with_reducible rfl)
      try simp only [Act.put, pS]
      refine wpAnyZ_ready (rs := [6]) (by kernel_rfl) (by simp) ?_
      refine AllReadyZ.last (o := { dst := none, op := _, type := _, pos := _, after := _, guard := _ }) rfl (by kernel_rfl) (fun K hK => ?_) ?_
      rotate_left
      · exact AllReadyZ.nil
      go_simp
      refine hK.out _ _ ?_
      clear hK K
      try simp only [Act.put, pS]
      refine wpAnyZ_done (by kernel_rfl) ?_ _
      have HB8 := Lib.hid (hB7.set 1 0 (.slice A7 (k + 1) c7) _ rfl)
      have HO8 := Lib.hid (ownSet ho ⟨w.heap.size + 1, 0, none⟩ (.slice A7 (k + 1) c7) (by show w.heap.size + 1 < _; omega))
      clear hO hO0 hO1 hO2 ho hg hb hB1 hB2 hB7 hSn hcx7 hz7 hG hHeld HBd HB
      go_wp2_with fail
      go_roundw
      case rel => exact ⟨k + 1, _, by omega, by go_num, (by have h := HB8.out; first | exact h | simpa using h), (by
        have h := HO8.out
        unfold OwnL
        rw [List.length_replicate, List.replicate_succ', List.flatMap_append]
        simpa using h)⟩
      case measure => simp [intOf]; omega
    · obtain rfl : k = n := by omega
      have HX1 := Lib.hid (HB.out.get 1 _ rfl)
      have HX0 := Lib.hid (show wr.heap[w.heap.size]? = some (.cells #[.slice none 0 0, .int .i64 0, .bool false] 26 (0, 0)) from by have h := HB.out.get 0 _ rfl; simpa using h)
      go_wp2_with (first | (with_reducible refine listLoad (by kernel_rfl) 26 (.tmp 4) rfl (w.heap.size + 1) rfl #[.slice A k c, .int .i64 (-1), .bool false] _ HX1.out _ Tryz.underlying26 (by kernel_rfl) (by kernel_rfl) ?_) | (with_reducible refine listStore (by kernel_rfl) 26 (.tmp 2) (.tmp 25) rfl w.heap.size #[.slice A k c, .int .i64 (-1), .bool false] _ _ rfl rfl HX0.out (by kernel_rfl) (by kernel_rfl) (by kernel_rfl) ?_))
      refine bodyPost_ret (v := .tuple #[.agg #[.slice A k c, .int .i64 (-1), .bool false], .int .i64 0]) (results_cell2 rfl _ _ rfl (load_whole (setRow_heap _ _ _ _ _ _ HX0.out) Tryz.underlying26 (by kernel_rfl) (by kernel_rfl)) rfl) rfl ?_
      have ho9 := ownRowOff hO w.heap.size #[.slice A k c, .int .i64 (-1), .bool false] (by omega)
      exact HF.out _ c A _ (by unfold OwnL; rw [List.length_replicate]; exact ho9) rfl (own_reads ho9) (by have h := (HB.out.row 0 #[.slice A k c, .int .i64 (-1), .bool false] _ rfl).below; simpa using h)
set_option maxRecDepth 100000 in
set_option maxHeartbeats 1000000 in
theorem arm_any (d : Lg.Dk) (A : Option Addr) (c : Nat) (n : Int) (w : World) :
    Calls Tryz.prog 14 #[diskV d A c, .int .i64 n] w fun e w' => e = .returned (diskV (Lg.armD d n) A c) ∧ Below w.heap.size w w' := by
  obtain ⟨L, left, down⟩ := d
  unfold Lg.armD
  dsimp only [diskV]
  by_cases hn : n < 0
  · rw [if_pos hn]
    go_enter Tryz.func14, Tryz.ntmps14
    go_upto_region 1 with fail
    have H0 := Lib.hid (show BxL w.heap.size w [(#[.slice A L.length c, .int .i64 left, .bool down], 26), (#[.slice none 0 0, .int .i64 0, .bool false], 26)] ((w.alloc (.cells #[.slice A L.length c, .int .i64 left, .bool down] 26)).alloc (.cells #[.slice none 0 0, .int .i64 0, .bool false] 26)) from ((BxL.nil (Below.refl w.heap.size w)).new (by simp) #[.slice A L.length c, .int .i64 left, .bool down] 26).new (by simp) #[.slice none 0 0, .int .i64 0, .bool false] 26)
    obtain ⟨W0, hW0⟩ : ∃ W, W = (w.alloc (.cells #[.slice A L.length c, .int .i64 left, .bool down] 26)).alloc (.cells #[.slice none 0 0, .int .i64 0, .bool false] 26) := ⟨_, rfl⟩
    rw [← hW0] at H0 ⊢
    have hc0 := blkCell (H0.out.get 0 _ rfl)
    have hz0 := blkFrozen (H0.out.get 0 _ rfl)
    simp only [Nat.add_zero] at hc0 hz0
    clear hW0
    go_upto_region 4 with fail
    have H1 := Lib.hid (H0.out.set 0 1 (.int .i64 (-1)) _ rfl)
    have HX1 := Lib.hid (show (W0.setCell ⟨w.heap.size, 1, none⟩ (.int .i64 (-1))).heap[w.heap.size]? = some (.cells #[.slice A L.length c, .int .i64 (-1), .bool down] 26 (0, 0)) from by have h := H1.out.get 0 _ rfl; simpa using h)
    go_wp2_with (first | (with_reducible refine listLoad (by kernel_rfl) 26 (.tmp 2) rfl w.heap.size rfl #[.slice A L.length c, .int .i64 (-1), .bool down] _ HX1.out _ Tryz.underlying26 (by kernel_rfl) (by kernel_rfl) ?_) | (with_reducible refine listStore (by kernel_rfl) 26 (.tmp 4) (.tmp 9) rfl (w.heap.size + 1) #[.slice A L.length c, .int .i64 (-1), .bool down] _ _ rfl rfl (H1.out.get 1 _ rfl) (by kernel_rfl) (by kernel_rfl) (by kernel_rfl) ?_))
    refine bodyPost_ret (v := .agg #[.slice A L.length c, .int .i64 (-1), .bool down]) (results_cell rfl _ _ rfl (load_whole (setRow_heap _ _ _ _ _ _ (H1.out.get 1 _ rfl)) Tryz.underlying26 (by kernel_rfl) (by kernel_rfl))) rfl ?_
    exact ⟨rfl, (H1.out.row 1 _ _ rfl).below⟩
  · rw [if_neg hn]
    go_enter Tryz.func14, Tryz.ntmps14
    go_upto_region 1 with fail
    have H0 := Lib.hid (show BxL w.heap.size w [(#[.slice A L.length c, .int .i64 left, .bool down], 26), (#[.slice none 0 0, .int .i64 0, .bool false], 26)] ((w.alloc (.cells #[.slice A L.length c, .int .i64 left, .bool down] 26)).alloc (.cells #[.slice none 0 0, .int .i64 0, .bool false] 26)) from ((BxL.nil (Below.refl w.heap.size w)).new (by simp) #[.slice A L.length c, .int .i64 left, .bool down] 26).new (by simp) #[.slice none 0 0, .int .i64 0, .bool false] 26)
    obtain ⟨W0, hW0⟩ : ∃ W, W = (w.alloc (.cells #[.slice A L.length c, .int .i64 left, .bool down] 26)).alloc (.cells #[.slice none 0 0, .int .i64 0, .bool false] 26) := ⟨_, rfl⟩
    rw [← hW0] at H0 ⊢
    have hc0 := blkCell (H0.out.get 0 _ rfl)
    have hz0 := blkFrozen (H0.out.get 0 _ rfl)
    simp only [Nat.add_zero] at hc0 hz0
    clear hW0
    go_upto_region 4 with fail
    have H1 := Lib.hid (H0.out.set 0 1 (.int .i64 n) _ rfl)
    have HX1 := Lib.hid (show (W0.setCell ⟨w.heap.size, 1, none⟩ (.int .i64 n)).heap[w.heap.size]? = some (.cells #[.slice A L.length c, .int .i64 n, .bool down] 26 (0, 0)) from by have h := H1.out.get 0 _ rfl; simpa using h)
    go_wp2_with (first | (with_reducible refine listLoad (by kernel_rfl) 26 (.tmp 2) rfl w.heap.size rfl #[.slice A L.length c, .int .i64 n, .bool down] _ HX1.out _ Tryz.underlying26 (by kernel_rfl) (by kernel_rfl) ?_) | (with_reducible refine listStore (by kernel_rfl) 26 (.tmp 4) (.tmp 9) rfl (w.heap.size + 1) #[.slice A L.length c, .int .i64 n, .bool down] _ _ rfl rfl (H1.out.get 1 _ rfl) (by kernel_rfl) (by kernel_rfl) (by kernel_rfl) ?_))
    refine bodyPost_ret (v := .agg #[.slice A L.length c, .int .i64 n, .bool down]) (results_cell rfl _ _ rfl (load_whole (setRow_heap _ _ _ _ _ _ (H1.out.get 1 _ rfl)) Tryz.underlying26 (by kernel_rfl) (by kernel_rfl))) rfl ?_
    exact ⟨rfl, (H1.out.row 1 _ _ rfl).below⟩
set_option maxRecDepth 100000 in
set_option maxHeartbeats 1000000 in
theorem start_any (d : Lg.Dk) (A : Option Addr) (c : Nat) (w : World) :
    Calls Tryz.prog 15 #[diskV d A c] w fun e w' => e = .returned (diskV (Lg.startD d) A c) ∧ Below w.heap.size w w' := by
  obtain ⟨L, left, down⟩ := d
  unfold Lg.startD
  dsimp only [diskV]
  go_enter Tryz.func15, Tryz.ntmps15
  go_upto_region 1 with fail
  have H0 := Lib.hid (show BxL w.heap.size w [(#[.slice A L.length c, .int .i64 left, .bool down], 26), (#[.slice none 0 0, .int .i64 0, .bool false], 26)] ((w.alloc (.cells #[.slice A L.length c, .int .i64 left, .bool down] 26)).alloc (.cells #[.slice none 0 0, .int .i64 0, .bool false] 26)) from ((BxL.nil (Below.refl w.heap.size w)).new (by simp) #[.slice A L.length c, .int .i64 left, .bool down] 26).new (by simp) #[.slice none 0 0, .int .i64 0, .bool false] 26)
  obtain ⟨W0, hW0⟩ : ∃ W, W = (w.alloc (.cells #[.slice A L.length c, .int .i64 left, .bool down] 26)).alloc (.cells #[.slice none 0 0, .int .i64 0, .bool false] 26) := ⟨_, rfl⟩
  rw [← hW0] at H0 ⊢
  have hc0 := blkCell (H0.out.get 0 _ rfl)
  have hz0 := blkFrozen (H0.out.get 0 _ rfl)
  simp only [Nat.add_zero] at hc0 hz0
  clear hW0
  go_upto_region 3 with fail
  have H1 := Lib.hid ((H0.out.set 0 1 (.int .i64 (-1)) _ rfl).set 0 2 (.bool false) _ rfl)
  have HX1 := Lib.hid (show ((W0.setCell ⟨w.heap.size, 1, none⟩ (.int .i64 (-1))).setCell ⟨w.heap.size, 2, none⟩ (.bool false)).heap[w.heap.size]? = some (.cells #[.slice A L.length c, .int .i64 (-1), .bool false] 26 (0, 0)) from by have h := H1.out.get 0 _ rfl; simpa using h)
  go_wp2_with (first | (with_reducible refine listLoad (by kernel_rfl) 26 (.tmp 1) rfl w.heap.size rfl #[.slice A L.length c, .int .i64 (-1), .bool false] _ HX1.out _ Tryz.underlying26 (by kernel_rfl) (by kernel_rfl) ?_) | (with_reducible refine listStore (by kernel_rfl) 26 (.tmp 2) (.tmp 5) rfl (w.heap.size + 1) #[.slice A L.length c, .int .i64 (-1), .bool false] _ _ rfl rfl (H1.out.get 1 _ rfl) (by kernel_rfl) (by kernel_rfl) (by kernel_rfl) ?_))
  refine bodyPost_ret (v := .agg #[.slice A L.length c, .int .i64 (-1), .bool false]) (results_cell rfl _ _ rfl (load_whole (setRow_heap _ _ _ _ _ _ (H1.out.get 1 _ rfl)) Tryz.underlying26 (by kernel_rfl) (by kernel_rfl))) rfl ?_
  exact ⟨rfl, (H1.out.row 1 _ _ rfl).below⟩
end Go.Proofs.YtojaagnfjenhoaaGreat
/- The walks over package log: New, cut, sectors. -/
namespace Lg
theorem repeat_zero (n : Nat) : (⟨(Go.Lib.repeatL [(0 : UInt8)] n).toArray⟩ : ByteArray) = ⟨(List.replicate n 0).toArray⟩ := by
  congr 2
  induction n with
  | zero => rfl
  | succ n ih =>
    rw [List.replicate_succ, ← ih]
    rfl
theorem pad_join (t : ByteArray) (m : Nat) (hm : m = min t.size 128) : t.extract 0 m ++ (⟨(Go.Lib.repeatL [(0 : UInt8)] (128 - m)).toArray⟩ : ByteArray) = pad128 (t.data.toList.take 128) := by
  rw [repeat_zero]
  unfold pad128
  apply ByteArray.ext
  rw [ByteArray.data_append]
  apply Array.toList_inj.1
  rw [Array.toList_append]
  have e : (t.extract 0 m).data.toList = t.data.toList.take 128 := by
    simp only [ByteArray.data_extract, Array.toList_extract, List.extract_eq_take_drop, Nat.sub_zero, List.drop_zero]
    have hl : t.data.toList.length = t.size := by simp
    by_cases h : t.size ≤ 128
    · rw [List.take_of_length_le (by omega), List.take_of_length_le (by omega)]
    · rw [show m = 128 by omega]
  have hl : (t.data.toList.take 128).length = m := by rw [List.length_take]; simp; omega
  rw [e, hl]
theorem cut_next (t : ByteArray) (m : Nat) (hm : m = min t.size 128) (h0 : 0 < t.size) : cutB t = pad128 (t.data.toList.take 128) :: cutB (t.extract m t.size) := by
  unfold cutB
  have h1 : t.data.toList ≠ [] := fun e => by
    have hl : t.data.toList.length = t.size := by simp
    rw [e, List.length_nil] at hl
    omega
  rw [cutW_cons h1]
  congr 2
  simp only [ByteArray.data_extract, Array.toList_extract, List.extract_eq_take_drop]
  have hl : t.data.toList.length = t.size := by simp
  rw [List.take_of_length_le (by rw [List.length_drop]; omega)]
  by_cases h : t.size ≤ 128
  · rw [List.drop_of_length_le (i := 128) (by omega), List.drop_of_length_le (i := m) (by omega)]
  · rw [show m = 128 by omega]
theorem cut_none (t : ByteArray) (h0 : t.size = 0) : cutB t = [] := by
  unfold cutB
  have h1 : t.data.toList = [] := List.eq_nil_of_length_eq_zero (by simpa using h0)
  rw [h1, cutW_nil]
end Lg
namespace Go.Proofs.YtojaagnfjenhoaaGreat
open Go.RowKit
abbrev logV (l : Lg.Lo) : Value := .agg #[.int .i64 l.from_, .int .i64 l.n, .int .i64 l.end_, .int .i64 l.safe, .string l.tail]
set_option maxRecDepth 100000 in
theorem lnew_any (a n : Int) (w : World) :
    Calls Tryz.prog 6 #[.int .i64 a, .int .i64 n] w fun e w' => e = .returned (logV ⟨a, n, 0, 0, ⟨#[]⟩⟩) ∧ Below w.heap.size w w' := by
  have HZ := Lib.hid (heap_alloc_new w (.cells #[.int .i64 0, .int .i64 0, .int .i64 0, .int .i64 0, .string ⟨#[]⟩] 31))
  go_enter Tryz.func6, Tryz.ntmps6
  go_wp2_with (with_reducible refine listStore (by kernel_rfl) 31 (.tmp 4) (.tmp 7) rfl w.heap.size #[.int .i64 a, .int .i64 n, .int .i64 0, .int .i64 0, .string ⟨#[]⟩] _ _ rfl rfl HZ.out (by kernel_rfl) (by kernel_rfl) (by kernel_rfl) ?_)
  refine bodyPost_ret (v := .agg #[.int .i64 a, .int .i64 n, .int .i64 0, .int .i64 0, .string ⟨#[]⟩]) (results_cell rfl _ _ rfl (load_whole (setRow_heap _ _ _ _ _ _ HZ.out) Tryz.underlying31 (by kernel_rfl) (by kernel_rfl))) rfl ?_
  exact ⟨rfl, ((BxL.nil (Below.refl w.heap.size w)).new (by simp) #[.int .i64 0, .int .i64 0, .int .i64 0, .int .i64 0, .string ⟨#[]⟩] 31).row 0 _ _ rfl |>.below⟩
/-- What cut answers: texts in memory of its own. -/
def CutOut (l : List ByteArray) (w : World) (e : Ending) (w' : World) : Prop := ∃ v, e = .returned v ∧ OwnL strC 1 9 w.heap.size w' v l ∧ Below w.heap.size w w'
set_option maxRecDepth 100000 in
set_option maxHeartbeats 4000000 in
theorem cut_any (s : ByteArray) (hs : s.size ≤ 1000000) (w : World) :
    Calls Tryz.prog 25 #[.string s] w (CutOut (Lg.cutB s) w) := by
  have HF := Lib.hid (fun v w' (ho : OwnL strC 1 9 w.heap.size w' v (Lg.cutB s)) (hb : Below w.heap.size w w') => show CutOut (Lg.cutB s) w (.returned v) w' from ⟨v, rfl, ho, hb⟩)
  generalize CutOut (Lg.cutB s) w = Q at HF ⊢
  obtain ⟨C, hC⟩ : ∃ C, C = Lg.cutB s := ⟨_, rfl⟩
  have hcl : C.length ≤ 8000 := by rw [hC, Lg.cutB_length]; omega
  rw [← hC] at HF
  have HC := Lib.hid hC
  have HR := Lib.hid (fun (c : Nat) (hc : c ≤ 128) W => Tryz.strings_Repeat ⟨#[0]⟩ c W (by omega) (show (⟨#[0]⟩ : ByteArray).size * c ≤ 140737488355328 from (by show 1 * c ≤ _; have : c ≤ 128 := hc; omega)))
  clear hC
  go_enter Tryz.func25, Tryz.ntmps25
  go_wp2_with fail
  go_loopw [0, 3] (fun s0 v wr => ∃ (t : ByteArray) (ls : List ByteArray), s0 = .string t ∧ t.size ≤ 1000000 ∧ ls ++ Lg.cutB t = C ∧ OwnL strC 1 9 w.heap.size wr v ls ∧ Below w.heap.size w wr) (fun s0 _ _ => (match s0 with | .string t => t.size | _ => 0))
  case atStart => exact ⟨s, [], rfl, hs, HC.out.symm, ownNil _ _ _ _, Below.refl _ _⟩
  case round =>
    obtain ⟨t, ls, rfl, hts, hC2, hO, hB⟩ := hrel
    have HB := Lib.hid hB
    have hll : ls.length ≤ 8000 := by have := congrArg List.length hC2; rw [List.length_append] at this; omega
    have HC2 := Lib.hid hC2
    clear hB hC2
    by_cases h0 : 0 < t.size
    · obtain ⟨m, hm⟩ : ∃ m, m = min t.size 128 := ⟨_, rfl⟩
      have hmm : min (t.size : Int) 128 = (m : Int) := by omega
      have hm1 : m ≤ t.size := by omega
      have hm2 : m ≤ 128 := by omega
      have hm3 : (0 : Int) ≤ (m : Int) := by omega
      have hm4 : (m : Int) ≤ (t.size : Int) := by omega
      have hsub : (128 : Int) - (m : Int) = ((128 - m : Nat) : Int) := by omega
      have hwr : IntKind.i64.wrap ((128 : Int) - (m : Int)) = ((128 - m : Nat) : Int) := by rw [hsub]; exact IntWalk.i64_in _ (by omega)
      have hwr2 : IntKind.i64.wrap ((128 - m : Nat) : Int) = ((128 - m : Nat) : Int) := IntWalk.i64_in _ (by omega)
      have HJ := Lib.hid (Lg.pad_join t m hm)
      have HN := Lib.hid (Lg.cut_next t m hm h0)
      have hpz := Lg.pad128_size (l := t.data.toList.take 128) (by rw [List.length_take]; omega)
      have hxs : (t.extract m t.size).size < t.size := by rw [ByteArray.size_extract]; omega
      have HXS := Lib.hid hxs
      have hR := HR.out (128 - m) (show 128 - m ≤ 128 by omega)
      have hsum : (t.extract 0 m).size + (⟨(Lib.repeatL [(0 : UInt8)] (128 - m)).toArray⟩ : ByteArray).size ≤ 9223372036854775807 := by
        rw [Lg.repeat_zero, ByteArray.size_extract]
        show _ + (List.replicate (128 - m) (0 : UInt8)).toArray.size ≤ _
        simp
        omega
      have HRR := Lib.hid hR
      obtain ⟨z, hz⟩ : ∃ z : ByteArray, z = ⟨(Lib.repeatL [(0 : UInt8)] (128 - m)).toArray⟩ := ⟨_, rfl⟩
      obtain ⟨y, hy⟩ : ∃ y : ByteArray, y = Lg.pad128 (t.data.toList.take 128) := ⟨_, rfl⟩
      have HRZ : Hid (∀ W, Calls Tryz.prog 26 #[.string ⟨#[0]⟩, .int .i64 ((128 - m : Nat) : Int)] W fun e w' => e = .returned (.string z) ∧ Below W.heap.size W w') := Lib.hid (by rw [hz]; exact hR)
      rw [← hz] at HJ hsum
      rw [← hy] at HJ HN hpz
      have hadd : ∀ W : World, (Op.stringOp .add (t.extract 0 m) z).run Tryz.prog W = .ok (.string y) W := fun W => by rw [← HJ.out]; exact run_string_add_sum W _ _ hsum
      obtain ⟨r, hr⟩ : ∃ r : Nat, r = 128 - m := ⟨_, rfl⟩
      rw [← hr] at hsub hwr hwr2 HRZ
      clear hR HR HRR hm hz hy hxs hr hsum
      obtain ⟨A, c, rfl⟩ := ownLen hO
      go_upto_region 4 with fail
      have hO0 := ownBelow hO (Below.refl _ wr).drew
      have hB0 := HB.out.drew
      refine wp_region_held_drew (S := (fun _ => True)) (by kernel_rfl) ?_ (fun hHeld => ?_)
      · trivial
      refine tkW 0 (some 11) (v := ?_) rfl ?_ (tkW 1 (some 12) (v := ?_) rfl ?_ (tkW 2 (some 13) (v := ?_) rfl ?_ (tkW 3 (some 14) (v := ?_) rfl ?_ (tkW 4 (some 15) (v := ?_) rfl ?_ (tkW 5 (some 16) (v := ?_) rfl ?_ ?_)))))
      iterate 6 (rotate_left; focus (intro u hSu; clear hSu; go_simp; (try with_reducible rfl)))
      try simp only [Act.put, pS]
      refine rdH 6 (some 17) rfl (fun K hK => ?_)
      go_simp
      refine (HRZ.out _).mono ?_; rintro e w1 ⟨rfl, hb1⟩; have hO1 := ownBelow hO0 hb1; have hB1 := hB0.trans (hb1.mono hB0.size); try go_simp
      refine hK.out _ _ ?_ (fun hHeld => ?_)
      · trivial
      clear hK K
      try simp only [Act.put, pS]
      refine tkW 7 (some 18) (v := ?_) rfl ?_ ?_
      rotate_left
      · intro u hSu; clear hSu; go_simp; (try with_reducible rfl)
      try simp only [Act.put, pS]
      refine rdH 8 (some 19) rfl (fun K hK => ?_)
      go_simp
      have hO2 := ownBelow hO1 (allocB w1 (.cells #[.string y] 9)); have hB2 := hB1.alloc hB1.size (.cells #[.string y] 9); have hG := heap_alloc_new w1 (.cells #[.string y] 9)
      refine hK.out _ _ ?_ (fun hHeld => ?_)
      · trivial
      clear hK K
      try simp only [Act.put, pS]
      refine rdH 9 (some 20) rfl (fun K hK => ?_)
      refine wantedIf (by rfl) ?_
      refine wp_push _ (.tmp 11) (.tmp 19) 24 9 Tryz.underlying24 info_string rfl (by omega) (by omega) rfl w.heap.size _ ls.length (ls.flatMap strC) rfl hO2 w1.heap.size (strC y) 9 rfl hG rfl (by simp [strC, Value.oneCell']) (by omega) hB2.size ?_
      intro v7 w7 ho hg hb
      have hB7 := hB2.trans hb
      refine hK.out _ _ ?_ (fun hHeld => ?_)
      · trivial
      clear hK K
      try simp only [Act.put, pS]
      refine tkW 10 (some 3) (v := ?_) rfl ?_ ?_
      rotate_left
      · intro u hSu; clear hSu; go_simp; (try with_reducible rfl)
      try simp only [Act.put, pS]
      refine wpAnyH_done (by kernel_rfl) ?_ _
      have HO7 := Lib.hid (OwnL.push (enc := strC) (x := y) ho)
      have HB7 := Lib.hid hB7
      clear hO hO0 hO1 hO2 hB0 hB1 hB2 hB7 ho hg hb hG hHeld HB hadd hpz
      go_wp2_with fail
      go_roundw
      case rel => exact ⟨_, ls ++ [y], rfl, by have := HXS.out; omega, by rw [List.append_assoc]; have h := HC2.out; rw [HN.out] at h; exact h, HO7.out, HB7.out⟩
      case measure => exact HXS.out
    · have h00 : t.size = 0 := by omega
      have hfin : ls = C := by have h := HC2.out; rwa [Lg.cut_none t h00, List.append_nil] at h
      subst hfin
      go_wp2_with fail
      exact HF.out _ _ hO HB.out
end Go.Proofs.YtojaagnfjenhoaaGreat
/- The walk over package octet: Open, of four bytes or more. -/
namespace Go.Proofs.YtojaagnfjenhoaaGreat
open Go.RowKit
set_option maxRecDepth 100000 in
theorem open4_any (s : ByteArray) (h4 : 4 ≤ s.size) (hm : s.size ≤ 1000000000) (n : Nat) (hn : Oct.getN s.data.toList 0 4 = n) (hn2 : Oct.intOf n = (n : Int)) (w : World) :
    Calls Tryz.prog 58 #[.string s] w fun e w' => e = .returned (if n = Oct.sumN (s.data.toList.drop 4) then .tuple #[.string (s.extract 4 s.size), .bool true] else .tuple #[.string ⟨#[]⟩, .bool false]) ∧ Below w.heap.size w w' := by
  have HG := Lib.hid (fun W => get_yes s 0 4 (by omega) (by omega) (by omega) (by omega) W)
  rw [hn, hn2] at HG
  have hxs : (s.extract 4 s.size).data.toList = s.data.toList.drop 4 := by
    simp only [ByteArray.data_extract, Array.toList_extract, List.extract_eq_take_drop]
    exact List.take_of_length_le (by simp)
  have hxz : (s.extract 4 s.size).size ≤ 281474976710656 := by rw [ByteArray.size_extract]; omega
  have HS := Lib.hid (fun W => sum_any (s.extract 4 s.size) hxz W)
  rw [hxs] at HS
  generalize Oct.sumN (s.data.toList.drop 4) = m at HS ⊢
  have h4' : (4 : Int) ≤ (s.size : Int) := by omega
  have h4n : ¬ s.size < 4 := by omega
  clear hn hn2 hxs hxz
  by_cases he : n = m
  · subst he
    rw [if_pos rfl]
    go_enter Tryz.func58, Tryz.ntmps58
    go_wp2_with (first | (go_at_call 57; refine (HG.out _).mono ?_; rintro e w1 ⟨rfl, hb1⟩) | (go_at_call 76; refine (HS.out _).mono ?_; rintro e w2 ⟨rfl, rfl⟩))
    go_ret2
    exact ⟨rfl, hb1⟩
  · rw [if_neg he]
    have hne : ((n : Int) == (m : Int)) = false := by simp; omega
    have hne2 : (n == m) = false := by simpa using he
    have hne3 : ((n : Int) != (m : Int)) = true := by simp; omega
    have hne4 : (n != m) = true := by simpa using he
    go_enter Tryz.func58, Tryz.ntmps58
    go_wp2_with (first | (go_at_call 57; refine (HG.out _).mono ?_; rintro e w1 ⟨rfl, hb1⟩) | (go_at_call 76; refine (HS.out _).mono ?_; rintro e w2 ⟨rfl, rfl⟩))
    go_ret2
    exact ⟨rfl, hb1⟩
end Go.Proofs.YtojaagnfjenhoaaGreat
/- The walk over package octet: GetText. -/
namespace Go.Proofs.YtojaagnfjenhoaaGreat
open Go.RowKit
theorem getN_small (s : List UInt8) (a k : Nat) : Oct.getN s a k < 256 ^ k := by
  have h1 := Oct.getL_lt ((s.drop a).take k)
  have h2 : 256 ^ ((s.drop a).take k).length ≤ 256 ^ k := Nat.pow_le_pow_right (by omega) (by rw [List.length_take]; omega)
  unfold Oct.getN; omega
set_option maxRecDepth 100000 in
theorem getText_any (s : ByteArray) (a : Nat) (hm : s.size ≤ 1000000000) (ha : a ≤ 2000000000) (w : World) :
    Calls Tryz.prog 112 #[.string s, .int .i64 (a : Int)] w fun e w' => e = .returned (if a + 2 + Oct.getN s.data.toList a 2 ≤ s.size then .tuple #[.string (s.extract (a + 2) (a + 2 + Oct.getN s.data.toList a 2)), .int .i64 ((a + 2 + Oct.getN s.data.toList a 2 : Nat) : Int), .bool true] else .tuple #[.string ⟨#[]⟩, .int .i64 0, .bool false]) ∧ Below w.heap.size w w' := by
  by_cases hin : a + 2 ≤ s.size
  · have hpow := getN_small s.data.toList a 2
    have HG := Lib.hid (fun W => get_yes s a 2 (by omega) (by omega) hin (by omega) W)
    generalize Oct.getN s.data.toList a 2 = n at hpow HG ⊢
    have hn : n < 65536 := by simpa using hpow
    rw [show Oct.intOf n = (n : Int) from by unfold Oct.intOf; rw [if_pos (by omega)]] at HG
    clear hpow
    by_cases he : a + 2 + n ≤ s.size
    · rw [if_pos he]
      have t1 : ¬ ((s.size : Int) - (a : Int) - 2 < (n : Int)) := by omega
      have w1 : IntKind.i64.wrap ((s.size : Int) - (a : Int)) = (s.size : Int) - (a : Int) := IntWalk.i64_in _ (by omega)
      have w2 : IntKind.i64.wrap ((s.size : Int) - (a : Int) - 2) = (s.size : Int) - (a : Int) - 2 := IntWalk.i64_in _ (by omega)
      have w3 : IntKind.i64.wrap ((a : Int) + 2) = (a : Int) + 2 := IntWalk.i64_in _ (by omega)
      have w4 : IntKind.i64.wrap ((a : Int) + 2 + (n : Int)) = (a : Int) + 2 + (n : Int) := IntWalk.i64_in _ (by omega)
      have g1 : (0 : Int) ≤ (a : Int) + 2 := by omega
      have g2 : (a : Int) + 2 ≤ (a : Int) + 2 + (n : Int) := by omega
      have g3 : (a : Int) + 2 + (n : Int) ≤ (s.size : Int) := by omega
      have n1 : ((a : Int) + 2).toNat = a + 2 := by omega
      have n2 : ((a : Int) + 2 + (n : Int)).toNat = a + 2 + n := by omega
      go_enter Tryz.func112, Tryz.ntmps112
      go_wp2_with ((go_at_call 57; refine (HG.out _).mono ?_; rintro e w1 ⟨rfl, hb1⟩))
      refine bodyPost_ret (v := .tuple #[.string (s.extract (a + 2) (a + 2 + n)), .int .i64 ((a + 2 + n : Nat) : Int), .bool true]) (by simp [results, Tryz.results112, go_sem]) rfl ⟨rfl, by assumption⟩
    · rw [if_neg he]
      have t1 : ((s.size : Int) - (a : Int) - 2 < (n : Int)) := by omega
      have w1 : IntKind.i64.wrap ((s.size : Int) - (a : Int)) = (s.size : Int) - (a : Int) := IntWalk.i64_in _ (by omega)
      have w2 : IntKind.i64.wrap ((s.size : Int) - (a : Int) - 2) = (s.size : Int) - (a : Int) - 2 := IntWalk.i64_in _ (by omega)
      go_enter Tryz.func112, Tryz.ntmps112
      go_wp2_with ((go_at_call 57; refine (HG.out _).mono ?_; rintro e w1 ⟨rfl, hb1⟩))
      refine bodyPost_ret (v := .tuple #[.string ⟨#[]⟩, .int .i64 0, .bool false]) (by simp [results, Tryz.results112, go_sem]) rfl ⟨rfl, by assumption⟩
  · rw [if_neg (by omega)]
    have HG := Lib.hid (fun W => get_no s a 2 (by omega) (by omega) (by omega) (by unfold Oct.there; simp; omega) W)
    go_enter Tryz.func112, Tryz.ntmps112
    go_wp2_with ((go_at_call 57; refine (HG.out _).mono ?_; rintro e w1 ⟨rfl, rfl⟩))
    refine bodyPost_ret (v := .tuple #[.string ⟨#[]⟩, .int .i64 0, .bool false]) (by simp [results, Tryz.results112, go_sem]) rfl ⟨rfl, Below.refl _ _⟩
end Go.Proofs.YtojaagnfjenhoaaGreat
/- The walk over package rec: a reader's num. -/
namespace Go.Proofs.YtojaagnfjenhoaaGreat
open Go.RowKit
abbrev rdC (s : ByteArray) (a : Nat) (bad : Bool) : Array Value := #[.string s, .int .i64 (a : Int), .bool bad]
set_option maxRecDepth 100000 in
set_option maxHeartbeats 1000000 in
theorem rnum_tf (b : Nat) (s : ByteArray) (a k : Nat) (h1 : 1 ≤ k) (h6 : k ≤ 6) (hm : s.size ≤ 1000000000) (ha : a ≤ 2000000000) (hin : a + k ≤ s.size) (w : World) (hb : w.heap[b]? = some (.cells (rdC s a false) 102 (0, 0))) :
    Calls Tryz.prog 92 #[.pointer (some ⟨b, 0, none⟩), .int .i64 (k : Int)] w fun e w' => e = .returned (.int .i64 (Oct.intOf (Oct.getN s.data.toList a k))) ∧ w'.heap[b]? = some (.cells (rdC s (a + k) false) 102 (0, 0)) ∧ KeptB w.heap.size b w w' := by
  have HG := Lib.hid (fun W => get_yes s a k h1 (by omega) hin (by omega) W)
  have HB := Lib.hid hb
  have w1' : IntKind.i64.wrap ((a : Int) + (k : Int)) = (a : Int) + (k : Int) := IntWalk.i64_in _ (by omega)
  clear hb hin
  generalize Oct.intOf (Oct.getN s.data.toList a k) = n at HG ⊢
  go_enter Tryz.func92, Tryz.ntmps92
  go_upto_region 1 with fail
  refine wp_region_held_drew (S := (fun u => u.heap[b]? = some (.cells (rdC s a false) 102 (0, 0)))) (by kernel_rfl) ?_ (fun hHeld => ?_)
  · first | exact hSn | exact HB.out
  refine tkW 0 (some 8) (v := ?_) rfl ?_ (tkW 1 (some 9) (v := ?_) rfl ?_ (tkW 2 (some 10) (v := ?_) rfl ?_ (tkW 3 (some 11) (v := ?_) rfl ?_ (tkW 4 (some 12) (v := ?_) rfl ?_ (tkW 5 (some 13) (v := ?_) rfl ?_ (tkW 6 (some 14) (v := ?_) rfl ?_ (tkW 7 (some 15) (v := ?_) rfl ?_ (tkW 8 (some 16) (v := ?_) rfl ?_ ?_))))))))
  iterate 9 (rotate_left; focus (intro u hSu; have hSv := blkCell hSu; clear hSu; go_simp; (try with_reducible rfl)))
  try simp only [Act.put, pS]
  refine rdH 9 (some 17) rfl (fun K hK => ?_)
  go_simp
  refine (HG.out _).mono ?_; rintro e w1 ⟨rfl, hb1⟩; have hSn := blkOld HB.out ((Below.refl _ w).drew.trans hb1); try go_simp
  refine hK.out _ _ ?_ (fun hHeld => ?_)
  · first | exact hSn | exact HB.out
  clear hK K
  try simp only [Act.put, pS]
  refine tkW 10 (some 7) (v := ?_) rfl ?_ (tkW 11 (some 18) (v := ?_) rfl ?_ (tkW 12 (some 19) (v := ?_) rfl ?_ (tkW 13 (some 5) (v := ?_) rfl ?_ (tkW 14 (some 6) (v := ?_) rfl ?_ ?_))))
  iterate 5 (rotate_left; focus (intro u hSu; have hSv := blkCell hSu; clear hSu; go_simp; (try with_reducible rfl)))
  try simp only [Act.put, pS]
  refine wpAnyH_done (by kernel_rfl) ?_ _
  have H1 := Lib.hid hHeld
  have HK := Lib.hid (show Below w.heap.size w w1 from (Below.refl _ w).drew.trans hb1)
  clear hHeld hSn hb1
  have c0 := blkCell H1.out 0
  have c1 := blkCell H1.out 1
  have c2 := blkCell H1.out 2
  have f1 := blkFrozen H1.out 1
  have f2 := blkFrozen H1.out 2
  simp at c0 c1 c2
  go_wp2_with fail
  go_ret
  refine ⟨rfl, ?_, ?_⟩
  · have h := blkSet 2 (blkSet 1 H1.out (.int .i64 ((a : Int) + (k : Int)))) (.bool false)
    first | exact h | simpa using h
  · refine ⟨HK.out.os, HK.out.tape, HK.out.output, by have := HK.out.size; simpa [World.setCell] using this, fun i hi hib => ?_⟩
    rw [Below.heap_setCell _ _ _ _ hib, Below.heap_setCell _ _ _ _ hib]
    exact HK.out.block i hi
set_option maxRecDepth 100000 in
set_option maxHeartbeats 1000000 in
theorem rnum_tt (b : Nat) (s : ByteArray) (a k : Nat) (h1 : 1 ≤ k) (h6 : k ≤ 6) (hm : s.size ≤ 1000000000) (ha : a ≤ 2000000000) (hin : a + k ≤ s.size) (w : World) (hb : w.heap[b]? = some (.cells (rdC s a true) 102 (0, 0))) :
    Calls Tryz.prog 92 #[.pointer (some ⟨b, 0, none⟩), .int .i64 (k : Int)] w fun e w' => e = .returned (.int .i64 (Oct.intOf (Oct.getN s.data.toList a k))) ∧ w'.heap[b]? = some (.cells (rdC s (a + k) true) 102 (0, 0)) ∧ KeptB w.heap.size b w w' := by
  have HG := Lib.hid (fun W => get_yes s a k h1 (by omega) hin (by omega) W)
  have HB := Lib.hid hb
  have w1' : IntKind.i64.wrap ((a : Int) + (k : Int)) = (a : Int) + (k : Int) := IntWalk.i64_in _ (by omega)
  clear hb hin
  generalize Oct.intOf (Oct.getN s.data.toList a k) = n at HG ⊢
  go_enter Tryz.func92, Tryz.ntmps92
  go_upto_region 1 with fail
  refine wp_region_held_drew (S := (fun u => u.heap[b]? = some (.cells (rdC s a true) 102 (0, 0)))) (by kernel_rfl) ?_ (fun hHeld => ?_)
  · first | exact hSn | exact HB.out
  refine tkW 0 (some 8) (v := ?_) rfl ?_ (tkW 1 (some 9) (v := ?_) rfl ?_ (tkW 2 (some 10) (v := ?_) rfl ?_ (tkW 3 (some 11) (v := ?_) rfl ?_ (tkW 4 (some 12) (v := ?_) rfl ?_ (tkW 5 (some 13) (v := ?_) rfl ?_ (tkW 6 (some 14) (v := ?_) rfl ?_ (tkW 7 (some 15) (v := ?_) rfl ?_ (tkW 8 (some 16) (v := ?_) rfl ?_ ?_))))))))
  iterate 9 (rotate_left; focus (intro u hSu; have hSv := blkCell hSu; clear hSu; go_simp; (try with_reducible rfl)))
  try simp only [Act.put, pS]
  refine rdH 9 (some 17) rfl (fun K hK => ?_)
  go_simp
  refine (HG.out _).mono ?_; rintro e w1 ⟨rfl, hb1⟩; have hSn := blkOld HB.out ((Below.refl _ w).drew.trans hb1); try go_simp
  refine hK.out _ _ ?_ (fun hHeld => ?_)
  · first | exact hSn | exact HB.out
  clear hK K
  try simp only [Act.put, pS]
  refine tkW 10 (some 7) (v := ?_) rfl ?_ (tkW 11 (some 18) (v := ?_) rfl ?_ (tkW 12 (some 19) (v := ?_) rfl ?_ (tkW 13 (some 5) (v := ?_) rfl ?_ (tkW 14 (some 6) (v := ?_) rfl ?_ ?_))))
  iterate 5 (rotate_left; focus (intro u hSu; have hSv := blkCell hSu; clear hSu; go_simp; (try with_reducible rfl)))
  try simp only [Act.put, pS]
  refine wpAnyH_done (by kernel_rfl) ?_ _
  have H1 := Lib.hid hHeld
  have HK := Lib.hid (show Below w.heap.size w w1 from (Below.refl _ w).drew.trans hb1)
  clear hHeld hSn hb1
  have c0 := blkCell H1.out 0
  have c1 := blkCell H1.out 1
  have c2 := blkCell H1.out 2
  have f1 := blkFrozen H1.out 1
  have f2 := blkFrozen H1.out 2
  simp at c0 c1 c2
  go_wp2_with fail
  go_ret
  refine ⟨rfl, ?_, ?_⟩
  · have h := blkSet 2 (blkSet 1 H1.out (.int .i64 ((a : Int) + (k : Int)))) (.bool true)
    first | exact h | simpa using h
  · refine ⟨HK.out.os, HK.out.tape, HK.out.output, by have := HK.out.size; simpa [World.setCell] using this, fun i hi hib => ?_⟩
    rw [Below.heap_setCell _ _ _ _ hib, Below.heap_setCell _ _ _ _ hib]
    exact HK.out.block i hi
set_option maxRecDepth 100000 in
set_option maxHeartbeats 1000000 in
theorem rnum_ff (b : Nat) (s : ByteArray) (a k : Nat) (h1 : 1 ≤ k) (h6 : k ≤ 6) (hm : s.size ≤ 1000000000) (ha : a ≤ 2000000000) (hin : ¬ a + k ≤ s.size) (w : World) (hb : w.heap[b]? = some (.cells (rdC s a false) 102 (0, 0))) :
    Calls Tryz.prog 92 #[.pointer (some ⟨b, 0, none⟩), .int .i64 (k : Int)] w fun e w' => e = .returned (.int .i64 (0)) ∧ w'.heap[b]? = some (.cells (rdC s (a + k) true) 102 (0, 0)) ∧ KeptB w.heap.size b w w' := by
  have HG := Lib.hid (fun W => get_no s a k (by omega) (by omega) (by omega) (by unfold Oct.there; simp; omega) W)
  have HB := Lib.hid hb
  have w1' : IntKind.i64.wrap ((a : Int) + (k : Int)) = (a : Int) + (k : Int) := IntWalk.i64_in _ (by omega)
  clear hb hin
  go_enter Tryz.func92, Tryz.ntmps92
  go_upto_region 1 with fail
  refine wp_region_held_drew (S := (fun u => u.heap[b]? = some (.cells (rdC s a false) 102 (0, 0)))) (by kernel_rfl) ?_ (fun hHeld => ?_)
  · first | exact hSn | exact HB.out
  refine tkW 0 (some 8) (v := ?_) rfl ?_ (tkW 1 (some 9) (v := ?_) rfl ?_ (tkW 2 (some 10) (v := ?_) rfl ?_ (tkW 3 (some 11) (v := ?_) rfl ?_ (tkW 4 (some 12) (v := ?_) rfl ?_ (tkW 5 (some 13) (v := ?_) rfl ?_ (tkW 6 (some 14) (v := ?_) rfl ?_ (tkW 7 (some 15) (v := ?_) rfl ?_ (tkW 8 (some 16) (v := ?_) rfl ?_ ?_))))))))
  iterate 9 (rotate_left; focus (intro u hSu; have hSv := blkCell hSu; clear hSu; go_simp; (try with_reducible rfl)))
  try simp only [Act.put, pS]
  refine rdH 9 (some 17) rfl (fun K hK => ?_)
  go_simp
  refine (HG.out _).mono ?_; rintro e w1 ⟨rfl, hw1⟩; have hb1 : Below w.drew.heap.size w.drew w1 := (by rw [← hw1]; exact Below.refl _ _); have hSn := blkOld HB.out ((Below.refl _ w).drew.trans hb1); try go_simp
  refine hK.out _ _ ?_ (fun hHeld => ?_)
  · first | exact hSn | exact HB.out
  clear hK K
  try simp only [Act.put, pS]
  refine tkW 10 (some 7) (v := ?_) rfl ?_ (tkW 11 (some 18) (v := ?_) rfl ?_ (tkW 12 (some 19) (v := ?_) rfl ?_ (tkW 13 (some 5) (v := ?_) rfl ?_ (tkW 14 (some 6) (v := ?_) rfl ?_ ?_))))
  iterate 5 (rotate_left; focus (intro u hSu; have hSv := blkCell hSu; clear hSu; go_simp; (try with_reducible rfl)))
  try simp only [Act.put, pS]
  refine wpAnyH_done (by kernel_rfl) ?_ _
  have H1 := Lib.hid hHeld
  have HK := Lib.hid (show Below w.heap.size w w1 from (Below.refl _ w).drew.trans hb1)
  clear hHeld hSn hb1
  have c0 := blkCell H1.out 0
  have c1 := blkCell H1.out 1
  have c2 := blkCell H1.out 2
  have f1 := blkFrozen H1.out 1
  have f2 := blkFrozen H1.out 2
  simp at c0 c1 c2
  go_wp2_with fail
  go_ret
  refine ⟨rfl, ?_, ?_⟩
  · have h := blkSet 2 (blkSet 1 H1.out (.int .i64 ((a : Int) + (k : Int)))) (.bool true)
    first | exact h | simpa using h
  · refine ⟨HK.out.os, HK.out.tape, HK.out.output, by have := HK.out.size; simpa [World.setCell] using this, fun i hi hib => ?_⟩
    rw [Below.heap_setCell _ _ _ _ hib, Below.heap_setCell _ _ _ _ hib]
    exact HK.out.block i hi
set_option maxRecDepth 100000 in
set_option maxHeartbeats 1000000 in
theorem rnum_ft (b : Nat) (s : ByteArray) (a k : Nat) (h1 : 1 ≤ k) (h6 : k ≤ 6) (hm : s.size ≤ 1000000000) (ha : a ≤ 2000000000) (hin : ¬ a + k ≤ s.size) (w : World) (hb : w.heap[b]? = some (.cells (rdC s a true) 102 (0, 0))) :
    Calls Tryz.prog 92 #[.pointer (some ⟨b, 0, none⟩), .int .i64 (k : Int)] w fun e w' => e = .returned (.int .i64 (0)) ∧ w'.heap[b]? = some (.cells (rdC s (a + k) true) 102 (0, 0)) ∧ KeptB w.heap.size b w w' := by
  have HG := Lib.hid (fun W => get_no s a k (by omega) (by omega) (by omega) (by unfold Oct.there; simp; omega) W)
  have HB := Lib.hid hb
  have w1' : IntKind.i64.wrap ((a : Int) + (k : Int)) = (a : Int) + (k : Int) := IntWalk.i64_in _ (by omega)
  clear hb hin
  go_enter Tryz.func92, Tryz.ntmps92
  go_upto_region 1 with fail
  refine wp_region_held_drew (S := (fun u => u.heap[b]? = some (.cells (rdC s a true) 102 (0, 0)))) (by kernel_rfl) ?_ (fun hHeld => ?_)
  · first | exact hSn | exact HB.out
  refine tkW 0 (some 8) (v := ?_) rfl ?_ (tkW 1 (some 9) (v := ?_) rfl ?_ (tkW 2 (some 10) (v := ?_) rfl ?_ (tkW 3 (some 11) (v := ?_) rfl ?_ (tkW 4 (some 12) (v := ?_) rfl ?_ (tkW 5 (some 13) (v := ?_) rfl ?_ (tkW 6 (some 14) (v := ?_) rfl ?_ (tkW 7 (some 15) (v := ?_) rfl ?_ (tkW 8 (some 16) (v := ?_) rfl ?_ ?_))))))))
  iterate 9 (rotate_left; focus (intro u hSu; have hSv := blkCell hSu; clear hSu; go_simp; (try with_reducible rfl)))
  try simp only [Act.put, pS]
  refine rdH 9 (some 17) rfl (fun K hK => ?_)
  go_simp
  refine (HG.out _).mono ?_; rintro e w1 ⟨rfl, hw1⟩; have hb1 : Below w.drew.heap.size w.drew w1 := (by rw [← hw1]; exact Below.refl _ _); have hSn := blkOld HB.out ((Below.refl _ w).drew.trans hb1); try go_simp
  refine hK.out _ _ ?_ (fun hHeld => ?_)
  · first | exact hSn | exact HB.out
  clear hK K
  try simp only [Act.put, pS]
  refine tkW 10 (some 7) (v := ?_) rfl ?_ (tkW 11 (some 18) (v := ?_) rfl ?_ (tkW 12 (some 19) (v := ?_) rfl ?_ (tkW 13 (some 5) (v := ?_) rfl ?_ (tkW 14 (some 6) (v := ?_) rfl ?_ ?_))))
  iterate 5 (rotate_left; focus (intro u hSu; have hSv := blkCell hSu; clear hSu; go_simp; (try with_reducible rfl)))
  try simp only [Act.put, pS]
  refine wpAnyH_done (by kernel_rfl) ?_ _
  have H1 := Lib.hid hHeld
  have HK := Lib.hid (show Below w.heap.size w w1 from (Below.refl _ w).drew.trans hb1)
  clear hHeld hSn hb1
  have c0 := blkCell H1.out 0
  have c1 := blkCell H1.out 1
  have c2 := blkCell H1.out 2
  have f1 := blkFrozen H1.out 1
  have f2 := blkFrozen H1.out 2
  simp at c0 c1 c2
  go_wp2_with fail
  go_ret
  refine ⟨rfl, ?_, ?_⟩
  · have h := blkSet 2 (blkSet 1 H1.out (.int .i64 ((a : Int) + (k : Int)))) (.bool true)
    first | exact h | simpa using h
  · refine ⟨HK.out.os, HK.out.tape, HK.out.output, by have := HK.out.size; simpa [World.setCell] using this, fun i hi hib => ?_⟩
    rw [Below.heap_setCell _ _ _ _ hib, Below.heap_setCell _ _ _ _ hib]
    exact HK.out.block i hi
end Go.Proofs.YtojaagnfjenhoaaGreat
/- The walk over package rec: a reader's num, as the plain reader has it. -/
namespace Go.Proofs.YtojaagnfjenhoaaGreat
open Go.RowKit
theorem rnum_any (b : Nat) (s : ByteArray) (x : Rc.St) (k : Nat) (h1 : 1 ≤ k) (h6 : k ≤ 6) (hm : s.size ≤ 1000000000) (ha : x.at_ ≤ 2000000000) (w : World) (hb : w.heap[b]? = some (.cells (rdC s x.at_ x.bad) 102 (0, 0))) :
    Calls Tryz.prog 92 #[.pointer (some ⟨b, 0, none⟩), .int .i64 (k : Int)] w fun e w' => e = .returned (.int .i64 (Rc.numM true s.data.toList x k).1) ∧ w'.heap[b]? = some (.cells (rdC s (Rc.numM true s.data.toList x k).2.at_ (Rc.numM true s.data.toList x k).2.bad) 102 (0, 0)) ∧ KeptB w.heap.size b w w' := by
  obtain ⟨a, bad⟩ := x
  have hl : s.data.toList.length = s.size := by simp
  by_cases hin : a + k ≤ s.size
  · have hp := getN_small s.data.toList a k
    have h2 : 256 ^ k ≤ 256 ^ 6 := Nat.pow_le_pow_right (by omega) h6
    have h3 : Oct.getN s.data.toList a k < 281474976710656 := Nat.lt_of_lt_of_le hp h2
    have hi : Oct.intOf (Oct.getN s.data.toList a k) = ((Oct.getN s.data.toList a k : Nat) : Int) := by unfold Oct.intOf; rw [if_pos (by omega)]
    have hN : Rc.numM true s.data.toList ⟨a, bad⟩ k = (((Oct.getN s.data.toList a k : Nat) : Int), (⟨a + k, bad⟩ : Rc.St)) := by unfold Rc.numM; rw [if_pos (by show a + k ≤ _; omega)]
    rw [hN, ← hi]
    cases bad with
    | false => exact rnum_tf b s a k h1 h6 hm ha hin w hb
    | true => exact rnum_tt b s a k h1 h6 hm ha hin w hb
  · have hN : Rc.numM true s.data.toList ⟨a, bad⟩ k = ((0 : Int), (⟨a + k, true⟩ : Rc.St)) := by unfold Rc.numM; rw [if_neg (by show ¬ a + k ≤ _; omega)]; rfl
    rw [hN]
    cases bad with
    | false => exact rnum_ff b s a k h1 h6 hm ha hin w hb
    | true => exact rnum_ft b s a k h1 h6 hm ha hin w hb
end Go.Proofs.YtojaagnfjenhoaaGreat
/- The walk over package rec: a reader's text. -/
namespace Go.Proofs.YtojaagnfjenhoaaGreat
open Go.RowKit
theorem extract_list (s : ByteArray) (a n : Nat) : s.extract a (a + n) = ⟨((s.data.toList.drop a).take n).toArray⟩ := by
  apply ByteArray.ext
  rw [ByteArray.data_extract]
  apply Array.toList_inj.1
  rw [Array.toList_extract, List.extract_eq_take_drop]
  simp
set_option maxRecDepth 100000 in
set_option maxHeartbeats 1000000 in
theorem rtext_t (b : Nat) (s : ByteArray) (a : Nat) (bad : Bool) (x : ByteArray) (q : Nat) (hg : ∀ W, Calls Tryz.prog 112 #[.string s, .int .i64 (a : Int)] W fun e w' => e = .returned (.tuple #[.string x, .int .i64 (q : Int), .bool true]) ∧ Below W.heap.size W w') (w : World) (hb : w.heap[b]? = some (.cells (rdC s a bad) 102 (0, 0))) :
    Calls Tryz.prog 93 #[.pointer (some ⟨b, 0, none⟩)] w fun e w' => e = .returned (.string x) ∧ w'.heap[b]? = some (.cells (rdC s q bad) 102 (0, 0)) ∧ KeptB w.heap.size b w w' := by
  have HG := Lib.hid hg
  have HB := Lib.hid hb
  clear hb hg
  go_enter Tryz.func93, Tryz.ntmps93
  go_upto_region 1 with fail
  refine wp_region_held_drew (S := (fun u => u.heap[b]? = some (.cells (rdC s a bad) 102 (0, 0)))) (by kernel_rfl) ?_ (fun hHeld => ?_)
  · first | exact hSn | exact HB.out
  refine tkW 0 (some 7) (v := ?_) rfl ?_ (tkW 1 (some 8) (v := ?_) rfl ?_ (tkW 2 (some 9) (v := ?_) rfl ?_ (tkW 3 (some 10) (v := ?_) rfl ?_ (tkW 4 (some 11) (v := ?_) rfl ?_ (tkW 5 (some 12) (v := ?_) rfl ?_ (tkW 6 (some 13) (v := ?_) rfl ?_ (tkW 7 (some 14) (v := ?_) rfl ?_ ?_)))))))
  iterate 8 (rotate_left; focus (intro u hSu; have hSv := blkCell hSu; clear hSu; go_simp; (try with_reducible rfl)))
  try simp only [Act.put, pS]
  refine rdH 8 (some 15) rfl (fun K hK => ?_)
  go_simp
  refine (HG.out _).mono ?_; rintro e w1 ⟨rfl, hb1⟩; have hSn := blkOld HB.out ((Below.refl _ w).drew.trans hb1); try go_simp
  refine hK.out _ _ ?_ (fun hHeld => ?_)
  · first | exact hSn | exact HB.out
  clear hK K
  try simp only [Act.put, pS]
  refine tkW 9 (some 6) (v := ?_) rfl ?_ (tkW 10 (some 16) (v := ?_) rfl ?_ (tkW 11 (some 17) (v := ?_) rfl ?_ (tkW 12 (some 18) (v := ?_) rfl ?_ (tkW 13 (some 3) (v := ?_) rfl ?_ (tkW 14 (some 4) (v := ?_) rfl ?_ (tkW 15 (some 5) (v := ?_) rfl ?_ ?_))))))
  iterate 7 (rotate_left; focus (intro u hSu; have hSv := blkCell hSu; clear hSu; go_simp; (try with_reducible rfl)))
  try simp only [Act.put, pS]
  refine wpAnyH_done (by kernel_rfl) ?_ _
  have H1 := Lib.hid hHeld
  have HK := Lib.hid (show Below w.heap.size w w1 from (Below.refl _ w).drew.trans hb1)
  clear hHeld hSn hb1
  have c0 := blkCell H1.out 0
  have c1 := blkCell H1.out 1
  have c2 := blkCell H1.out 2
  have f1 := blkFrozen H1.out 1
  have f2 := blkFrozen H1.out 2
  simp at c0 c1 c2
  go_wp2_with fail
  go_ret
  refine ⟨rfl, ?_, ?_⟩
  · have h := blkSet 1 H1.out (.int .i64 (q : Int))
    first | exact h | simpa using h
  · refine ⟨HK.out.os, HK.out.tape, HK.out.output, by have := HK.out.size; simpa [World.setCell] using this, fun i hi hib => ?_⟩
    rw [Below.heap_setCell _ _ _ _ hib]
    exact HK.out.block i hi
set_option maxRecDepth 100000 in
set_option maxHeartbeats 1000000 in
theorem rtext_f (b : Nat) (s : ByteArray) (a : Nat) (bad : Bool) (hg : ∀ W, Calls Tryz.prog 112 #[.string s, .int .i64 (a : Int)] W fun e w' => e = .returned (.tuple #[.string ⟨#[]⟩, .int .i64 0, .bool false]) ∧ Below W.heap.size W w') (w : World) (hb : w.heap[b]? = some (.cells (rdC s a bad) 102 (0, 0))) :
    Calls Tryz.prog 93 #[.pointer (some ⟨b, 0, none⟩)] w fun e w' => e = .returned (.string ⟨#[]⟩) ∧ w'.heap[b]? = some (.cells (rdC s a true) 102 (0, 0)) ∧ KeptB w.heap.size b w w' := by
  have HG := Lib.hid hg
  have HB := Lib.hid hb
  clear hb hg
  go_enter Tryz.func93, Tryz.ntmps93
  go_upto_region 1 with fail
  refine wp_region_held_drew (S := (fun u => u.heap[b]? = some (.cells (rdC s a bad) 102 (0, 0)))) (by kernel_rfl) ?_ (fun hHeld => ?_)
  · first | exact hSn | exact HB.out
  refine tkW 0 (some 7) (v := ?_) rfl ?_ (tkW 1 (some 8) (v := ?_) rfl ?_ (tkW 2 (some 9) (v := ?_) rfl ?_ (tkW 3 (some 10) (v := ?_) rfl ?_ (tkW 4 (some 11) (v := ?_) rfl ?_ (tkW 5 (some 12) (v := ?_) rfl ?_ (tkW 6 (some 13) (v := ?_) rfl ?_ (tkW 7 (some 14) (v := ?_) rfl ?_ ?_)))))))
  iterate 8 (rotate_left; focus (intro u hSu; have hSv := blkCell hSu; clear hSu; go_simp; (try with_reducible rfl)))
  try simp only [Act.put, pS]
  refine rdH 8 (some 15) rfl (fun K hK => ?_)
  go_simp
  refine (HG.out _).mono ?_; rintro e w1 ⟨rfl, hb1⟩; have hSn := blkOld HB.out ((Below.refl _ w).drew.trans hb1); try go_simp
  refine hK.out _ _ ?_ (fun hHeld => ?_)
  · first | exact hSn | exact HB.out
  clear hK K
  try simp only [Act.put, pS]
  refine tkW 9 (some 6) (v := ?_) rfl ?_ (tkW 10 (some 16) (v := ?_) rfl ?_ (tkW 11 (some 17) (v := ?_) rfl ?_ (tkW 12 (some 18) (v := ?_) rfl ?_ (tkW 13 (some 3) (v := ?_) rfl ?_ (tkW 14 (some 4) (v := ?_) rfl ?_ (tkW 15 (some 5) (v := ?_) rfl ?_ ?_))))))
  iterate 7 (rotate_left; focus (intro u hSu; have hSv := blkCell hSu; clear hSu; go_simp; (try with_reducible rfl)))
  try simp only [Act.put, pS]
  refine wpAnyH_done (by kernel_rfl) ?_ _
  have H1 := Lib.hid hHeld
  have HK := Lib.hid (show Below w.heap.size w w1 from (Below.refl _ w).drew.trans hb1)
  clear hHeld hSn hb1
  have c0 := blkCell H1.out 0
  have c1 := blkCell H1.out 1
  have c2 := blkCell H1.out 2
  have f1 := blkFrozen H1.out 1
  have f2 := blkFrozen H1.out 2
  simp at c0 c1 c2
  go_wp2_with fail
  go_ret
  refine ⟨rfl, ?_, ?_⟩
  · have h := blkSet 2 H1.out (.bool true)
    first | exact h | simpa using h
  · refine ⟨HK.out.os, HK.out.tape, HK.out.output, by have := HK.out.size; simpa [World.setCell] using this, fun i hi hib => ?_⟩
    rw [Below.heap_setCell _ _ _ _ hib]
    exact HK.out.block i hi
theorem rtext_any (b : Nat) (s : ByteArray) (x : Rc.St) (hm : s.size ≤ 1000000000) (ha : x.at_ ≤ 2000000000) (w : World) (hb : w.heap[b]? = some (.cells (rdC s x.at_ x.bad) 102 (0, 0))) :
    Calls Tryz.prog 93 #[.pointer (some ⟨b, 0, none⟩)] w fun e w' => e = .returned (.string (Rc.textM s.data.toList x).1) ∧ w'.heap[b]? = some (.cells (rdC s (Rc.textM s.data.toList x).2.at_ (Rc.textM s.data.toList x).2.bad) 102 (0, 0)) ∧ KeptB w.heap.size b w w' := by
  obtain ⟨a, bad⟩ := x
  have hl : s.data.toList.length = s.size := by simp
  have HG := fun W => getText_any s a hm ha W
  by_cases hin : a + 2 + Oct.getN s.data.toList a 2 ≤ s.size
  · have hN : Rc.textM s.data.toList ⟨a, bad⟩ = (s.extract (a + 2) (a + 2 + Oct.getN s.data.toList a 2), (⟨a + 2 + Oct.getN s.data.toList a 2, bad⟩ : Rc.St)) := by
      unfold Rc.textM
      rw [if_pos (by show a + 2 + Oct.getN s.data.toList a 2 ≤ _; omega), extract_list]
    rw [hN]
    simp only [if_pos hin] at HG
    exact rtext_t b s a bad _ _ HG w hb
  · have hN : Rc.textM s.data.toList ⟨a, bad⟩ = (⟨#[]⟩, (⟨a, true⟩ : Rc.St)) := by
      unfold Rc.textM
      rw [if_neg (by show ¬ a + 2 + Oct.getN s.data.toList a 2 ≤ _; omega)]
    rw [hN]
    simp only [if_neg hin] at HG
    exact rtext_f b s a bad HG w hb
end Go.Proofs.YtojaagnfjenhoaaGreat
/- Which records may be, as a test. -/
namespace Rc
/-- Texts and lists alike. -/
instance : DecidableEq Op := fun a b => by
  obtain ⟨a1, a2, a3, a4⟩ := a
  obtain ⟨b1, b2, b3, b4⟩ := b
  by_cases h : a1 = b1 ∧ a2 = b2 ∧ a3 = b3 ∧ a4 = b4
  · exact .isTrue (by obtain ⟨rfl, rfl, rfl, rfl⟩ := h; rfl)
  · exact .isFalse (fun e => by injection e with e1 e2 e3 e4; exact h ⟨e1, e2, e3, e4⟩)
instance : DecidableEq Key := fun a b => by
  obtain ⟨a1, a2, a3⟩ := a
  obtain ⟨b1, b2, b3⟩ := b
  by_cases h : a1 = b1 ∧ a2 = b2 ∧ a3 = b3
  · exact .isTrue (by obtain ⟨rfl, rfl, rfl⟩ := h; rfl)
  · exact .isFalse (fun e => by injection e with e1 e2 e3; exact h ⟨e1, e2, e3⟩)
instance (n : Int) : Decidable (num n) := by unfold num; exact inferInstance
instance (n : Int) : Decidable (pg n) := by unfold pg; exact inferInstance
instance (n : Int) : Decidable (sl n) := by unfold sl; exact inferInstance
instance (o : Op) : Decidable (opR o) := by unfold opR; exact inferInstance
instance (r : Rec) : Decidable (treeR r) := by unfold treeR; exact inferInstance
instance (x : TxnAt) : Decidable (txnR x) := by unfold txnR; exact inferInstance
instance (x : DirtyAt) : Decidable (dirtyR x) := by unfold dirtyR; exact inferInstance
instance (r : Rec) : Decidable (listsR r) := by unfold listsR; exact inferInstance
/-- What a kind has: a change, how it is undone, a next one, lists. -/
def hasChange (k : Int) : Prop := k = 2 ∨ k = 3 ∨ k = 8
def hasNext (k : Int) : Prop := k = 3 ∨ k = 4
/-- The form of a record, field by field. -/
structure Form (r : Rec) : Prop where
  kind : 1 ≤ r.kind ∧ r.kind ≤ 9
  nums : num r.lsn ∧ num r.prev ∧ num r.txn
  change : hasChange r.kind → pg r.page ∧ opR r.op
  bare : ¬ hasChange r.kind → r.page = 0 ∧ r.op = noOp
  tree : r.kind = 2 → treeR r
  noTree : r.kind ≠ 2 → r.how = 0 ∧ r.root = 0 ∧ r.e = noKey
  next : hasNext r.kind → num r.next
  noNext : ¬ hasNext r.kind → r.next = 0
  lists : r.kind = 9 → num r.num ∧ listsR r
  noLists : r.kind ≠ 9 → r.num = 0 ∧ r.txns = [] ∧ r.dirty = []
theorem form_of {r : Rec} (h : Right r) : Form r := by
  cases h with
  | small kind lsn prev txn hk h1 h2 h3 =>
    have hb : (bare kind lsn prev txn).kind = kind := rfl
    exact ⟨by rw [hb]; omega, ⟨h1, h2, h3⟩, fun h => (by unfold hasChange at h; rw [hb] at h; omega), fun _ => ⟨rfl, rfl⟩, fun h => (by rw [hb] at h; omega), fun _ => ⟨rfl, rfl, rfl⟩, fun h => (by unfold hasNext at h; rw [hb] at h; omega), fun _ => rfl, fun h => (by rw [hb] at h; omega), fun _ => ⟨rfl, rfl, rfl⟩⟩
  | change lsn prev txn page op how root e h1 h2 h3 h4 h5 h6 =>
    exact ⟨⟨by show (1 : Int) ≤ 2; omega, by show (2 : Int) ≤ 9; omega⟩, ⟨h1, h2, h3⟩, fun _ => ⟨h4, h5⟩, fun h => absurd (Or.inl rfl) h, fun _ => h6, fun h => absurd rfl h, fun h => (by rcases h with h | h <;> cases h), fun _ => rfl, fun h => (by cases h), fun _ => ⟨rfl, rfl, rfl⟩⟩
  | clr lsn prev txn page op next h1 h2 h3 h4 h5 h6 =>
    exact ⟨⟨by show (1 : Int) ≤ 3; omega, by show (3 : Int) ≤ 9; omega⟩, ⟨h1, h2, h3⟩, fun _ => ⟨h4, h5⟩, fun h => absurd (Or.inr (Or.inl rfl)) h, fun h => (by cases h), fun _ => ⟨rfl, rfl, rfl⟩, fun _ => h6, fun h => absurd (Or.inl rfl) h, fun h => (by cases h), fun _ => ⟨rfl, rfl, rfl⟩⟩
  | nest lsn prev txn next h1 h2 h3 h6 =>
    exact ⟨⟨by show (1 : Int) ≤ 4; omega, by show (4 : Int) ≤ 9; omega⟩, ⟨h1, h2, h3⟩, fun h => (by rcases h with h | h | h <;> cases h), fun _ => ⟨rfl, rfl⟩, fun h => (by cases h), fun _ => ⟨rfl, rfl, rfl⟩, fun _ => h6, fun h => absurd (Or.inr rfl) h, fun h => (by cases h), fun _ => ⟨rfl, rfl, rfl⟩⟩
  | image lsn prev txn page op h1 h2 h3 h4 h5 =>
    exact ⟨⟨by show (1 : Int) ≤ 8; omega, by show (8 : Int) ≤ 9; omega⟩, ⟨h1, h2, h3⟩, fun _ => ⟨h4, h5⟩, fun h => absurd (Or.inr (Or.inr rfl)) h, fun h => (by cases h), fun _ => ⟨rfl, rfl, rfl⟩, fun h => (by rcases h with h | h <;> cases h), fun _ => rfl, fun h => (by cases h), fun _ => ⟨rfl, rfl, rfl⟩⟩
  | check lsn prev txn n ts ds h1 h2 h3 h4 h5 =>
    exact ⟨⟨by show (1 : Int) ≤ 9; omega, by show (9 : Int) ≤ 9; omega⟩, ⟨h1, h2, h3⟩, fun h => (by rcases h with h | h | h <;> cases h), fun _ => ⟨rfl, rfl⟩, fun h => (by cases h), fun _ => ⟨rfl, rfl, rfl⟩, fun h => (by rcases h with h | h <;> cases h), fun _ => rfl, fun _ => ⟨h4, h5⟩, fun h => absurd rfl h⟩
end Rc
/- The walks over package rec: which numbers may be. -/
namespace Rc
/-- Are all numbers from 0 to a most one? -/
def allW (most : Int) (xs : List Int) : Bool := xs.all fun n => decide (0 ≤ n ∧ n ≤ most)
theorem allW_bad {most : Int} {xs : List Int} {k : Nat} (hk : k < xs.length) (h : ¬ (0 ≤ xs[k] ∧ xs[k] ≤ most)) : allW most xs = false := by
  unfold allW
  rw [List.all_eq_false]
  exact ⟨_, List.getElem_mem hk, by simpa using h⟩
theorem allW_all {most : Int} {xs : List Int} (h : ∀ k (hk : k < xs.length), 0 ≤ xs[k] ∧ xs[k] ≤ most) : allW most xs = true := by
  unfold allW
  rw [List.all_eq_true]
  intro x hx
  obtain ⟨k, hk, rfl⟩ := List.getElem_of_mem hx
  simpa using h k hk
end Rc
namespace Go.Proofs.YtojaagnfjenhoaaGreat
open Go.RowKit
theorem outside_any (n most : Int) (g : Nat) (w : World) (h : w.cell? ⟨g, 0, none⟩ = some (.int .i64 most)) :
    Calls Tryz.prog 115 #[.int .i64 n, .pointer (some ⟨g, 0, none⟩)] w fun e w' => e = .returned (.bool (!decide (0 ≤ n ∧ n ≤ most))) ∧ w = w' := by
  by_cases h0 : n < 0
  · rw [show decide (0 ≤ n ∧ n ≤ most) = false from decide_eq_false (by omega)]
    go_enter Tryz.func115, Tryz.ntmps115
    go_wp2_with fail
    go_ret
    exact ⟨by simp [*], rfl⟩
  · have h1 : 0 ≤ n := by omega
    by_cases h2 : most < n
    · rw [show decide (0 ≤ n ∧ n ≤ most) = false from decide_eq_false (by omega)]
      go_enter Tryz.func115, Tryz.ntmps115
      go_wp2_with fail
      go_ret
      exact ⟨by simp [*], rfl⟩
    · have h3 : n ≤ most := by omega
      rw [show decide (0 ≤ n ∧ n ≤ most) = true from decide_eq_true (by omega)]
      clear h0 h2
      go_enter Tryz.func115, Tryz.ntmps115
      go_wp2_with fail
      go_ret
      exact ⟨by simp [*], rfl⟩
/-- The place of the first one that may not be. -/
def FirstOut (b : Bool) (w : World) (e : Ending) (w' : World) : Prop := ∃ k : Int, e = .returned (.int .i64 k) ∧ (if b then k = -1 else 0 ≤ k) ∧ w = w'
theorem index_ints (most : Int) (xs : List Int) (hn : xs.length ≤ 1048576) (A : Option Addr) (c g : Nat) (w : World) (hr : Reads w A c xs.length (xs.map (Value.int .i64))) (h : w.cell? ⟨g, 0, none⟩ = some (.int .i64 most)) :
    Calls Tryz.prog 117 #[.slice A xs.length c, .func (.func 115) #[] #[.pointer (some ⟨g, 0, none⟩)]] w (FirstOut (Rc.allW most xs) w) := by
  have HR := Lib.hid hr
  have HO := Lib.hid (fun n => outside_any n most g w h)
  obtain ⟨b, hb⟩ : ∃ b, b = Rc.allW most xs := ⟨_, rfl⟩
  rw [← hb]
  have HB := Lib.hid hb
  clear hr h hb
  go_enter Tryz.func117, Tryz.ntmps117
  go_wp2_with fail
  go_loop [8] (fun i => ∃ k : Nat, k ≤ xs.length ∧ i = .int .i64 k ∧ ∀ j (hj : j < xs.length), j < k → 0 ≤ xs[j] ∧ xs[j] ≤ most) (fun i => xs.length - (intOf i).toNat)
  case atStart => exact ⟨0, Nat.zero_le _, rfl, fun _ _ h => absurd h (by omega)⟩
  case round =>
    obtain ⟨k, hk, rfl, hall⟩ := hrel
    have HA := Lib.hid hall
    clear hall
    by_cases hlt : k < xs.length
    · obtain ⟨b', off, rfl, hc, hbl, hcell⟩ := HR.out.at_ (by omega)
      have hck := hcell k (.int .i64 xs[k]) (by rw [List.getElem?_map, List.getElem?_eq_getElem hlt]; rfl)
      clear hcell
      have HN := Lib.hid (show ¬ (0 ≤ xs[k] ∧ xs[k] ≤ most) → b = false from fun h => HB.out.trans (Rc.allW_bad hlt h))
      have HY := Lib.hid (show (0 ≤ xs[k] ∧ xs[k] ≤ most) → ∀ j (hj : j < xs.length), j < k + 1 → 0 ≤ xs[j] ∧ xs[j] ≤ most from fun h j hj hjk => by
        rcases Nat.lt_or_eq_of_le (Nat.le_of_lt_succ hjk) with h1 | h1
        · exact HA.out j hj h1
        · subst h1; exact h)
      have HOk := Lib.hid (HO.out xs[k])
      generalize xs[k] = x at hck HN HY HOk
      cases hd : decide (0 ≤ x ∧ x ≤ most) with
      | true =>
        have HY2 := Lib.hid (HY.out (of_decide_eq_true hd))
        rw [hd] at HOk
        clear HN HY hd
        go_wp2_with ((go_at_call 115; refine (HOk.out).mono ?_; rintro e w' ⟨rfl, rfl⟩))
        go_round
        case rel => exact ⟨k + 1, by omega, by go_num, HY2.out⟩
        case measure => simp [intOf]; omega
      | false =>
        have HN2 := Lib.hid (HN.out (of_decide_eq_false hd))
        rw [hd] at HOk
        clear HN HY hd
        go_wp2_with ((go_at_call 115; refine (HOk.out).mono ?_; rintro e w' ⟨rfl, rfl⟩))
        go_ret
        exact ⟨k, rfl, by rw [HN2.out]; simp, rfl⟩
    · obtain rfl : k = xs.length := by omega
      have HE := Lib.hid (show b = true from HB.out.trans (Rc.allW_all fun j hj => HA.out j hj hj))
      go_wp2_with fail
      go_ret
      exact ⟨-1, rfl, by rw [HE.out]; rfl, rfl⟩
theorem contains_ints (most : Int) (xs : List Int) (hn : xs.length ≤ 1048576) (A : Option Addr) (c g : Nat) (w : World) (hr : Reads w A c xs.length (xs.map (Value.int .i64))) (h : w.cell? ⟨g, 0, none⟩ = some (.int .i64 most)) :
    Calls Tryz.prog 114 #[.slice A xs.length c, .func (.func 115) #[] #[.pointer (some ⟨g, 0, none⟩)]] w fun e w' => e = .returned (.bool (!Rc.allW most xs)) ∧ w = w' := by
  have HI := Lib.hid (index_ints most xs hn A c g w hr h)
  clear hr h
  cases hb : Rc.allW most xs with
  | true =>
    rw [hb] at HI
    clear hb
    go_enter Tryz.func114, Tryz.ntmps114
    go_wp2_with ((go_at_call 117; refine (HI.out).mono ?_; rintro e w' ⟨k, rfl, hk, rfl⟩; obtain rfl : k = -1 := hk))
    go_ret
    exact ⟨rfl, rfl⟩
  | false =>
    rw [hb] at HI
    clear hb
    go_enter Tryz.func114, Tryz.ntmps114
    go_wp2_with ((go_at_call 117; refine (HI.out).mono ?_; rintro e w' ⟨k, rfl, hk, rfl⟩; have hk0 : 0 ≤ k := by simpa using hk))
    go_ret
    exact ⟨by simp [*], rfl⟩
theorem within_any (most : Int) (xs : List Int) (hn : xs.length ≤ 1048576) (A : Option Addr) (c : Nat) (w : World) (hr : Reads w A c xs.length (xs.map (Value.int .i64))) :
    Calls Tryz.prog 100 #[.int .i64 most, .slice A xs.length c] w fun e w' => e = .returned (.bool (Rc.allW most xs)) ∧ Below w.heap.size w w' := by
  have HC := Lib.hid (contains_ints most xs hn A c w.heap.size (w.alloc (.cells #[.int .i64 most] 3)) (hr.alloc _) (by rw [blkCell (heap_alloc_new w _)]; rfl))
  clear hr
  generalize Rc.allW most xs = b at HC ⊢
  go_enter Tryz.func100, Tryz.ntmps100
  go_wp2_with ((go_at_call 114; refine (HC.out).mono ?_; rintro e w' ⟨rfl, rfl⟩))
  go_ret
  exact ⟨by simp, allocB _ _⟩
theorem number_any (xs : List Int) (hn : xs.length ≤ 1048576) (A : Option Addr) (c : Nat) (w : World) (hr : Reads w A c xs.length (xs.map (Value.int .i64))) :
    Calls Tryz.prog 64 #[.slice A xs.length c] w fun e w' => e = .returned (.bool (Rc.allW 1099511627775 xs)) ∧ Below w.heap.size w w' := by
  have HC := Lib.hid (within_any 1099511627775 xs hn A c w hr)
  clear hr
  generalize Rc.allW 1099511627775 xs = b at HC ⊢
  go_enter Tryz.func64, Tryz.ntmps64
  go_wp2_with ((go_at_call 100; refine (HC.out).mono ?_; rintro e w' ⟨rfl, hb⟩))
  go_ret
  exact ⟨rfl, hb⟩
theorem paged_any (xs : List Int) (hn : xs.length ≤ 1048576) (A : Option Addr) (c : Nat) (w : World) (hr : Reads w A c xs.length (xs.map (Value.int .i64))) :
    Calls Tryz.prog 65 #[.slice A xs.length c] w fun e w' => e = .returned (.bool (Rc.allW 8388607 xs)) ∧ Below w.heap.size w w' := by
  have HC := Lib.hid (within_any 8388607 xs hn A c w hr)
  clear hr
  generalize Rc.allW 8388607 xs = b at HC ⊢
  go_enter Tryz.func65, Tryz.ntmps65
  go_wp2_with ((go_at_call 100; refine (HC.out).mono ?_; rintro e w' ⟨rfl, hb⟩))
  go_ret
  exact ⟨rfl, hb⟩
theorem slot_any (xs : List Int) (hn : xs.length ≤ 1048576) (A : Option Addr) (c : Nat) (w : World) (hr : Reads w A c xs.length (xs.map (Value.int .i64))) :
    Calls Tryz.prog 101 #[.slice A xs.length c] w fun e w' => e = .returned (.bool (Rc.allW 32767 xs)) ∧ Below w.heap.size w w' := by
  have HC := Lib.hid (within_any 32767 xs hn A c w hr)
  clear hr
  generalize Rc.allW 32767 xs = b at HC ⊢
  go_enter Tryz.func101, Tryz.ntmps101
  go_wp2_with ((go_at_call 100; refine (HC.out).mono ?_; rintro e w' ⟨rfl, hb⟩))
  go_ret
  exact ⟨rfl, hb⟩
end Go.Proofs.YtojaagnfjenhoaaGreat
/- The walks over package rec: the parts of a record that may be. -/
namespace Rc
theorem allW_one (m n : Int) : allW m [n] = decide (0 ≤ n ∧ n ≤ m) := by simp [allW]
theorem allW_two (m a b : Int) : allW m [a, b] = decide ((0 ≤ a ∧ a ≤ m) ∧ (0 ≤ b ∧ b ≤ m)) := by simp [allW, Bool.decide_and]
theorem allW_three (m a b c : Int) : allW m [a, b, c] = decide ((0 ≤ a ∧ a ≤ m) ∧ (0 ≤ b ∧ b ≤ m) ∧ (0 ≤ c ∧ c ≤ m)) := by simp [allW, Bool.decide_and]
theorem num_iff (n : Int) : (0 ≤ n ∧ n ≤ 1099511627775) ↔ num n := by unfold num; omega
theorem pg_iff (n : Int) : (0 ≤ n ∧ n ≤ 8388607) ↔ pg n := by unfold pg; omega
theorem sl_iff (n : Int) : (0 ≤ n ∧ n ≤ 32767) ↔ sl n := by unfold sl; omega
end Rc
namespace Go.Proofs.YtojaagnfjenhoaaGreat
open Go.RowKit
theorem new2 (w : World) (o1 o2 : Obj) : ((w.alloc o1).alloc o2).heap[w.heap.size + 1]? = some o2 := by simpa using heap_alloc_new (w.alloc o1) o2
theorem number1 (a : Int) (w : World) (g : Nat) (hg : w.heap[g]? = some (.cells #[.int .i64 a] 3 (0, 0))) :
    Calls Tryz.prog 64 #[.slice (some ⟨g, 0, none⟩) 1 1] w fun e w' => e = .returned (.bool (decide (Rc.num a))) ∧ Below w.heap.size w w' := by
  have h := number_any [a] (by simp) (some ⟨g, 0, none⟩) 1 w (reads_blk (cs := [.int .i64 a]) hg (Nat.le_refl _))
  rw [Rc.allW_one, decide_eq_decide.2 (Rc.num_iff a)] at h
  exact h
theorem paged1 (a : Int) (w : World) (g : Nat) (hg : w.heap[g]? = some (.cells #[.int .i64 a] 3 (0, 0))) :
    Calls Tryz.prog 65 #[.slice (some ⟨g, 0, none⟩) 1 1] w fun e w' => e = .returned (.bool (decide (Rc.pg a))) ∧ Below w.heap.size w w' := by
  have h := paged_any [a] (by simp) (some ⟨g, 0, none⟩) 1 w (reads_blk (cs := [.int .i64 a]) hg (Nat.le_refl _))
  rw [Rc.allW_one, decide_eq_decide.2 (Rc.pg_iff a)] at h
  exact h
theorem slot1 (a : Int) (w : World) (g : Nat) (hg : w.heap[g]? = some (.cells #[.int .i64 a] 3 (0, 0))) :
    Calls Tryz.prog 101 #[.slice (some ⟨g, 0, none⟩) 1 1] w fun e w' => e = .returned (.bool (decide (Rc.sl a))) ∧ Below w.heap.size w w' := by
  have h := slot_any [a] (by simp) (some ⟨g, 0, none⟩) 1 w (reads_blk (cs := [.int .i64 a]) hg (Nat.le_refl _))
  rw [Rc.allW_one, decide_eq_decide.2 (Rc.sl_iff a)] at h
  exact h
theorem paged2 (a b : Int) (w : World) (g : Nat) (hg : w.heap[g]? = some (.cells #[.int .i64 a, .int .i64 b] 3 (0, 0))) :
    Calls Tryz.prog 65 #[.slice (some ⟨g, 0, none⟩) 2 2] w fun e w' => e = .returned (.bool (decide (Rc.pg a ∧ Rc.pg b))) ∧ Below w.heap.size w w' := by
  have h := paged_any [a, b] (by simp) (some ⟨g, 0, none⟩) 2 w (reads_blk (cs := [.int .i64 a, .int .i64 b]) hg (Nat.le_refl _))
  rw [Rc.allW_two, decide_eq_decide.2 (and_congr (Rc.pg_iff a) (Rc.pg_iff b))] at h
  exact h
theorem number3 (a b c : Int) (w : World) (g : Nat) (hg : w.heap[g]? = some (.cells #[.int .i64 a, .int .i64 b, .int .i64 c] 3 (0, 0))) :
    Calls Tryz.prog 64 #[.slice (some ⟨g, 0, none⟩) 3 3] w fun e w' => e = .returned (.bool (decide (Rc.num a ∧ Rc.num b ∧ Rc.num c))) ∧ Below w.heap.size w w' := by
  have h := number_any [a, b, c] (by simp) (some ⟨g, 0, none⟩) 3 w (reads_blk (cs := [.int .i64 a, .int .i64 b, .int .i64 c]) hg (Nat.le_refl _))
  rw [Rc.allW_three, decide_eq_decide.2 (and_congr (Rc.num_iff a) (and_congr (Rc.num_iff b) (Rc.num_iff c)))] at h
  exact h
abbrev opV (o : Rc.Op) : Value := .agg #[.int .i64 o.kind, .int .i64 o.slot, .string o.old, .string o.new]
abbrev keyV (e : Rc.Key) : Value := .agg #[.string e.key, .int .i64 e.page, .int .i64 e.slot]
abbrev recA (r : Rc.Rec) (T D : Value) : Array Value := #[.int .i64 r.lsn, .int .i64 r.prev, .int .i64 r.txn, .int .i64 r.kind, .int .i64 r.page, .int .i64 r.next, .int .i64 r.num, .int .i64 r.op.kind, .int .i64 r.op.slot, .string r.op.old, .string r.op.new, .int .i64 r.how, .int .i64 r.root, .string r.e.key, .int .i64 r.e.page, .int .i64 r.e.slot, T, D]
abbrev recV (r : Rc.Rec) (T D : Value) : Value := .agg (recA r T D)
theorem bytes_list (a b : ByteArray) : a.toList = b.toList ↔ a = b := by
  rw [ByteArray.toList_eq, ByteArray.toList_eq]
  exact ⟨fun h => ByteArray.ext (Array.toList_inj.1 h), fun h => by rw [h]⟩
theorem key_equal (a b : Rc.Key) (w : World) : (Op.equalIn 10000 38 (keyV a) (keyV b)).run Tryz.prog w = .ok (decide (a = b)) w := by
  obtain ⟨k1, p1, s1⟩ := a
  obtain ⟨k2, p2, s2⟩ := b
  have hS : Tryz.prog.underlying 38 = some (.struct (Tryz.prog.fieldsOf 38)) := by kernel_rfl
  have hp : Tryz.prog.stoodInHeld 38 = false := by kernel_rfl
  have hS2 : Tryz.prog.underlying 36 = some (.struct (Tryz.prog.fieldsOf 36)) := by kernel_rfl
  have hp2 : Tryz.prog.stoodInHeld 36 = false := by kernel_rfl
  have hin : ∀ W : World, (Op.equalIn 9999 36 (.agg #[.int .i64 p1, .int .i64 s1]) (.agg #[.int .i64 p2, .int .i64 s2])).run Tryz.prog W = .ok ((p1 == p2) && (s1 == s2)) W := fun W => by
    rw [show (9999 : Nat) = 9998 + 1 from rfl, run_equalIn_agg W 9998 36 _ _ hS2 hp2]
    simp only [Program.fieldsOf, Tryz.underlying36]
    go_simp
    by_cases h1 : p1 = p2 <;> by_cases h2 : s1 = s2 <;> simp [h1, h2]
  rw [show (10000 : Nat) = 9999 + 1 from rfl, run_equalIn_agg w 9999 38 _ _ hS hp]
  simp only [Program.fieldsOf, Tryz.underlying38]
  go_simp
  have hk := bytes_list k1 k2
  by_cases h0 : k1 = k2
  · rw [if_pos (hk.2 h0)]
    by_cases h1 : p1 = p2 <;> by_cases h2 : s1 = s2 <;> simp [h0, h1, h2]
  · rw [if_neg (fun h => h0 (hk.1 h))]
    simp [h0]
theorem op_equal (a b : Rc.Op) (w : World) : (Op.equalIn 10000 34 (opV a) (opV b)).run Tryz.prog w = .ok (decide (a = b)) w := by
  obtain ⟨k1, p1, s1, t1⟩ := a
  obtain ⟨k2, p2, s2, t2⟩ := b
  have hS : Tryz.prog.underlying 34 = some (.struct (Tryz.prog.fieldsOf 34)) := by kernel_rfl
  have hp : Tryz.prog.stoodInHeld 34 = false := by kernel_rfl
  rw [show (10000 : Nat) = 9999 + 1 from rfl, run_equalIn_agg w 9999 34 _ _ hS hp]
  simp only [Program.fieldsOf, Tryz.underlying34]
  go_simp
  have hs := bytes_list s1 s2
  have ht := bytes_list t1 t2
  by_cases h0 : k1 = k2 <;> by_cases h1 : p1 = p2 <;> by_cases h2 : s1 = s2 <;> by_cases h3 : t1 = t2 <;> simp [h0, h1, h2, h3, hs, ht]
end Go.Proofs.YtojaagnfjenhoaaGreat
