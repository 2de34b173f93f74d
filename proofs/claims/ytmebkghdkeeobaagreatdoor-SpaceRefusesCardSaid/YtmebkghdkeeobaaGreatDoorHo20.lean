import Derived.Test.YtmebkghdkeeobaaGreatDoorHo00
import Derived.Test.YtmebkghdkeeobaaGreatDoorHo19
import Derived.Test.YtmebkghdkeeobaaGreatDoorHo14
set_option maxRecDepth 100000
set_option maxHeartbeats 16000000
set_option linter.unusedSimpArgs false
namespace Go.Proofs.YtmebkghdkeeobaaGreatDoor
open Go.RowKit Sc
theorem SS.hk {N n k : Nat} {ids : List Int} {c : Int} {s s' : Tx.St} {fs fs' : List Fr} {C : Nat → ByteArray} (h : SS N n k ids c s fs C) (hk : Hk s s' fs fs') (hp : PI N n s' fs' C) : SS N n k ids c s' fs' C :=
  ⟨hp, ⟨by rw [hk.tx]; exact h.tx.tl, by rw [hk.tx]; exact h.tx.all, h.tx.len⟩, hk.ln.trans h.nf, by rw [hk.en]; exact h.used⟩
theorem SS.ch {N n k : Nat} {ids : List Int} {c : Int} {s s' : Tx.St} {fs fs' : List Fr} {C C' : Nat → ByteArray} {t l : Int} (h : SS N n k ids c s fs C) (hk : ChK s s' fs fs' t l) (hp : PI N n s' fs' C') : SS N n k ids (c + 2524) s' fs' C' := by
  obtain ⟨i, hi, hti, hts⟩ := hk.ti
  refine ⟨hp, ⟨?_, fun a ha => ?_, h.tx.len⟩, hk.ln.trans h.nf, by have := hk.en; have := h.used; omega⟩
  · rw [hts, ← h.tx.tl]
    apply List.ext_getElem?
    intro j
    rw [List.getElem?_map, List.getElem?_map]
    by_cases e : i = j
    · subst e
      rw [List.getElem?_set_self hi, List.getElem?_eq_getElem hi]; rfl
    · rw [List.getElem?_set_ne e]
  · rw [hts] at ha
    rcases List.mem_or_eq_of_mem_set ha with h1 | h1
    · exact h.tx.all a h1
    · rw [h1]
      exact ⟨(h.tx.all _ (List.getElem_mem hi)).1, hk.lr, hk.lr⟩
structure Turn (C C' : Nat → ByteArray) (pg kind link : Nat) (recs : List ByteArray) : Prop where
  k : (leafP (C' pg)).kind = kind
  l : (leafP (C' pg)).link = link
  r : (leafP (C' pg)).recs = recs
  o : ∀ x, x ≠ pg → C' x = C x
theorem turn_of {C : Nat → ByteArray} {pg : Nat} {b : ByteArray} {l : Int} (hb : Nrm b) (hl : Rc.num l) : Turn C (fun x => if x = pg then lsnB b l else C x) pg (leafP b).kind (leafP b).link (leafP b).recs := by
  have h := (lsn_again hb hl).2
  refine ⟨?_, ?_, ?_, fun x hx => if_neg hx⟩
  · show (leafP (if pg = pg then _ else _)).kind = _
    rw [if_pos rfl, h]
  · show (leafP (if pg = pg then _ else _)).link = _
    rw [if_pos rfl, h]
  · show (leafP (if pg = pg then _ else _)).recs = _
    rw [if_pos rfl, h]
theorem opR_all {p b : ByteArray} (h1 : p.size ≤ 512) (h2 : b.size ≤ 512) (t : Int) (ht : Rc.num t) {pg : Nat} (hp : pg < 60) (k : Int) (hk : 1 ≤ k ∧ k ≤ 7) : ∀ l v, Rc.num l → Rc.num v → Rc.Right ⟨l, v, t, 2, (pg : Int), 0, 0, ⟨k, 0, p, b⟩, 1, 0, Rc.noKey, [], []⟩ :=
  fun _ _ hl hv => chg_right hl hv ht ⟨by omega, by omega⟩ hk h1 h2
theorem put_fresh {r : ByteArray} (h1 : 1 ≤ r.size) (h2 : r.size ≤ 400) : putO (newB (1 : Nat)) 0 r = (pageB ⟨0, 1, 0, [r]⟩, 0) ∧ Nrm (pageB ⟨0, 1, 0, [r]⟩) ∧ leafP (pageB ⟨0, 1, 0, [r]⟩) = ⟨0, 1, 0, [r]⟩ := by
  have hn := new_nrm 1 (by omega)
  have hsz : Pg.sizeN [r] ≤ 512 := by unfold Pg.sizeN Pg.sumSizes Pg.sumSizes; simp; omega
  have ht : Pg.trim [r] = [r] := Pg.trim_of_tight fun x hx => by simp at hx; rw [← hx]; omega
  refine ⟨?_, nrm_page ⟨by show 0 < 281474976710656; omega, by show 1 ≤ 4; omega, by show 0 < 16777216; omega⟩ hsz (fun x hx => by simp at hx; rw [hx]; exact h2) ht⟩
  unfold putO
  have hsl : Pg.slotAt (leafP (newB (1 : Nat))).recs 0 = ⟨#[]⟩ := by rw [hn.2]; rfl
  rw [if_neg (by rw [hn.1.is]; decide), if_neg (by decide), hsl, if_neg (by decide), if_neg (by unfold mayB; rw [decide_eq_true ⟨h1, h2⟩]; decide), if_neg (by decide)]
  have e : withRecs (newB (1 : Nat)) (Pg.putAt (leafP (newB (1 : Nat))).recs (0 : Int).toNat r) = ⟨0, 1, 0, [r]⟩ := by unfold withRecs; rw [hn.2]; rfl
  rw [e]
  exact fullO_pageB (by show Pg.sizeN (Pg.trim [r]) ≤ 512; rw [ht]; exact hsz)
set_option maxRecDepth 100000 in
set_option maxHeartbeats 8000000 in
theorem sback_any (s : Tx.St) (p : SP) (s2 : Tx.St) (p2 : SP) (x : Int) (hx : x ≠ 20) (w : World) :
    Calls Tryz.prog 32 #[storeV s p, storeV s2 p2, .int .i64 x] w fun e w' => e = .returned (if x = 0 then storeV s2 p2 else storeV s p) ∧ Below w.heap.size w w' := by
  have hx2 : (x == 20) = false := beq_eq_false_iff_ne.2 hx
  by_cases h0 : x = 0
  · rw [if_pos h0]
    have hx0 : (x == 0) = true := by rw [h0]; rfl
    clear h0 hx hx2
    go_enter Tryz.func32, Tryz.ntmps32
    go_upto_region 1 with fail
    have H0 := Lib.hid (show BxL w.heap.size w [((stA s p), 36), ((stA s2 p2), 36), (#[.int .i64 0, .int .i64 0, .int .i64 0, .slice none 0 0, .int .i64 0, .bool false, .int .i64 0, .int .i64 0, .int .i64 0, .int .i64 0, .string ⟨#[]⟩, .slice none 0 0, .int .i64 0, .slice none 0 0, .int .i64 0], 36)] (((w.alloc (.cells (stA s p) 36)).alloc (.cells (stA s2 p2) 36)).alloc (.cells #[.int .i64 0, .int .i64 0, .int .i64 0, .slice none 0 0, .int .i64 0, .bool false, .int .i64 0, .int .i64 0, .int .i64 0, .int .i64 0, .string ⟨#[]⟩, .slice none 0 0, .int .i64 0, .slice none 0 0, .int .i64 0] 36)) from ((((BxL.nil (Below.refl w.heap.size w)).new (by simp) (stA s p) 36).new (by simp) (stA s2 p2) 36).new (by simp) #[.int .i64 0, .int .i64 0, .int .i64 0, .slice none 0 0, .int .i64 0, .bool false, .int .i64 0, .int .i64 0, .int .i64 0, .int .i64 0, .string ⟨#[]⟩, .slice none 0 0, .int .i64 0, .slice none 0 0, .int .i64 0] 36))
    obtain ⟨W0, hW0⟩ : ∃ W, W = (((w.alloc (.cells (stA s p) 36)).alloc (.cells (stA s2 p2) 36)).alloc (.cells #[.int .i64 0, .int .i64 0, .int .i64 0, .slice none 0 0, .int .i64 0, .bool false, .int .i64 0, .int .i64 0, .int .i64 0, .int .i64 0, .string ⟨#[]⟩, .slice none 0 0, .int .i64 0, .slice none 0 0, .int .i64 0] 36)) := ⟨_, rfl⟩
    rw [← hW0] at H0 ⊢
    clear hW0
    go_wp2_with (first | (with_reducible refine listLoad (by kernel_rfl) 36 (.tmp 4) rfl (w.heap.size + 1) rfl (stA s2 p2) _ H0.out.get1 _ Tryz.underlying36 (by kernel_rfl) (by kernel_rfl) ?_) | (with_reducible refine listStore (by kernel_rfl) 36 (.tmp 6) (.tmp 13) rfl (w.heap.size + 2) (stA s2 p2) _ _ rfl rfl H0.out.get2 (by kernel_rfl) (by kernel_rfl) (by kernel_rfl) ?_))
    refine bodyPost_ret (v := .agg (stA s2 p2)) (results_cell rfl _ _ rfl (load_whole (setRow_heap _ _ _ _ _ _ H0.out.get2) Tryz.underlying36 (by kernel_rfl) (by kernel_rfl))) rfl ?_
    exact ⟨rfl, (H0.out.row 2 (stA s2 p2) _ rfl).below⟩
  · rw [if_neg h0]
    have hx0 : (x == 0) = false := beq_eq_false_iff_ne.2 h0
    clear h0 hx
    go_enter Tryz.func32, Tryz.ntmps32
    go_upto_region 1 with fail
    have H0 := Lib.hid (show BxL w.heap.size w [((stA s p), 36), ((stA s2 p2), 36), (#[.int .i64 0, .int .i64 0, .int .i64 0, .slice none 0 0, .int .i64 0, .bool false, .int .i64 0, .int .i64 0, .int .i64 0, .int .i64 0, .string ⟨#[]⟩, .slice none 0 0, .int .i64 0, .slice none 0 0, .int .i64 0], 36)] (((w.alloc (.cells (stA s p) 36)).alloc (.cells (stA s2 p2) 36)).alloc (.cells #[.int .i64 0, .int .i64 0, .int .i64 0, .slice none 0 0, .int .i64 0, .bool false, .int .i64 0, .int .i64 0, .int .i64 0, .int .i64 0, .string ⟨#[]⟩, .slice none 0 0, .int .i64 0, .slice none 0 0, .int .i64 0] 36)) from ((((BxL.nil (Below.refl w.heap.size w)).new (by simp) (stA s p) 36).new (by simp) (stA s2 p2) 36).new (by simp) #[.int .i64 0, .int .i64 0, .int .i64 0, .slice none 0 0, .int .i64 0, .bool false, .int .i64 0, .int .i64 0, .int .i64 0, .int .i64 0, .string ⟨#[]⟩, .slice none 0 0, .int .i64 0, .slice none 0 0, .int .i64 0] 36))
    obtain ⟨W0, hW0⟩ : ∃ W, W = (((w.alloc (.cells (stA s p) 36)).alloc (.cells (stA s2 p2) 36)).alloc (.cells #[.int .i64 0, .int .i64 0, .int .i64 0, .slice none 0 0, .int .i64 0, .bool false, .int .i64 0, .int .i64 0, .int .i64 0, .int .i64 0, .string ⟨#[]⟩, .slice none 0 0, .int .i64 0, .slice none 0 0, .int .i64 0] 36)) := ⟨_, rfl⟩
    rw [← hW0] at H0 ⊢
    clear hW0
    go_wp2_with (first | (with_reducible refine listLoad (by kernel_rfl) 36 (.tmp 3) rfl w.heap.size rfl (stA s p) _ H0.out.get0 _ Tryz.underlying36 (by kernel_rfl) (by kernel_rfl) ?_) | (with_reducible refine listStore (by kernel_rfl) 36 (.tmp 6) (.tmp 14) rfl (w.heap.size + 2) (stA s p) _ _ rfl rfl H0.out.get2 (by kernel_rfl) (by kernel_rfl) (by kernel_rfl) ?_))
    refine bodyPost_ret (v := .agg (stA s p)) (results_cell rfl _ _ rfl (load_whole (setRow_heap _ _ _ _ _ _ H0.out.get2) Tryz.underlying36 (by kernel_rfl) (by kernel_rfl))) rfl ?_
    exact ⟨rfl, (H0.out.row 2 (stA s p) _ rfl).below⟩
set_option maxRecDepth 100000 in
set_option maxHeartbeats 8000000 in
theorem slong_any (s : Tx.St) (p : SP) (n : Nat) (hz : s.zpages = (n : Int)) (hn : n ≤ 60) (w : World) :
    Calls Tryz.prog 43 #[storeV s p] w fun e w' => e = .returned (.int .i64 (((n + 7) / 8 : Nat) : Int)) ∧ Below w.heap.size w w' := by
  have HZ := Lib.hid hz
  clear hz
  have hw1 : IntKind.i64.wrap ((n : Int) + 7) = (n : Int) + 7 := IntWalk.i64_in _ (by omega)
  have hq : Int.tdiv ((n : Int) + 7) 8 = (((n + 7) / 8 : Nat) : Int) := by rw [Int.tdiv_eq_ediv_of_nonneg (by omega)]; omega
  have hw2 : IntKind.i64.wrap (((n + 7) / 8 : Nat) : Int) = (((n + 7) / 8 : Nat) : Int) := IntWalk.i64_in _ (by omega)
  generalize (((n + 7) / 8 : Nat) : Int) = m at hq hw2 ⊢
  go_enter Tryz.func43, Tryz.ntmps43
  go_upto_region 1 with fail
  have H0 := Lib.hid (show BxL w.heap.size w [((stA s p), 36)] (w.alloc (.cells (stA s p) 36)) from ((BxL.nil (Below.refl w.heap.size w)).new (by simp) (stA s p) 36))
  obtain ⟨W0, hW0⟩ : ∃ W, W = (w.alloc (.cells (stA s p) 36)) := ⟨_, rfl⟩
  rw [← hW0] at H0 ⊢
  clear hW0
  have hc := show W0.cell? ⟨w.heap.size, 1, none⟩ = some (.int .i64 (n : Int)) from by rw [blkCell H0.out.get0, ← HZ.out]; rfl
  go_wp2_with fail
  go_ret
  exact ⟨rfl, H0.out.below⟩
set_option maxRecDepth 100000 in
set_option maxHeartbeats 16000000 in
theorem schange_any {N n k : Nat} {ids : List Int} {c : Int} (s : Tx.St) (p : SP) (fs : List Fr) (C : Nat → ByteArray) (hS : SS N n k ids c s fs C) (hc : c + 2524 ≤ (N : Int) * 128) (t : Int) (ht : t ∈ ids) (pg : Nat) (hpg : pg < n) (o : Rc.Op) (b : ByteArray)
    (hR : ∀ l v, Rc.num l → Rc.num v → Rc.Right (⟨l, v, t, 2, (pg : Int), 0, 0, o, 1, 0, Rc.noKey, [], []⟩ : Rc.Rec)) (hdo : ∀ W, Calls Tryz.prog 132 #[.string (C pg), .agg #[.int .i64 o.kind, .int .i64 o.slot, .string o.old, .string o.new]] W fun e w' => e = .returned (outV (b, 0)) ∧ Below W.heap.size W w') (hb : Nrm b) (w : World) (h : PoolR w s p fs) :
    Calls Tryz.prog 58 #[storeV s p, .int .i64 t, .int .i64 (pg : Int), .agg #[.int .i64 o.kind, .int .i64 o.slot, .string o.old, .string o.new]] w (CgOut N n C s fs t pg b w) := by
  have HPC := Lib.hid (fun W (hw : Below w.heap.size w W) => pchange_any s p fs C hS.pi t pg hpg o b (hS.tx.ex ht) hS.tx.all hS.tx.small hR hdo hb (by have := hS.used; omega) W (h.below hw))
  clear hS hR hdo hb h hc ht
  have HQ := Lib.hid (fun (s' : Tx.St) (q : SP) (fs' : List Fr) (l : Int) w' h1 h2 h3 h4 => show CgOut N n C s fs t pg b w (.returned (.tuple #[storeV s' q, .int .i64 0])) w' from ⟨s', q, fs', l, rfl, h1, h2, h3, h4⟩)
  generalize hCQ : CgOut N n C s fs t pg b w = Q at HQ ⊢
  clear hCQ
  go_enter Tryz.func58, Tryz.ntmps58
  go_upto_region 1 with fail
  have H0 := Lib.hid (show BxL w.heap.size w [((stA s p), 36), (#[.int .i64 o.kind, .int .i64 o.slot, .string o.old, .string o.new], 89), (#[.int .i64 0, .int .i64 0, .int .i64 0, .slice none 0 0, .int .i64 0, .bool false, .int .i64 0, .int .i64 0, .int .i64 0, .int .i64 0, .string ⟨#[]⟩, .slice none 0 0, .int .i64 0, .slice none 0 0, .int .i64 0], 36)] (((w.alloc (.cells (stA s p) 36)).alloc (.cells #[.int .i64 o.kind, .int .i64 o.slot, .string o.old, .string o.new] 89)).alloc (.cells #[.int .i64 0, .int .i64 0, .int .i64 0, .slice none 0 0, .int .i64 0, .bool false, .int .i64 0, .int .i64 0, .int .i64 0, .int .i64 0, .string ⟨#[]⟩, .slice none 0 0, .int .i64 0, .slice none 0 0, .int .i64 0] 36)) from ((((BxL.nil (Below.refl w.heap.size w)).new (by simp) (stA s p) 36).new (by simp) #[.int .i64 o.kind, .int .i64 o.slot, .string o.old, .string o.new] 89).new (by simp) #[.int .i64 0, .int .i64 0, .int .i64 0, .slice none 0 0, .int .i64 0, .bool false, .int .i64 0, .int .i64 0, .int .i64 0, .int .i64 0, .string ⟨#[]⟩, .slice none 0 0, .int .i64 0, .slice none 0 0, .int .i64 0] 36))
  obtain ⟨W0, hW0⟩ : ∃ W, W = (((w.alloc (.cells (stA s p) 36)).alloc (.cells #[.int .i64 o.kind, .int .i64 o.slot, .string o.old, .string o.new] 89)).alloc (.cells #[.int .i64 0, .int .i64 0, .int .i64 0, .slice none 0 0, .int .i64 0, .bool false, .int .i64 0, .int .i64 0, .int .i64 0, .int .i64 0, .string ⟨#[]⟩, .slice none 0 0, .int .i64 0, .slice none 0 0, .int .i64 0] 36)) := ⟨_, rfl⟩
  rw [← hW0] at H0 ⊢
  clear hW0
  go_wp2_with (first
    | (with_reducible refine listLoad (by kernel_rfl) 36 (.tmp 4) rfl w.heap.size rfl (stA s p) _ H0.out.get0 _ Tryz.underlying36 (by kernel_rfl) (by kernel_rfl) ?_)
    | (with_reducible refine listLoad (by kernel_rfl) 89 (.tmp 7) rfl (w.heap.size + 1) rfl #[.int .i64 o.kind, .int .i64 o.slot, .string o.old, .string o.new] _ H0.out.get1 _ Tryz.underlying89 (by kernel_rfl) (by kernel_rfl) ?_)
    | (go_at_call 96; (refine (HPC.out _ H0.out.below).mono ?_); rintro e w1 ⟨s', q, fs', l, rfl, hp1, hi1, hk1, hb1⟩; have H1 := Lib.hid (H0.out.step hb1))
    | (with_reducible refine listStore (by kernel_rfl) 36 (.tmp 8) (.tmp 16) rfl (w.heap.size + 2) (stA s' q) _ _ rfl rfl H1.out.get2 (by kernel_rfl) (by kernel_rfl) (by kernel_rfl) ?_))
  refine bodyPost_ret (v := .tuple #[.agg (stA s' q), .int .i64 0]) (results_cell2 rfl _ _ rfl (load_whole (setRow_heap _ _ _ _ _ _ H1.out.get2) Tryz.underlying36 (by kernel_rfl) (by kernel_rfl)) rfl) rfl ?_
  exact HQ.out s' q fs' l _ (hp1.other (t := 36) H1.out.get2 (by decide) (by decide) (by decide) _) hi1 hk1 (H1.out.row 2 (stA s' q) _ rfl).below
def TuOut (N n k : Nat) (ids : List Int) (c : Int) (C : Nat → ByteArray) (pg kind link : Nat) (recs : List ByteArray) (w : World) (e : Ending) (w' : World) : Prop :=
  ∃ (s' : Tx.St) (q : SP) (fs' : List Fr) (C' : Nat → ByteArray), e = .returned (.tuple #[storeV s' q, .int .i64 0]) ∧ PoolR w' s' q fs' ∧ SS N n k ids c s' fs' C' ∧ Turn C C' pg kind link recs ∧ Below w.heap.size w w'
set_option maxRecDepth 100000 in
set_option maxHeartbeats 16000000 in
theorem sall_any {N n k : Nat} {ids : List Int} {c : Int} (s : Tx.St) (p : SP) (fs : List Fr) (C : Nat → ByteArray) (hS : SS N n k ids c s fs C) (hc : c + 2524 ≤ (N : Int) * 128) (t : Int) (ht : t ∈ ids) (htn : Rc.num t) (pg : Nat) (hpg : pg < n) (tb : ByteArray) (hto : Nrm tb) (h0 : (leafP tb).lsn = 0) (w : World) (h : PoolR w s p fs) :
    Calls Tryz.prog 44 #[storeV s p, .int .i64 t, .int .i64 (pg : Int), .string tb] w (TuOut N n k ids (c + 2524) C pg (leafP tb).kind (leafP tb).link (leafP tb).recs w) := by
  have HGE := Lib.hid (fun W (hb : Below w.heap.size w W) => pget_any s p fs C hS.pi pg hpg W (h.below hb))
  have hnm := hS.pi.nm pg hpg
  have hda := do_all hnm hto h0
  have hn60 := hS.pi.n1
  have HLS := Lib.hid (fun W => setlsn_any (C pg) 0 (by rw [hnm.size]; omega) W)
  have HCH := Lib.hid (fun (s1 : Tx.St) (p1 : SP) (fs1 : List Fr) (hS1 : SS N n k ids c s1 fs1 C) W (hP : PoolR W s1 p1 fs1) => show Calls Tryz.prog 58 #[storeV s1 p1, .int .i64 t, .int .i64 (pg : Int), .agg #[.int .i64 7, .int .i64 0, .string (lsnB (C pg) 0), .string tb]] W _ from schange_any s1 p1 fs1 C hS1 hc t ht pg hpg ⟨7, 0, lsnB (C pg) 0, tb⟩ (lsnB tb ((leafP (C pg)).lsn : Nat)) (opR_all (by have := (lsn_page hnm.is (l := 0) (by omega)).2.2; rw [show ((0 : Nat) : Int) = 0 from rfl] at this; omega) (by rw [hto.size]; omega) t htn (by omega) 7 ⟨by decide, by decide⟩) (fun V => by
    have hd := do_any (C pg) ⟨7, 0, lsnB (C pg) 0, tb⟩ (.inr rfl) (by rw [hnm.size]; omega) (by simp only; rw [hto.size]; omega) V
    rw [hda.1] at hd
    exact hd) hda.2.1 W hP)
  have HQ := Lib.hid (fun (s1 s' : Tx.St) (fs1 : List Fr) (q : SP) (fs' : List Fr) (l : Int) w' (hS1 : SS N n k ids c s1 fs1 C) h1 (h2 : PI N n s' fs' (fun x => if x = pg then lsnB (lsnB tb ((leafP (C pg)).lsn : Nat)) l else C x)) (h3 : ChK s1 s' fs1 fs' t l) h4 => show TuOut N n k ids (c + 2524) C pg (leafP tb).kind (leafP tb).link (leafP tb).recs w (.returned (.tuple #[storeV s' q, .int .i64 0])) w' from ⟨s', q, fs', _, rfl, h1, hS1.ch h3 h2, by have h5 := turn_of (C := C) (pg := pg) hda.2.1 h3.lr; rw [hda.2.2] at h5; exact h5, h4⟩)
  generalize hTQ : TuOut N n k ids (c + 2524) C pg (leafP tb).kind (leafP tb).link (leafP tb).recs w = Q at HQ ⊢
  have HSS := Lib.hid hS
  clear hTQ hda hnm h hc ht htn hto h0 hS
  generalize lsnB tb ((leafP (C pg)).lsn : Nat) = b9 at HCH HQ
  generalize lsnB (C pg) 0 = z at HLS HCH
  go_enter Tryz.func44, Tryz.ntmps44
  go_upto_region 1 with fail
  have H0 := Lib.hid (show BxL w.heap.size w [((stA s p), 36), (#[.int .i64 0, .int .i64 0, .int .i64 0, .slice none 0 0, .int .i64 0, .bool false, .int .i64 0, .int .i64 0, .int .i64 0, .int .i64 0, .string ⟨#[]⟩, .slice none 0 0, .int .i64 0, .slice none 0 0, .int .i64 0], 36)] ((w.alloc (.cells (stA s p) 36)).alloc (.cells #[.int .i64 0, .int .i64 0, .int .i64 0, .slice none 0 0, .int .i64 0, .bool false, .int .i64 0, .int .i64 0, .int .i64 0, .int .i64 0, .string ⟨#[]⟩, .slice none 0 0, .int .i64 0, .slice none 0 0, .int .i64 0] 36)) from (((BxL.nil (Below.refl w.heap.size w)).new (by simp) (stA s p) 36).new (by simp) #[.int .i64 0, .int .i64 0, .int .i64 0, .slice none 0 0, .int .i64 0, .bool false, .int .i64 0, .int .i64 0, .int .i64 0, .int .i64 0, .string ⟨#[]⟩, .slice none 0 0, .int .i64 0, .slice none 0 0, .int .i64 0] 36))
  obtain ⟨W0, hW0⟩ : ∃ W, W = ((w.alloc (.cells (stA s p) 36)).alloc (.cells #[.int .i64 0, .int .i64 0, .int .i64 0, .slice none 0 0, .int .i64 0, .bool false, .int .i64 0, .int .i64 0, .int .i64 0, .int .i64 0, .string ⟨#[]⟩, .slice none 0 0, .int .i64 0, .slice none 0 0, .int .i64 0] 36)) := ⟨_, rfl⟩
  rw [← hW0] at H0 ⊢
  clear hW0
  go_upto_region 4 with (first
    | (with_reducible refine listLoad (by kernel_rfl) 36 (.tmp 4) rfl w.heap.size rfl (stA s p) _ H0.out.get0 _ Tryz.underlying36 (by kernel_rfl) (by kernel_rfl) ?_)
    | (go_at_call 17; (refine (HGE.out _ H0.out.below).mono ?_); rintro e w1 ⟨s1, q1, fs1, rfl, hp1, hi1, hk1, hb1⟩; have H1 := Lib.hid (H0.out.step hb1))
    | (with_reducible refine listStore (by kernel_rfl) 36 (.tmp 4) (.tmp 16) rfl w.heap.size (stA s1 q1) _ _ rfl rfl H1.out.get0 (by kernel_rfl) (by kernel_rfl) (by kernel_rfl) ?_))
  have H2 := Lib.hid (show BxL w.heap.size w [((stA s1 q1), 36), (#[.int .i64 0, .int .i64 0, .int .i64 0, .slice none 0 0, .int .i64 0, .bool false, .int .i64 0, .int .i64 0, .int .i64 0, .int .i64 0, .string ⟨#[]⟩, .slice none 0 0, .int .i64 0, .slice none 0 0, .int .i64 0], 36)] (w1.setRow w.heap.size (stA s1 q1)) from H1.out.row 0 (stA s1 q1) _ rfl)
  have HP2 := Lib.hid (hp1.other (t := 36) H1.out.get0 (by decide) (by decide) (by decide) (stA s1 q1))
  have HS1 := Lib.hid (HSS.out.hk hk1 hi1)
  generalize w1.setRow w.heap.size (stA s1 q1) = w2 at H2 HP2 ⊢
  clear H0 H1 hp1 hi1 hk1 hb1 HGE
  try simp only [Act.put]
  go_cut [9] (fun x wc => x = .int .i64 0 ∧ ∃ (s' : Tx.St) (q : SP) (fs' : List Fr) (l : Int), wc.heap[(w.heap.size + 1)]? = some (.cells (stA s' q) 36 (0, 0)) ∧ PoolR wc s' q fs' ∧ PI N n s' fs' (fun x => if x = pg then lsnB b9 l else C x) ∧ ChK s1 s' fs1 fs' t l ∧ Below w.heap.size w wc)
  case first =>
    have HS8 := Lib.hid (fun (u : World) (hu : Below w2.heap.size w2 u) => show u.heap[w.heap.size]? = some (.cells (stA s1 q1) 36 (0, 0)) from blkOld H2.out.get0 hu)
    have hQ : Below w2.heap.size w2 w2.drew := (Below.refl _ w2).drew
    have hSn := HS8.out _ hQ
    refine wp_region_held_drew (S := (fun u => u.heap[w.heap.size]? = some (.cells (stA s1 q1) 36 (0, 0)))) (by kernel_rfl) ?_ (fun hHeld => ?_)
    · exact hSn
    generalize w2.drew = w8 at hSn hQ ⊢
    refine tkV 0 (some 23) (v := .agg (stA s1 q1)) rfl (yieldsIf_load_mid (by rfl) 36 (.tmp 4) rfl w.heap.size 0 (by rfl) (stA s1 q1).toList _ (fun u hu => (by intro j v hj; rw [Nat.zero_add, blkCell hu]; simpa using hj)) Tryz.underlying36 (by kernel_rfl) (by kernel_rfl)) ?_
    try simp only [Act.put, List.setIfInBounds_toArray, List.set_cons_zero, List.set_cons_succ]
    refine tkW 1 (some 24) (v := ?_) rfl ?_ ?_
    rotate_left
    · intro u hSu; clear hSu; go_simp; (try with_reducible rfl)
    try simp only [Act.put, List.setIfInBounds_toArray, List.set_cons_zero, List.set_cons_succ]
    refine tkW 2 (some 25) (v := ?_) rfl ?_ ?_
    rotate_left
    · intro u hSu; clear hSu; go_simp; (try with_reducible rfl)
    try simp only [Act.put, List.setIfInBounds_toArray, List.set_cons_zero, List.set_cons_succ]
    refine tkW 3 (some 26) (v := ?_) rfl ?_ ?_
    rotate_left
    · intro u hSu; clear hSu; go_simp; (try with_reducible rfl)
    try simp only [Act.put, List.setIfInBounds_toArray, List.set_cons_zero, List.set_cons_succ]
    refine tkW 5 (some 28) (v := ?_) rfl ?_ ?_
    rotate_left
    · intro u hSu; clear hSu; go_simp; (try with_reducible rfl)
    try simp only [Act.put, List.setIfInBounds_toArray, List.set_cons_zero, List.set_cons_succ]
    refine rdH 4 (some 27) rfl (fun K hK => ?_)
    go_simp
    (refine (HLS.out _).mono ?_); rintro e w9 ⟨rfl, hb9⟩; have hQ2 := joinB hQ hb9; clear hQ hSn hb9; have hQ := hQ2; clear hQ2; have hSn := HS8.out _ hQ
    refine hK.out _ _ ?_ (fun hHeld => ?_)
    · exact hSn
    clear hK K
    try simp only [Act.put, List.setIfInBounds_toArray, List.set_cons_zero, List.set_cons_succ]
    refine tkW 6 (some 29) (v := ?_) rfl ?_ ?_
    rotate_left
    · intro u hSu; clear hSu; go_simp; (try with_reducible rfl)
    try simp only [Act.put, List.setIfInBounds_toArray, List.set_cons_zero, List.set_cons_succ]
    refine rdH 7 (some 30) rfl (fun K hK => ?_)
    go_simp
    (refine (HCH.out s1 q1 fs1 HS1.out _ (HP2.out.below hQ)).mono ?_); rintro e w9 ⟨s', q, fs', l, rfl, hp9, hi9, hk9, hb9⟩; have hQ2 := joinB hQ hb9; clear hQ hSn hb9; have hQ := hQ2; clear hQ2; have hSn := HS8.out _ hQ; have H9 := H2.out.step hQ
    refine hK.out _ _ ?_ (fun hHeld => ?_)
    · exact hSn
    clear hK K
    try simp only [Act.put, List.setIfInBounds_toArray, List.set_cons_zero, List.set_cons_succ]
    refine tkW 8 (some 31) (v := ?_) rfl ?_ ?_
    rotate_left
    · intro u hSu; clear hSu; go_simp; (try with_reducible rfl)
    try simp only [Act.put, List.setIfInBounds_toArray, List.set_cons_zero, List.set_cons_succ]
    refine tkW 9 (some 32) (v := ?_) rfl ?_ ?_
    rotate_left
    · intro u hSu; clear hSu; go_simp; (try with_reducible rfl)
    try simp only [Act.put, List.setIfInBounds_toArray, List.set_cons_zero, List.set_cons_succ]
    refine rdH 10 none rfl (fun K hK => ?_)
    refine wantedIf (by rfl) ?_
    refine wp_store_whole 36 (.tmp 8) (.tmp 31) rfl (w.heap.size + 1) (stA s' q) _ _ rfl rfl H9.get1 (by kernel_rfl) (by kernel_rfl) (by kernel_rfl) ?_
    have H10 := H9.row 1 (stA s' q) _ rfl
    have hp10 := hp9.other (t := 36) H9.get1 (by decide) (by decide) (by decide) (stA s' q)
    have hSm := (heap_setRow_other _ _ (stA s' q) _ (show w.heap.size ≠ w.heap.size + 1 by omega)).trans hSn
    clear hSn
    have hSn := hSm
    clear hSm
    refine hK.out _ _ ?_ (fun hHeld => ?_)
    · exact hSn
    clear hK K
    try simp only [Act.put, List.setIfInBounds_toArray, List.set_cons_zero, List.set_cons_succ]
    refine tkW 11 (some 9) (v := ?_) rfl ?_ ?_
    rotate_left
    · intro u hSu; clear hSu; go_simp; (try with_reducible rfl)
    try simp only [Act.put, List.setIfInBounds_toArray, List.set_cons_zero, List.set_cons_succ]
    refine wpAnyH_done (by kernel_rfl) ?_ _
    clear hHeld
    go_wp2_with fail
    go_meet
    case rel => exact ⟨rfl, s', q, fs', l, H10.get1, hp10, hi9, hk9, H10.below⟩
  case rest =>
    obtain ⟨rfl, s', q, fs', l, hg3, hp3, hi3, hk3, hb3⟩ := hcut
    go_wp2_with fail
    refine bodyPost_ret (v := .tuple #[.agg (stA s' q), .int .i64 0]) (results_cell2 rfl _ _ rfl (load_whole hg3 Tryz.underlying36 (by kernel_rfl) (by kernel_rfl)) rfl) rfl ?_
    exact HQ.out s1 s' fs1 q fs' l _ HS1.out hp3 hi3 hk3 hb3
end Go.Proofs.YtmebkghdkeeobaaGreatDoor
