import Derived.Test.YtmebkghdkeeobaaGreatDoorHo00
import Derived.Test.YtmebkghdkeeobaaGreatDoorHo21
set_option maxRecDepth 100000
set_option maxHeartbeats 16000000
set_option linter.unusedSimpArgs false
namespace Go.Proofs.YtmebkghdkeeobaaGreatDoor
open Go.RowKit Sc
structure FxL (B g : Nat) (w : World) (l : List (Array Value × TypeId)) (u : World) : Prop where
  get : ∀ i p, l[i]? = some p → u.heap[B + i]? = some (.cells p.1 p.2 (0, 0))
  kept : KeptB B g w u
  low : B ≤ w.heap.size
theorem FxL.of {B g : Nat} {w u : World} {l : List (Array Value × TypeId)} (h : BxL B w l u) (hB : B = w.heap.size) : FxL B g w l u := ⟨h.get, KeptB.of_below (by omega) h.below, by omega⟩
theorem FxL.get0 {B g : Nat} {w u : World} {l : List (Array Value × TypeId)} {c0 : Array Value} {T0 : TypeId} (h : FxL B g w ((c0, T0) :: l) u) : u.heap[B]? = some (.cells c0 T0 (0, 0)) := h.get 0 _ rfl
theorem FxL.get1 {B g : Nat} {w u : World} {l : List (Array Value × TypeId)} {p : Array Value × TypeId} {c1 : Array Value} {T1 : TypeId} (h : FxL B g w (p :: (c1, T1) :: l) u) : u.heap[B + 1]? = some (.cells c1 T1 (0, 0)) := h.get 1 _ rfl
theorem FxL.step {B g : Nat} {w u v : World} {l : List (Array Value × TypeId)} (h : FxL B g w l u) (hb : Below u.heap.size u v) : FxL B g w l v :=
  ⟨fun i p hp => blkOld (h.get i p hp) hb, h.kept.trans (KeptB.of_below (by have := h.low; have := h.kept.size; omega) hb), h.low⟩
theorem FxL.row {B g : Nat} {w u : World} {l : List (Array Value × TypeId)} (h : FxL B g w l u) (i : Nat) (cs : Array Value) (p : Array Value × TypeId) (hi : l[i]? = some p) : FxL B g w (l.set i (cs, p.2)) (u.setRow (B + i) cs) := by
  have hil := (List.getElem?_eq_some_iff.1 hi).1
  refine ⟨fun k q hq => ?_, h.kept.trans ⟨rfl, rfl, rfl, by show _ ≤ (u.heap.modify _ _).size; simp, fun k hk _ => heap_setRow_other _ _ _ _ (by omega)⟩, h.low⟩
  by_cases hk : i = k
  · subst hk
    rw [List.getElem?_set_self hil] at hq
    injection hq with hq
    subst hq
    exact setRow_heap _ _ _ _ _ _ (h.get i p hi)
  · rw [List.getElem?_set_ne hk] at hq
    rw [heap_setRow_other _ _ _ _ (by omega)]
    exact h.get k q hq
theorem FxL.byte {B g : Nat} {w u : World} {l : List (Array Value × TypeId)} (h : FxL B g w l u) (hg : g < B) (i : Nat) (x : Value) : FxL B g w l (u.setCell ⟨g, i, none⟩ x) :=
  ⟨fun k p hp => (Below.heap_setCell _ _ _ _ (by show B + k ≠ g; omega)).trans (h.get k p hp), h.kept.trans ⟨rfl, rfl, rfl, by rw [World.size_setCell]; exact Nat.le_refl _, fun k _ hk => Below.heap_setCell _ _ _ _ hk⟩, h.low⟩
theorem OwnU.turn {B g : Nat} {w : World} {v : Value} {b : ByteArray} {p : Nat} (h : OwnU B g w v b.data.toList) (hp : p / 8 < b.size) :
    w.cell? ⟨g, p / 8, none⟩ = some (.int .u8 ((b.data.toList[p / 8]?.getD 0).toNat : Int)) ∧ w.frozen? ⟨g, p / 8, none⟩ = false ∧ OwnU B g (w.setCell ⟨g, p / 8, none⟩ (.int .u8 (((b.data.toList[p / 8]?.getD 0).toNat ^^^ 2 ^ (p % 8) : Nat) : Int))) v (flipB b p).data.toList := by
  have hp' : p / 8 < b.data.toList.length := by rw [size_list]; exact hp
  obtain ⟨g', c, h1, h2, h3⟩ := h.own.set
  obtain ⟨c0, e0⟩ := h.at_
  obtain ⟨cur, fr, ht⟩ := h.ty
  have e1 := h1.symm.trans e0
  injection e1 with e1 e2 e3
  injection e1 with e1
  injection e1 with e1 _ _
  subst e1
  obtain ⟨h4, h5, h6⟩ := h3 _ hp'
  have hx := xor_small (b.data.toList[p / 8]?.getD 0) (k := p % 8) (by omega)
  have hy : (UInt8.ofNat ((b.data.toList[p / 8]?.getD 0).toNat ^^^ 2 ^ (p % 8))).toNat = (b.data.toList[p / 8]?.getD 0).toNat ^^^ 2 ^ (p % 8) := by rw [UInt8.toNat_ofNat']; exact Nat.mod_eq_of_lt hx
  refine ⟨?_, h5, ?_⟩
  · rw [List.getElem?_eq_getElem hp', Option.getD_some]; exact h4
  · have h7 := (h6 (UInt8.ofNat ((b.data.toList[p / 8]?.getD 0).toNat ^^^ 2 ^ (p % 8)))).1
    rw [hy] at h7
    exact ⟨h7, ⟨c0, by rw [e0]; congr 1; unfold flipB; rw [list_of, List.length_set]⟩, _, fr, blkSet _ ht _⟩
def FpOut (N n k : Nat) (ids : List Int) (c : Int) (b : ByteArray) (u : Nat → Nat) (g : Nat) (w : World) (e : Ending) (w' : World) : Prop :=
  ∃ (s' : Tx.St) (q : SP) (fs' : List Fr) (C' : Nat → ByteArray), e = .returned (.tuple #[storeV s' q, .int .i64 0]) ∧ PoolR w' s' q fs' ∧ SS N n k ids c s' fs' C' ∧ SI n C' b u ∧ KeptB w.heap.size g w w'
set_option maxRecDepth 100000 in
set_option maxHeartbeats 16000000 in
theorem sflip_any {N n k : Nat} {ids : List Int} {c : Int} (s : Tx.St) (p : SP) (fs : List Fr) (C : Nat → ByteArray) (hS : SS N n k ids c s fs C) (hc : c + 5048 ≤ (N : Int) * 128) (t : Int) (ht : t ∈ ids) (htn : Rc.num t) (b : ByteArray) (u : Nat → Nat) (hu : SI n C b u) (pg : Nat) (hpg : pg < n) (hp1 : 1 ≤ pg) (kd : Nat) (hkd : kd ≤ 4) (hku : 0 < kd ↔ ¬ 0 < u pg) (v : Value) (B g : Nat) (w : World) (hv : OwnU B g w v b.data.toList) (h : PoolR w s p fs) :
    Calls Tryz.prog 34 #[storeV s p, .int .i64 t, .int .i64 (pg : Int), .int .i64 (kd : Int), v] w (FpOut N n k ids (c + 5048) (flipB b pg) (fun q => if q = pg then kd else u q) g w) := by
  have hn := hS.pi.n1
  have hsz := hu.sz
  have hq8 : pg / 8 < b.size := by rw [hsz]; omega
  have hf8 : pg / 8 < (flipB b pg).size := by rw [flip_size]; exact hq8
  have hd := do_set (hS.pi.nm 0 (by omega)) hu.r0 (r := flipB b pg) (by rw [hsz]; omega) (by rw [flip_size, hsz]; omega) (by rw [flip_size, hsz]; omega)
  have HCH := Lib.hid (fun W (hw : PoolR W s p fs) => show Calls Tryz.prog 58 #[storeV s p, .int .i64 t, .int .i64 0, .agg #[.int .i64 3, .int .i64 0, .string b, .string (flipB b pg)]] W _ from schange_any s p fs C hS (by omega) t ht 0 (by omega) ⟨3, 0, b, flipB b pg⟩ _ (opR_all (by rw [hsz]; omega) (by rw [flip_size, hsz]; omega) t htn (pg := 0) (by omega) 3 ⟨by decide, by decide⟩) (fun V => by
    have hd2 := do_any (C 0) ⟨3, 0, b, flipB b pg⟩ (.inl rfl) (by rw [(hS.pi.nm 0 (by omega)).size]; omega) (by simp only; rw [flip_size, hsz]; omega) V
    rw [hd.1] at hd2
    exact hd2) hd.2.1 W hw)
  have HC1 := Lib.hid (fun (s' : Tx.St) (fs' : List Fr) (l : Int) (hp : PI N n s' fs' (fun x => if x = 0 then lsnB (pageB { leafP (C 0) with recs := [flipB b pg] }) l else C x)) (hk : ChK s s' fs fs' t l) => And.intro (hS.ch hk hp) (show Turn C (fun x => if x = 0 then lsnB (pageB { leafP (C 0) with recs := [flipB b pg] }) l else C x) 0 1 (leafP (C 0)).link [flipB b pg] from by have h5 := turn_of (C := C) (pg := 0) hd.2.1 hk.lr; rw [hd.2.2] at h5; exact ⟨h5.k.trans hu.k0, h5.l, h5.r, h5.o⟩))
  generalize pageB { leafP (C 0) with recs := [flipB b pg] } = pb at HCH HC1
  have hnw := new_nrm kd hkd
  have HNW := Lib.hid (fun W => new_any (kd : Int) W)
  have HAL := Lib.hid (fun (s' : Tx.St) (p' : SP) (fs' : List Fr) (C' : Nat → ByteArray) (hS' : SS N n k ids (c + 2524) s' fs' C') W (hw : PoolR W s' p' fs') => show Calls Tryz.prog 44 #[storeV s' p', .int .i64 t, .int .i64 (pg : Int), .string (newB (kd : Int))] W (TuOut N n k ids (c + 5048) C' pg kd 0 [] W) from by
    have h9 := sall_any s' p' fs' C' hS' (by omega) t ht htn pg hpg (newB (kd : Nat)) hnw.1 (by rw [hnw.2]) W hw
    rw [hnw.2] at h9
    simp only at h9
    rw [show c + 2524 + 2524 = c + 5048 from by omega] at h9
    exact h9)
  have HQ := Lib.hid (fun (s' : Tx.St) (q : SP) (fs' : List Fr) (C1 C' : Nat → ByteArray) (lk : Nat) w' h1 (h2 : SS N n k ids (c + 5048) s' fs' C') (t1 : Turn C C1 0 1 lk [flipB b pg]) (t2 : Turn C1 C' pg kd 0 []) h4 => show FpOut N n k ids (c + 5048) (flipB b pg) (fun q => if q = pg then kd else u q) g w (.returned (.tuple #[storeV s' q, .int .i64 0])) w' from ⟨s', q, fs', C', rfl, h1, h2, hu.flip hpg hp1 hku ⟨by rw [t2.o 0 (by omega)]; exact t1.k, by rw [t2.o 0 (by omega)]; exact t1.r⟩ ⟨t2.k, t2.r⟩ (fun x hx _ hxp => by rw [t2.o x hxp, t1.o x (by omega)]), h4⟩)
  generalize FpOut N n k ids (c + 5048) (flipB b pg) (fun q => if q = pg then kd else u q) g w = Q at HQ ⊢
  have HV := Lib.hid hv
  have HT := Lib.hid (fun W (hw : OwnU B g W v b.data.toList) => hw.turn (p := pg) hq8)
  have HP := Lib.hid h
  have hgw : g < w.heap.size := by obtain ⟨cur, fr, h1⟩ := hv.ty; exact heapLt h1
  obtain ⟨cc, hve⟩ := hv.at_
  have hlen : b.data.toList.length = b.size := size_list b
  rw [hlen] at hve
  have hlen2 : (flipB b pg).data.toList.length = b.size := by rw [size_list, flip_size]
  have HBK := Lib.hid (fun W (hw : OwnU B g W v b.data.toList) => show (convert 67 9 v).run Tryz.prog W = .ok (.string b) W from by have h1 := hw.own.back (P := Tryz.prog) Tryz.underlying67 Tryz.underlying5 Tryz.underlying9; rw [of_list] at h1; exact h1)
  have HBK2 := Lib.hid (fun W (hw : OwnU B g W v (flipB b pg).data.toList) => show (convert 67 9 v).run Tryz.prog W = .ok (.string (flipB b pg)) W from by have h1 := hw.own.back (P := Tryz.prog) Tryz.underlying67 Tryz.underlying5 Tryz.underlying9; rw [of_list] at h1; exact h1)
  have hq : Int.tdiv (pg : Int) 8 = ((pg / 8 : Nat) : Int) := by rw [Int.tdiv_eq_ediv_of_nonneg (by omega)]; omega
  have hr : Int.tmod (pg : Int) 8 = ((pg % 8 : Nat) : Int) := by rw [Int.tmod_eq_emod_of_nonneg (by omega)]; omega
  have hw1 : IntKind.i64.wrap ((pg / 8 : Nat) : Int) = ((pg / 8 : Nat) : Int) := IntWalk.i64_in _ (by omega)
  have hw2 : IntKind.i64.wrap ((pg % 8 : Nat) : Int) = ((pg % 8 : Nat) : Int) := IntWalk.i64_in _ (by omega)
  have h8 : pg % 8 < 8 := Nat.mod_lt _ (by decide)
  have hq0 : (0 : Int) ≤ ((pg / 8 : Nat) : Int) := by omega
  have hql : ((pg / 8 : Nat) : Int) < (b.size : Int) := by omega
  generalize hb2 : flipB b pg = b2 at HCH HC1 HQ HT HBK2 hlen2
  clear hb2 h hv hS hu hd hnw hn hsz hf8 hc ht htn hku hlen
  subst hve
  generalize pg / 8 = q8 at hq hw1 hq0 hql hq8 HT
  generalize pg % 8 = r8 at hr hw2 h8 HT
  have hr0 : (0 : Int) ≤ (r8 : Int) := by omega
  go_enter Tryz.func34, Tryz.ntmps34
  go_upto_region 1 with fail
  have H0 := Lib.hid (show BxL w.heap.size w [((stA s p), 36), (#[.int .i64 0, .int .i64 0, .int .i64 0, .slice none 0 0, .int .i64 0, .bool false, .int .i64 0, .int .i64 0, .int .i64 0, .int .i64 0, .string ⟨#[]⟩, .slice none 0 0, .int .i64 0, .slice none 0 0, .int .i64 0], 36)] ((w.alloc (.cells (stA s p) 36)).alloc (.cells #[.int .i64 0, .int .i64 0, .int .i64 0, .slice none 0 0, .int .i64 0, .bool false, .int .i64 0, .int .i64 0, .int .i64 0, .int .i64 0, .string ⟨#[]⟩, .slice none 0 0, .int .i64 0, .slice none 0 0, .int .i64 0] 36)) from (((BxL.nil (Below.refl w.heap.size w)).new (by simp) (stA s p) 36).new (by simp) #[.int .i64 0, .int .i64 0, .int .i64 0, .slice none 0 0, .int .i64 0, .bool false, .int .i64 0, .int .i64 0, .int .i64 0, .int .i64 0, .string ⟨#[]⟩, .slice none 0 0, .int .i64 0, .slice none 0 0, .int .i64 0] 36))
  obtain ⟨W0, hW0⟩ : ∃ W, W = ((w.alloc (.cells (stA s p) 36)).alloc (.cells #[.int .i64 0, .int .i64 0, .int .i64 0, .slice none 0 0, .int .i64 0, .bool false, .int .i64 0, .int .i64 0, .int .i64 0, .int .i64 0, .string ⟨#[]⟩, .slice none 0 0, .int .i64 0, .slice none 0 0, .int .i64 0] 36)) := ⟨_, rfl⟩
  rw [← hW0] at H0 ⊢
  clear hW0
  have HF0 := Lib.hid (FxL.of (g := g) H0.out rfl)
  have HV0 := Lib.hid (HV.out.below H0.out.below)
  have HP0 := Lib.hid (HP.out.below H0.out.below)
  have hcv := HBK.out W0 HV0.out
  clear HV HP H0 HBK
  generalize hy : b.data.toList[q8]?.getD 0 = y at HT
  have hyl : y.toNat < 256 := y.toNat_lt
  have hxr : bits BinOp.xor IntKind.u8 (y.toNat : Int) ((2 ^ r8 : Nat) : Int) = ((y.toNat ^^^ 2 ^ r8 : Nat) : Int) := u8_xor_nat _ _ hyl (by
    have : 2 ^ r8 ≤ 2 ^ 7 := Nat.pow_le_pow_right (by omega) (by omega)
    omega)
  rw [show ((2 ^ r8 : Nat) : Int) = (2 : Int) ^ r8 from by rw [Int.natCast_pow]; rfl] at hxr
  have hsh : IntKind.u8.wrap (1 * 2 ^ r8) = ((2 ^ r8 : Nat) : Int) := by
    have : r8 = 0 ∨ r8 = 1 ∨ r8 = 2 ∨ r8 = 3 ∨ r8 = 4 ∨ r8 = 5 ∨ r8 = 6 ∨ r8 = 7 := by omega
    rcases this with rfl | rfl | rfl | rfl | rfl | rfl | rfl | rfl <;> decide
  have hsh2 : IntKind.u8.wrap (2 ^ r8) = ((2 ^ r8 : Nat) : Int) := by rw [← hsh, Int.one_mul]
  generalize hz : (y.toNat ^^^ 2 ^ r8 : Nat) = z at HT hxr
  clear hy hyl hz
  go_upto_region 2 with fail
  clear hcv
  go_cut [25] (fun x wc => FxL w.heap.size g w [((stA s p), 36), (#[.int .i64 0, .int .i64 0, .int .i64 0, .slice none 0 0, .int .i64 0, .bool false, .int .i64 0, .int .i64 0, .int .i64 0, .int .i64 0, .string ⟨#[]⟩, .slice none 0 0, .int .i64 0, .slice none 0 0, .int .i64 0], 36)] wc ∧ OwnU B g wc (.slice (some ⟨g, 0, none⟩) b.size cc) b2.data.toList ∧ PoolR wc s p fs)
  case first =>
    have hSn : W0.drew.cell? ⟨g, q8, none⟩ = some (.int .u8 (y.toNat : Int)) := (HT.out W0 HV0.out).1
    have hF := HF0.out.step (Below.refl _ W0).drew
    have hV := HV0.out.below (Below.refl _ W0).drew
    have hP := HP0.out.below (Below.refl _ W0).drew
    refine wp_region_Z (S := (fun u => u.cell? ⟨g, q8, none⟩ = some (.int .u8 (y.toNat : Int)))) 10 (by kernel_rfl) ?_ (fun hHeld => ?_)
    · exact hSn
    generalize W0.drew = w8 at hSn hF hV hP ⊢
    refine wpAnyZ_take (i := 0) (oi := { dst := some 16, op := _, type := _, pos := _, after := _, guard := _ }) (v := ?_) (p := [10]) rfl (by kernel_rfl) (by kernel_rfl) (by kernel_rfl) (by kernel_rfl) (by kernel_rfl) (by kernel_rfl) (fun _ _ _ h => h) (Or.inl ⟨by rfl, ?_⟩) (by assumption) ?_
    rotate_left
    · intro u hSu; have hcl := hSu
      clear hSu; go_simp; (try with_reducible rfl)
    try simp only [Act.put, List.setIfInBounds_toArray, List.set_cons_zero, List.set_cons_succ]
    refine wpAnyZ_take (i := 1) (oi := { dst := some 17, op := _, type := _, pos := _, after := _, guard := _ }) (v := ?_) (p := [10]) rfl (by kernel_rfl) (by kernel_rfl) (by kernel_rfl) (by kernel_rfl) (by kernel_rfl) (by kernel_rfl) (fun _ _ _ h => h) (Or.inl ⟨by rfl, ?_⟩) (by assumption) ?_
    rotate_left
    · intro u hSu; have hcl := hSu
      clear hSu; go_simp; (try with_reducible rfl)
    try simp only [Act.put, List.setIfInBounds_toArray, List.set_cons_zero, List.set_cons_succ]
    refine wpAnyZ_take (i := 2) (oi := { dst := some 18, op := _, type := _, pos := _, after := _, guard := _ }) (v := ?_) (p := [10]) rfl (by kernel_rfl) (by kernel_rfl) (by kernel_rfl) (by kernel_rfl) (by kernel_rfl) (by kernel_rfl) (fun _ _ _ h => h) (Or.inl ⟨by rfl, ?_⟩) (by assumption) ?_
    rotate_left
    · intro u hSu; have hcl := hSu
      clear hSu; go_simp; (try with_reducible rfl)
    try simp only [Act.put, List.setIfInBounds_toArray, List.set_cons_zero, List.set_cons_succ]
    refine wpAnyZ_take (i := 3) (oi := { dst := some 19, op := _, type := _, pos := _, after := _, guard := _ }) (v := ?_) (p := [10]) rfl (by kernel_rfl) (by kernel_rfl) (by kernel_rfl) (by kernel_rfl) (by kernel_rfl) (by kernel_rfl) (fun _ _ _ h => h) (Or.inl ⟨by rfl, ?_⟩) (by assumption) ?_
    rotate_left
    · intro u hSu; have hcl := hSu
      clear hSu; go_simp; (try with_reducible rfl)
    try simp only [Act.put, List.setIfInBounds_toArray, List.set_cons_zero, List.set_cons_succ]
    refine wpAnyZ_take (i := 4) (oi := { dst := some 20, op := _, type := _, pos := _, after := _, guard := _ }) (v := ?_) (p := [10]) rfl (by kernel_rfl) (by kernel_rfl) (by kernel_rfl) (by kernel_rfl) (by kernel_rfl) (by kernel_rfl) (fun _ _ _ h => h) (Or.inl ⟨by rfl, ?_⟩) (by assumption) ?_
    rotate_left
    · intro u hSu; have hcl := hSu
      clear hSu; go_simp; (try with_reducible rfl)
    try simp only [Act.put, List.setIfInBounds_toArray, List.set_cons_zero, List.set_cons_succ]
    refine wpAnyZ_take (i := 5) (oi := { dst := some 21, op := _, type := _, pos := _, after := _, guard := _ }) (v := ?_) (p := [10]) rfl (by kernel_rfl) (by kernel_rfl) (by kernel_rfl) (by kernel_rfl) (by kernel_rfl) (by kernel_rfl) (fun _ _ _ h => h) (Or.inl ⟨by rfl, ?_⟩) (by assumption) ?_
    rotate_left
    · intro u hSu; have hcl := hSu
      clear hSu; go_simp; (try with_reducible rfl)
    try simp only [Act.put, List.setIfInBounds_toArray, List.set_cons_zero, List.set_cons_succ]
    refine wpAnyZ_take (i := 6) (oi := { dst := some 22, op := _, type := _, pos := _, after := _, guard := _ }) (v := ?_) (p := [10]) rfl (by kernel_rfl) (by kernel_rfl) (by kernel_rfl) (by kernel_rfl) (by kernel_rfl) (by kernel_rfl) (fun _ _ _ h => h) (Or.inl ⟨by rfl, ?_⟩) (by assumption) ?_
    rotate_left
    · intro u hSu; have hcl := hSu
      clear hSu; go_simp; (try with_reducible rfl)
    try simp only [Act.put, List.setIfInBounds_toArray, List.set_cons_zero, List.set_cons_succ]
    refine wpAnyZ_take (i := 7) (oi := { dst := some 23, op := _, type := _, pos := _, after := _, guard := _ }) (v := ?_) (p := [10]) rfl (by kernel_rfl) (by kernel_rfl) (by kernel_rfl) (by kernel_rfl) (by kernel_rfl) (by kernel_rfl) (fun _ _ _ h => h) (Or.inl ⟨by rfl, ?_⟩) (by assumption) ?_
    rotate_left
    · intro u hSu; have hcl := hSu
      clear hSu; go_simp; (try with_reducible rfl)
    try simp only [Act.put, List.setIfInBounds_toArray, List.set_cons_zero, List.set_cons_succ]
    refine wpAnyZ_take (i := 8) (oi := { dst := some 24, op := _, type := _, pos := _, after := _, guard := _ }) (v := ?_) (p := [10]) rfl (by kernel_rfl) (by kernel_rfl) (by kernel_rfl) (by kernel_rfl) (by kernel_rfl) (by kernel_rfl) (fun _ _ _ h => h) (Or.inl ⟨by rfl, ?_⟩) (by assumption) ?_
    rotate_left
    · intro u hSu; have hcl := hSu
      clear hSu; go_simp; (try with_reducible rfl)
    try simp only [Act.put, List.setIfInBounds_toArray, List.set_cons_zero, List.set_cons_succ]
    refine wpAnyZ_take (i := 9) (oi := { dst := some 25, op := _, type := _, pos := _, after := _, guard := _ }) (v := ?_) (p := [10]) rfl (by kernel_rfl) (by kernel_rfl) (by kernel_rfl) (by kernel_rfl) (by kernel_rfl) (by kernel_rfl) (fun _ _ _ h => h) (Or.inl ⟨by rfl, ?_⟩) (by assumption) ?_
    rotate_left
    · intro u hSu; have hcl := hSu
      clear hSu; go_simp; (try with_reducible rfl)
    try simp only [Act.put, List.setIfInBounds_toArray, List.set_cons_zero, List.set_cons_succ]
    refine wpAnyZ_ready (rs := [10]) (by kernel_rfl) (by simp) ?_
    refine AllReadyZ.last (o := { dst := none, op := _, type := _, pos := _, after := _, guard := _ }) rfl (by kernel_rfl) (fun K hK => ?_) ?_
    rotate_left
    · exact AllReadyZ.nil
    have hz8 := (HT.out _ hV).2.1
    go_simp
    refine hK.out _ _ ?_
    clear hK K
    try simp only [Act.put]
    refine wpAnyZ_done (by kernel_rfl) ?_ _
    go_wp2_with fail
    go_meet
    case rel => exact ⟨hF.byte hgw q8 _, (HT.out _ hV).2.2, by obtain ⟨cur, fr, h1⟩ := hV.ty; exact hP.set (t := 5) h1 (by decide) (by decide) (by decide) q8 _⟩
  case rest =>
    obtain ⟨hf3, hv3, hp3⟩ := hcut
    obtain ⟨w3, rfl⟩ : ∃ wm : World, wm = wc := ⟨_, rfl⟩
    have HF3 := Lib.hid hf3
    have HP3 := Lib.hid hp3
    have hcv := HBK2.out w3 hv3
    clear hf3 hp3 hv3 HF0 HV0 HP0 HT HBK2 hxr hsh hsh2
    go_upto_region 6 with (first
      | (with_reducible refine listLoad (by kernel_rfl) 36 (.tmp 5) rfl w.heap.size rfl (stA s p) _ HF3.out.get0 _ Tryz.underlying36 (by kernel_rfl) (by kernel_rfl) ?_)
      | (go_at_call 58; (refine (HCH.out _ HP3.out).mono ?_); rintro e w4 ⟨s1, q1, fs1, l1, rfl, hp4, hi4, hk4, hb4⟩; have HF4 := Lib.hid (HF3.out.step hb4))
      | (with_reducible refine listStore (by kernel_rfl) 36 (.tmp 5) (.tmp 34) rfl w.heap.size (stA s1 q1) _ _ rfl rfl HF4.out.get0 (by kernel_rfl) (by kernel_rfl) (by kernel_rfl) ?_))
    have HF5 := Lib.hid (show FxL w.heap.size g w [((stA s1 q1), 36), (#[.int .i64 0, .int .i64 0, .int .i64 0, .slice none 0 0, .int .i64 0, .bool false, .int .i64 0, .int .i64 0, .int .i64 0, .int .i64 0, .string ⟨#[]⟩, .slice none 0 0, .int .i64 0, .slice none 0 0, .int .i64 0], 36)] (w4.setRow w.heap.size (stA s1 q1)) from HF4.out.row 0 (stA s1 q1) _ rfl)
    have HP5 := Lib.hid (hp4.other (t := 36) HF4.out.get0 (by decide) (by decide) (by decide) (stA s1 q1))
    have HS5 := Lib.hid (HC1.out s1 fs1 l1 hi4 hk4)
    generalize (fun x => if x = 0 then lsnB pb l1 else C x) = C1 at HS5
    generalize w4.setRow w.heap.size (stA s1 q1) = w5 at HF5 HP5 ⊢
    clear HF3 HP3 HF4 hp4 hi4 hk4 hb4 HCH HC1 hcv
    try simp only [Act.put]
    go_cut [11] (fun x wc => x = .int .i64 0 ∧ ∃ (s' : Tx.St) (q : SP) (fs' : List Fr) (C' : Nat → ByteArray), wc.heap[(w.heap.size + 1)]? = some (.cells (stA s' q) 36 (0, 0)) ∧ PoolR wc s' q fs' ∧ SS N n k ids (c + 5048) s' fs' C' ∧ Turn C1 C' pg kd 0 [] ∧ KeptB w.heap.size g w wc)
    case first =>
      have HS8 := Lib.hid (fun (u : World) (hu : Below w5.heap.size w5 u) => show u.heap[w.heap.size]? = some (.cells (stA s1 q1) 36 (0, 0)) from blkOld HF5.out.get0 hu)
      have hQ : Below w5.heap.size w5 w5.drew := (Below.refl _ w5).drew
      have hSn := HS8.out _ hQ
      refine wp_region_held_drew (S := (fun u => u.heap[w.heap.size]? = some (.cells (stA s1 q1) 36 (0, 0)))) (by kernel_rfl) ?_ (fun hHeld => ?_)
      · exact hSn
      generalize w5.drew = w8 at hSn hQ ⊢
      refine tkV 0 (some 40) (v := .agg (stA s1 q1)) rfl (yieldsIf_load_mid (by rfl) 36 (.tmp 5) rfl w.heap.size 0 (by rfl) (stA s1 q1).toList _ (fun u hu => (by intro j v hj; rw [Nat.zero_add, blkCell hu]; simpa using hj)) Tryz.underlying36 (by kernel_rfl) (by kernel_rfl)) ?_
      try simp only [Act.put, List.setIfInBounds_toArray, List.set_cons_zero, List.set_cons_succ]
      refine tkW 1 (some 41) (v := ?_) rfl ?_ ?_
      rotate_left
      · intro u hSu; clear hSu; go_simp; (try with_reducible rfl)
      try simp only [Act.put, List.setIfInBounds_toArray, List.set_cons_zero, List.set_cons_succ]
      refine tkW 2 (some 42) (v := ?_) rfl ?_ ?_
      rotate_left
      · intro u hSu; clear hSu; go_simp; (try with_reducible rfl)
      try simp only [Act.put, List.setIfInBounds_toArray, List.set_cons_zero, List.set_cons_succ]
      refine tkW 3 (some 43) (v := ?_) rfl ?_ ?_
      rotate_left
      · intro u hSu; clear hSu; go_simp; (try with_reducible rfl)
      try simp only [Act.put, List.setIfInBounds_toArray, List.set_cons_zero, List.set_cons_succ]
      refine rdH 4 (some 44) rfl (fun K hK => ?_)
      go_simp
      (refine (HNW.out _).mono ?_); rintro e w9 ⟨rfl, hb9⟩; have hQ2 := joinB hQ hb9; clear hQ hSn hb9; have hQ := hQ2; clear hQ2; have hSn := HS8.out _ hQ
      refine hK.out _ _ ?_ (fun hHeld => ?_)
      · exact hSn
      clear hK K
      try simp only [Act.put, List.setIfInBounds_toArray, List.set_cons_zero, List.set_cons_succ]
      refine rdH 5 (some 45) rfl (fun K hK => ?_)
      go_simp
      (refine (HAL.out s1 q1 fs1 C1 HS5.out.1 _ (HP5.out.below hQ)).mono ?_); rintro e w9 ⟨s', q, fs', C', rfl, hp9, hi9, hk9, hb9⟩; have hQ2 := joinB hQ hb9; clear hQ hSn hb9; have hQ := hQ2; clear hQ2; have hSn := HS8.out _ hQ; have H9 := HF5.out.step hQ
      refine hK.out _ _ ?_ (fun hHeld => ?_)
      · exact hSn
      clear hK K
      try simp only [Act.put, List.setIfInBounds_toArray, List.set_cons_zero, List.set_cons_succ]
      refine tkW 6 (some 46) (v := ?_) rfl ?_ ?_
      rotate_left
      · intro u hSu; clear hSu; go_simp; (try with_reducible rfl)
      try simp only [Act.put, List.setIfInBounds_toArray, List.set_cons_zero, List.set_cons_succ]
      refine tkW 7 (some 47) (v := ?_) rfl ?_ ?_
      rotate_left
      · intro u hSu; clear hSu; go_simp; (try with_reducible rfl)
      try simp only [Act.put, List.setIfInBounds_toArray, List.set_cons_zero, List.set_cons_succ]
      refine rdH 8 none rfl (fun K hK => ?_)
      refine wantedIf (by rfl) ?_
      refine wp_store_whole 36 (.tmp 10) (.tmp 46) rfl (w.heap.size + 1) (stA s' q) _ _ rfl rfl H9.get1 (by kernel_rfl) (by kernel_rfl) (by kernel_rfl) ?_
      have H10 := H9.row 1 (stA s' q) _ rfl
      have hp10 := hp9.other (t := 36) H9.get1 (by decide) (by decide) (by decide) (stA s' q)
      have hSm := (heap_setRow_other _ _ (stA s' q) _ (show w.heap.size ≠ w.heap.size + 1 by omega)).trans hSn
      clear hSn
      have hSn := hSm
      clear hSm
      refine hK.out _ _ ?_ (fun hHeld => ?_)
      · exact hSn
      clear hK K
      try simp only [Act.put, List.setIfInBounds_toArray, List.set_cons_zero, List.set_cons_succ]
      refine tkW 9 (some 11) (v := ?_) rfl ?_ ?_
      rotate_left
      · intro u hSu; clear hSu; go_simp; (try with_reducible rfl)
      try simp only [Act.put, List.setIfInBounds_toArray, List.set_cons_zero, List.set_cons_succ]
      refine wpAnyH_done (by kernel_rfl) ?_ _
      clear hHeld
      go_wp2_with fail
      go_meet
      case rel => exact ⟨rfl, s', q, fs', C', H10.get1, hp10, hi9, hk9, H10.kept⟩
    case rest =>
      obtain ⟨rfl, s', q, fs', C', hg3, hp3, hi3, hk3, hb3⟩ := hcut
      go_wp2_with fail
      refine bodyPost_ret (v := .tuple #[.agg (stA s' q), .int .i64 0]) (results_cell2 rfl _ _ rfl (load_whole hg3 Tryz.underlying36 (by kernel_rfl) (by kernel_rfl)) rfl) rfl ?_
      exact HQ.out s' q fs' C1 C' _ _ hp3 hi3 HS5.out.2 hk3 hb3
end Go.Proofs.YtmebkghdkeeobaaGreatDoor
