import Derived.Test.YtmebkghdkeeobaaGreatDoorHo00
import Derived.Test.YtmebkghdkeeobaaGreatDoorHo09
import Derived.Test.YtmebkghdkeeobaaGreatDoorHo07
import Derived.Test.YtmebkghdkeeobaaGreatDoorHo04
set_option maxRecDepth 100000
set_option maxHeartbeats 16000000
set_option linter.unusedSimpArgs false
namespace Ck
open Lg
def placeL (n : Int) : List UInt8 := Oct.putL (Oct.sumN (Oct.putL (Oct.word n) 6)) 4 ++ Oct.putL (Oct.word n) 6
theorem placeL_len (n : Int) : (placeL n).length = 10 := by unfold placeL; rw [List.length_append, Oct.putL_length, Oct.putL_length]
def sectorB (n : Int) : ByteArray := pad128 (placeL n)
theorem sectorB_size (n : Int) : (sectorB n).size = 128 := pad128_size (by rw [placeL_len]; omega)
def masterL (l : List UInt8) : Int := if Oct.getL (l.take 4) = Oct.sumN ((l.drop 4).take 6) then (Oct.getL ((l.drop 4).take 6) : Int) else 0
def masterD (d : Dk) : Int := if (readD d 0).2 ≠ 0 ∨ (readD d 0).1.size < 10 then 0 else masterL (readD d 0).1.data.toList
def setD (d : Dk) (n : Int) : Dk × Int := if n < 0 ∨ 1099511627776 ≤ n then (d, 1) else writeD d 0 (sectorB n)
theorem setD_no {d : Dk} {n : Int} (h : n < 0 ∨ 1099511627776 ≤ n) : setD d n = (d, 1) := by unfold setD; rw [if_pos h]
theorem setD_yes {d : Dk} {n : Int} (h : ¬ (n < 0 ∨ 1099511627776 ≤ n)) : setD d n = writeD d 0 (sectorB n) := by unfold setD; rw [if_neg h]
theorem sectorB_list (n : Int) : (sectorB n).data.toList = placeL n ++ List.replicate 118 0 := by
  unfold sectorB pad128
  rw [placeL_len]
theorem master_sector (n : Int) (h0 : 0 ≤ n) (h1 : n < 1099511627776) : masterL (sectorB n).data.toList = n := by
  have hw : ((Oct.word n : Nat) : Int) = n := by unfold Oct.word; omega
  have hP : (Oct.putL (Oct.word n) 6).length = 6 := Oct.putL_length _ _
  have hs := Oct.sumN_lt (Oct.putL (Oct.word n) 6)
  have g6 : Oct.getL (Oct.putL (Oct.word n) 6) = Oct.word n := by rw [Oct.getL_putL, Nat.mod_eq_of_lt (by omega)]
  have hS : (Oct.putL (Oct.sumN (Oct.putL (Oct.word n) 6)) 4).length = 4 := Oct.putL_length _ _
  have g4 : Oct.getL (Oct.putL (Oct.sumN (Oct.putL (Oct.word n) 6)) 4) = Oct.sumN (Oct.putL (Oct.word n) 6) := by rw [Oct.getL_putL, Nat.mod_eq_of_lt (by omega)]
  have e : (sectorB n).data.toList = Oct.putL (Oct.sumN (Oct.putL (Oct.word n) 6)) 4 ++ (Oct.putL (Oct.word n) 6 ++ List.replicate 118 0) := by
    rw [sectorB_list]; unfold placeL; rw [List.append_assoc]
  rw [e]
  unfold masterL
  rw [List.take_left' hS, List.drop_left' hS, List.take_left' hP, g4, g6, if_pos rfl, hw]
theorem set_master {d : Dk} {n : Int} (h : (setD d n).2 = 0) : masterD (setD d n).1 = n ∧ masterD (startD (setD d n).1) = n := by
  by_cases hn : n < 0 ∨ 1099511627776 ≤ n
  · rw [setD_no hn] at h
    exact absurd h (by show ¬ (1 : Int) = 0; decide)
  rw [setD_yes hn] at h ⊢
  have hm := master_sector n (by omega) (by omega)
  unfold writeD at h ⊢
  split at h
  · exact absurd h (by show ¬ (20 : Int) = 0; decide)
  rename_i hd
  rw [if_neg hd]
  split at h
  · exact absurd h (by show ¬ (1 : Int) = 0; decide)
  rename_i hh
  rw [if_neg hh]
  split at h
  · exact absurd h (by show ¬ (20 : Int) = 0; decide)
  rename_i hl
  rw [if_neg hl]
  have hh2 : hasD d 0 := (Classical.not_not.1 hh).1
  have hlen : 0 < d.sectors.length := by have := hh2.2; omega
  have key : ∀ (lf : Int) (dn : Bool), dn = false → masterD ⟨d.sectors.set 0 (sectorB n), lf, dn⟩ = n := by
    intro lf dn hdn
    subst hdn
    have hr : readD ⟨d.sectors.set 0 (sectorB n), lf, false⟩ 0 = (sectorB n, 0) := by
      unfold readD
      rw [if_neg (by simp), if_pos ⟨by decide, by show (0 : Int) < ((d.sectors.set 0 (sectorB n)).length : Int); rw [List.length_set]; omega⟩]
      unfold secAt
      show ((d.sectors.set 0 (sectorB n))[0]?.getD ⟨#[]⟩, (0 : Int)) = _
      rw [List.getElem?_set_self hlen]
      rfl
    unfold masterD
    rw [hr, if_neg (by rw [sectorB_size]; simp)]
    exact hm
  refine ⟨key _ _ ?_, key _ _ rfl⟩
  first | rfl | simpa using hd
open Rc
def mast (d : Dk) : Int := masterD (startD d)
theorem mast_same {d d' : Dk} (h : d'.sectors[0]? = d.sectors[0]?) (hl : d'.sectors.length = d.sectors.length) : mast d' = mast d := by
  have hs : secAt (startD d') 0 = secAt (startD d) 0 := by
    show d'.sectors[0]?.getD _ = d.sectors[0]?.getD _
    rw [h]
  have hh : hasD (startD d') 0 ↔ hasD (startD d) 0 := by
    show (0 : Int) ≤ 0 ∧ (0 : Int) < (d'.sectors.length : Int) ↔ (0 : Int) ≤ 0 ∧ (0 : Int) < (d.sectors.length : Int)
    rw [hl]
  have hr : readD (startD d') 0 = readD (startD d) 0 := by
    have e : ∀ x : Dk, readD (startD x) 0 = if hasD (startD x) 0 then (secAt (startD x) 0, 0) else (⟨#[]⟩, 1) := fun x => rfl
    rw [e, e]
    by_cases h1 : hasD (startD d) 0
    · rw [if_pos (hh.2 h1), if_pos h1, hs]
    · rw [if_neg (fun x => h1 (hh.1 x)), if_neg h1]
  unfold mast masterD
  rw [hr]
theorem mast_down (d : Dk) : mast { d with down := true } = mast d := mast_same (d := d) (d' := { d with down := true }) rfl rfl
structure Opn (N : Nat) (d : Dk) (l : List Rec) : Prop where
  whole : Whole d.sectors
  len : d.sectors.length = N + 17
  opens : (openL (logS 1 N d) (N * 128 + 1) 0).1 = l
theorem opn_lies {N : Nat} {d : Dk} {l : List Rec} (hw : Whole d.sectors) (hl : d.sectors.length = N + 17) (h : Lies (logS 1 N d) l) : Opn N d l := by
  refine ⟨hw, hl, ?_⟩
  have h1 := logS_len (F := 1) (N := N) hw (by omega)
  have h2 := h.room
  have h3 := manyN l
  rw [h.opens (f := N * 128 + 1) (by omega)]
theorem opn_cut {N : Nat} {d : Dk} {s n : List UInt8} {q : Nat} {r1 r2 : List Rec} (hw : Whole d.sectors) (hl : d.sectors.length = N + 17) (hs : Lies s r1) (hn : Lies n (r1 ++ r2)) (h2 : r2 ≠ []) (hsl : s.length = N * 128) (hnl : n.length = N * 128) (hq : logS 1 N d = mix s n q) : Opn N d r1 ∨ Opn N d (r1 ++ r2) := by
  have h3 := manyN (r1 ++ r2)
  have h4 := hn.room
  rcases mix_opens (hsl.trans hnl.symm) hs hn h2 q (f := N * 128 + 1) (by omega) with h | h
  · exact .inl ⟨hw, hl, by rw [hq, h]⟩
  · exact .inr (opn_lies hw hl (by rw [hq, h]; exact hn))
theorem Opn.start {N : Nat} {d : Dk} {l : List Rec} (h : Opn N d l) : ∃ o, openD (startD d) 1 N = (o, l, 0) := by
  have hw : Whole (startD d).sectors := h.whole
  have hl : (startD d).sectors.length = N + 17 := h.len
  obtain ⟨h1, _⟩ := LInv.opened (F := 1) (N := N) (d := startD d) rfl hw (by omega)
  have h3 : (openL (logS 1 N (startD d)) (N * 128 + 1) 0).1 = l := h.opens
  rw [h3] at h1
  refine ⟨(openD (startD d) 1 N).1, ?_⟩
  have e : openD (startD d) 1 N = ((openD (startD d) 1 N).1, (openD (startD d) 1 N).2) := rfl
  have h4 : (openD (startD d) 1 N).2 = (l, 0) := h1
  rw [h4] at e
  exact e
theorem Opn.same {N : Nat} {d e : Dk} {l : List Rec} (h : Opn N d l) (hs : e.sectors = d.sectors) : Opn N e l :=
  ⟨by rw [hs]; exact h.whole, by rw [hs]; exact h.len, by unfold logS; rw [hs]; exact h.opens⟩
theorem logS_set {N : Nat} {l : List ByteArray} {i : Nat} (hi : i = 0 ∨ 1 + N ≤ i) (b : ByteArray) (lf : Int) (dn : Bool) (d : Dk) (hd : d.sectors = l) : logS 1 N ⟨l.set i b, lf, dn⟩ = logS 1 N d := by
  unfold logS
  simp only
  rw [hd]
  congr 1
  apply List.ext_getElem?
  intro j
  rw [List.getElem?_take, List.getElem?_take]
  split
  · rw [List.getElem?_drop, List.getElem?_drop, List.getElem?_set_ne (by omega)]
  · rfl
theorem whole_set {l : List ByteArray} (h : Whole l) (i : Nat) {b : ByteArray} (hb : b.size = 128) : Whole (l.set i b) := fun x hx => by
  rcases List.mem_or_eq_of_mem_set hx with h1 | h1
  · exact h x h1
  · rw [h1]; exact hb
theorem writeD_cases (d : Dk) (a : Int) (b : ByteArray) : writeD d a b = (d, 20) ∧ d.down = true ∨ d.down = false ∧ (writeD d a b = (d, 1) ∨ (hasD d a ∧ b.size = 128 ∧ ((d.left = 0 ∧ writeD d a b = ({ d with down := true }, 20)) ∨ (d.left ≠ 0 ∧ writeD d a b = (⟨d.sectors.set a.toNat b, if 0 < d.left then d.left - 1 else d.left, false⟩, 0))))) := by
  unfold writeD
  cases hd : d.down with
  | true => exact .inl ⟨by simp, rfl⟩
  | false =>
    refine .inr ⟨rfl, ?_⟩
    by_cases h1 : hasD d a ∧ b.size = 128
    · refine .inr ⟨h1.1, h1.2, ?_⟩
      by_cases h2 : d.left = 0
      · exact .inl ⟨h2, by simp [h1, h2]⟩
      · exact .inr ⟨h2, by simp [h1, h2]⟩
    · exact .inl (by simp [h1])
theorem putAll_zero (base : Int) (hb : 1 ≤ base) (all : List ByteArray) : ∀ (i : Nat) (d : Dk), (putAll base all i d).1.sectors[0]? = d.sectors[0]? := by
  intro i
  induction i with
  | zero => intro d; rfl
  | succ i ih =>
    intro d
    have hw : ∀ b, (writeD d (base + (i : Int)) b).1.sectors[0]? = d.sectors[0]? := fun b => by
      rcases writeD_cases d (base + (i : Int)) b with ⟨e, _⟩ | ⟨_, e | ⟨_, _, ⟨_, e⟩ | ⟨_, e⟩⟩⟩ <;> rw [e]
      show (d.sectors.set (base + (i : Int)).toNat b)[0]? = _
      rw [List.getElem?_set_ne (by omega)]
    unfold putAll
    split
    · rw [ih]; exact hw _
    · exact hw _
theorem force_zero {d : Dk} {g : Lo} (h : 1 ≤ g.from_ + firstS g) : (forceD d g).1.sectors[0]? = d.sectors[0]? := by
  unfold forceD
  split
  · rfl
  · simp only
    split <;> exact putAll_zero _ h _ _ _
def Fnd (l : List Rec) (m last : Int) : Prop := (m = 0 ∨ ∃ r ∈ l, r.lsn = m ∧ r.kind = 9) ∧ last ≤ m
theorem Fnd.more {l : List Rec} {m last : Int} (h : Fnd l m last) (l2 : List Rec) : Fnd (l ++ l2) m last := by
  obtain ⟨h1, h2⟩ := h
  refine ⟨?_, h2⟩
  rcases h1 with h1 | ⟨r, hr, h3⟩
  · exact .inl h1
  · exact .inr ⟨r, List.mem_append_left _ hr, h3⟩
structure Sf (N : Nat) (last : Int) (d : Dk) (g : Lo) : Prop where
  whole : Whole d.sectors
  len : d.sectors.length = N + 17
  left : -1 ≤ d.left ∧ d.left ≤ 9223372036854775807
  inv : ∃ d0 r1 r2, LInv 1 N d0 g r1 r2 ∧ ((d.down = false ∧ d0 = d ∧ Lies (logS 1 N d) r1 ∧ Fnd r1 (mast d) last) ∨ (d.down = true ∧ ∃ L, Opn N d L ∧ Fnd L (mast d) last))
theorem left_dec {x : Int} (h : -1 ≤ x ∧ x ≤ 9223372036854775807) : -1 ≤ (if 0 < x then x - 1 else x) ∧ (if 0 < x then x - 1 else x) ≤ 9223372036854775807 := by split <;> omega
theorem Sf.app {N : Nat} {last : Int} {d : Dk} {g : Lo} (h : Sf N last d g) (r : Rec) : Sf N last d (appendD g r).1 := by
  obtain ⟨h1, h2, h3, d0, r1, r2, h4, h5⟩ := h
  rcases h4.append r with e | e | ⟨_, hg⟩
  · rw [e]; exact ⟨h1, h2, h3, d0, r1, r2, h4, h5⟩
  · rw [e]; exact ⟨h1, h2, h3, d0, r1, r2, h4, h5⟩
  · exact ⟨h1, h2, h3, d0, r1, _, hg, h5⟩
theorem LInv.base {N : Nat} {d : Dk} {g : Lo} {r1 r2 : List Rec} (h : LInv 1 N d g r1 r2) : 1 ≤ g.from_ + firstS g := by
  rw [h.firstS, h.hf]; omega
theorem Sf.frc {N : Nat} {last : Int} {d : Dk} {g : Lo} (h : Sf N last d g) : Sf N last (forceD d g).1 (forceD d g).2.1 := by
  obtain ⟨h1, h2, h3, d0, r1, r2, h4, h5⟩ := h
  rcases h5 with ⟨hup, rfl, hlies, hf⟩ | ⟨hdn, hL⟩
  · have hlf := Tx.forceD_leftN (g := g) h3
    have hz := force_zero (d := d0) (LInv.base h4)
    rcases h4.force hup h3.1 with ⟨a1, a2, a3, a4, _, a6, _, a8⟩ | ⟨a1, a2, a3, _, a5, a6, nn, q, b1, b2, b3⟩
    · refine ⟨a2.whole, a6.trans h2, hlf, _, r1 ++ r2, [], a2, .inl ⟨a3, rfl, a8 (.inl hlies), ?_⟩⟩
      rw [mast_same hz a6]; exact hf.more r2
    · refine ⟨a5, a6.trans h2, hlf, d0, r1, r2, by rw [a3]; exact h4, .inr ⟨force_20 a1, ?_⟩⟩
      rw [mast_same hz a6]
      have hsl := logS_len (F := 1) (N := N) h1 (by omega)
      rcases opn_cut a5 (a6.trans h2) hlies b1 a2 hsl b2 b3 with hO | hO
      · exact ⟨_, hO, hf⟩
      · exact ⟨_, hO, hf.more r2⟩
  · by_cases h2' : r2 = []
    · have e : forceD d g = (d, g, 0) := by unfold forceD; rw [if_pos (by rw [h4.safe, h4.end_, h2', List.append_nil])]
      rw [e]; exact ⟨h1, h2, h3, d0, r1, r2, h4, .inr ⟨hdn, hL⟩⟩
    · rw [h4.force_down h2' hdn]; exact ⟨h1, h2, h3, d0, r1, r2, h4, .inr ⟨hdn, hL⟩⟩
theorem LInv.out {N : Nat} {d d' : Dk} {g : Lo} {r1 r2 : List Rec} (h : LInv 1 N d g r1 r2) (hw : Whole d'.sectors) (hl : d'.sectors.length = d.sectors.length) (he : logS 1 N d' = logS 1 N d) : LInv 1 N d' g r1 r2 :=
  ⟨hw, by rw [hl]; exact h.room, h.hf, h.hn, h.row, by rw [he]; exact h.pre, h.safe, h.end_, h.tail, h.fit⟩
theorem Sf.wr {N : Nat} {last : Int} {d : Dk} {g : Lo} (h : Sf N last d g) (a : Int) (b : ByteArray) (ha : 1 + (N : Int) ≤ a) : Sf N last (writeD d a b).1 g := by
  have h0 := h
  obtain ⟨h1, h2, h3, d0, r1, r2, h4, h5⟩ := h
  rcases writeD_cases d a b with ⟨e, _⟩ | ⟨hd, e | ⟨hh, hb, ⟨_, e⟩ | ⟨hl, e⟩⟩⟩
  · rw [e]; exact h0
  · rw [e]; exact h0
  · rw [e]
    rcases h5 with ⟨hup, rfl, hlies, hf⟩ | ⟨hdn, _⟩
    · refine ⟨h1, h2, h3, d0, r1, r2, h4, .inr ⟨rfl, r1, (opn_lies h1 h2 hlies).same rfl, ?_⟩⟩
      show Fnd r1 (mast { d0 with down := true }) last
      rw [mast_down]; exact hf
    · rw [hd] at hdn; cases hdn
  · rw [e]
    rcases h5 with ⟨hup, rfl, hlies, hf⟩ | ⟨hdn, _⟩
    · have hS : logS 1 N ⟨d0.sectors.set a.toNat b, if 0 < d0.left then d0.left - 1 else d0.left, false⟩ = logS 1 N d0 := logS_set (.inr (by omega)) b _ _ d0 rfl
      have hW := whole_set h1 a.toNat hb
      refine ⟨hW, by show (d0.sectors.set _ _).length = _; rw [List.length_set]; exact h2, left_dec h3, _, r1, r2, LInv.out h4 hW (by show (d0.sectors.set _ _).length = _; rw [List.length_set]) hS, .inl ⟨rfl, rfl, by rw [hS]; exact hlies, ?_⟩⟩
      have hm := mast_same (d := d0) (d' := ⟨d0.sectors.set a.toNat b, if 0 < d0.left then d0.left - 1 else d0.left, false⟩) (by show (d0.sectors.set _ _)[0]? = _; rw [List.getElem?_set_ne (by omega)]) (by show (d0.sectors.set _ _).length = _; rw [List.length_set])
      show Fnd r1 (mast ⟨d0.sectors.set a.toNat b, if 0 < d0.left then d0.left - 1 else d0.left, false⟩) last
      rw [hm]; exact hf
    · rw [hd] at hdn; cases hdn
noncomputable def takeD (d : Dk) (g : Lo) (r : Rec) : Dk × Lo × Int :=
  let x := appendD g r
  if x.2.2 ≠ 0 then (d, g, x.2.2) else
  let y := forceD d x.1
  if y.2.2 ≠ 0 then (y.1, y.2.1, y.2.2) else
  let z := setD y.1 x.2.1
  (z.1, y.2.1, z.2)
theorem Sf.take {N : Nat} {last : Int} {d : Dk} {g : Lo} (h : Sf N last d g) (r : Rec) (hr : r.kind = 9) :
    Sf N (if (takeD d g r).2.2 = 0 then g.end_ + 1 else last) (takeD d g r).1 (takeD d g r).2.1 := by
  have hA := (h.app r).frc
  have h0 := h
  obtain ⟨h1, h2, h3, d0, r1, r2, h4, h5⟩ := h
  unfold takeD
  simp only
  split
  · rename_i he; first | exact h0 | (simp only at he ⊢; rw [if_neg he]; exact h0)
  · rename_i he
    have hap := h4.append r
    rcases hap with e | e | ⟨e, hg⟩
    · rw [e] at he; exact absurd (show ¬ (1 : Int) = 0 by decide) he
    · rw [e] at he; exact absurd (show ¬ (18 : Int) = 0 by decide) he
    have e1 : (appendD g r).2.1 = g.end_ + 1 := by rw [e]
    generalize appendD g r = x at hA hg e1 ⊢
    obtain ⟨g1, n1, k1⟩ := x
    simp only at hA hg e1 ⊢
    subst e1
    split
    · rename_i hk; first | exact hA | (simp only; rw [if_neg hk]; exact hA)
    · rename_i hk
      have hk0 : (forceD d g1).2.2 = 0 := Classical.not_not.1 hk
      rcases h5 with ⟨hup, rfl, hlies, hf⟩ | ⟨hdn, _⟩
      · rcases hg.force hup h3.1 with ⟨a1, a2, a3, a4, _, a6, _, a8⟩ | ⟨a1, _⟩
        · have hz := force_zero (d := d0) (LInv.base hg)
          have hF := Tx.forceD_leftN (g := g1) h3
          have hfm : Fnd (r1 ++ (r2 ++ [{ r with lsn := g.end_ + 1 }])) (mast (forceD d0 g1).1) last := by rw [mast_same hz a6]; exact hf.more _
          have hL2 := a8 (.inl hlies)
          generalize forceD d0 g1 = y at a1 a2 a3 a4 a6 hA hF hfm hL2 ⊢
          obtain ⟨d2, g2, k2⟩ := y
          simp only at a1 a2 a3 a4 a6 hA hF hfm hL2 ⊢
          by_cases hn : g.end_ + 1 < 0 ∨ 1099511627776 ≤ g.end_ + 1
          · rw [setD_no hn]
            simp only
            rw [if_neg (by decide)]; exact hA
          have hset := setD_yes (d := d2) hn
          rcases writeD_cases d2 0 (sectorB (g.end_ + 1)) with ⟨e, hdn⟩ | ⟨_, e | ⟨hh, hb, ⟨_, e⟩ | ⟨hl0, e⟩⟩⟩
          · rw [a3] at hdn; cases hdn
          · rw [hset, e]; simp only; rw [if_neg (by decide)]; exact hA
          · rw [hset, e]; simp only; rw [if_neg (by decide)]
            refine ⟨a2.whole, a6.trans h2, hF, d2, _, [], a2, .inr ⟨rfl, _, (opn_lies a2.whole (a6.trans h2) hL2).same rfl, ?_⟩⟩
            show Fnd _ (mast { d2 with down := true }) last
            rw [mast_down]; exact hfm
          · have h00 : (setD d2 (g.end_ + 1)).2 = 0 := by rw [hset, e]
            have hms := (set_master h00).2
            rw [hset, e] at hms ⊢
            simp only at hms ⊢
            rw [if_pos trivial]
            have hS : logS 1 N ⟨d2.sectors.set 0 (sectorB (g.end_ + 1)), if 0 < d2.left then d2.left - 1 else d2.left, false⟩ = logS 1 N d2 := logS_set (.inl rfl) _ _ _ d2 rfl
            have hW := whole_set a2.whole 0 hb
            refine ⟨hW, by show (d2.sectors.set _ _).length = _; rw [List.length_set]; exact a6.trans h2, left_dec hF, _, _, [], LInv.out a2 hW (by show (d2.sectors.set _ _).length = _; rw [List.length_set]) hS, .inl ⟨rfl, rfl, ?_, ?_⟩⟩
            · show Lies (logS 1 N ⟨d2.sectors.set 0 (sectorB (g.end_ + 1)), _, false⟩) _
              rw [hS]; exact hL2
            · have hm2 : mast ⟨d2.sectors.set 0 (sectorB (g.end_ + 1)), if 0 < d2.left then d2.left - 1 else d2.left, false⟩ = g.end_ + 1 := hms
              show Fnd _ (mast ⟨d2.sectors.set 0 (sectorB (g.end_ + 1)), _, false⟩) _
              rw [hm2]
              exact ⟨.inr ⟨{ r with lsn := g.end_ + 1 }, List.mem_append_right _ (List.mem_append_right _ (List.mem_singleton.2 rfl)), rfl, hr⟩, Int.le_refl _⟩
        · rw [a1] at hk0; exact absurd hk0 (by decide)
      · rw [hg.force_down (by simp) hdn] at hk0; exact absurd hk0 (show ¬ (20 : Int) = 0 by decide)
structure Br (N : Nat) (d : Dk) (g : Lo) : Prop where
  whole : Whole d.sectors
  len : d.sectors.length = N + 17
  up : d.down = false
  left : d.left = -1
  inv : ∃ r1 r2, LInv 1 N d g r1 r2
theorem Br.app {N : Nat} {d : Dk} {g : Lo} (h : Br N d g) (r : Rec) : Br N d (appendD g r).1 := by
  obtain ⟨h1, h2, h3, h4, r1, r2, h5⟩ := h
  rcases h5.append r with e | e | ⟨_, hg⟩
  · rw [e]; exact ⟨h1, h2, h3, h4, r1, r2, h5⟩
  · rw [e]; exact ⟨h1, h2, h3, h4, r1, r2, h5⟩
  · exact ⟨h1, h2, h3, h4, r1, _, hg⟩
theorem Br.force {N : Nat} {d : Dk} {g : Lo} {r1 r2 : List Rec} (h : LInv 1 N d g r1 r2) (hd : d.down = false) (hl : d.left = -1) :
    (forceD d g).2.2 = 0 ∧ LInv 1 N (forceD d g).1 (forceD d g).2.1 (r1 ++ r2) [] ∧ (forceD d g).1.down = false ∧ (forceD d g).1.left = -1 ∧ (forceD d g).1.sectors.length = d.sectors.length := by
  rcases h.force hd (by omega) with ⟨a1, a2, a3, _, a5, a6, _, _⟩ | ⟨_, _, _, a4, _⟩
  · exact ⟨a1, a2, a3, a5 hl, a6⟩
  · exact absurd hl a4
theorem Br.frc {N : Nat} {d : Dk} {g : Lo} (h : Br N d g) : Br N (forceD d g).1 (forceD d g).2.1 := by
  obtain ⟨h1, h2, h3, h4, r1, r2, h5⟩ := h
  obtain ⟨_, a2, a3, a4, a5⟩ := Br.force h5 h3 h4
  exact ⟨a2.whole, a5.trans h2, a3, a4, _, _, a2⟩
theorem Br.wr {N : Nat} {d : Dk} {g : Lo} (h : Br N d g) (a : Int) (b : ByteArray) (ha : 1 + (N : Int) ≤ a) : Br N (writeD d a b).1 g := by
  have h0 := h
  obtain ⟨h1, h2, h3, h4, r1, r2, h5⟩ := h
  rcases writeD_cases d a b with ⟨_, e⟩ | ⟨_, e | ⟨_, hb, ⟨e, _⟩ | ⟨_, e⟩⟩⟩
  · rw [h3] at e; cases e
  · rw [e]; exact h0
  · rw [h4] at e; cases e
  · rw [e]
    have hS : logS 1 N ⟨d.sectors.set a.toNat b, if 0 < d.left then d.left - 1 else d.left, false⟩ = logS 1 N d := logS_set (.inr (by omega)) b _ _ d rfl
    have hW := whole_set h1 a.toNat hb
    exact ⟨hW, by show (d.sectors.set _ _).length = _; rw [List.length_set]; exact h2, rfl, by show (if 0 < d.left then d.left - 1 else d.left) = -1; rw [h4]; rfl, r1, r2, LInv.out h5 hW (by show (d.sectors.set _ _).length = _; rw [List.length_set]) hS⟩
theorem putAll_far (base : Int) (all : List ByteArray) (j : Nat) : ∀ (i : Nat) (d : Dk), 0 ≤ base → base + (i : Int) ≤ (j : Int) → (putAll base all i d).1.sectors[j]? = d.sectors[j]? := by
  intro i
  induction i with
  | zero => intro d _ _; rfl
  | succ i ih =>
    intro d hb hj
    have hw : ∀ b, (writeD d (base + (i : Int)) b).1.sectors[j]? = d.sectors[j]? := fun b => by
      rcases writeD_cases d (base + (i : Int)) b with ⟨e, _⟩ | ⟨_, e | ⟨_, _, ⟨_, e⟩ | ⟨_, e⟩⟩⟩ <;> rw [e]
      show (d.sectors.set (base + (i : Int)).toNat b)[j]? = _
      rw [List.getElem?_set_ne (by omega)]
    unfold putAll
    split
    · rw [ih _ hb (by omega)]; exact hw _
    · exact hw _
theorem force_far {N : Nat} {d : Dk} {g : Lo} {r1 r2 : List Rec} (h : LInv 1 N d g r1 r2) (j : Nat) (hj : 1 + N ≤ j) : (forceD d g).1.sectors[j]? = d.sectors[j]? := by
  by_cases h2 : r2 = []
  · have e : forceD d g = (d, g, 0) := by unfold forceD; rw [if_pos (by rw [h.safe, h.end_, h2, List.append_nil])]
    rw [e]
  · obtain ⟨n, hs, _⟩ := h.sects h2
    have hf := hs.fits
    have hb := h.firstS
    have hff := h.hf
    unfold forceD
    split
    · rfl
    · simp only
      split <;> exact putAll_far _ _ _ _ _ (by omega) (by omega)
theorem LInv.last {N : Nat} {d : Dk} {g : Lo} {rs : List Rec} {r : Rec} (h : LInv 1 N d g (rs ++ [r]) []) (hd : d.down = false) : readL d g r.lsn = .ok r := by
  obtain ⟨h1, h2⟩ := h.read hd rs [] r (by rw [List.append_nil])
  rw [h1]; exact h2
theorem Br.take {N : Nat} {d : Dk} {g : Lo} (h : Br N d g) (r : Rec) (hr : Right { r with lsn := g.end_ + 1 }) (hend : 0 ≤ g.end_ ∧ g.end_ ≤ 1000000) :
    (takeD d g r = (d, g, 18)) ∨ (∃ d' g', takeD d g r = (d', g', 0) ∧ Whole d'.sectors ∧ d'.sectors.length = d.sectors.length ∧ (∀ j, 1 + N ≤ j → d'.sectors[j]? = d.sectors[j]?) ∧ readL d' g' (g.end_ + 1) = .ok { r with lsn := g.end_ + 1 } ∧ (g'.tail.size : Int) ≤ (N : Int) * 128) := by
  obtain ⟨h1, h2, h3, h4, r1, r2, h5⟩ := h
  rcases h5.append r with e | e | ⟨e, hg⟩
  · exfalso
    unfold appendD at e
    simp only at e
    rw [if_neg (fun hn => hn hr)] at e
    split at e
    · have := congrArg (fun x => x.2.2) e; simp at this
    · have := congrArg (fun x => x.2.2) e; simp at this
  · refine .inl ?_
    unfold takeD
    simp only
    rw [e]
    rfl
  · refine .inr ?_
    have e1 : (appendD g r).2.1 = g.end_ + 1 := by rw [e]
    have e2 : (appendD g r).2.2 = 0 := by rw [e]
    unfold takeD
    generalize appendD g r = x at e1 e2 hg ⊢
    obtain ⟨g1, n1, k1⟩ := x
    simp only at e1 e2 hg ⊢
    subst e1 e2
    obtain ⟨a1, a2, a3, a4, a5⟩ := Br.force hg h3 h4
    have hfar := force_far hg
    generalize forceD d g1 = y at a1 a2 a3 a4 a5 hfar ⊢
    obtain ⟨d2, g2, k2⟩ := y
    simp only at a1 a2 a3 a4 a5 hfar ⊢
    subst a1
    have hset := setD_yes (d := d2) (n := g.end_ + 1) (by omega)
    have hh : hasD d2 0 := ⟨Int.le_refl _, by rw [a5, h2]; omega⟩
    have hsz := sectorB_size (g.end_ + 1)
    rcases writeD_cases d2 0 (sectorB (g.end_ + 1)) with ⟨_, e⟩ | ⟨_, e | ⟨_, hb, ⟨e, _⟩ | ⟨_, e⟩⟩⟩
    · rw [a3] at e; cases e
    · exfalso
      have h9 := e
      unfold writeD at h9
      rw [if_neg (by rw [a3]; decide)] at h9
      rw [if_neg (by exact fun hn => hn ⟨hh, hsz⟩)] at h9
      rw [if_neg (by rw [a4]; decide)] at h9
      have := congrArg (fun x => x.2) h9; simp at this
    · rw [a4] at e; cases e
    · have hS : logS 1 N ⟨d2.sectors.set 0 (sectorB (g.end_ + 1)), if 0 < d2.left then d2.left - 1 else d2.left, false⟩ = logS 1 N d2 := logS_set (.inl rfl) _ _ _ d2 rfl
      have hW := whole_set a2.whole 0 hb
      have hL := LInv.out a2 hW (by show (d2.sectors.set _ _).length = _; rw [List.length_set]) hS
      refine ⟨_, _, (by rw [hset, e]; rfl), hW, by show (d2.sectors.set _ _).length = _; rw [List.length_set]; exact a5, fun j hj => ?_, ?_, ?_⟩
      · show (d2.sectors.set 0 _)[j]? = _
        rw [List.getElem?_set_ne (by omega)]; exact hfar j hj
      · rw [← List.append_assoc] at hL
        exact LInv.last hL rfl
      · have h6 := hL.tail_size
        have h7 := hL.end_
        have h8 := hL.fit
        omega
end Ck
namespace Sc
open Rc Lg Ck
structure Pw (N M : Nat) (d : Dk) (g : Lo) : Prop where
  whole : Whole d.sectors
  len : d.sectors.length = M
  room : 1 + N ≤ M
  up : d.down = false
  left : d.left = -1
  inv : ∃ r1 r2, LInv 1 N d g r1 r2
theorem pw_new (N M : Nat) (h : 1 + N ≤ M) : Pw N M (newD M) ⟨1, N, 0, 0, ⟨#[]⟩⟩ := by
  have hl : (newD M).sectors.length = M := by show (List.replicate M zero128).length = _; rw [List.length_replicate]
  have hw : Whole (newD M).sectors := newD_wholeN _
  exact ⟨hw, hl, h, rfl, rfl, [], [], LInv.new (F := 1) hw (by omega)⟩
theorem Pw.end0 {N M : Nat} {d : Dk} {g : Lo} (h : Pw N M d g) : 0 ≤ g.end_ ∧ g.end_ ≤ (N : Int) * 128 := by
  obtain ⟨_, _, _, _, _, r1, r2, h5⟩ := h
  have h1 := h5.end_
  have h2 := h5.fit
  omega
theorem Pw.put {N M : Nat} {d : Dk} {g : Lo} (h : Pw N M d g) (r : Rec) (hR : Right { r with lsn := g.end_ + 1 }) (hf : g.end_ + ((putR { r with lsn := g.end_ + 1 }).length : Int) ≤ (N : Int) * 128) :
    ∃ g2, appendD g r = (g2, g.end_ + 1, 0) ∧ Pw N M d g2 ∧ g2.end_ = g.end_ + ((putR { r with lsn := g.end_ + 1 }).length : Int) := by
  obtain ⟨h1, h2, h3, h4, h5, r1, r2, h6⟩ := h
  have hn := h6.hn
  have ha := h6.append r
  have e : appendD g r = ((appendD g r).1, g.end_ + 1, 0) ∧ (appendD g r).1.end_ = g.end_ + ((putR { r with lsn := g.end_ + 1 }).length : Int) := by
    unfold appendD
    simp only
    rw [if_neg (fun hx => hx hR), if_neg (by omega)]
    exact ⟨rfl, rfl⟩
  rcases ha with e1 | e1 | ⟨_, hg⟩
  · have h9 := e.1; rw [e1] at h9; have := congrArg (fun x => x.2.2) h9; simp at this
  · have h9 := e.1; rw [e1] at h9; have := congrArg (fun x => x.2.2) h9; simp at this
  · exact ⟨_, e.1, ⟨h1, h2, h3, h4, h5, _, _, hg⟩, e.2⟩
theorem Pw.force {N M : Nat} {d : Dk} {g : Lo} (h : Pw N M d g) : ∃ d2 g2, forceD d g = (d2, g2, 0) ∧ Pw N M d2 g2 ∧ g2.end_ = g.end_ ∧ ∀ j, 1 + N ≤ j → d2.sectors[j]? = d.sectors[j]? := by
  obtain ⟨h1, h2, h3, h4, h5, r1, r2, h6⟩ := h
  obtain ⟨a1, a2, a3, a4, a5⟩ := Br.force h6 h4 h5
  have hfar := force_far h6
  refine ⟨_, _, by rw [← a1], ⟨a2.whole, a5.trans h2, h3, a3, a4, _, _, a2⟩, ?_, hfar⟩
  rw [a2.end_, h6.end_, List.append_nil]
theorem Pw.write {N M : Nat} {d : Dk} {g : Lo} (h : Pw N M d g) {i : Nat} {b : ByteArray} (hb : b.size = 128) (hi : 1 + N ≤ i) (hi2 : i < M) :
    writeD d (i : Int) b = ({ d with sectors := d.sectors.set i b }, 0) ∧ Pw N M { d with sectors := d.sectors.set i b } g := by
  obtain ⟨h1, h2, h3, h4, h5, r1, r2, h6⟩ := h
  have hh : hasD d (i : Int) := ⟨by omega, by rw [h2]; omega⟩
  refine ⟨?_, ?_⟩
  · unfold writeD
    rw [if_neg (by rw [h4]; decide), if_neg (fun hn => hn ⟨hh, hb⟩), if_neg (by rw [h5]; decide)]
    rw [show (if 0 < d.left then d.left - 1 else d.left) = d.left from by rw [h5]; rfl]
    rfl
  · have hS : logS 1 N ⟨d.sectors.set i b, d.left, d.down⟩ = logS 1 N d := logS_set (.inr hi) b _ _ d rfl
    have hW := whole_set h1 i hb
    exact ⟨hW, by show (d.sectors.set i b).length = M; rw [List.length_set]; exact h2, h3, h4, h5, r1, r2, LInv.out h6 hW (by show (d.sectors.set _ _).length = _; rw [List.length_set]) hS⟩
def pgAt (d : Dk) (a : Nat) : ByteArray := ⟨(flat ((d.sectors.drop a).take 4)).toArray⟩
theorem pgAt_same {d d' : Dk} {a : Nat} (h : ∀ j, a ≤ j → j < a + 4 → d'.sectors[j]? = d.sectors[j]?) : pgAt d' a = pgAt d a := by
  have e : (d'.sectors.drop a).take 4 = (d.sectors.drop a).take 4 := by
    apply List.ext_getElem?
    intro j
    rw [List.getElem?_take, List.getElem?_take]
    split
    · rw [List.getElem?_drop, List.getElem?_drop]; exact h _ (by omega) (by omega)
    · rfl
  unfold pgAt
  rw [e]
theorem part_list (b : ByteArray) (i n : Nat) : (b.extract i (i + n)).data.toList = (b.data.toList.drop i).take n := by
  rw [ByteArray.data_extract, Array.toList_extract, List.extract_eq_take_drop]
  congr 1
  omega
def sec4 (b : ByteArray) (i : Nat) : ByteArray := b.extract (i * 128) (i * 128 + 128)
theorem sec4_size {b : ByteArray} (hb : b.size = 512) {i : Nat} (hi : i < 4) : (sec4 b i).size = 128 := by
  unfold sec4; rw [ByteArray.size_extract]; omega
def putP (d : Dk) (a : Nat) (b : ByteArray) : Dk := { d with sectors := (((d.sectors.set a (sec4 b 0)).set (a + 1) (sec4 b 1)).set (a + 2) (sec4 b 2)).set (a + 3) (sec4 b 3) }
theorem putP_get (d : Dk) (a : Nat) (b : ByteArray) (j : Nat) (h : j < a ∨ a + 4 ≤ j) : (putP d a b).sectors[j]? = d.sectors[j]? := by
  unfold putP
  rw [List.getElem?_set_ne (by omega), List.getElem?_set_ne (by omega), List.getElem?_set_ne (by omega), List.getElem?_set_ne (by omega)]
theorem putP_off (d : Dk) (a c : Nat) (b : ByteArray) (h : c + 4 ≤ a ∨ a + 4 ≤ c) : pgAt (putP d a b) c = pgAt d c := pgAt_same fun j h1 h2 => putP_get d a b j (by omega)
theorem putP_at {d : Dk} {a : Nat} {b : ByteArray} (hb : b.size = 512) (ha : a + 4 ≤ d.sectors.length) : pgAt (putP d a b) a = b := by
  have e : ((putP d a b).sectors.drop a).take 4 = [sec4 b 0, sec4 b 1, sec4 b 2, sec4 b 3] := by
    apply List.ext_getElem?
    intro j
    rw [List.getElem?_take]
    split
    · rename_i hj
      rw [List.getElem?_drop]
      unfold putP
      have : j = 0 ∨ j = 1 ∨ j = 2 ∨ j = 3 := by omega
      rcases this with rfl | rfl | rfl | rfl
      · rw [List.getElem?_set_ne (by omega), List.getElem?_set_ne (by omega), List.getElem?_set_ne (by omega), Nat.add_zero, List.getElem?_set_self (by omega)]; rfl
      · rw [List.getElem?_set_ne (by omega), List.getElem?_set_ne (by omega), List.getElem?_set_self (by rw [List.length_set]; omega)]; rfl
      · rw [List.getElem?_set_ne (by omega), List.getElem?_set_self (by rw [List.length_set, List.length_set]; omega)]; rfl
      · rw [List.getElem?_set_self (by rw [List.length_set, List.length_set, List.length_set]; omega)]; rfl
    · rw [List.getElem?_eq_none (by simp; omega)]
  unfold pgAt
  rw [e]
  have hl : b.data.toList.length = 512 := by simpa using hb
  apply ByteArray.ext
  apply Array.toList_inj.1
  show flat [sec4 b 0, sec4 b 1, sec4 b 2, sec4 b 3] = b.data.toList
  unfold flat sec4
  simp only [List.flatMap_cons, List.flatMap_nil, List.append_nil, part_list]
  generalize b.data.toList = l at hl
  have h1 : l = l.take 128 ++ l.drop 128 := (List.take_append_drop 128 l).symm
  have h2 : l.drop 128 = (l.drop 128).take 128 ++ l.drop 256 := by
    have := (List.take_append_drop 128 (l.drop 128)).symm
    rwa [List.drop_drop] at this
  have h3 : l.drop 256 = (l.drop 256).take 128 ++ l.drop 384 := by
    have := (List.take_append_drop 128 (l.drop 256)).symm
    rwa [List.drop_drop] at this
  have h4 : l.drop 384 = (l.drop 384).take 128 := (List.take_of_length_le (by rw [List.length_drop]; omega)).symm
  show l.take 128 ++ ((l.drop 128).take 128 ++ ((l.drop 256).take 128 ++ (l.drop 384).take 128)) = l
  rw [← h4, ← h3, ← h2, ← h1]
theorem Pw.page {N M : Nat} {d : Dk} {g : Lo} (h : Pw N M d g) {a : Nat} {b : ByteArray} (hb : b.size = 512) (ha : 1 + N ≤ a) (ha2 : a + 4 ≤ M) : Pw N M (putP d a b) g := by
  have h0 := (h.write (sec4_size hb (i := 0) (by omega)) ha (by omega)).2
  have h1 := (h0.write (sec4_size hb (i := 1) (by omega)) (i := a + 1) (by omega) (by omega)).2
  have h2 := (h1.write (sec4_size hb (i := 2) (by omega)) (i := a + 2) (by omega) (by omega)).2
  exact (h2.write (sec4_size hb (i := 3) (by omega)) (i := a + 3) (by omega) (by omega)).2
end Sc
namespace Go.Proofs.YtmebkghdkeeobaaGreatDoor
open Go.RowKit Sc
theorem fits_any (d : Lg.Dk) (A : Option Addr) (c : Nat) (a : Nat) (ha : a + 4 ≤ d.sectors.length) (hs : d.sectors.length ≤ 1000000) (w : World) :
    Calls Tryz.prog 134 #[diskV d A c, .int .i64 (a : Int)] w fun e w' => e = .returned (.bool true) ∧ Below w.heap.size w w' := by
  obtain ⟨L, left, down⟩ := d
  simp only at ha hs
  have h0 : (0 : Int) ≤ (a : Int) := by omega
  have h1 : (a : Int) ≤ (L.length : Int) - 4 := by omega
  have hw1 : IntKind.i64.wrap ((L.length : Int) - 4) = (L.length : Int) - 4 := IntWalk.i64_in _ (by omega)
  clear ha hs
  go_enter Tryz.func134, Tryz.ntmps134
  go_wp2_with fail
  go_ret
  exact ⟨by simp, allocB _ _⟩
theorem flat_more (L : List ByteArray) {a k : Nat} (h : a + k < L.length) : Lg.flat ((L.drop a).take (k + 1)) = Lg.flat ((L.drop a).take k) ++ (L[a + k]?.getD ⟨#[]⟩).data.toList := by
  have e : (L.drop a).take (k + 1) = (L.drop a).take k ++ [L[a + k]] := by
    rw [List.take_add_one, List.getElem?_drop, List.getElem?_eq_getElem h]; rfl
  rw [e, Lg.flat_append, List.getElem?_eq_getElem h, Option.getD_some]
  congr 1
  unfold Lg.flat
  simp
set_option maxRecDepth 100000 in
set_option maxHeartbeats 8000000 in
theorem creadpage_any (d : Lg.Dk) (hup : d.down = false) (hw : ∀ b ∈ d.sectors, b.size = 128) (A : Option Addr) (c : Nat) (a : Nat) (ha : a + 4 ≤ d.sectors.length) (w : World) (h : DiskR w d A c) :
    Calls Tryz.prog 101 #[diskV d A c, .int .i64 (a : Int)] w fun e w' => e = .returned (.tuple #[.string (pgAt d a), .int .i64 0]) ∧ Below w.heap.size w w' := by
  have HR := Lib.hid (fun (k : Nat) (hk : k < 4) W (hb : Below w.heap.size w W) => show Calls Tryz.prog 135 #[diskV d A c, .int .i64 ((a : Int) + (k : Int))] W fun e w' => e = .returned (.tuple #[.string (d.sectors[a + k]?.getD ⟨#[]⟩), .int .i64 0]) ∧ Below W.heap.size W w' from by
    have h9 := dread_any d A c ((a : Int) + (k : Int)) W (h.below hb)
    have e : Lg.readD d ((a : Int) + (k : Int)) = (d.sectors[a + k]?.getD ⟨#[]⟩, 0) := by
      unfold Lg.readD
      rw [if_neg (by rw [hup]; decide), if_pos (show Lg.hasD d _ from ⟨by omega, by omega⟩)]
      unfold Lg.secAt
      rw [show ((a : Int) + (k : Int)).toNat = a + k by omega]
    rw [e] at h9
    exact h9)
  have HFI := Lib.hid (fun W => fits_any d A c a ha h.small W)
  have HFL := Lib.hid (fun (k : Nat) (hk : k < 4) => flat_more d.sectors (a := a) (k := k) (by omega))
  have HSZ := Lib.hid (fun (k : Nat) (hk : k < 4) => show (d.sectors[a + k]?.getD ⟨#[]⟩).size = 128 from by rw [List.getElem?_eq_getElem (by omega), Option.getD_some]; exact hw _ (List.getElem_mem _))
  have HLE := Lib.hid (fun k (hk : k ≤ 4) => show (Lg.flat ((d.sectors.drop a).take k)).length ≤ 512 from by
    have h1 := Lg.flat_len (L := (d.sectors.drop a).take k) (fun x hx => hw x (List.mem_of_mem_drop (List.mem_of_mem_take hx)))
    have h2 := List.length_take_le k (d.sectors.drop a)
    omega)
  have HPG := Lib.hid (show pgAt d a = ⟨(Lg.flat ((d.sectors.drop a).take 4)).toArray⟩ from rfl)
  have hsm := h.small
  have ha2 : a ≤ 1000000 := by omega
  obtain ⟨L, left, down⟩ := d
  simp only at hup
  subst hup
  dsimp only [diskV] at HR HFI ⊢
  simp only at HFL HSZ HPG HLE ha
  generalize pgAt ⟨L, left, false⟩ a = pp at HPG ⊢
  clear h hw hsm
  clear ha
  go_enter Tryz.func101, Tryz.ntmps101
  go_upto_region 1 with fail
  have HD0 := Lib.hid (heap_alloc_new w (.cells #[.slice A L.length c, .int .i64 left, .bool false] 28))
  have HB0 := Lib.hid (allocB w (.cells #[.slice A L.length c, .int .i64 left, .bool false] 28))
  obtain ⟨W0, hW0⟩ : ∃ W, W = w.alloc (.cells #[.slice A L.length c, .int .i64 left, .bool false] 28) := ⟨_, rfl⟩
  rw [← hW0] at HD0 HB0 ⊢
  clear hW0
  have hdn := show W0.cell? ⟨w.heap.size, 2, none⟩ = some (.bool false) from by rw [blkCell HD0.out]; rfl
  go_upto_region 4 with (first
    | (with_reducible refine listLoad (by kernel_rfl) 28 (.tmp 2) rfl w.heap.size rfl #[.slice A L.length c, .int .i64 left, .bool false] _ HD0.out _ Tryz.underlying28 (by kernel_rfl) (by kernel_rfl) ?_)
    | (go_at_call 134; (with_reducible refine (HFI.out _).mono ?_); rintro e w1 ⟨rfl, hb1⟩))
  clear hdn
  have HD1 := Lib.hid (blkOld (blkOld HD0.out hb1) (allocB w1 (.cells #[.pointer none, .slice none 0 0] 118)))
  have HG1 := Lib.hid (heap_alloc_new w1 (.cells #[.pointer none, .slice none 0 0] 118))
  have HB1 := Lib.hid (joinB HB0.out (joinB hb1 (allocB w1 (.cells #[.pointer none, .slice none 0 0] 118))))
  have hgl : w.heap.size < w1.heap.size := Nat.lt_of_lt_of_le (heapLt HD0.out) hb1.size
  obtain ⟨g, hg⟩ : ∃ g, g = w1.heap.size := ⟨_, rfl⟩
  obtain ⟨W1, hW1⟩ : ∃ W, W = w1.alloc (.cells #[.pointer none, .slice none 0 0] 118) := ⟨_, rfl⟩
  have hz : W1.heap.size = g + 1 := by rw [hW1, hg]; simp
  rw [← hg, ← hW1] at HG1
  rw [← hW1] at HD1 HB1
  rw [← hW1, ← hg]
  rw [← hg] at hgl
  have HZ := Lib.hid hz
  clear hW1 hg hb1 HD0 HB0 hz
  try simp only [Act.put]
  go_wp2_with fail
  go_loopw [19] (fun i wr => ∃ k : Nat, k ≤ 4 ∧ i = .int .i64 (k : Int) ∧ Bld (g + 1) wr.heap.size g (Lg.flat ((L.drop a).take k)) wr ∧ KeptB (g + 1) g W1 wr) (fun i _ => 4 - (intOf i).toNat)
  case atStart => exact ⟨0, by omega, rfl, Bld.fresh _ _ _ _ (by omega) HG1.out, KeptB.refl _ _ _⟩
  case round =>
    obtain ⟨k, hk, rfl, hbld, hkept⟩ := hrel
    have HBL := Lib.hid hbld
    have HK := Lib.hid hkept
    have hws : W1.heap.size ≤ wr.heap.size := hkept.size
    have hzz := HZ.out
    have hbw : Below w.heap.size w wr := HB1.out.trans (HK.out.below (by omega) (by omega))
    have HBW := Lib.hid hbw
    clear hbld hkept hbw
    by_cases hlt : k < 4
    · have hwr : IntKind.i64.wrap ((a : Int) + (k : Int)) = (a : Int) + (k : Int) := IntWalk.i64_in _ (by omega)
      have HDB := Lib.hid (show wr.heap[w.heap.size]? = some (.cells #[.slice A L.length c, .int .i64 left, .bool false] 28 (0, 0)) from (HK.out.block _ (by omega) (by omega)).trans HD1.out)
      have HRD := Lib.hid (HR.out k hlt wr HBW.out)
      have HF2 := Lib.hid (HFL.out k hlt)
      have hsz := HSZ.out k hlt
      generalize L[a + k]?.getD ⟨#[]⟩ = x at HRD HF2 hsz
      have hll := HLE.out k (by omega)
      generalize Lg.flat ((L.drop a).take k) = l at HBL HF2 hll
      have HLL := Lib.hid hll
      clear hll
      go_wp2_with (first
        | (with_reducible refine listLoad (by kernel_rfl) 28 (.tmp 2) rfl w.heap.size rfl #[.slice A L.length c, .int .i64 left, .bool false] _ HDB.out _ Tryz.underlying28 (by kernel_rfl) (by kernel_rfl) ?_)
        | (go_at_call 135; (with_reducible refine HRD.out.mono ?_); rintro e w2 ⟨rfl, hb1⟩; have HB2 := Lib.hid (HBL.out.below hb1); have HK2 := Lib.hid (HK.out.trans (KeptB.of_below (by omega) hb1)); have hs1 := hb1.size; clear hb1)
        | (go_at_call 71; (with_reducible refine (write_any _ _ _ _ _ _ HB2.out (by have := HLL.out; omega) (by omega)).mono ?_); rintro e w3 ⟨rfl, hbld2, hk2⟩; have HB3 := Lib.hid hbld2; have HK3 := Lib.hid (HK2.out.trans hk2); clear hbld2 hk2))
      go_roundw
      case rel => exact ⟨k + 1, by omega, by go_num, by rw [HF2.out]; exact HB3.out, HK3.out⟩
      case measure => simp [intOf]; omega
    · obtain rfl : k = 4 := by omega
      go_wp2_with ((go_at_call 72; (with_reducible refine (string_any _ _ _ _ _ HBL.out).mono ?_); rintro e w2 ⟨rfl, hk2⟩))
      go_ret2
      exact ⟨by rw [HPG.out]; rfl, HBW.out.trans (hk2.below (by omega) HBW.out.size)⟩
end Go.Proofs.YtmebkghdkeeobaaGreatDoor
