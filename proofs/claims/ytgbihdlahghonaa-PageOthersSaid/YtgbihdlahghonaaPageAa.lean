/- The example of the page's statements: the plain facts. -/
import Derived.Test.YtgbihdlahghonaaPagePlain5
namespace Go.Proofs.Ytgbihdlahghonaa
open Go.RowKit

theorem crc_app (n : Nat) (a b : List UInt8) : Oct.crcFrom n (a ++ b) = Oct.crcFrom (Oct.crcFrom n a) b := by
  unfold Oct.crcFrom; rw [List.foldl_append]
theorem crc_zeros (n a b : Nat) {x y : Nat} (h1 : Oct.crcFrom n (List.replicate a 0) = x) (h2 : Oct.crcFrom x (List.replicate b 0) = y) : Oct.crcFrom n (List.replicate (a + b) 0) = y := by
  rw [← List.replicate_append_replicate, crc_app, h1, h2]
theorem crcH : Oct.crcFrom 4294967295 [0, 0, 0, 0, 0, 0, 2, 0, 0, 0, 0, 0, 0, 2, 0] = 887928348 := by decide +kernel
theorem crcZ0 : Oct.crcFrom 887928348 (List.replicate 16 0) = 54795921 := by decide +kernel
theorem crcZ1 : Oct.crcFrom 54795921 (List.replicate 16 0) = 1484575205 := by decide +kernel
theorem crcZ2 : Oct.crcFrom 1484575205 (List.replicate 16 0) = 4111709296 := by decide +kernel
theorem crcZ3 : Oct.crcFrom 4111709296 (List.replicate 16 0) = 3394794535 := by decide +kernel
theorem crcZ4 : Oct.crcFrom 3394794535 (List.replicate 16 0) = 1426865142 := by decide +kernel
theorem crcZ5 : Oct.crcFrom 1426865142 (List.replicate 16 0) = 4228457833 := by decide +kernel
theorem crcZ6 : Oct.crcFrom 4228457833 (List.replicate 16 0) = 1896488036 := by decide +kernel
theorem crcZ7 : Oct.crcFrom 1896488036 (List.replicate 16 0) = 1504872497 := by decide +kernel
theorem crcZ8 : Oct.crcFrom 1504872497 (List.replicate 16 0) = 2578102828 := by decide +kernel
theorem crcZ9 : Oct.crcFrom 2578102828 (List.replicate 16 0) = 1525301325 := by decide +kernel
theorem crcZ10 : Oct.crcFrom 1525301325 (List.replicate 16 0) = 58926297 := by decide +kernel
theorem crcZ11 : Oct.crcFrom 58926297 (List.replicate 16 0) = 163501636 := by decide +kernel
theorem crcZ12 : Oct.crcFrom 163501636 (List.replicate 16 0) = 2080411192 := by decide +kernel
theorem crcZ13 : Oct.crcFrom 2080411192 (List.replicate 16 0) = 28440349 := by decide +kernel
theorem crcZ14 : Oct.crcFrom 28440349 (List.replicate 16 0) = 1418447471 := by decide +kernel
theorem crcZ15 : Oct.crcFrom 1418447471 (List.replicate 16 0) = 1369478533 := by decide +kernel
theorem crcZ16 : Oct.crcFrom 1369478533 (List.replicate 16 0) = 2244843603 := by decide +kernel
theorem crcZ17 : Oct.crcFrom 2244843603 (List.replicate 16 0) = 3968344489 := by decide +kernel
theorem crcZ18 : Oct.crcFrom 3968344489 (List.replicate 16 0) = 596560455 := by decide +kernel
theorem crcZ19 : Oct.crcFrom 596560455 (List.replicate 16 0) = 1990747398 := by decide +kernel
theorem crcZ20 : Oct.crcFrom 1990747398 (List.replicate 16 0) = 1165474009 := by decide +kernel
theorem crcZ21 : Oct.crcFrom 1165474009 (List.replicate 16 0) = 729189790 := by decide +kernel
theorem crcZ22 : Oct.crcFrom 729189790 (List.replicate 16 0) = 1858841555 := by decide +kernel
theorem crcZ23 : Oct.crcFrom 1858841555 (List.replicate 16 0) = 3694988457 := by decide +kernel
theorem crcZ24 : Oct.crcFrom 3694988457 (List.replicate 16 0) = 4231704257 := by decide +kernel
theorem crcZ25 : Oct.crcFrom 4231704257 (List.replicate 16 0) = 236921480 := by decide +kernel
theorem crcZ26 : Oct.crcFrom 236921480 (List.replicate 16 0) = 3312286110 := by decide +kernel
theorem crcZ27 : Oct.crcFrom 3312286110 (List.replicate 16 0) = 3516469471 := by decide +kernel
theorem crcZ28 : Oct.crcFrom 3516469471 (List.replicate 16 0) = 1640839880 := by decide +kernel
theorem crcZ29 : Oct.crcFrom 1640839880 (List.replicate 16 0) = 208483093 := by decide +kernel
theorem crcZ30 : Oct.crcFrom 208483093 (List.replicate 13 0) = 1273219724 := by decide +kernel
theorem crcAll : Oct.crcFrom 887928348 (List.replicate 493 0) = 1273219724 := crc_zeros _ 16 477 crcZ0 (crc_zeros _ 16 461 crcZ1 (crc_zeros _ 16 445 crcZ2 (crc_zeros _ 16 429 crcZ3 (crc_zeros _ 16 413 crcZ4 (crc_zeros _ 16 397 crcZ5 (crc_zeros _ 16 381 crcZ6 (crc_zeros _ 16 365 crcZ7 (crc_zeros _ 16 349 crcZ8 (crc_zeros _ 16 333 crcZ9 (crc_zeros _ 16 317 crcZ10 (crc_zeros _ 16 301 crcZ11 (crc_zeros _ 16 285 crcZ12 (crc_zeros _ 16 269 crcZ13 (crc_zeros _ 16 253 crcZ14 (crc_zeros _ 16 237 crcZ15 (crc_zeros _ 16 221 crcZ16 (crc_zeros _ 16 205 crcZ17 (crc_zeros _ 16 189 crcZ18 (crc_zeros _ 16 173 crcZ19 (crc_zeros _ 16 157 crcZ20 (crc_zeros _ 16 141 crcZ21 (crc_zeros _ 16 125 crcZ22 (crc_zeros _ 16 109 crcZ23 (crc_zeros _ 16 93 crcZ24 (crc_zeros _ 16 77 crcZ25 (crc_zeros _ 16 61 crcZ26 (crc_zeros _ 16 45 crcZ27 (crc_zeros _ 16 29 crcZ28 (crc_zeros _ 16 13 crcZ29 (crcZ30))))))))))))))))))))))))))))))

theorem layR_congr (x y : Pg.Leaf) (h1 : x.lsn = y.lsn) (h2 : x.kind = y.kind) (h3 : x.link = y.link) (rs : List ByteArray) : Pg.layR x rs = Pg.layR y rs := by
  unfold Pg.layR Pg.headL
  rw [h1, h2, h3]
def exA : Pg.Leaf := ⟨0, 2, 0, []⟩
def exB : Pg.Leaf := ⟨0, 2, 0, [⟨#[]⟩, ⟨#[97, 98]⟩]⟩
def exP : ByteArray := pageB exA
def exQ : ByteArray := pageB exB
theorem exA_small : Pg.Small exA := ⟨by decide, by decide, by decide⟩
theorem exA_is : isPg exP = true ∧ leafP exP = exA := pageB_is exA_small (by decide) (by intro r hr; cases hr)
theorem exB_each : ∀ r ∈ exB.recs, r.size ≤ 400 := by decide
theorem exB_trim : Pg.trim exB.recs = exB.recs := by decide
theorem exB_fits : Pg.sizeN (Pg.trim exB.recs) ≤ 512 := by decide
theorem exB_is : isPg exQ = true ∧ leafP exQ = exB := by
  have h := pageB_is (x := exB) ⟨by decide, by decide, by decide⟩ exB_fits exB_each
  rw [exB_trim] at h
  exact h
theorem ex0 : newB 2 = exP := rfl
theorem ex1 : putO exP 1 ⟨#[97, 98]⟩ = (exQ, 0) := by
  unfold putO withRecs
  rw [exA_is.1, exA_is.2]
  exact fullO_pageB (x := exB) exB_fits
theorem ex2 : Pg.slotAt (leafP exQ).recs 1 = ⟨#[97, 98]⟩ := by rw [exB_is.2]; rfl
theorem ex3 : putO exQ 1 ⟨#[99]⟩ = (⟨#[]⟩, 1) := by
  unfold putO
  rw [exB_is.1, exB_is.2]
  rfl
theorem exC_trim : Pg.trim [⟨#[]⟩, ⟨#[]⟩] = [] := by decide
theorem ex4 : cutO exQ 1 = (exP, 0) := by
  unfold cutO withRecs
  rw [exB_is.1, exB_is.2]
  have h : Pg.sizeN (Pg.trim ({ exB with recs := Pg.putAt exB.recs 1 ⟨#[]⟩ } : Pg.Leaf).recs) ≤ 512 := by decide
  refine (fullO_pageB (x := { exB with recs := Pg.putAt exB.recs 1 ⟨#[]⟩ }) h).trans ?_
  have ht : Pg.trim (Pg.putAt exB.recs 1 ⟨#[]⟩) = [] := by decide
  have ht2 : Pg.trim ([] : List ByteArray) = [] := by decide
  have e : Pg.layL ({ exB with recs := Pg.putAt exB.recs 1 ⟨#[]⟩ } : Pg.Leaf) = Pg.layL exA := by
    show Pg.layR _ (Pg.trim (Pg.putAt exB.recs 1 ⟨#[]⟩)) = Pg.layR exA (Pg.trim [])
    rw [ht, ht2]
    exact layR_congr _ _ rfl rfl rfl _
  unfold exP pageB
  rw [e]
theorem ex5 : exP.size = 512 := pageB_size (x := exA) (by decide)
theorem exP_list : exP.data.toList = Oct.putL 0 4 ++ ([0, 0, 0, 0, 0, 0, 2, 0, 0, 0, 0, 0, 0, 2, 0] ++ List.replicate 493 0) := by
  have e1 : Pg.trim exA.recs = [] := by decide
  have e2 : 512 - Pg.sizeN [] = 493 := by decide
  have e3 : Pg.headT exA ([] : List ByteArray).length (512 - Pg.sumSizes []) = [0, 0, 0, 0, 0, 0, 2, 0, 0, 0, 0, 0, 0, 2, 0] := by decide +kernel
  have e4 : Pg.slotsL 512 [] = [] := rfl
  have e5 : Pg.bodyL [] = [] := rfl
  show Pg.layL exA = _
  rw [Pg.layL_tail (by decide), e1]
  unfold Pg.tailR
  rw [e2, e3, e4, e5, List.nil_append, List.append_nil]
theorem ex6 : exP.extract 17 19 = ⟨#[2, 0]⟩ := by
  have e : (Oct.putL 0 4 ++ ([0, 0, 0, 0, 0, 0, 2, 0, 0, 0, 0, 0, 0, 2, 0] ++ List.replicate 493 0)) = (Oct.putL 0 4 ++ [0, 0, 0, 0, 0, 0, 2, 0, 0, 0, 0, 0, 0]) ++ ([2, 0] ++ List.replicate 493 0) := by
    simp only [List.append_assoc, List.cons_append, List.nil_append]
  rw [show 19 = 17 + 2 from rfl, extract_eq, exP_list, e, List.drop_left' (by rfl), List.take_left' (by rfl)]
theorem ex7 : roomP exP = 400 := by
  unfold roomP
  rw [exA_is.1, exA_is.2]
  rfl
theorem ex8 : (leafP exQ).recs.length = 2 := by rw [exB_is.2]; rfl
theorem ex9 : Pg.freeN (leafP exQ).recs = 0 := by rw [exB_is.2]; rfl
theorem ex10 : (leafP exQ).kind = 2 := by rw [exB_is.2]; rfl
theorem exTail : exP.data.toList.drop 4 = [0, 0, 0, 0, 0, 0, 2, 0, 0, 0, 0, 0, 0, 2, 0] ++ List.replicate 493 0 := by
  rw [exP_list]
  exact List.drop_left' (Oct.putL_length 0 4)
theorem crc_two (l1 l2 : List UInt8) (n a b : Nat) (h1 : Oct.crcFrom n l1 = a) (h2 : Oct.crcFrom a l2 = b) : Oct.crcFrom n (l1 ++ l2) = b := by
  rw [crc_app, h1, h2]
theorem sum_of (l : List UInt8) (a b : Nat) (h : Oct.crcFrom 4294967295 l = a) (hb : a ^^^ 4294967295 = b) : Oct.sumN l = b := by
  unfold Oct.sumN; rw [h, hb]
theorem exSum0 : Oct.sumN ([0, 0, 0, 0, 0, 0, 2, 0, 0, 0, 0, 0, 0, 2, 0] ++ List.replicate 493 0) = 3021747571 :=
  sum_of _ 1273219724 _ (crc_two _ _ _ _ _ crcH crcAll) (by decide +kernel)
theorem exSum : Oct.sumN (exP.data.toList.drop 4) = 3021747571 := by
  rw [exTail, exSum0]
theorem ex11 : sealedP exP = false := by
  unfold sealedP
  rw [exA_is.1, Bool.true_and]
  apply decide_eq_false
  intro h
  have h1 : (sealT (exP.extract 4 512)).data.toList.take 4 = exP.data.toList.take 4 := by rw [h]
  rw [sealT_list, extract_list _ ex5, exSum, exP_list, List.take_left' (Oct.putL_length _ 4), List.take_left' (Oct.putL_length _ 4)] at h1
  revert h1
  decide +kernel
theorem ex12 : sealedP (sealB exP) = true := (sealB_is exA_is.1).2.2.1
theorem ex13 : exQ.size = 512 := pageB_size (x := exB) exB_fits
theorem exQ_list : exQ.data.toList = Oct.putL 0 4 ++ (Pg.headT exB 2 510 ++ (Pg.slotsL 512 exB.recs ++ (List.replicate 483 0 ++ [97, 98]))) := by
  show Pg.layL exB = _
  rw [Pg.layL_tail exB_fits, exB_trim]
  rfl
theorem ex14 : exQ.extract 510 512 = ⟨#[97, 98]⟩ := by
  have h : ∀ (a : List UInt8), a.length = 510 → ((a ++ [97, 98]).drop 510).take 2 = [97, 98] := fun a ha => by
    rw [List.drop_left' ha]; rfl
  rw [show 512 = 510 + 2 from rfl, extract_eq, exQ_list]
  have e : (Oct.putL 0 4 ++ (Pg.headT exB 2 510 ++ (Pg.slotsL 512 exB.recs ++ (List.replicate 483 0 ++ [97, 98])))) = (Oct.putL 0 4 ++ (Pg.headT exB 2 510 ++ (Pg.slotsL 512 exB.recs ++ List.replicate 483 0))) ++ [97, 98] := by
    simp only [List.append_assoc]
  rw [e, h _ (by simp only [List.length_append, Oct.putL_length, Pg.headT_length, Pg.slotsL_length, List.length_replicate]; rfl)]
theorem ex15 : newB 5 = ⟨#[]⟩ := rfl
theorem ex16 : (sealB exP).size = 512 := (sealB_is exA_is.1).2.2.2
end Go.Proofs.Ytgbihdlahghonaa
