/- The statement TxnApart is proved: of any two lots of numbers the transactions made of them are the same for the program just where they are the same for the document, just where their bytes are equal, and just where the one's bytes begin with the other one's. For every input, without a condition. -/
import Derived.Test.YtnlfhbohcgjcbaaCTxnApartm0
import Derived.Test.YtnlfhbohcgjcbaaCTxnApartm1
import Derived.Test.YtnlfhbohcgjcbaaCTxnApartm2
import Derived.OpenShut
import Derived.KernelRfl
import Derived.Test.YtnlfhbohcgjcbaaRows
import Derived.WalkKit
import Derived.ProofKit
import Derived.ShutString
import Derived.ChangeOld
import Derived.Below
import Derived.SizedLaws
import Derived.Test.YtnlfhbohcgjcbaaWSized
namespace Go.Proofs.Ytnlfhbohcgjcbaa.PA
open Go.RowKit Go.Proofs.YtnlfhbohcgjcbaaW.PrintWords Go.Proofs.YtnlfhbohcgjcbaaW.PrintLast Go.Proofs.YtnlfhbohcgjcbaaW.PrintMore
attribute [local go_sem] max2_int min2_int max_two min_two max_three min_three max_four min_four
set_option linter.unusedVariables false
set_option linter.unusedSimpArgs false
def diwanlaw5_TxnApart.j0 : Nat → List Int → List Int → Bool → Option (Bool)
 | 0, _, _, _ => none
 | k + 1, x0, x1, x20 => if x20 = true then (some true) else ((diwanplay_Made.f x0).bind fun bt394 => ((diwanplay_Picks_Txn.f k bt394.1 bt394.2 4).bind fun bt397 => ((diwanplay_Made.f x1).bind fun bt406 => ((diwanplay_Picks_Txn.f k bt406.1 bt406.2 4).bind fun bt409 => ((txn_Put.f k bt397.1 bt397.2.1 bt397.2.2.1 bt397.2.2.2.1).bind fun t420 => ((txn_Put.f k bt409.1 bt409.2.1 bt409.2.2.1 bt409.2.2.2.1).bind fun t423 => ((diwanref1_SameTxn.f k bt397.1 bt397.2.1 bt397.2.2.1 bt397.2.2.2.1 bt409.1 bt409.2.1 bt409.2.2.1 bt409.2.2.2.1).bind fun t426 => (if (t420.length : Int) = 0 then (none) else (if (t423.length : Int) = 0 then (none) else (if (t420.length : Int) ≤ (t423.length : Int) then (if 0 ≤ (mn (t420.length : Int) (t423.length : Int)) then (if (mn (t420.length : Int) (t423.length : Int)) ≤ (t423.length : Int) then ((txn_Same.f k bt397.1 bt397.2.1 bt397.2.2.1 bt397.2.2.2.1 bt409.1 bt409.2.1 bt409.2.2.1 bt409.2.2.2.1).bind fun t431 => (if (t431 == t426) = true then (if (((strOfNums (t423.take ((mn (t420.length : Int) (t423.length : Int)) : Int).toNat)).toList == (strOfNums t420).toList) == t426) = true then (some (((strOfNums t420).toList == (strOfNums t423).toList) == t426)) else (none)) else (none))) else (none)) else (none)) else ((txn_Same.f k bt397.1 bt397.2.1 bt397.2.2.1 bt397.2.2.2.1 bt409.1 bt409.2.1 bt409.2.2.1 bt409.2.2.2.1).bind fun t432 => (if (t432 == t426) = true then (if (false == t426) = true then (some (((strOfNums t420).toList == (strOfNums t423).toList) == t426)) else (none)) else (none)))))))))))))
def diwanlaw5_TxnApart.f (k : Nat) (l0 : List Int) (l1 : List Int) : Option (Bool) := (diwanlaw5_begun.f k).bind fun t393 => (if t393 = true then (if (l0.length : Int) > 30 then (diwanlaw5_TxnApart.j0 k l0 l1 true) else (diwanlaw5_TxnApart.j0 k l0 l1 (decide ((l1.length : Int) > 30)))) else (none))
def diwanlaw5_TxnApart.T10 : Bool × List (List Nat × List Nat) := (true, [([], []), ([0], [0]), ([], []), ([2], [2]), ([1, 3], [1, 3]), ([4], [4]), ([5], [5]), ([5], [5]), ([7, 5], [5, 7]), ([5], [5]), ([9, 5], [5, 9]), ([8, 10, 5], [5, 8, 10]), ([6, 11, 5], [5, 6, 11]), ([12, 5], [5, 12]), ([5], [5]), ([14, 5], [5, 14]), ([13, 15, 5], [5, 13, 15]), ([5, 16], [5, 16]), ([17, 5, 0, 1, 2, 3, 4, 5, 6, 7, 8, 9, 10, 11, 12, 13, 14, 15, 16, 17], [17])])
def diwanlaw5_TxnApart.B10 : List Nat := [0, 1, 0, 4, 15, 31, 63, 63, 191, 63, 575, 1983, 4095, 8191, 63, 16447, 65535, 131071, 262143]
theorem diwanlaw5_TxnApart.tab10 : rtab .any (opsOf Try.f5 10) = diwanlaw5_TxnApart.T10 := by kernel_rfl
theorem diwanlaw5_TxnApart.bits10 : waitsOk diwanlaw5_TxnApart.T10.2 diwanlaw5_TxnApart.B10 = true := by kernel_rfl
set_option maxHeartbeats 8000000 in
set_option maxRecDepth 100000 in
theorem diwanlaw5_TxnApart.calls (k : Nat) (A0 : Option Addr) (c0 : Nat) (l0 : List Int) (A1 : Option Addr) (c1 : Nat) (l1 : List Int) (r : Bool) (w : World) (hr0 : Kd.C (Kd.int .u8) w A0 l0.length l0) (hc0 : l0.length ≤ c0) (hr1 : Kd.C (Kd.int .u8) w A1 l1.length l1) (hc1 : l1.length ≤ c1) (h : diwanlaw5_TxnApart.f k l0 l1 = some r) :
  Calls Try.prog 5 #[.slice A0 l0.length c0, .slice A1 l1.length c1] w fun e w' => e = .returned (.bool r) ∧ Below w.heap.size w w' := by
 have hu30 := Try.underlying30
 have HR0 := Aside0.mk hr0
 have HC0 := Aside0.mk hc0
 clear hr0 hc0
 have HR1 := Aside0.mk hr1
 have HC1 := Aside0.mk hc1
 clear hr1 hc1
 have HB := Aside0.mk (Below.refl w.heap.size w)
 have H : ((diwanlaw5_begun.f k).bind fun t393 => (if t393 = true then (if (l0.length : Int) > 30 then (diwanlaw5_TxnApart.j0 k l0 l1 true) else (diwanlaw5_TxnApart.j0 k l0 l1 (decide ((l1.length : Int) > 30)))) else (none))) = some r := h
 clear h
 replace H := Option.bind_eq_some_iff.mp H
 obtain ⟨t393, A30, H⟩ := H
 (try dsimp only at H)
 have A3 := Aside0.mk A30
 clear A30
 by_cases c4 : t393 = true
 ·subst c4
  have H1 : (if (l0.length : Int) > 30 then (diwanlaw5_TxnApart.j0 k l0 l1 true) else (diwanlaw5_TxnApart.j0 k l0 l1 (decide ((l1.length : Int) > 30)))) = some r := by rw [if_pos rfl] at H; exact H
  clear H
  have H := H1
  clear H1
  have HC5 := Aside0.mk H
  clear H
  go_enter Try.func5, Try.ntmps5
  go_upto_region 3 with (first | ((with_reducible refine gate_callee (f := 17) rfl ?_); refine goesM_ (some 11) Try.func17 #[] ?_; (with_reducible refine (diwanlaw5_begun.calls k  true _ A3.out).mono ?_); rintro e w6 ⟨rfl, hb⟩; refine ⟨_, rfl, ?_⟩; have n0_ := Aside0.mk (below_step (by repeat (with_reducible first | exact HB.out | apply ba_ | apply bn_ | apply bd_)) hb); clear HB; have HB := n0_; clear n0_; clear hb))
  (try simp only [Act.put, List.setIfInBounds_toArray, List.set_cons_zero, List.set_cons_succ])
  go_cut [20] (fun v20 wc => ∃ (kq : Nat) (x20_4 : Bool), v20 = .bool x20_4 ∧ Aside0 (diwanlaw5_TxnApart.j0 kq l0 l1 x20_4 = some r) ∧ Aside0 (kq ≤ k) ∧ Aside0 (Below w.heap.size w wc))
  case first =>
   have H := HC5.out
   clear HC5
   by_cases c7 : (l0.length : Int) > 30
   ·rw [if_pos c7] at H
    have c7b0 : decide (30 < (l0.length : Int)) = true := decide_eq_true c7
    have c7b1 : decide (30 < l0.length) = true := decide_eq_true (by omega)
    clear c7
    (first | rw [c7b0] | (simp only [i64_w, i32_w]; rw [c7b0]) | skip)
    have H' := Aside0.mk H
    clear H
    go_wp2
    go_meet
    case rel => exact ⟨_, (true), (by first | rfl | (simp; done) | (simp [*]; done)), H', ⟨by first | omega | exact Nat.le_refl _⟩, ⟨by repeat (with_reducible first | exact HB.out | apply ba_ | apply bn_ | apply bd_)⟩⟩
   ·rw [if_neg c7] at H
    have c7b0 : decide (30 < (l0.length : Int)) = false := decide_eq_false c7
    have c7b1 : decide (30 < l0.length) = false := decide_eq_false (by omega)
    clear c7
    (first | rw [c7b0] | (simp only [i64_w, i32_w]; rw [c7b0]) | skip)
    have H' := Aside0.mk H
    clear H
    go_wp2
    go_meet
    case rel => exact ⟨_, (decide ((l1.length : Int) > 30)), (by first | rfl | (simp; done) | (simp [*]; done)), H', ⟨by first | omega | exact Nat.le_refl _⟩, ⟨by repeat (with_reducible first | exact HB.out | apply ba_ | apply bn_ | apply bd_)⟩⟩
  case rest =>
   clear HC5
   try clear c1
   try clear p2
   try clear c4
   try clear c5
   try clear c7
   try clear c7b0
   try clear c7b1
   obtain ⟨kq, x20_4, rfl, HA, HJ4, HB⟩ := hcut
   cases kq with
   | zero => exact absurd HA.out (by simp [diwanlaw5_TxnApart.j0])
   | succ kj4 =>
    have H := HA.out
    clear HA
    simp only [diwanlaw5_TxnApart.j0] at H
    by_cases c8 : x20_4 = true
    ·subst c8
     have H1 : (some true) = some r := by rw [if_pos rfl] at H; exact H
     clear H
     have H := H1
     clear H1
     obtain rfl := Option.some.inj H
     go_wp2
     go_ret
     exact ⟨by first | rfl | (simp [errW_none, errW_some] <;> rfl) | (simp [*, errW_none, errW_some] <;> rfl), by repeat (with_reducible first | exact HB.out | apply ba_ | apply bn_ | apply bd_)⟩
    ·replace c8 := Bool.eq_false_iff.mpr c8
     subst c8
     have H1 : ((diwanplay_Made.f l0).bind fun bt394 => ((diwanplay_Picks_Txn.f kj4 bt394.1 bt394.2 4).bind fun bt397 => ((diwanplay_Made.f l1).bind fun bt406 => ((diwanplay_Picks_Txn.f kj4 bt406.1 bt406.2 4).bind fun bt409 => ((txn_Put.f kj4 bt397.1 bt397.2.1 bt397.2.2.1 bt397.2.2.2.1).bind fun t420 => ((txn_Put.f kj4 bt409.1 bt409.2.1 bt409.2.2.1 bt409.2.2.2.1).bind fun t423 => ((diwanref1_SameTxn.f kj4 bt397.1 bt397.2.1 bt397.2.2.1 bt397.2.2.2.1 bt409.1 bt409.2.1 bt409.2.2.1 bt409.2.2.2.1).bind fun t426 => (if (t420.length : Int) = 0 then (none) else (if (t423.length : Int) = 0 then (none) else (if (t420.length : Int) ≤ (t423.length : Int) then (if 0 ≤ (mn (t420.length : Int) (t423.length : Int)) then (if (mn (t420.length : Int) (t423.length : Int)) ≤ (t423.length : Int) then ((txn_Same.f kj4 bt397.1 bt397.2.1 bt397.2.2.1 bt397.2.2.2.1 bt409.1 bt409.2.1 bt409.2.2.1 bt409.2.2.2.1).bind fun t431 => (if (t431 == t426) = true then (if (((strOfNums (t423.take ((mn (t420.length : Int) (t423.length : Int)) : Int).toNat)).toList == (strOfNums t420).toList) == t426) = true then (some (((strOfNums t420).toList == (strOfNums t423).toList) == t426)) else (none)) else (none))) else (none)) else (none)) else ((txn_Same.f kj4 bt397.1 bt397.2.1 bt397.2.2.1 bt397.2.2.2.1 bt409.1 bt409.2.1 bt409.2.2.1 bt409.2.2.2.1).bind fun t432 => (if (t432 == t426) = true then (if (false == t426) = true then (some (((strOfNums t420).toList == (strOfNums t423).toList) == t426)) else (none)) else (none))))))))))))) = some r := by rw [if_neg (show ¬ (false = true) by decide)] at H; exact H
     clear H
     have H := H1
     clear H1
     replace H := Option.bind_eq_some_iff.mp H
     obtain ⟨⟨t394, t395⟩, A90, H⟩ := H
     (try dsimp only at H)
     have A9 := Aside0.mk A90
     clear A90
     replace H := Option.bind_eq_some_iff.mp H
     obtain ⟨⟨t397, t398, t399, t402, t405⟩, A100, H⟩ := H
     (try dsimp only at H)
     have A10 := Aside0.mk A100
     clear A100
     replace H := Option.bind_eq_some_iff.mp H
     obtain ⟨⟨t406, t407⟩, A110, H⟩ := H
     (try dsimp only at H)
     have A11 := Aside0.mk A110
     clear A110
     replace H := Option.bind_eq_some_iff.mp H
     obtain ⟨⟨t409, t410, t411, t414, t417⟩, A120, H⟩ := H
     (try dsimp only at H)
     have A12 := Aside0.mk A120
     clear A120
     replace H := Option.bind_eq_some_iff.mp H
     obtain ⟨t420, A130, H⟩ := H
     (try dsimp only at H)
     have A13 := Aside0.mk A130
     clear A130
     replace H := Option.bind_eq_some_iff.mp H
     obtain ⟨t423, A140, H⟩ := H
     (try dsimp only at H)
     have A14 := Aside0.mk A140
     clear A140
     replace H := Option.bind_eq_some_iff.mp H
     obtain ⟨t426, A150, H⟩ := H
     (try dsimp only at H)
     have A15 := Aside0.mk A150
     clear A150
     by_cases c16 : (t420.length : Int) = 0
     ·rw [if_pos c16] at H
      exact absurd H (by simp)
     ·rw [if_neg c16] at H
      have c16b0 : ((t420.length : Int) == 0) = false := beq_eq_false_iff_ne.mpr c16
      have c16b1 : ((t420.length : Int) != 0) = true := bne_iff_ne.mpr c16
      have c16b2 : ¬ (t420 = []) := fun h_ => c16 (by rw [h_]; rfl)
      by_cases c17 : (t423.length : Int) = 0
      ·rw [if_pos c17] at H
       exact absurd H (by simp)
      ·rw [if_neg c17] at H
       have c17b0 : ((t423.length : Int) == 0) = false := beq_eq_false_iff_ne.mpr c17
       have c17b1 : ((t423.length : Int) != 0) = true := bne_iff_ne.mpr c17
       have c17b2 : ¬ (t423 = []) := fun h_ => c17 (by rw [h_]; rfl)
       by_cases c18 : (t420.length : Int) ≤ (t423.length : Int)
       ·rw [if_pos c18] at H
        have c18b0 : decide ((t420.length : Int) ≤ (t423.length : Int)) = true := decide_eq_true c18
        have c18b1 : decide (t420.length ≤ t423.length) = true := decide_eq_true (Int.ofNat_le.mp c18)
        clear c18
        obtain ⟨ji19, hji19⟩ : ∃ j_ : Int, (mn (t420.length : Int) (t423.length : Int)) = j_ := ⟨_, rfl⟩
        replace H : (if 0 ≤ (ji19) then (if (ji19) ≤ (t423.length : Int) then ((txn_Same.f kj4 t397 t398 t399 t402 t409 t410 t411 t414).bind fun t431 => (if (t431 == t426) = true then (if (((strOfNums (t423.take ((ji19) : Int).toNat)).toList == (strOfNums t420).toList) == t426) = true then (some (((strOfNums t420).toList == (strOfNums t423).toList) == t426)) else (none)) else (none))) else (none)) else (none)) = some r := by first | (rw [hji19] at H; exact H) | (simp only [hji19] at H ⊢; exact H)
        (try rw [hji19] at A9)
        (try rw [hji19] at A10)
        (try rw [hji19] at A11)
        (try rw [hji19] at A12)
        (try rw [hji19] at A13)
        (try rw [hji19] at A14)
        (try rw [hji19] at A15)
        (try (have hji19l : 0 ≤ ji19 := by (rw [← hji19]; unfold mn; (repeat' split) <;> omega)))
        (try (have hji19m : 0 ≤ ji19 := by omega))
        have hji19_ : (if (t423.length : Int) < (t420.length : Int) then (t423.length : Int) else (t420.length : Int)) = ji19 := hji19
        have hji19n : (if t423.length < t420.length then (t423.length : Int) else (t420.length : Int)) = ji19 := by simpa only [Int.ofNat_lt] using hji19_
        by_cases c20 : 0 ≤ (ji19)
        ·rw [if_pos c20] at H
         have c20b0 := eq_true c20
         have c20b1 : decide (0 ≤ (ji19)) = true := decide_eq_true c20
         clear c20
         by_cases c21 : (ji19) ≤ (t423.length : Int)
         ·rw [if_pos c21] at H
          have c21b0 := eq_true c21
          have c21b1 : decide ((ji19) ≤ (t423.length : Int)) = true := decide_eq_true c21
          clear c21
          obtain ⟨y427, hy427⟩ : ∃ y_ : List Int, y_ = (t423.take ((ji19) : Int).toNat) := ⟨_, rfl⟩
          replace H : ((txn_Same.f kj4 t397 t398 t399 t402 t409 t410 t411 t414).bind fun t431 => (if (t431 == t426) = true then (if (((strOfNums y427).toList == (strOfNums t420).toList) == t426) = true then (some (((strOfNums t420).toList == (strOfNums t423).toList) == t426)) else (none)) else (none))) = some r := by first | (rw [hy427]; with_reducible exact H) | (have H2_ := (Option.bind_some _ _).symm.trans H; rw [hy427]; with_reducible exact H2_) | (have H2_ := (Option.bind_some _ _).symm.trans H; with_reducible exact H2_) | with_reducible exact H | (rw [hy427]; exact H) | exact H
          have Ny427 := Aside0.mk hy427
          clear hy427
          replace H := Option.bind_eq_some_iff.mp H
          obtain ⟨t431, A220, H⟩ := H
          (try dsimp only at H)
          have A22 := Aside0.mk A220
          clear A220
          by_cases c23 : (t431 == t426) = true
          ·rw [if_pos c23] at H
           have c23b0 : (t431 == t426) = true := c23
           (try (have c23b1 : decide (t431 = t426) = true := by simpa using c23))
           (try (have c23b2 : (t431 == t426) = true := by simpa using c23))
           clear c23
           by_cases c24 : (((strOfNums y427).toList == (strOfNums t420).toList) == t426) = true
           ·rw [if_pos c24] at H
            have c24b0 : (((strOfNums y427).toList == (strOfNums t420).toList) == t426) = true := c24
            (try (have c24b1 : decide (((strOfNums y427).toList == (strOfNums t420).toList) = t426) = true := by simpa using c24))
            (try (have c24b2 : (((strOfNums y427).toList == (strOfNums t420).toList) == t426) = true := by simpa using c24))
            clear c24
            obtain rfl := Option.some.inj H
            try go_wp2_with (first | ((with_reducible refine gate_callee (f := 21) rfl ?_); refine goesM_ (some 22) Try.func21 #[.slice A0 l0.length c0] ?_; (with_reducible refine (diwanplay_Made.calls _ _ l0 t394 t395 w _ ?side1 ?side2 ?side3 A9.out).mono ?_); (case side1 => repeat (with_reducible first | exact HB.out | apply ba_ | apply bn_ | apply bd_)); (case side2 => exact HR0.out); (case side3 => exact HC0.out); rintro e w25 ⟨g396, rfl, hi, hb, hb2⟩; refine ⟨_, rfl, ?_⟩; have n0_ := Aside0.mk (hb); have n1_ := Aside0.mk (hi); clear HB; have HB := n0_; have HI396 := n1_; clear n0_ n1_; clear hb hb2 hi) | ((with_reducible refine gate_callee (f := 22) rfl ?_); refine goesM_ (some 23) Try.func22 #[.pointer (some ⟨g396, 0, none⟩), .int .i64 4] ?_; (with_reducible refine (diwanplay_Picks_Txn.calls kj4 g396 t394 t395 4 t397 t398 t399 t402 t405 w _ ?side1 ?side2 A10.out).mono ?_); (case side1 => repeat (with_reducible first | exact HI396.out | apply IsS128.alloc | apply IsS128.drewN | apply IsS128.drew | apply IsS128.set_1)); (case side2 => repeat (with_reducible first | exact HB.out | apply ba_ | apply bn_ | apply bd_ | refine bs_ ?_ (IsS128.ge HI396.out))); rintro e w26 ⟨v400, v403, rfl, ho0, ho1, hi, hb, hk⟩; refine ⟨_, rfl, ?_⟩; have n0_ := Aside0.mk (Kd.R_lower ho0 (below_size (by repeat (with_reducible first | exact HB.out | apply ba_ | apply bn_ | apply bd_ | refine bs_ ?_ (IsS128.ge HI396.out))))); have n1_ := Aside0.mk (Kd.R_lower ho1 (below_size (by repeat (with_reducible first | exact HB.out | apply ba_ | apply bn_ | apply bd_ | refine bs_ ?_ (IsS128.ge HI396.out))))); have n2_ := Aside0.mk (hb); have n3_ := Aside0.mk (hi); clear HB; clear HI396; have HO401 := n0_; have HO404 := n1_; have HB := n2_; have HI396 := n3_; clear n0_ n1_ n2_ n3_; clear hb hk hi ho0 ho1) | ((with_reducible refine gate_callee (f := 21) rfl ?_); refine goesM_ (some 25) Try.func21 #[.slice A1 l1.length c1] ?_; (with_reducible refine (diwanplay_Made.calls _ _ l1 t406 t407 w _ ?side1 ?side2 ?side3 A11.out).mono ?_); (case side1 => repeat (with_reducible first | exact HB.out | apply ba_ | apply bn_ | apply bd_ | refine bs_ ?_ (IsS128.ge HI396.out))); (case side2 => exact HR1.out); (case side3 => exact HC1.out); rintro e w27 ⟨g408, rfl, hi, hb, hb2⟩; refine ⟨_, rfl, ?_⟩; (try clear HI396); have n0_ := Aside0.mk (Kd.R_below (by (with_reducible repeat (first | apply ra_ | apply rn_ | apply rd_)); exact HO401.out) hb2); have n1_ := Aside0.mk (Kd.R_below (by (with_reducible repeat (first | apply ra_ | apply rn_ | apply rd_)); exact HO404.out) hb2); have n2_ := Aside0.mk (hb); have n3_ := Aside0.mk (hi); clear HO401; clear HO404; clear HB; have HO401 := n0_; have HO404 := n1_; have HB := n2_; have HI408 := n3_; clear n0_ n1_ n2_ n3_; clear hb hb2 hi) | ((with_reducible refine gate_callee (f := 22) rfl ?_); refine goesM_ (some 26) Try.func22 #[.pointer (some ⟨g408, 0, none⟩), .int .i64 4] ?_; (with_reducible refine (diwanplay_Picks_Txn.calls kj4 g408 t406 t407 4 t409 t410 t411 t414 t417 w _ ?side1 ?side2 A12.out).mono ?_); (case side1 => repeat (with_reducible first | exact HI408.out | apply IsS128.alloc | apply IsS128.drewN | apply IsS128.drew | apply IsS128.set_1)); (case side2 => repeat (with_reducible first | exact HB.out | apply ba_ | apply bn_ | apply bd_ | refine bs_ ?_ (IsS128.ge HI408.out))); rintro e w28 ⟨v412, v415, rfl, ho0, ho1, hi, hb, hk⟩; refine ⟨_, rfl, ?_⟩; have n0_ := Aside0.mk (Kd.R_mono (Kd.R_told (Kd.R_oldK (IsS128.apart (show IsS128 w _ g408 t406 t407 from by repeat (with_reducible first | exact HI408.out | apply IsS128.alloc | apply IsS128.drewN | apply IsS128.drew | apply IsS128.set_1)) (by (with_reducible repeat (first | apply ra_ | apply rn_ | apply rd_)); exact HO401.out) (by decide)) hk) (Kd.R_base ho0)) (fun _ h_ => h_.1)); have n1_ := Aside0.mk (Kd.R_mono (Kd.R_told (Kd.R_oldK (IsS128.apart (show IsS128 w _ g408 t406 t407 from by repeat (with_reducible first | exact HI408.out | apply IsS128.alloc | apply IsS128.drewN | apply IsS128.drew | apply IsS128.set_1)) (by (with_reducible repeat (first | apply ra_ | apply rn_ | apply rd_)); exact HO404.out) (by decide)) hk) (Kd.R_base ho1)) (fun _ h_ => h_.1)); have n2_ := Aside0.mk (Kd.R_lower (Kd.R_new' ho0 (Kd.R_lt (by (with_reducible repeat (first | apply ra_ | apply rn_ | apply rd_)); exact HO401.out))) (below_size (by repeat (with_reducible first | exact HB.out | apply ba_ | apply bn_ | apply bd_ | refine bs_ ?_ (IsS128.ge HI408.out))))); have n3_ := Aside0.mk (Kd.R_lower (Kd.R_new' ho1 (Kd.R_lt (by (with_reducible repeat (first | apply ra_ | apply rn_ | apply rd_)); exact HO404.out))) (below_size (by repeat (with_reducible first | exact HB.out | apply ba_ | apply bn_ | apply bd_ | refine bs_ ?_ (IsS128.ge HI408.out))))); have n4_ := Aside0.mk (hb); have n5_ := Aside0.mk (hi); clear HO401; clear HO404; clear HB; clear HI408; have HO401 := n0_; have HO404 := n1_; have HO413 := n2_; have HO416 := n3_; have HB := n4_; have HI408 := n5_; clear n0_ n1_ n2_ n3_ n4_ n5_; clear hb hk hi ho0 ho1) | ((with_reducible refine gate_dst (N := 5) rfl ?_); (try (refine gate_guard (by rfl) ?_; dsimp only)); refine box_event ?hg (N := 5) ?hd (cs := #[.int .i64 0, .int .i64 0, .slice none 0 0, .slice none 0 0]) (t := 30) ?hr ?_; (case hd => rfl); (case hg => rfl); (case hr => first | (go_simp; done) | (go_simp; rfl)); intro gb418 hg w29 hbox hb; have n0_ := Aside0.mk (Kd.R_below (by (with_reducible repeat (first | apply ra_ | apply rn_ | apply rd_)); exact HO401.out) hb); have n1_ := Aside0.mk (Kd.R_below (by (with_reducible repeat (first | apply ra_ | apply rn_ | apply rd_)); exact HO404.out) hb); have n2_ := Aside0.mk (Kd.R_below (by (with_reducible repeat (first | apply ra_ | apply rn_ | apply rd_)); exact HO413.out) hb); have n3_ := Aside0.mk (Kd.R_below (by (with_reducible repeat (first | apply ra_ | apply rn_ | apply rd_)); exact HO416.out) hb); have n4_ := Aside0.mk (IsS128.below (by repeat (with_reducible first | exact HI408.out | apply IsS128.alloc | apply IsS128.drewN | apply IsS128.drew | apply IsS128.set_1)) hb); have n5_ := Aside0.mk (below_step (by repeat (with_reducible first | exact HB.out | apply ba_ | apply bn_ | apply bd_ | refine bs_ ?_ (IsS128.ge HI408.out))) hb); have n6_ := Aside0.mk (hbox); have n7_ := Aside0.mk ((by rw [hg]; exact (below_size (by repeat (with_reducible first | exact HB.out | apply ba_ | apply bn_ | apply bd_ | refine bs_ ?_ (IsS128.ge HI408.out)))) : w.heap.size ≤ gb418)); have n8_ := Aside0.mk ((by rw [hg]; exact (below_size (by repeat (with_reducible first | exact HB.out | apply ba_ | apply bn_ | apply bd_ | refine bs_ ?_ (IsS128.ge HI408.out)))) : w.heap.size ≤ gb418)); have n9_ := Aside0.mk ((by rw [hg]; exact Nat.ne_of_lt (IsS128.lt (show IsS128 w _ g408 t406 t417 from by repeat (with_reducible first | exact HI408.out | apply IsS128.alloc | apply IsS128.drewN | apply IsS128.drew | apply IsS128.set_1))) : g408 ≠ gb418)); have n10_ := Aside0.mk ((by rw [hg]; exact Nat.ne_of_gt (IsS128.lt (show IsS128 w _ g408 t406 t417 from by repeat (with_reducible first | exact HI408.out | apply IsS128.alloc | apply IsS128.drewN | apply IsS128.drew | apply IsS128.set_1))) : gb418 ≠ g408)); clear HO401; clear HO404; clear HO413; clear HO416; clear HI408; clear HB; have HO401 := n0_; have HO404 := n1_; have HO413 := n2_; have HO416 := n3_; have HI408 := n4_; have HB := n5_; have BK418 := n6_; have GW418 := n7_; have GE418 := n8_; have NB408_418 := n9_; have NB418_408 := n10_; clear n0_ n1_ n2_ n3_ n4_ n5_ n6_ n7_ n8_ n9_ n10_; clear hb hbox hg) | ((with_reducible refine gate_dst (N := 6) rfl ?_); (try (refine gate_guard (by rfl) ?_; dsimp only)); refine box_event ?hg (N := 6) ?hd (cs := #[.int .i64 0, .int .i64 0, .slice none 0 0, .slice none 0 0]) (t := 30) ?hr ?_; (case hd => rfl); (case hg => rfl); (case hr => first | (go_simp; done) | (go_simp; rfl)); intro gb419 hg w30 hbox hb; have n0_ := Aside0.mk (Kd.R_below (by (with_reducible repeat (first | apply ra_ | apply rn_ | apply rd_)); exact HO401.out) hb); have n1_ := Aside0.mk (Kd.R_below (by (with_reducible repeat (first | apply ra_ | apply rn_ | apply rd_)); exact HO404.out) hb); have n2_ := Aside0.mk (Kd.R_below (by (with_reducible repeat (first | apply ra_ | apply rn_ | apply rd_)); exact HO413.out) hb); have n3_ := Aside0.mk (Kd.R_below (by (with_reducible repeat (first | apply ra_ | apply rn_ | apply rd_)); exact HO416.out) hb); have n4_ := Aside0.mk (IsS128.below (by repeat (with_reducible first | exact HI408.out | apply IsS128.alloc | apply IsS128.drewN | apply IsS128.drew | apply IsS128.set_1 | refine IsS128.far ?_ NB408_418.out _)) hb); have n5_ := Aside0.mk (blk_below (g := gb418) (o := .cells #[.int .i64 0, .int .i64 0, .slice none 0 0, .slice none 0 0] 30 (0, 0)) (by (with_reducible repeat (first | refine kn_ ?_ _ | refine kd_ ?_ | refine ka_ ?_ _)); exact BK418.out) hb); have n6_ := Aside0.mk (below_step (by repeat (with_reducible first | exact HB.out | apply ba_ | apply bn_ | apply bd_ | refine bs_ ?_ (IsS128.ge HI408.out) | refine bs_ ?_ GE418.out)) hb); have n7_ := Aside0.mk (hbox); have n8_ := Aside0.mk ((by rw [hg]; exact (below_size (by repeat (with_reducible first | exact HB.out | apply ba_ | apply bn_ | apply bd_ | refine bs_ ?_ (IsS128.ge HI408.out) | refine bs_ ?_ GE418.out))) : w.heap.size ≤ gb419)); have n9_ := Aside0.mk ((by rw [hg]; exact (below_size (by repeat (with_reducible first | exact HB.out | apply ba_ | apply bn_ | apply bd_ | refine bs_ ?_ (IsS128.ge HI408.out) | refine bs_ ?_ GE418.out))) : w.heap.size ≤ gb419)); have n10_ := Aside0.mk ((by rw [hg]; exact Nat.ne_of_lt (blk_lt (g := gb418) (o := .cells #[.int .i64 0, .int .i64 0, .slice none 0 0, .slice none 0 0] 30 (0, 0)) (by (with_reducible repeat (first | refine kn_ ?_ _ | refine kd_ ?_ | refine ka_ ?_ _)); exact BK418.out)) : gb418 ≠ gb419)); have n11_ := Aside0.mk ((by rw [hg]; exact Nat.ne_of_gt (blk_lt (g := gb418) (o := .cells #[.int .i64 0, .int .i64 0, .slice none 0 0, .slice none 0 0] 30 (0, 0)) (by (with_reducible repeat (first | refine kn_ ?_ _ | refine kd_ ?_ | refine ka_ ?_ _)); exact BK418.out)) : gb419 ≠ gb418)); have n12_ := Aside0.mk ((by rw [hg]; exact Nat.ne_of_lt (IsS128.lt (show IsS128 w _ g408 t406 t417 from by repeat (with_reducible first | exact HI408.out | apply IsS128.alloc | apply IsS128.drewN | apply IsS128.drew | apply IsS128.set_1 | refine IsS128.far ?_ NB408_418.out _))) : g408 ≠ gb419)); have n13_ := Aside0.mk ((by rw [hg]; exact Nat.ne_of_gt (IsS128.lt (show IsS128 w _ g408 t406 t417 from by repeat (with_reducible first | exact HI408.out | apply IsS128.alloc | apply IsS128.drewN | apply IsS128.drew | apply IsS128.set_1 | refine IsS128.far ?_ NB408_418.out _))) : gb419 ≠ g408)); clear HO401; clear HO404; clear HO413; clear HO416; clear HI408; clear BK418; clear HB; have HO401 := n0_; have HO404 := n1_; have HO413 := n2_; have HO416 := n3_; have HI408 := n4_; have BK418 := n5_; have HB := n6_; have BK419 := n7_; have GW419 := n8_; have GE419 := n9_; have NB418_419 := n10_; have NB419_418 := n11_; have NB408_419 := n12_; have NB419_408 := n13_; clear n0_ n1_ n2_ n3_ n4_ n5_ n6_ n7_ n8_ n9_ n10_ n11_ n12_ n13_; clear hb hbox hg; have hnb31 := NB418_419.out; have hnc31 := NB419_418.out; have hnb32 := NB418_408.out; have hnc32 := NB408_418.out; have hcz33_0 : w30.cell? ⟨gb418, 0, none⟩ = some (.int .i64 0) := (blk_cell BK418.out 0).trans rfl; have hcz33_1 : w30.cell? ⟨gb418, 1, none⟩ = some (.int .i64 0) := (blk_cell BK418.out 1).trans rfl; have hcz33_2 : w30.cell? ⟨gb418, 2, none⟩ = some (.slice none 0 0) := (blk_cell BK418.out 2).trans rfl; have hcz33_3 : w30.cell? ⟨gb418, 3, none⟩ = some (.slice none 0 0) := (blk_cell BK418.out 3).trans rfl; have hfz33_0 := blk_frozen BK418.out 0; have hfz33_1 := blk_frozen BK418.out 1; have hfz33_2 := blk_frozen BK418.out 2; have hfz33_3 := blk_frozen BK418.out 3; obtain ⟨Ao34, co34, eo34⟩ := Kd.R_slice HO401.out; subst eo34; obtain ⟨Ao35, co35, eo35⟩ := Kd.R_slice HO404.out; subst eo35; have hnb36 := NB419_408.out; have hnc36 := NB408_419.out; have hcz37_0 : w30.cell? ⟨gb419, 0, none⟩ = some (.int .i64 0) := (blk_cell BK419.out 0).trans rfl; have hcz37_1 : w30.cell? ⟨gb419, 1, none⟩ = some (.int .i64 0) := (blk_cell BK419.out 1).trans rfl; have hcz37_2 : w30.cell? ⟨gb419, 2, none⟩ = some (.slice none 0 0) := (blk_cell BK419.out 2).trans rfl; have hcz37_3 : w30.cell? ⟨gb419, 3, none⟩ = some (.slice none 0 0) := (blk_cell BK419.out 3).trans rfl; have hfz37_0 := blk_frozen BK419.out 0; have hfz37_1 := blk_frozen BK419.out 1; have hfz37_2 := blk_frozen BK419.out 2; have hfz37_3 := blk_frozen BK419.out 3; obtain ⟨Ao38, co38, eo38⟩ := Kd.R_slice HO413.out; subst eo38; obtain ⟨Ao39, co39, eo39⟩ := Kd.R_slice HO416.out; subst eo39))
            have n0_ : Aside0 (Kd.R k24 24 ((((((((w30.setCell ⟨gb418, 0, none⟩ (.int .i64 t397)).setCell ⟨gb418, 1, none⟩ (.int .i64 t398)).setCell ⟨gb418, 2, none⟩ (.slice Ao34 t399.length co34)).setCell ⟨gb418, 3, none⟩ (.slice Ao35 t402.length co35)).setCell ⟨gb419, 0, none⟩ (.int .i64 t409)).setCell ⟨gb419, 1, none⟩ (.int .i64 t410)).setCell ⟨gb419, 2, none⟩ (.slice Ao38 t411.length co38)).setCell ⟨gb419, 3, none⟩ (.slice Ao39 t414.length co39)) w.heap.size (fun k_ => some k_ ≠ (.slice Ao38 t411.length co38 : Value).ownBlock) (.slice Ao34 t399.length co34) t399) := ⟨by (with_reducible repeat (first | apply ra_ | apply rn_ | apply rd_)); exact Kd.R_mono (Kd.R_far (p := ⟨gb419, 3, none⟩) (Kd.R_far (p := ⟨gb419, 2, none⟩) (Kd.R_far (p := ⟨gb419, 1, none⟩) (Kd.R_far (p := ⟨gb419, 0, none⟩) (Kd.R_far (p := ⟨gb418, 3, none⟩) (Kd.R_far (p := ⟨gb418, 2, none⟩) (Kd.R_far (p := ⟨gb418, 1, none⟩) (Kd.R_far (p := ⟨gb418, 0, none⟩) (Kd.R_types (Kd.R_types HO401.out BK418.out (by decide)) BK419.out (by decide)) (fun _ hk => hk.1.2) (.int .i64 t397)) (fun _ hk => hk.1.2) (.int .i64 t398)) (fun _ hk => hk.1.2) (.slice Ao34 t399.length co34)) (fun _ hk => hk.1.2) (.slice Ao35 t402.length co35)) (fun _ hk => hk.2) (.int .i64 t409)) (fun _ hk => hk.2) (.int .i64 t410)) (fun _ hk => hk.2) (.slice Ao38 t411.length co38)) (fun _ hk => hk.2) (.slice Ao39 t414.length co39)) (fun _ hk => hk.1.1.2)⟩
            have n1_ : Aside0 (Kd.R k27 27 ((((((((w30.setCell ⟨gb418, 0, none⟩ (.int .i64 t397)).setCell ⟨gb418, 1, none⟩ (.int .i64 t398)).setCell ⟨gb418, 2, none⟩ (.slice Ao34 t399.length co34)).setCell ⟨gb418, 3, none⟩ (.slice Ao35 t402.length co35)).setCell ⟨gb419, 0, none⟩ (.int .i64 t409)).setCell ⟨gb419, 1, none⟩ (.int .i64 t410)).setCell ⟨gb419, 2, none⟩ (.slice Ao38 t411.length co38)).setCell ⟨gb419, 3, none⟩ (.slice Ao39 t414.length co39)) w.heap.size (fun k_ => some k_ ≠ (.slice Ao39 t414.length co39 : Value).ownBlock) (.slice Ao35 t402.length co35) t402) := ⟨by (with_reducible repeat (first | apply ra_ | apply rn_ | apply rd_)); exact Kd.R_mono (Kd.R_far (p := ⟨gb419, 3, none⟩) (Kd.R_far (p := ⟨gb419, 2, none⟩) (Kd.R_far (p := ⟨gb419, 1, none⟩) (Kd.R_far (p := ⟨gb419, 0, none⟩) (Kd.R_far (p := ⟨gb418, 3, none⟩) (Kd.R_far (p := ⟨gb418, 2, none⟩) (Kd.R_far (p := ⟨gb418, 1, none⟩) (Kd.R_far (p := ⟨gb418, 0, none⟩) (Kd.R_types (Kd.R_types HO404.out BK418.out (by decide)) BK419.out (by decide)) (fun _ hk => hk.1.2) (.int .i64 t397)) (fun _ hk => hk.1.2) (.int .i64 t398)) (fun _ hk => hk.1.2) (.slice Ao34 t399.length co34)) (fun _ hk => hk.1.2) (.slice Ao35 t402.length co35)) (fun _ hk => hk.2) (.int .i64 t409)) (fun _ hk => hk.2) (.int .i64 t410)) (fun _ hk => hk.2) (.slice Ao38 t411.length co38)) (fun _ hk => hk.2) (.slice Ao39 t414.length co39)) (fun _ hk => hk.1.1.2)⟩
            have n2_ : Aside0 (Kd.R k24 24 ((((((((w30.setCell ⟨gb418, 0, none⟩ (.int .i64 t397)).setCell ⟨gb418, 1, none⟩ (.int .i64 t398)).setCell ⟨gb418, 2, none⟩ (.slice Ao34 t399.length co34)).setCell ⟨gb418, 3, none⟩ (.slice Ao35 t402.length co35)).setCell ⟨gb419, 0, none⟩ (.int .i64 t409)).setCell ⟨gb419, 1, none⟩ (.int .i64 t410)).setCell ⟨gb419, 2, none⟩ (.slice Ao38 t411.length co38)).setCell ⟨gb419, 3, none⟩ (.slice Ao39 t414.length co39)) w.heap.size (fun k_ => some k_ ≠ (.slice Ao34 t399.length co34 : Value).ownBlock) (.slice Ao38 t411.length co38) t411) := ⟨by (with_reducible repeat (first | apply ra_ | apply rn_ | apply rd_)); exact Kd.R_mono (Kd.R_far (p := ⟨gb419, 3, none⟩) (Kd.R_far (p := ⟨gb419, 2, none⟩) (Kd.R_far (p := ⟨gb419, 1, none⟩) (Kd.R_far (p := ⟨gb419, 0, none⟩) (Kd.R_far (p := ⟨gb418, 3, none⟩) (Kd.R_far (p := ⟨gb418, 2, none⟩) (Kd.R_far (p := ⟨gb418, 1, none⟩) (Kd.R_far (p := ⟨gb418, 0, none⟩) (Kd.R_types (Kd.R_types HO413.out BK418.out (by decide)) BK419.out (by decide)) (fun _ hk => hk.1.2) (.int .i64 t397)) (fun _ hk => hk.1.2) (.int .i64 t398)) (fun _ hk => hk.1.2) (.slice Ao34 t399.length co34)) (fun _ hk => hk.1.2) (.slice Ao35 t402.length co35)) (fun _ hk => hk.2) (.int .i64 t409)) (fun _ hk => hk.2) (.int .i64 t410)) (fun _ hk => hk.2) (.slice Ao38 t411.length co38)) (fun _ hk => hk.2) (.slice Ao39 t414.length co39)) (fun _ hk => hk.1.1.2)⟩
            have n3_ : Aside0 (Kd.R k27 27 ((((((((w30.setCell ⟨gb418, 0, none⟩ (.int .i64 t397)).setCell ⟨gb418, 1, none⟩ (.int .i64 t398)).setCell ⟨gb418, 2, none⟩ (.slice Ao34 t399.length co34)).setCell ⟨gb418, 3, none⟩ (.slice Ao35 t402.length co35)).setCell ⟨gb419, 0, none⟩ (.int .i64 t409)).setCell ⟨gb419, 1, none⟩ (.int .i64 t410)).setCell ⟨gb419, 2, none⟩ (.slice Ao38 t411.length co38)).setCell ⟨gb419, 3, none⟩ (.slice Ao39 t414.length co39)) w.heap.size (fun k_ => some k_ ≠ (.slice Ao35 t402.length co35 : Value).ownBlock) (.slice Ao39 t414.length co39) t414) := ⟨by (with_reducible repeat (first | apply ra_ | apply rn_ | apply rd_)); exact Kd.R_mono (Kd.R_far (p := ⟨gb419, 3, none⟩) (Kd.R_far (p := ⟨gb419, 2, none⟩) (Kd.R_far (p := ⟨gb419, 1, none⟩) (Kd.R_far (p := ⟨gb419, 0, none⟩) (Kd.R_far (p := ⟨gb418, 3, none⟩) (Kd.R_far (p := ⟨gb418, 2, none⟩) (Kd.R_far (p := ⟨gb418, 1, none⟩) (Kd.R_far (p := ⟨gb418, 0, none⟩) (Kd.R_types (Kd.R_types HO416.out BK418.out (by decide)) BK419.out (by decide)) (fun _ hk => hk.1.2) (.int .i64 t397)) (fun _ hk => hk.1.2) (.int .i64 t398)) (fun _ hk => hk.1.2) (.slice Ao34 t399.length co34)) (fun _ hk => hk.1.2) (.slice Ao35 t402.length co35)) (fun _ hk => hk.2) (.int .i64 t409)) (fun _ hk => hk.2) (.int .i64 t410)) (fun _ hk => hk.2) (.slice Ao38 t411.length co38)) (fun _ hk => hk.2) (.slice Ao39 t414.length co39)) (fun _ hk => hk.1.1.2)⟩
            have n4_ : Aside0 (((((((((w30.setCell ⟨gb418, 0, none⟩ (.int .i64 t397)).setCell ⟨gb418, 1, none⟩ (.int .i64 t398)).setCell ⟨gb418, 2, none⟩ (.slice Ao34 t399.length co34)).setCell ⟨gb418, 3, none⟩ (.slice Ao35 t402.length co35)).setCell ⟨gb419, 0, none⟩ (.int .i64 t409)).setCell ⟨gb419, 1, none⟩ (.int .i64 t410)).setCell ⟨gb419, 2, none⟩ (.slice Ao38 t411.length co38)).setCell ⟨gb419, 3, none⟩ (.slice Ao39 t414.length co39)).heap[gb418]? = some (.cells #[.int .i64 t397, .int .i64 t398, .slice Ao34 t399.length co34, .slice Ao35 t402.length co35] 30 (0, 0))) := ⟨by (with_reducible repeat (first | refine kn_ ?_ _ | refine kd_ ?_ | refine ka_ ?_ _)); refine blk_far ?_ NB418_419.out _; (with_reducible repeat (first | refine kn_ ?_ _ | refine kd_ ?_ | refine ka_ ?_ _)); refine blk_far ?_ NB418_419.out _; (with_reducible repeat (first | refine kn_ ?_ _ | refine kd_ ?_ | refine ka_ ?_ _)); refine blk_far ?_ NB418_419.out _; (with_reducible repeat (first | refine kn_ ?_ _ | refine kd_ ?_ | refine ka_ ?_ _)); refine blk_far ?_ NB418_419.out _; (with_reducible repeat (first | refine kn_ ?_ _ | refine kd_ ?_ | refine ka_ ?_ _)); refine blk_put (cs := #[.int .i64 t397, .int .i64 t398, .slice Ao34 t399.length co34, .slice none 0 0]) ?_ 3 _ rfl; (with_reducible repeat (first | refine kn_ ?_ _ | refine kd_ ?_ | refine ka_ ?_ _)); refine blk_put (cs := #[.int .i64 t397, .int .i64 t398, .slice none 0 0, .slice none 0 0]) ?_ 2 _ rfl; (with_reducible repeat (first | refine kn_ ?_ _ | refine kd_ ?_ | refine ka_ ?_ _)); refine blk_put (cs := #[.int .i64 t397, .int .i64 0, .slice none 0 0, .slice none 0 0]) ?_ 1 _ rfl; (with_reducible repeat (first | refine kn_ ?_ _ | refine kd_ ?_ | refine ka_ ?_ _)); refine blk_put (cs := #[.int .i64 0, .int .i64 0, .slice none 0 0, .slice none 0 0]) ?_ 0 _ rfl; (with_reducible repeat (first | refine kn_ ?_ _ | refine kd_ ?_ | refine ka_ ?_ _)); exact BK418.out⟩
            have n5_ : Aside0 (((((((((w30.setCell ⟨gb418, 0, none⟩ (.int .i64 t397)).setCell ⟨gb418, 1, none⟩ (.int .i64 t398)).setCell ⟨gb418, 2, none⟩ (.slice Ao34 t399.length co34)).setCell ⟨gb418, 3, none⟩ (.slice Ao35 t402.length co35)).setCell ⟨gb419, 0, none⟩ (.int .i64 t409)).setCell ⟨gb419, 1, none⟩ (.int .i64 t410)).setCell ⟨gb419, 2, none⟩ (.slice Ao38 t411.length co38)).setCell ⟨gb419, 3, none⟩ (.slice Ao39 t414.length co39)).heap[gb419]? = some (.cells #[.int .i64 t409, .int .i64 t410, .slice Ao38 t411.length co38, .slice Ao39 t414.length co39] 30 (0, 0))) := ⟨by (with_reducible repeat (first | refine kn_ ?_ _ | refine kd_ ?_ | refine ka_ ?_ _)); refine blk_put (cs := #[.int .i64 t409, .int .i64 t410, .slice Ao38 t411.length co38, .slice none 0 0]) ?_ 3 _ rfl; (with_reducible repeat (first | refine kn_ ?_ _ | refine kd_ ?_ | refine ka_ ?_ _)); refine blk_put (cs := #[.int .i64 t409, .int .i64 t410, .slice none 0 0, .slice none 0 0]) ?_ 2 _ rfl; (with_reducible repeat (first | refine kn_ ?_ _ | refine kd_ ?_ | refine ka_ ?_ _)); refine blk_put (cs := #[.int .i64 t409, .int .i64 0, .slice none 0 0, .slice none 0 0]) ?_ 1 _ rfl; (with_reducible repeat (first | refine kn_ ?_ _ | refine kd_ ?_ | refine ka_ ?_ _)); refine blk_put (cs := #[.int .i64 0, .int .i64 0, .slice none 0 0, .slice none 0 0]) ?_ 0 _ rfl; (with_reducible repeat (first | refine kn_ ?_ _ | refine kd_ ?_ | refine ka_ ?_ _)); refine blk_far ?_ NB419_418.out _; (with_reducible repeat (first | refine kn_ ?_ _ | refine kd_ ?_ | refine ka_ ?_ _)); refine blk_far ?_ NB419_418.out _; (with_reducible repeat (first | refine kn_ ?_ _ | refine kd_ ?_ | refine ka_ ?_ _)); refine blk_far ?_ NB419_418.out _; (with_reducible repeat (first | refine kn_ ?_ _ | refine kd_ ?_ | refine ka_ ?_ _)); refine blk_far ?_ NB419_418.out _; (with_reducible repeat (first | refine kn_ ?_ _ | refine kd_ ?_ | refine ka_ ?_ _)); exact BK419.out⟩
            have n6_ : Aside0 (IsS128 w ((((((((w30.setCell ⟨gb418, 0, none⟩ (.int .i64 t397)).setCell ⟨gb418, 1, none⟩ (.int .i64 t398)).setCell ⟨gb418, 2, none⟩ (.slice Ao34 t399.length co34)).setCell ⟨gb418, 3, none⟩ (.slice Ao35 t402.length co35)).setCell ⟨gb419, 0, none⟩ (.int .i64 t409)).setCell ⟨gb419, 1, none⟩ (.int .i64 t410)).setCell ⟨gb419, 2, none⟩ (.slice Ao38 t411.length co38)).setCell ⟨gb419, 3, none⟩ (.slice Ao39 t414.length co39)) g408 t406 t417) := ⟨by repeat (with_reducible first | exact HI408.out | apply IsS128.alloc | apply IsS128.drewN | apply IsS128.drew | apply IsS128.set_1 | refine IsS128.far ?_ NB408_418.out _ | refine IsS128.far ?_ NB408_419.out _)⟩
            have n7_ : Aside0 (Below w.heap.size w ((((((((w30.setCell ⟨gb418, 0, none⟩ (.int .i64 t397)).setCell ⟨gb418, 1, none⟩ (.int .i64 t398)).setCell ⟨gb418, 2, none⟩ (.slice Ao34 t399.length co34)).setCell ⟨gb418, 3, none⟩ (.slice Ao35 t402.length co35)).setCell ⟨gb419, 0, none⟩ (.int .i64 t409)).setCell ⟨gb419, 1, none⟩ (.int .i64 t410)).setCell ⟨gb419, 2, none⟩ (.slice Ao38 t411.length co38)).setCell ⟨gb419, 3, none⟩ (.slice Ao39 t414.length co39))) := ⟨by repeat (with_reducible first | exact HB.out | apply ba_ | apply bn_ | apply bd_ | refine bs_ ?_ (IsS128.ge HI408.out) | refine bs_ ?_ GE418.out | refine bs_ ?_ GE419.out)⟩
            (try clear HO401)
            (try clear HO404)
            (try clear HO413)
            (try clear HO416)
            (try clear BK418)
            (try clear BK419)
            (try clear HI408)
            (try clear HB)
            generalize ((((((((w30.setCell ⟨gb418, 0, none⟩ (.int .i64 t397)).setCell ⟨gb418, 1, none⟩ (.int .i64 t398)).setCell ⟨gb418, 2, none⟩ (.slice Ao34 t399.length co34)).setCell ⟨gb418, 3, none⟩ (.slice Ao35 t402.length co35)).setCell ⟨gb419, 0, none⟩ (.int .i64 t409)).setCell ⟨gb419, 1, none⟩ (.int .i64 t410)).setCell ⟨gb419, 2, none⟩ (.slice Ao38 t411.length co38)).setCell ⟨gb419, 3, none⟩ (.slice Ao39 t414.length co39)) = w40 at n0_ n1_ n2_ n3_ n4_ n5_ n6_ n7_ ⊢
            have HO401 := n0_
            have HO404 := n1_
            have HO413 := n2_
            have HO416 := n3_
            have BK418 := n4_
            have BK419 := n5_
            have HI408 := n6_
            have HB := n7_
            clear n0_ n1_ n2_ n3_ n4_ n5_ n6_ n7_
            have n0_ := Aside0.mk (Kd.R_drew HO401.out)
            have n1_ := Aside0.mk (Kd.R_drew HO404.out)
            have n2_ := Aside0.mk (Kd.R_drew HO413.out)
            have n3_ := Aside0.mk (Kd.R_drew HO416.out)
            have n4_ := Aside0.mk (blk_drew BK418.out)
            have n5_ := Aside0.mk (blk_drew BK419.out)
            have n6_ := Aside0.mk (IsS128.drew HI408.out)
            have n7_ := Aside0.mk (below_drew1 HB.out)
            clear HO401
            clear HO404
            clear HO413
            clear HO416
            clear BK418
            clear BK419
            clear HI408
            clear HB
            have HO401 := n0_
            have HO404 := n1_
            have HO413 := n2_
            have HO416 := n3_
            have BK418 := n4_
            have BK419 := n5_
            have HI408 := n6_
            have HB := n7_
            clear n0_ n1_ n2_ n3_ n4_ n5_ n6_ n7_
            refine start_ (n := 6) (S := fun w' => w'.cell? ⟨gb418, 0, none⟩ = some (.int .i64 t397) ∧ w'.cell? ⟨gb418, 1, none⟩ = some (.int .i64 t398) ∧ w'.cell? ⟨gb418, 2, none⟩ = some (.slice Ao34 t399.length co34) ∧ w'.cell? ⟨gb418, 3, none⟩ = some (.slice Ao35 t402.length co35) ∧ w'.cell? ⟨gb419, 0, none⟩ = some (.int .i64 t409) ∧ w'.cell? ⟨gb419, 1, none⟩ = some (.int .i64 t410) ∧ w'.cell? ⟨gb419, 2, none⟩ = some (.slice Ao38 t411.length co38) ∧ w'.cell? ⟨gb419, 3, none⟩ = some (.slice Ao39 t414.length co39)) (ds := []) #[false, false, false, false, false, false] (by kernel_rfl) rfl rfl ⟨(blk_cell BK418.out 0).trans rfl, (blk_cell BK418.out 1).trans rfl, (blk_cell BK418.out 2).trans rfl, (blk_cell BK418.out 3).trans rfl, (blk_cell BK419.out 0).trans rfl, (blk_cell BK419.out 1).trans rfl, (blk_cell BK419.out 2).trans rfl, (blk_cell BK419.out 3).trans rfl⟩ (fun hHeld => ?_)
            generalize w40.drew = w41 at HO401 HO404 HO413 HO416 BK418 BK419 HI408 HB hHeld ⊢
            refine take_ (i := 0) (N := some 27) (v := ?_) (a' := ?_) #[true, false, false, false, false, false] rfl rfl (by kernel_rfl) (fun _ _ _ h => h) (Or.inl ⟨by rfl, ?_⟩) hHeld ?_ ?_
            rotate_left
            ·rintro w' ⟨s0, s1, s2, s3, s4, s5, s6, s7⟩
             go_simp
             with_reducible rfl
            rotate_left
            ·simp only [Act.put, List.setIfInBounds_toArray, List.set_cons_zero, List.set_cons_succ, i64_w, i32_w]
             rfl
            refine take_ (i := 2) (N := some 29) (v := ?_) (a' := ?_) #[true, false, true, false, false, false] rfl rfl (by kernel_rfl) (fun _ _ _ h => h) (Or.inl ⟨by rfl, ?_⟩) hHeld ?_ ?_
            rotate_left
            ·rintro w' ⟨s0, s1, s2, s3, s4, s5, s6, s7⟩
             go_simp
             with_reducible rfl
            rotate_left
            ·simp only [Act.put, List.setIfInBounds_toArray, List.set_cons_zero, List.set_cons_succ, i64_w, i32_w]
             rfl
            refine one_ (i := 1) (N := some 28) #[true, true, true, false, false, false] rfl rfl (by kernel_rfl) (by decide) (fun K hK => ?_)
            refine goesV_ Try.func19 (by kernel_rfl) rfl #[.agg #[.int .i64 t397, .int .i64 t398, .slice Ao34 t399.length co34, .slice Ao35 t402.length co35]] (by rfl) rfl rfl (by (try simp only [List.map_toArray, List.map_cons, List.map_nil]); first | done | rfl | (simp only [List.length_drop, List.length_take]; rfl)) ?_
            with_reducible refine (txn_Put.calls kj4 t397 t398 _ _ t399 _ _ t402 t420 _ ?side1 ?side2 ?side3 ?side4 A13.out).mono ?_
            (case side1 => repeat (first | exact (Kd.R_reads' HO401.out).2.2 | (with_reducible refine ca_ ?_ _) | (with_reducible refine cn_ ?_ _) | (with_reducible refine cd_ ?_)))
            (case side2 => exact (Kd.R_reads' HO401.out).2.1)
            (case side3 => repeat (first | exact (Kd.R_reads' HO404.out).2.2 | (with_reducible refine ca_ ?_ _) | (with_reducible refine cn_ ?_ _) | (with_reducible refine cd_ ?_)))
            (case side4 => exact (Kd.R_reads' HO404.out).2.1)
            rintro e w42 ⟨v421, rfl, ho0, hb⟩
            refine ⟨_, rfl, ?_⟩
            have n0_ := Aside0.mk (Kd.R_below (by (with_reducible repeat (first | apply ra_ | apply rn_ | apply rd_)); exact HO401.out) hb)
            have n1_ := Aside0.mk (Kd.R_below (by (with_reducible repeat (first | apply ra_ | apply rn_ | apply rd_)); exact HO404.out) hb)
            have n2_ := Aside0.mk (Kd.R_below (by (with_reducible repeat (first | apply ra_ | apply rn_ | apply rd_)); exact HO413.out) hb)
            have n3_ := Aside0.mk (Kd.R_below (by (with_reducible repeat (first | apply ra_ | apply rn_ | apply rd_)); exact HO416.out) hb)
            have n4_ := Aside0.mk (Kd.R_lower ho0 (below_size (by repeat (with_reducible first | exact HB.out | apply ba_ | apply bn_ | apply bd_ | refine bs_ ?_ (IsS128.ge HI408.out) | refine bs_ ?_ GE418.out | refine bs_ ?_ GE419.out))))
            have n5_ := Aside0.mk (IsS128.below (by repeat (with_reducible first | exact HI408.out | apply IsS128.alloc | apply IsS128.drewN | apply IsS128.drew | apply IsS128.set_1 | refine IsS128.far ?_ NB408_418.out _ | refine IsS128.far ?_ NB408_419.out _)) hb)
            have n6_ := Aside0.mk (blk_below (g := gb418) (o := .cells #[.int .i64 t397, .int .i64 t398, .slice Ao34 t399.length co34, .slice Ao35 t402.length co35] 30 (0, 0)) (by (with_reducible repeat (first | refine kn_ ?_ _ | refine kd_ ?_ | refine ka_ ?_ _)); exact BK418.out) hb)
            have n7_ := Aside0.mk (blk_below (g := gb419) (o := .cells #[.int .i64 t409, .int .i64 t410, .slice Ao38 t411.length co38, .slice Ao39 t414.length co39] 30 (0, 0)) (by (with_reducible repeat (first | refine kn_ ?_ _ | refine kd_ ?_ | refine ka_ ?_ _)); exact BK419.out) hb)
            have n8_ := Aside0.mk (below_step (by repeat (with_reducible first | exact HB.out | apply ba_ | apply bn_ | apply bd_ | refine bs_ ?_ (IsS128.ge HI408.out) | refine bs_ ?_ GE418.out | refine bs_ ?_ GE419.out)) hb)
            clear HO401
            clear HO404
            clear HO413
            clear HO416
            clear HI408
            clear BK418
            clear BK419
            clear HB
            have HO401 := n0_
            have HO404 := n1_
            have HO413 := n2_
            have HO416 := n3_
            have HO422 := n4_
            have HI408 := n5_
            have BK418 := n6_
            have BK419 := n7_
            have HB := n8_
            clear n0_ n1_ n2_ n3_ n4_ n5_ n6_ n7_ n8_
            clear hb ho0
            refine hK.out _ _ ⟨(blk_cell BK418.out 0).trans rfl, (blk_cell BK418.out 1).trans rfl, (blk_cell BK418.out 2).trans rfl, (blk_cell BK418.out 3).trans rfl, (blk_cell BK419.out 0).trans rfl, (blk_cell BK419.out 1).trans rfl, (blk_cell BK419.out 2).trans rfl, (blk_cell BK419.out 3).trans rfl⟩ (fun hHeld => ?_)
            clear hK K
            refine norm_ (a' := ?_) ?_ ?_
            rotate_left
            ·show Act.put _ (some 28) _ = _
             simp only [Act.put, List.setIfInBounds_toArray, List.set_cons_zero, List.set_cons_succ, i64_w, i32_w]
             rfl
            refine one_ (i := 3) (N := some 30) #[true, true, true, true, false, false] rfl rfl (by kernel_rfl) (by decide) (fun K hK => ?_)
            refine goesV_ Try.func19 (by kernel_rfl) rfl #[.agg #[.int .i64 t409, .int .i64 t410, .slice Ao38 t411.length co38, .slice Ao39 t414.length co39]] (by rfl) rfl rfl (by (try simp only [List.map_toArray, List.map_cons, List.map_nil]); first | done | rfl | (simp only [List.length_drop, List.length_take]; rfl)) ?_
            with_reducible refine (txn_Put.calls kj4 t409 t410 _ _ t411 _ _ t414 t423 _ ?side1 ?side2 ?side3 ?side4 A14.out).mono ?_
            (case side1 => repeat (first | exact (Kd.R_reads' HO413.out).2.2 | (with_reducible refine ca_ ?_ _) | (with_reducible refine cn_ ?_ _) | (with_reducible refine cd_ ?_)))
            (case side2 => exact (Kd.R_reads' HO413.out).2.1)
            (case side3 => repeat (first | exact (Kd.R_reads' HO416.out).2.2 | (with_reducible refine ca_ ?_ _) | (with_reducible refine cn_ ?_ _) | (with_reducible refine cd_ ?_)))
            (case side4 => exact (Kd.R_reads' HO416.out).2.1)
            rintro e w43 ⟨v424, rfl, ho0, hb⟩
            refine ⟨_, rfl, ?_⟩
            have n0_ := Aside0.mk (Kd.R_below (by (with_reducible repeat (first | apply ra_ | apply rn_ | apply rd_)); exact HO401.out) hb)
            have n1_ := Aside0.mk (Kd.R_below (by (with_reducible repeat (first | apply ra_ | apply rn_ | apply rd_)); exact HO404.out) hb)
            have n2_ := Aside0.mk (Kd.R_below (by (with_reducible repeat (first | apply ra_ | apply rn_ | apply rd_)); exact HO413.out) hb)
            have n3_ := Aside0.mk (Kd.R_below (by (with_reducible repeat (first | apply ra_ | apply rn_ | apply rd_)); exact HO416.out) hb)
            have n4_ := Aside0.mk (Kd.R_elder' (by (with_reducible repeat (first | apply ra_ | apply rn_ | apply rd_)); exact HO422.out) (Kd.R_base ho0) hb)
            have n5_ := Aside0.mk (Kd.R_lower (Kd.R_new' ho0 (Kd.R_lt (by (with_reducible repeat (first | apply ra_ | apply rn_ | apply rd_)); exact HO422.out))) (below_size (by repeat (with_reducible first | exact HB.out | apply ba_ | apply bn_ | apply bd_ | refine bs_ ?_ (IsS128.ge HI408.out) | refine bs_ ?_ GE418.out | refine bs_ ?_ GE419.out))))
            have n6_ := Aside0.mk (IsS128.below (by repeat (with_reducible first | exact HI408.out | apply IsS128.alloc | apply IsS128.drewN | apply IsS128.drew | apply IsS128.set_1 | refine IsS128.far ?_ NB408_418.out _ | refine IsS128.far ?_ NB408_419.out _)) hb)
            have n7_ := Aside0.mk (blk_below (g := gb418) (o := .cells #[.int .i64 t397, .int .i64 t398, .slice Ao34 t399.length co34, .slice Ao35 t402.length co35] 30 (0, 0)) (by (with_reducible repeat (first | refine kn_ ?_ _ | refine kd_ ?_ | refine ka_ ?_ _)); exact BK418.out) hb)
            have n8_ := Aside0.mk (blk_below (g := gb419) (o := .cells #[.int .i64 t409, .int .i64 t410, .slice Ao38 t411.length co38, .slice Ao39 t414.length co39] 30 (0, 0)) (by (with_reducible repeat (first | refine kn_ ?_ _ | refine kd_ ?_ | refine ka_ ?_ _)); exact BK419.out) hb)
            have n9_ := Aside0.mk (below_step (by repeat (with_reducible first | exact HB.out | apply ba_ | apply bn_ | apply bd_ | refine bs_ ?_ (IsS128.ge HI408.out) | refine bs_ ?_ GE418.out | refine bs_ ?_ GE419.out)) hb)
            clear HO401
            clear HO404
            clear HO413
            clear HO416
            clear HO422
            clear HI408
            clear BK418
            clear BK419
            clear HB
            have HO401 := n0_
            have HO404 := n1_
            have HO413 := n2_
            have HO416 := n3_
            have HO422 := n4_
            have HO425 := n5_
            have HI408 := n6_
            have BK418 := n7_
            have BK419 := n8_
            have HB := n9_
            clear n0_ n1_ n2_ n3_ n4_ n5_ n6_ n7_ n8_ n9_
            clear hb ho0
            refine hK.out _ _ ⟨(blk_cell BK418.out 0).trans rfl, (blk_cell BK418.out 1).trans rfl, (blk_cell BK418.out 2).trans rfl, (blk_cell BK418.out 3).trans rfl, (blk_cell BK419.out 0).trans rfl, (blk_cell BK419.out 1).trans rfl, (blk_cell BK419.out 2).trans rfl, (blk_cell BK419.out 3).trans rfl⟩ (fun hHeld => ?_)
            clear hK K
            refine norm_ (a' := ?_) ?_ ?_
            rotate_left
            ·show Act.put _ (some 30) _ = _
             simp only [Act.put, List.setIfInBounds_toArray, List.set_cons_zero, List.set_cons_succ, i64_w, i32_w]
             rfl
            refine pure_ (i := 4) (N := some 7) (v := ?_) (a' := ?_) #[true, true, true, true, true, false] rfl rfl (by kernel_rfl) (fun _ _ _ h => h) (Or.inl ⟨by rfl, ?_⟩) ?_ ?_
            rotate_left
            ·intro w'
             go_simp
             with_reducible rfl
            rotate_left
            ·simp only [Act.put, List.setIfInBounds_toArray, List.set_cons_zero, List.set_cons_succ, i64_w, i32_w]
             rfl
            refine pure_ (i := 5) (N := some 8) (v := ?_) (a' := ?_) #[true, true, true, true, true, true] rfl rfl (by kernel_rfl) (fun _ _ _ h => h) (Or.inl ⟨by rfl, ?_⟩) ?_ ?_
            rotate_left
            ·intro w'
             go_simp
             with_reducible rfl
            rotate_left
            ·simp only [Act.put, List.setIfInBounds_toArray, List.set_cons_zero, List.set_cons_succ, i64_w, i32_w]
             rfl
            refine done_ (by kernel_rfl) ?_
            have hcz44_0 : w43.cell? ⟨gb418, 0, none⟩ = some (.int .i64 t397) := (blk_cell BK418.out 0).trans rfl
            have hcz44_1 : w43.cell? ⟨gb418, 1, none⟩ = some (.int .i64 t398) := (blk_cell BK418.out 1).trans rfl
            have hcz44_2 : w43.cell? ⟨gb418, 2, none⟩ = some (.slice Ao34 t399.length co34) := (blk_cell BK418.out 2).trans rfl
            have hcz44_3 : w43.cell? ⟨gb418, 3, none⟩ = some (.slice Ao35 t402.length co35) := (blk_cell BK418.out 3).trans rfl
            have hfz44_0 := blk_frozen BK418.out 0
            have hfz44_1 := blk_frozen BK418.out 1
            have hfz44_2 := blk_frozen BK418.out 2
            have hfz44_3 := blk_frozen BK418.out 3
            have hcz45_0 : w43.cell? ⟨gb419, 0, none⟩ = some (.int .i64 t409) := (blk_cell BK419.out 0).trans rfl
            have hcz45_1 : w43.cell? ⟨gb419, 1, none⟩ = some (.int .i64 t410) := (blk_cell BK419.out 1).trans rfl
            have hcz45_2 : w43.cell? ⟨gb419, 2, none⟩ = some (.slice Ao38 t411.length co38) := (blk_cell BK419.out 2).trans rfl
            have hcz45_3 : w43.cell? ⟨gb419, 3, none⟩ = some (.slice Ao39 t414.length co39) := (blk_cell BK419.out 3).trans rfl
            have hfz45_0 := blk_frozen BK419.out 0
            have hfz45_1 := blk_frozen BK419.out 1
            have hfz45_2 := blk_frozen BK419.out 2
            have hfz45_3 := blk_frozen BK419.out 3
            try go_wp2_with (first | ((with_reducible refine gate_callee (f := 26) rfl ?_); refine goesM_ (some 33) Try.func26 #[.agg #[.int .i64 t397, .int .i64 t398, .slice Ao34 t399.length co34, .slice Ao35 t402.length co35], .agg #[.int .i64 t409, .int .i64 t410, .slice Ao38 t411.length co38, .slice Ao39 t414.length co39]] ?_; (with_reducible refine (diwanref1_SameTxn.calls kj4 t397 t398 _ _ t399 _ _ t402 t409 t410 _ _ t411 _ _ t414 t426 _ ?side1 ?side2 ?side3 ?side4 ?side5 ?side6 ?side7 ?side8 A15.out).mono ?_); (case side1 => repeat (first | exact (Kd.R_reads' HO401.out).2.2 | (with_reducible refine ca_ ?_ _) | (with_reducible refine cn_ ?_ _) | (with_reducible refine cd_ ?_))); (case side2 => exact (Kd.R_reads' HO401.out).2.1); (case side3 => repeat (first | exact (Kd.R_reads' HO404.out).2.2 | (with_reducible refine ca_ ?_ _) | (with_reducible refine cn_ ?_ _) | (with_reducible refine cd_ ?_))); (case side4 => exact (Kd.R_reads' HO404.out).2.1); (case side5 => repeat (first | exact (Kd.R_reads' HO413.out).2.2 | (with_reducible refine ca_ ?_ _) | (with_reducible refine cn_ ?_ _) | (with_reducible refine cd_ ?_))); (case side6 => exact (Kd.R_reads' HO413.out).2.1); (case side7 => repeat (first | exact (Kd.R_reads' HO416.out).2.2 | (with_reducible refine ca_ ?_ _) | (with_reducible refine cn_ ?_ _) | (with_reducible refine cd_ ?_))); (case side8 => exact (Kd.R_reads' HO416.out).2.1); rintro e w46 ⟨rfl, hb⟩; refine ⟨_, rfl, ?_⟩; have n0_ := Aside0.mk (Kd.R_below (by (with_reducible repeat (first | apply ra_ | apply rn_ | apply rd_)); exact HO401.out) hb); have n1_ := Aside0.mk (Kd.R_below (by (with_reducible repeat (first | apply ra_ | apply rn_ | apply rd_)); exact HO404.out) hb); have n2_ := Aside0.mk (Kd.R_below (by (with_reducible repeat (first | apply ra_ | apply rn_ | apply rd_)); exact HO413.out) hb); have n3_ := Aside0.mk (Kd.R_below (by (with_reducible repeat (first | apply ra_ | apply rn_ | apply rd_)); exact HO416.out) hb); have n4_ := Aside0.mk (Kd.R_below (by (with_reducible repeat (first | apply ra_ | apply rn_ | apply rd_)); exact HO422.out) hb); have n5_ := Aside0.mk (Kd.R_below (by (with_reducible repeat (first | apply ra_ | apply rn_ | apply rd_)); exact HO425.out) hb); have n6_ := Aside0.mk (IsS128.below (by repeat (with_reducible first | exact HI408.out | apply IsS128.alloc | apply IsS128.drewN | apply IsS128.drew | apply IsS128.set_1 | refine IsS128.far ?_ NB408_418.out _ | refine IsS128.far ?_ NB408_419.out _)) hb); have n7_ := Aside0.mk (blk_below (g := gb418) (o := .cells #[.int .i64 t397, .int .i64 t398, .slice Ao34 t399.length co34, .slice Ao35 t402.length co35] 30 (0, 0)) (by (with_reducible repeat (first | refine kn_ ?_ _ | refine kd_ ?_ | refine ka_ ?_ _)); exact BK418.out) hb); have n8_ := Aside0.mk (blk_below (g := gb419) (o := .cells #[.int .i64 t409, .int .i64 t410, .slice Ao38 t411.length co38, .slice Ao39 t414.length co39] 30 (0, 0)) (by (with_reducible repeat (first | refine kn_ ?_ _ | refine kd_ ?_ | refine ka_ ?_ _)); exact BK419.out) hb); have n9_ := Aside0.mk (below_step (by repeat (with_reducible first | exact HB.out | apply ba_ | apply bn_ | apply bd_ | refine bs_ ?_ (IsS128.ge HI408.out) | refine bs_ ?_ GE418.out | refine bs_ ?_ GE419.out)) hb); clear HO401; clear HO404; clear HO413; clear HO416; clear HO422; clear HO425; clear HI408; clear BK418; clear BK419; clear HB; have HO401 := n0_; have HO404 := n1_; have HO413 := n2_; have HO416 := n3_; have HO422 := n4_; have HO425 := n5_; have HI408 := n6_; have BK418 := n7_; have BK419 := n8_; have HB := n9_; clear n0_ n1_ n2_ n3_ n4_ n5_ n6_ n7_ n8_ n9_; clear hb; obtain ⟨Ao47, co47, eo47⟩ := Kd.R_slice HO422.out; subst eo47; obtain ⟨Ao48, co48, eo48⟩ := Kd.R_slice HO425.out; subst eo48))
            have n0_ := Aside0.mk (Kd.R_drew HO401.out)
            have n1_ := Aside0.mk (Kd.R_drew HO404.out)
            have n2_ := Aside0.mk (Kd.R_drew HO413.out)
            have n3_ := Aside0.mk (Kd.R_drew HO416.out)
            have n4_ := Aside0.mk (Kd.R_drew HO422.out)
            have n5_ := Aside0.mk (Kd.R_drew HO425.out)
            have n6_ := Aside0.mk (blk_drew BK418.out)
            have n7_ := Aside0.mk (blk_drew BK419.out)
            have n8_ := Aside0.mk (IsS128.drew HI408.out)
            have n9_ := Aside0.mk (below_drew1 HB.out)
            clear HO401
            clear HO404
            clear HO413
            clear HO416
            clear HO422
            clear HO425
            clear BK418
            clear BK419
            clear HI408
            clear HB
            have HO401 := n0_
            have HO404 := n1_
            have HO413 := n2_
            have HO416 := n3_
            have HO422 := n4_
            have HO425 := n5_
            have BK418 := n6_
            have BK419 := n7_
            have HI408 := n8_
            have HB := n9_
            clear n0_ n1_ n2_ n3_ n4_ n5_ n6_ n7_ n8_ n9_
            have q50 : ((ji19) : Int) ≤ ((t423.length : Int) : Int) := of_decide_eq_true (by first | (with_reducible assumption) | assumption)
            obtain ⟨i050, hi050, _, hsz50, _⟩ := info_parts info5
            have hroom50 : t423.length ≤ co48 := (Kd.R_reads' HO425.out).2.1
            have hC50 : Kd.C (Kd.int .u8) _ Ao48 t423.length t423 := (Kd.R_reads' HO425.out).2.2
            have hcut50 := cut_to (P := Try.prog) 33 5 .i64 Try.underlying33 hi050 Ao48 t423.length co48 (ji19) (of_decide_eq_true (by first | (with_reducible assumption) | assumption)) q50 hroom50
            have hr50 := Kd.C_take (m := ((ji19) : Int).toNat) hC50 (by omega)
            have hy50 : y427.length = ((ji19) : Int).toNat := (by rw [Ny427.out, List.length_take]; omega)
            rw [← Ny427.out] at hr50
            rw [← hy50] at hcut50
            have HR430 := Aside0.mk hr50
            have HC430 := Aside0.mk (show y427.length ≤ co48 from by omega)
            clear hr50 hC50 hroom50 hi050 hsz50
            have KY50 := Aside0.mk hy50
            clear hy50
            have KL50 := Aside0.mk (show ((ji19) : Int).toNat ≤ t423.length from by omega)
            replace q50 := eq_true q50
            have hcv51 := Kd.C_string (P := Try.prog) (A := Ao48) (c := co48) Try.underlying33 Try.underlying5 Try.underlying9 (by repeat (first | (with_reducible exact HR430.out) | (with_reducible refine ca_ ?_ _) | (with_reducible refine cn_ ?_ _) | (with_reducible refine cd_ ?_) | exact HR430.out))
            have hcv52 := own_string (P := Try.prog) Try.underlying33 Try.underlying5 Try.underlying9 (Kd.own_of_R HO422.out)
            refine start_ (n := 19) (S := fun w' => (convert 33 9 (.slice Ao48 y427.length co48)).run Try.prog w' = .ok (.string (strOfNums y427)) w' ∧ (convert 33 9 (.slice Ao47 t420.length co47)).run Try.prog w' = .ok (.string (strOfNums t420)) w') (ds := []) #[false, false, false, false, false, false, false, false, false, false, false, false, false, false, false, false, false, false, false] (by kernel_rfl) rfl rfl ⟨hcv51, hcv52⟩ (fun hHeld => ?_); refine with_tabW diwanlaw5_TxnApart.tab10 diwanlaw5_TxnApart.bits10 (fun HT_ HW_ => ?_)
            generalize w46.drew = w49 at HO401 HO404 HO413 HO416 HO422 HO425 BK418 BK419 HI408 HB HR430 hHeld ⊢
            refine pure_ (i := 0) (N := some 42) (v := ?_) (a' := ?_) #[true, false, false, false, false, false, false, false, false, false, false, false, false, false, false, false, false, false, false] rfl rfl (any_of HT_.out (by kernel_rfl)) (fun _ _ _ h => h) (Or.inl ⟨by rfl, ?_⟩) ?_ ?_
            rotate_left
            ·intro w'
             go_simp
             with_reducible rfl
            rotate_left
            ·simp only [Act.put, List.setIfInBounds_toArray, List.set_cons_zero, List.set_cons_succ, i64_w, i32_w]
             rfl
            refine pure_ (i := 1) (N := some 43) (v := ?_) (a' := ?_) #[true, true, false, false, false, false, false, false, false, false, false, false, false, false, false, false, false, false, false] rfl rfl (any_of HT_.out (by kernel_rfl)) (fun _ _ _ h => h) (Or.inl ⟨by rfl, ?_⟩) ?_ ?_
            rotate_left
            ·intro w'
             go_simp
             with_reducible rfl
            rotate_left
            ·simp only [Act.put, List.setIfInBounds_toArray, List.set_cons_zero, List.set_cons_succ, i64_w, i32_w]
             rfl
            refine pure_ (i := 2) (N := some 44) (v := ?_) (a' := ?_) #[true, true, true, false, false, false, false, false, false, false, false, false, false, false, false, false, false, false, false] rfl rfl (any_of HT_.out (by kernel_rfl)) (fun _ _ _ h => h) (Or.inl ⟨by rfl, ?_⟩) ?_ ?_
            rotate_left
            ·intro w'
             go_simp
             with_reducible rfl
            rotate_left
            ·simp only [Act.put, List.setIfInBounds_toArray, List.set_cons_zero, List.set_cons_succ, i64_w, i32_w]
             rfl
            refine pure_ (i := 3) (N := some 45) (v := ?_) (a' := ?_) #[true, true, true, true, false, false, false, false, false, false, false, false, false, false, false, false, false, false, false] rfl rfl (any_of HT_.out (by kernel_rfl)) (fun _ _ _ h => h) (Or.inl ⟨by rfl, ?_⟩) ?_ ?_
            rotate_left
            ·intro w'
             go_simp
             with_reducible rfl
            rotate_left
            ·simp only [Act.put, List.setIfInBounds_toArray, List.set_cons_zero, List.set_cons_succ, i64_w, i32_w]
             rfl
            refine pure_ (i := 4) (N := some 46) (v := ?_) (a' := ?_) #[true, true, true, true, true, false, false, false, false, false, false, false, false, false, false, false, false, false, false] rfl rfl (any_of HT_.out (by kernel_rfl)) (fun _ _ _ h => h) (Or.inl ⟨by rfl, ?_⟩) ?_ ?_
            rotate_left
            ·intro w'
             go_simp
             with_reducible rfl
            rotate_left
            ·simp only [Act.put, List.setIfInBounds_toArray, List.set_cons_zero, List.set_cons_succ, i64_w, i32_w]
             rfl
            refine pure_ (i := 5) (N := some 47) (v := ?_) (a' := ?_) #[true, true, true, true, true, true, false, false, false, false, false, false, false, false, false, false, false, false, false] rfl rfl (any_of HT_.out (by kernel_rfl)) (fun _ _ _ h => h) (Or.inl ⟨by rfl, ?_⟩) ?_ ?_
            rotate_left
            ·intro w'
             go_simp
             with_reducible rfl
            rotate_left
            ·simp only [Act.put, List.setIfInBounds_toArray, List.set_cons_zero, List.set_cons_succ, i64_w, i32_w]
             rfl
            refine pure_ (i := 6) (N := some 48) (v := ?_) (a' := ?_) #[true, true, true, true, true, true, true, false, false, false, false, false, false, false, false, false, false, false, false] rfl rfl (any_of HT_.out (by kernel_rfl)) (fun _ _ _ h => h) (Or.inl ⟨by rfl, ?_⟩) ?_ ?_
            rotate_left
            ·intro w'
             go_simp
             with_reducible rfl
            rotate_left
            ·simp only [Act.put, List.setIfInBounds_toArray, List.set_cons_zero, List.set_cons_succ, i64_w, i32_w]
             rfl
            refine pure_ (i := 7) (N := some 49) (v := ?_) (a' := ?_) #[true, true, true, true, true, true, true, true, false, false, false, false, false, false, false, false, false, false, false] rfl rfl (any_of HT_.out (by kernel_rfl)) (fun _ _ _ h => h) (Or.inl ⟨by rfl, ?_⟩) ?_ ?_
            rotate_left
            ·intro w'
             go_simp
             with_reducible rfl
            rotate_left
            ·simp only [Act.put, List.setIfInBounds_toArray, List.set_cons_zero, List.set_cons_succ, i64_w, i32_w]
             rfl
            refine pure_ (i := 8) (N := some 50) (v := ?_) (a' := ?_) #[true, true, true, true, true, true, true, true, true, false, false, false, false, false, false, false, false, false, false] rfl rfl (any_of HT_.out (by kernel_rfl)) (fun _ _ _ h => h) (Or.inl ⟨by rfl, ?_⟩) ?_ ?_
            rotate_left
            ·intro w'
             go_simp
             with_reducible rfl
            rotate_left
            ·simp only [Act.put, List.setIfInBounds_toArray, List.set_cons_zero, List.set_cons_succ, i64_w, i32_w]
             rfl
            refine pure_ (i := 9) (N := some 51) (v := ?_) (a' := ?_) #[true, true, true, true, true, true, true, true, true, true, false, false, false, false, false, false, false, false, false] rfl rfl (any_of HT_.out (by kernel_rfl)) (fun _ _ _ h => h) (Or.inl ⟨by rfl, ?_⟩) ?_ ?_
            rotate_left
            ·intro w'
             go_simp
             with_reducible rfl
            rotate_left
            ·simp only [Act.put, List.setIfInBounds_toArray, List.set_cons_zero, List.set_cons_succ, i64_w, i32_w]
             rfl
            refine pure_ (i := 10) (N := some 52) (v := ?_) (a' := ?_) #[true, true, true, true, true, true, true, true, true, true, true, false, false, false, false, false, false, false, false] rfl rfl (any_of HT_.out (by kernel_rfl)) (fun _ _ _ h => h) (Or.inl ⟨by rfl, ?_⟩) ?_ ?_
            rotate_left
            ·intro w'
             go_simp
             with_reducible rfl
            rotate_left
            ·simp only [Act.put, List.setIfInBounds_toArray, List.set_cons_zero, List.set_cons_succ, i64_w, i32_w]
             rfl
            refine pure_ (i := 11) (N := some 53) (v := ?_) (a' := ?_) #[true, true, true, true, true, true, true, true, true, true, true, true, false, false, false, false, false, false, false] rfl rfl (any_of HT_.out (by kernel_rfl)) (fun _ _ _ h => h) (Or.inl ⟨by rfl, ?_⟩) ?_ ?_
            rotate_left
            ·intro w'
             go_simp
             with_reducible rfl
            rotate_left
            ·simp only [Act.put, List.setIfInBounds_toArray, List.set_cons_zero, List.set_cons_succ, i64_w, i32_w]
             rfl
            refine pure_ (i := 12) (N := some 54) (v := ?_) (a' := ?_) #[true, true, true, true, true, true, true, true, true, true, true, true, true, false, false, false, false, false, false] rfl rfl (any_of HT_.out (by kernel_rfl)) (fun _ _ _ h => h) (Or.inl ⟨by rfl, ?_⟩) ?_ ?_
            rotate_left
            ·intro w'
             go_simp
             with_reducible rfl
            rotate_left
            ·simp only [Act.put, List.setIfInBounds_toArray, List.set_cons_zero, List.set_cons_succ, i64_w, i32_w]
             rfl
            refine take_ (i := 13) (N := some 55) (v := ?_) (a' := ?_) #[true, true, true, true, true, true, true, true, true, true, true, true, true, true, false, false, false, false, false] rfl rfl (take_ofW HT_.out HW_.out (by kernel_rfl)) (fun _ _ _ h => h) (Or.inl ⟨by rfl, ?_⟩) hHeld ?_ ?_
            rotate_left
            ·rintro w' ⟨s0, s1⟩
             go_simp
             with_reducible rfl
            rotate_left
            ·simp only [Act.put, List.setIfInBounds_toArray, List.set_cons_zero, List.set_cons_succ, i64_w, i32_w]
             rfl
            refine pure_ (i := 14) (N := some 56) (v := ?_) (a' := ?_) #[true, true, true, true, true, true, true, true, true, true, true, true, true, true, true, false, false, false, false] rfl rfl (any_of HT_.out (by kernel_rfl)) (fun _ _ _ h => h) (Or.inl ⟨by rfl, ?_⟩) ?_ ?_
            rotate_left
            ·intro w'
             go_simp
             with_reducible rfl
            rotate_left
            ·simp only [Act.put, List.setIfInBounds_toArray, List.set_cons_zero, List.set_cons_succ, i64_w, i32_w]
             rfl
            refine take_ (i := 15) (N := some 57) (v := ?_) (a' := ?_) #[true, true, true, true, true, true, true, true, true, true, true, true, true, true, true, true, false, false, false] rfl rfl (take_ofW HT_.out HW_.out (by kernel_rfl)) (fun _ _ _ h => h) (Or.inl ⟨by rfl, ?_⟩) hHeld ?_ ?_
            rotate_left
            ·rintro w' ⟨s0, s1⟩
             go_simp
             with_reducible rfl
            rotate_left
            ·simp only [Act.put, List.setIfInBounds_toArray, List.set_cons_zero, List.set_cons_succ, i64_w, i32_w]
             rfl
            refine pure_ (i := 16) (N := some 58) (v := ?_) (a' := ?_) #[true, true, true, true, true, true, true, true, true, true, true, true, true, true, true, true, true, false, false] rfl rfl (any_of HT_.out (by kernel_rfl)) (fun _ _ _ h => h) (Or.inl ⟨by rfl, ?_⟩) ?_ ?_
            rotate_left
            ·intro w'
             go_simp
             with_reducible rfl
            rotate_left
            ·simp only [Act.put, List.setIfInBounds_toArray, List.set_cons_zero, List.set_cons_succ, i64_w, i32_w]
             rfl
            refine pure_ (i := 17) (N := some 59) (v := ?_) (a' := ?_) #[true, true, true, true, true, true, true, true, true, true, true, true, true, true, true, true, true, true, false] rfl rfl (any_of HT_.out (by kernel_rfl)) (fun _ _ _ h => h) (Or.inl ⟨by rfl, ?_⟩) ?_ ?_
            rotate_left
            ·intro w'
             go_simp
             with_reducible rfl
            rotate_left
            ·simp only [Act.put, List.setIfInBounds_toArray, List.set_cons_zero, List.set_cons_succ, i64_w, i32_w]
             rfl
            refine pure_ (i := 18) (N := some 10) (v := ?_) (a' := ?_) #[true, true, true, true, true, true, true, true, true, true, true, true, true, true, true, true, true, true, true] rfl rfl (any_of HT_.out (by kernel_rfl)) (fun _ _ _ h => h) (Or.inl ⟨by rfl, ?_⟩) ?_ ?_
            rotate_left
            ·intro w'
             go_simp
             with_reducible rfl
            rotate_left
            ·simp only [Act.put, List.setIfInBounds_toArray, List.set_cons_zero, List.set_cons_succ, i64_w, i32_w]
             rfl
            refine done_ (done_of HT_.out (by kernel_rfl)) ?_
            have hcz54_0 : w49.cell? ⟨gb418, 0, none⟩ = some (.int .i64 t397) := (blk_cell BK418.out 0).trans rfl
            have hcz54_1 : w49.cell? ⟨gb418, 1, none⟩ = some (.int .i64 t398) := (blk_cell BK418.out 1).trans rfl
            have hcz54_2 : w49.cell? ⟨gb418, 2, none⟩ = some (.slice Ao34 t399.length co34) := (blk_cell BK418.out 2).trans rfl
            have hcz54_3 : w49.cell? ⟨gb418, 3, none⟩ = some (.slice Ao35 t402.length co35) := (blk_cell BK418.out 3).trans rfl
            have hfz54_0 := blk_frozen BK418.out 0
            have hfz54_1 := blk_frozen BK418.out 1
            have hfz54_2 := blk_frozen BK418.out 2
            have hfz54_3 := blk_frozen BK418.out 3
            have hcz55_0 : w49.cell? ⟨gb419, 0, none⟩ = some (.int .i64 t409) := (blk_cell BK419.out 0).trans rfl
            have hcz55_1 : w49.cell? ⟨gb419, 1, none⟩ = some (.int .i64 t410) := (blk_cell BK419.out 1).trans rfl
            have hcz55_2 : w49.cell? ⟨gb419, 2, none⟩ = some (.slice Ao38 t411.length co38) := (blk_cell BK419.out 2).trans rfl
            have hcz55_3 : w49.cell? ⟨gb419, 3, none⟩ = some (.slice Ao39 t414.length co39) := (blk_cell BK419.out 3).trans rfl
            have hfz55_0 := blk_frozen BK419.out 0
            have hfz55_1 := blk_frozen BK419.out 1
            have hfz55_2 := blk_frozen BK419.out 2
            have hfz55_3 := blk_frozen BK419.out 3
            try go_wp2_with (first | ((with_reducible refine gate_callee (f := 20) rfl ?_); refine goesM_ (some 62) Try.func20 #[.agg #[.int .i64 t397, .int .i64 t398, .slice Ao34 t399.length co34, .slice Ao35 t402.length co35], .agg #[.int .i64 t409, .int .i64 t410, .slice Ao38 t411.length co38, .slice Ao39 t414.length co39]] ?_; (with_reducible refine (txn_Same.calls kj4 t397 t398 _ _ t399 _ _ t402 t409 t410 _ _ t411 _ _ t414 t431 _ ?side1 ?side2 ?side3 ?side4 ?side5 ?side6 ?side7 ?side8 A22.out).mono ?_); (case side1 => repeat (first | exact (Kd.R_reads' HO401.out).2.2 | (with_reducible refine ca_ ?_ _) | (with_reducible refine cn_ ?_ _) | (with_reducible refine cd_ ?_))); (case side2 => exact (Kd.R_reads' HO401.out).2.1); (case side3 => repeat (first | exact (Kd.R_reads' HO404.out).2.2 | (with_reducible refine ca_ ?_ _) | (with_reducible refine cn_ ?_ _) | (with_reducible refine cd_ ?_))); (case side4 => exact (Kd.R_reads' HO404.out).2.1); (case side5 => repeat (first | exact (Kd.R_reads' HO413.out).2.2 | (with_reducible refine ca_ ?_ _) | (with_reducible refine cn_ ?_ _) | (with_reducible refine cd_ ?_))); (case side6 => exact (Kd.R_reads' HO413.out).2.1); (case side7 => repeat (first | exact (Kd.R_reads' HO416.out).2.2 | (with_reducible refine ca_ ?_ _) | (with_reducible refine cn_ ?_ _) | (with_reducible refine cd_ ?_))); (case side8 => exact (Kd.R_reads' HO416.out).2.1); rintro e w56 ⟨rfl, hb⟩; refine ⟨_, rfl, ?_⟩; have n0_ := Aside0.mk (Kd.R_below (by (with_reducible repeat (first | apply ra_ | apply rn_ | apply rd_)); exact HO401.out) hb); have n1_ := Aside0.mk (Kd.R_below (by (with_reducible repeat (first | apply ra_ | apply rn_ | apply rd_)); exact HO404.out) hb); have n2_ := Aside0.mk (Kd.R_below (by (with_reducible repeat (first | apply ra_ | apply rn_ | apply rd_)); exact HO413.out) hb); have n3_ := Aside0.mk (Kd.R_below (by (with_reducible repeat (first | apply ra_ | apply rn_ | apply rd_)); exact HO416.out) hb); have n4_ := Aside0.mk (Kd.R_below (by (with_reducible repeat (first | apply ra_ | apply rn_ | apply rd_)); exact HO422.out) hb); have n5_ := Aside0.mk (Kd.R_below (by (with_reducible repeat (first | apply ra_ | apply rn_ | apply rd_)); exact HO425.out) hb); have n6_ := Aside0.mk (IsS128.below (by repeat (with_reducible first | exact HI408.out | apply IsS128.alloc | apply IsS128.drewN | apply IsS128.drew | apply IsS128.set_1 | refine IsS128.far ?_ NB408_418.out _ | refine IsS128.far ?_ NB408_419.out _)) hb); have n7_ := Aside0.mk (blk_below (g := gb418) (o := .cells #[.int .i64 t397, .int .i64 t398, .slice Ao34 t399.length co34, .slice Ao35 t402.length co35] 30 (0, 0)) (by (with_reducible repeat (first | refine kn_ ?_ _ | refine kd_ ?_ | refine ka_ ?_ _)); exact BK418.out) hb); have n8_ := Aside0.mk (blk_below (g := gb419) (o := .cells #[.int .i64 t409, .int .i64 t410, .slice Ao38 t411.length co38, .slice Ao39 t414.length co39] 30 (0, 0)) (by (with_reducible repeat (first | refine kn_ ?_ _ | refine kd_ ?_ | refine ka_ ?_ _)); exact BK419.out) hb); have n9_ := Aside0.mk (below_step (by repeat (with_reducible first | exact HB.out | apply ba_ | apply bn_ | apply bd_ | refine bs_ ?_ (IsS128.ge HI408.out) | refine bs_ ?_ GE418.out | refine bs_ ?_ GE419.out)) hb); clear HO401; clear HO404; clear HO413; clear HO416; clear HO422; clear HO425; clear HI408; clear BK418; clear BK419; clear HB; have HO401 := n0_; have HO404 := n1_; have HO413 := n2_; have HO416 := n3_; have HO422 := n4_; have HO425 := n5_; have HI408 := n6_; have BK418 := n7_; have BK419 := n8_; have HB := n9_; clear n0_ n1_ n2_ n3_ n4_ n5_ n6_ n7_ n8_ n9_; clear hb; have hcv57 := own_string (P := Try.prog) Try.underlying33 Try.underlying5 Try.underlying9 (Kd.own_of_R HO422.out); have hcv58 := own_string (P := Try.prog) Try.underlying33 Try.underlying5 Try.underlying9 (Kd.own_of_R HO425.out)))
            go_ret
            exact ⟨by first | rfl | (simp [errW_none, errW_some] <;> rfl) | (simp only [← hji19]; first | rfl | (simp [errW_none, errW_some] <;> rfl)) | (simp [*, errW_none, errW_some] <;> rfl), by repeat (with_reducible first | exact HB.out | apply ba_ | apply bn_ | apply bd_ | refine bs_ ?_ (IsS128.ge HI408.out) | refine bs_ ?_ GE418.out | refine bs_ ?_ GE419.out)⟩
           ·rw [if_neg c24] at H
            exact absurd H (by simp)
          ·rw [if_neg c23] at H
           exact absurd H (by simp)
         ·rw [if_neg c21] at H
          exact absurd H (by simp)
        ·rw [if_neg c20] at H
         exact absurd H (by simp)
       ·rw [if_neg c18] at H
        have c18b0 : decide ((t420.length : Int) ≤ (t423.length : Int)) = false := decide_eq_false c18
        have c18b1 : decide (t420.length ≤ t423.length) = false := decide_eq_false (fun h => c18 (Int.ofNat_le.mpr h))
        clear c18
        replace H := Option.bind_eq_some_iff.mp H
        obtain ⟨t432, A590, H⟩ := H
        (try dsimp only at H)
        have A59 := Aside0.mk A590
        clear A590
        by_cases c60 : (t432 == t426) = true
        ·rw [if_pos c60] at H
         have c60b0 : (t432 == t426) = true := c60
         (try (have c60b1 : decide (t432 = t426) = true := by simpa using c60))
         (try (have c60b2 : (t432 == t426) = true := by simpa using c60))
         clear c60
         by_cases c61 : (false == t426) = true
         ·rw [if_pos c61] at H
          have c61b0 : (false == t426) = true := c61
          (try (have c61b1 : decide (false = t426) = true := by simpa using c61))
          (try (have c61b2 : (false == t426) = true := by simpa using c61))
          clear c61
          obtain rfl := Option.some.inj H
          try go_wp2_with (first | ((with_reducible refine gate_callee (f := 21) rfl ?_); refine goesM_ (some 22) Try.func21 #[.slice A0 l0.length c0] ?_; (with_reducible refine (diwanplay_Made.calls _ _ l0 t394 t395 w _ ?side1 ?side2 ?side3 A9.out).mono ?_); (case side1 => repeat (with_reducible first | exact HB.out | apply ba_ | apply bn_ | apply bd_)); (case side2 => exact HR0.out); (case side3 => exact HC0.out); rintro e w62 ⟨g396, rfl, hi, hb, hb2⟩; refine ⟨_, rfl, ?_⟩; have n0_ := Aside0.mk (hb); have n1_ := Aside0.mk (hi); clear HB; have HB := n0_; have HI396 := n1_; clear n0_ n1_; clear hb hb2 hi) | ((with_reducible refine gate_callee (f := 22) rfl ?_); refine goesM_ (some 23) Try.func22 #[.pointer (some ⟨g396, 0, none⟩), .int .i64 4] ?_; (with_reducible refine (diwanplay_Picks_Txn.calls kj4 g396 t394 t395 4 t397 t398 t399 t402 t405 w _ ?side1 ?side2 A10.out).mono ?_); (case side1 => repeat (with_reducible first | exact HI396.out | apply IsS128.alloc | apply IsS128.drewN | apply IsS128.drew | apply IsS128.set_1)); (case side2 => repeat (with_reducible first | exact HB.out | apply ba_ | apply bn_ | apply bd_ | refine bs_ ?_ (IsS128.ge HI396.out))); rintro e w63 ⟨v400, v403, rfl, ho0, ho1, hi, hb, hk⟩; refine ⟨_, rfl, ?_⟩; have n0_ := Aside0.mk (Kd.R_lower ho0 (below_size (by repeat (with_reducible first | exact HB.out | apply ba_ | apply bn_ | apply bd_ | refine bs_ ?_ (IsS128.ge HI396.out))))); have n1_ := Aside0.mk (Kd.R_lower ho1 (below_size (by repeat (with_reducible first | exact HB.out | apply ba_ | apply bn_ | apply bd_ | refine bs_ ?_ (IsS128.ge HI396.out))))); have n2_ := Aside0.mk (hb); have n3_ := Aside0.mk (hi); clear HB; clear HI396; have HO401 := n0_; have HO404 := n1_; have HB := n2_; have HI396 := n3_; clear n0_ n1_ n2_ n3_; clear hb hk hi ho0 ho1) | ((with_reducible refine gate_callee (f := 21) rfl ?_); refine goesM_ (some 25) Try.func21 #[.slice A1 l1.length c1] ?_; (with_reducible refine (diwanplay_Made.calls _ _ l1 t406 t407 w _ ?side1 ?side2 ?side3 A11.out).mono ?_); (case side1 => repeat (with_reducible first | exact HB.out | apply ba_ | apply bn_ | apply bd_ | refine bs_ ?_ (IsS128.ge HI396.out))); (case side2 => exact HR1.out); (case side3 => exact HC1.out); rintro e w64 ⟨g408, rfl, hi, hb, hb2⟩; refine ⟨_, rfl, ?_⟩; (try clear HI396); have n0_ := Aside0.mk (Kd.R_below (by (with_reducible repeat (first | apply ra_ | apply rn_ | apply rd_)); exact HO401.out) hb2); have n1_ := Aside0.mk (Kd.R_below (by (with_reducible repeat (first | apply ra_ | apply rn_ | apply rd_)); exact HO404.out) hb2); have n2_ := Aside0.mk (hb); have n3_ := Aside0.mk (hi); clear HO401; clear HO404; clear HB; have HO401 := n0_; have HO404 := n1_; have HB := n2_; have HI408 := n3_; clear n0_ n1_ n2_ n3_; clear hb hb2 hi) | ((with_reducible refine gate_callee (f := 22) rfl ?_); refine goesM_ (some 26) Try.func22 #[.pointer (some ⟨g408, 0, none⟩), .int .i64 4] ?_; (with_reducible refine (diwanplay_Picks_Txn.calls kj4 g408 t406 t407 4 t409 t410 t411 t414 t417 w _ ?side1 ?side2 A12.out).mono ?_); (case side1 => repeat (with_reducible first | exact HI408.out | apply IsS128.alloc | apply IsS128.drewN | apply IsS128.drew | apply IsS128.set_1)); (case side2 => repeat (with_reducible first | exact HB.out | apply ba_ | apply bn_ | apply bd_ | refine bs_ ?_ (IsS128.ge HI408.out))); rintro e w65 ⟨v412, v415, rfl, ho0, ho1, hi, hb, hk⟩; refine ⟨_, rfl, ?_⟩; have n0_ := Aside0.mk (Kd.R_mono (Kd.R_told (Kd.R_oldK (IsS128.apart (show IsS128 w _ g408 t406 t407 from by repeat (with_reducible first | exact HI408.out | apply IsS128.alloc | apply IsS128.drewN | apply IsS128.drew | apply IsS128.set_1)) (by (with_reducible repeat (first | apply ra_ | apply rn_ | apply rd_)); exact HO401.out) (by decide)) hk) (Kd.R_base ho0)) (fun _ h_ => h_.1)); have n1_ := Aside0.mk (Kd.R_mono (Kd.R_told (Kd.R_oldK (IsS128.apart (show IsS128 w _ g408 t406 t407 from by repeat (with_reducible first | exact HI408.out | apply IsS128.alloc | apply IsS128.drewN | apply IsS128.drew | apply IsS128.set_1)) (by (with_reducible repeat (first | apply ra_ | apply rn_ | apply rd_)); exact HO404.out) (by decide)) hk) (Kd.R_base ho1)) (fun _ h_ => h_.1)); have n2_ := Aside0.mk (Kd.R_lower (Kd.R_new' ho0 (Kd.R_lt (by (with_reducible repeat (first | apply ra_ | apply rn_ | apply rd_)); exact HO401.out))) (below_size (by repeat (with_reducible first | exact HB.out | apply ba_ | apply bn_ | apply bd_ | refine bs_ ?_ (IsS128.ge HI408.out))))); have n3_ := Aside0.mk (Kd.R_lower (Kd.R_new' ho1 (Kd.R_lt (by (with_reducible repeat (first | apply ra_ | apply rn_ | apply rd_)); exact HO404.out))) (below_size (by repeat (with_reducible first | exact HB.out | apply ba_ | apply bn_ | apply bd_ | refine bs_ ?_ (IsS128.ge HI408.out))))); have n4_ := Aside0.mk (hb); have n5_ := Aside0.mk (hi); clear HO401; clear HO404; clear HB; clear HI408; have HO401 := n0_; have HO404 := n1_; have HO413 := n2_; have HO416 := n3_; have HB := n4_; have HI408 := n5_; clear n0_ n1_ n2_ n3_ n4_ n5_; clear hb hk hi ho0 ho1) | ((with_reducible refine gate_dst (N := 5) rfl ?_); (try (refine gate_guard (by rfl) ?_; dsimp only)); refine box_event ?hg (N := 5) ?hd (cs := #[.int .i64 0, .int .i64 0, .slice none 0 0, .slice none 0 0]) (t := 30) ?hr ?_; (case hd => rfl); (case hg => rfl); (case hr => first | (go_simp; done) | (go_simp; rfl)); intro gb418 hg w66 hbox hb; have n0_ := Aside0.mk (Kd.R_below (by (with_reducible repeat (first | apply ra_ | apply rn_ | apply rd_)); exact HO401.out) hb); have n1_ := Aside0.mk (Kd.R_below (by (with_reducible repeat (first | apply ra_ | apply rn_ | apply rd_)); exact HO404.out) hb); have n2_ := Aside0.mk (Kd.R_below (by (with_reducible repeat (first | apply ra_ | apply rn_ | apply rd_)); exact HO413.out) hb); have n3_ := Aside0.mk (Kd.R_below (by (with_reducible repeat (first | apply ra_ | apply rn_ | apply rd_)); exact HO416.out) hb); have n4_ := Aside0.mk (IsS128.below (by repeat (with_reducible first | exact HI408.out | apply IsS128.alloc | apply IsS128.drewN | apply IsS128.drew | apply IsS128.set_1)) hb); have n5_ := Aside0.mk (below_step (by repeat (with_reducible first | exact HB.out | apply ba_ | apply bn_ | apply bd_ | refine bs_ ?_ (IsS128.ge HI408.out))) hb); have n6_ := Aside0.mk (hbox); have n7_ := Aside0.mk ((by rw [hg]; exact (below_size (by repeat (with_reducible first | exact HB.out | apply ba_ | apply bn_ | apply bd_ | refine bs_ ?_ (IsS128.ge HI408.out)))) : w.heap.size ≤ gb418)); have n8_ := Aside0.mk ((by rw [hg]; exact (below_size (by repeat (with_reducible first | exact HB.out | apply ba_ | apply bn_ | apply bd_ | refine bs_ ?_ (IsS128.ge HI408.out)))) : w.heap.size ≤ gb418)); have n9_ := Aside0.mk ((by rw [hg]; exact Nat.ne_of_lt (IsS128.lt (show IsS128 w _ g408 t406 t417 from by repeat (with_reducible first | exact HI408.out | apply IsS128.alloc | apply IsS128.drewN | apply IsS128.drew | apply IsS128.set_1))) : g408 ≠ gb418)); have n10_ := Aside0.mk ((by rw [hg]; exact Nat.ne_of_gt (IsS128.lt (show IsS128 w _ g408 t406 t417 from by repeat (with_reducible first | exact HI408.out | apply IsS128.alloc | apply IsS128.drewN | apply IsS128.drew | apply IsS128.set_1))) : gb418 ≠ g408)); clear HO401; clear HO404; clear HO413; clear HO416; clear HI408; clear HB; have HO401 := n0_; have HO404 := n1_; have HO413 := n2_; have HO416 := n3_; have HI408 := n4_; have HB := n5_; have BK418 := n6_; have GW418 := n7_; have GE418 := n8_; have NB408_418 := n9_; have NB418_408 := n10_; clear n0_ n1_ n2_ n3_ n4_ n5_ n6_ n7_ n8_ n9_ n10_; clear hb hbox hg) | ((with_reducible refine gate_dst (N := 6) rfl ?_); (try (refine gate_guard (by rfl) ?_; dsimp only)); refine box_event ?hg (N := 6) ?hd (cs := #[.int .i64 0, .int .i64 0, .slice none 0 0, .slice none 0 0]) (t := 30) ?hr ?_; (case hd => rfl); (case hg => rfl); (case hr => first | (go_simp; done) | (go_simp; rfl)); intro gb419 hg w67 hbox hb; have n0_ := Aside0.mk (Kd.R_below (by (with_reducible repeat (first | apply ra_ | apply rn_ | apply rd_)); exact HO401.out) hb); have n1_ := Aside0.mk (Kd.R_below (by (with_reducible repeat (first | apply ra_ | apply rn_ | apply rd_)); exact HO404.out) hb); have n2_ := Aside0.mk (Kd.R_below (by (with_reducible repeat (first | apply ra_ | apply rn_ | apply rd_)); exact HO413.out) hb); have n3_ := Aside0.mk (Kd.R_below (by (with_reducible repeat (first | apply ra_ | apply rn_ | apply rd_)); exact HO416.out) hb); have n4_ := Aside0.mk (IsS128.below (by repeat (with_reducible first | exact HI408.out | apply IsS128.alloc | apply IsS128.drewN | apply IsS128.drew | apply IsS128.set_1 | refine IsS128.far ?_ NB408_418.out _)) hb); have n5_ := Aside0.mk (blk_below (g := gb418) (o := .cells #[.int .i64 0, .int .i64 0, .slice none 0 0, .slice none 0 0] 30 (0, 0)) (by (with_reducible repeat (first | refine kn_ ?_ _ | refine kd_ ?_ | refine ka_ ?_ _)); exact BK418.out) hb); have n6_ := Aside0.mk (below_step (by repeat (with_reducible first | exact HB.out | apply ba_ | apply bn_ | apply bd_ | refine bs_ ?_ (IsS128.ge HI408.out) | refine bs_ ?_ GE418.out)) hb); have n7_ := Aside0.mk (hbox); have n8_ := Aside0.mk ((by rw [hg]; exact (below_size (by repeat (with_reducible first | exact HB.out | apply ba_ | apply bn_ | apply bd_ | refine bs_ ?_ (IsS128.ge HI408.out) | refine bs_ ?_ GE418.out))) : w.heap.size ≤ gb419)); have n9_ := Aside0.mk ((by rw [hg]; exact (below_size (by repeat (with_reducible first | exact HB.out | apply ba_ | apply bn_ | apply bd_ | refine bs_ ?_ (IsS128.ge HI408.out) | refine bs_ ?_ GE418.out))) : w.heap.size ≤ gb419)); have n10_ := Aside0.mk ((by rw [hg]; exact Nat.ne_of_lt (blk_lt (g := gb418) (o := .cells #[.int .i64 0, .int .i64 0, .slice none 0 0, .slice none 0 0] 30 (0, 0)) (by (with_reducible repeat (first | refine kn_ ?_ _ | refine kd_ ?_ | refine ka_ ?_ _)); exact BK418.out)) : gb418 ≠ gb419)); have n11_ := Aside0.mk ((by rw [hg]; exact Nat.ne_of_gt (blk_lt (g := gb418) (o := .cells #[.int .i64 0, .int .i64 0, .slice none 0 0, .slice none 0 0] 30 (0, 0)) (by (with_reducible repeat (first | refine kn_ ?_ _ | refine kd_ ?_ | refine ka_ ?_ _)); exact BK418.out)) : gb419 ≠ gb418)); have n12_ := Aside0.mk ((by rw [hg]; exact Nat.ne_of_lt (IsS128.lt (show IsS128 w _ g408 t406 t417 from by repeat (with_reducible first | exact HI408.out | apply IsS128.alloc | apply IsS128.drewN | apply IsS128.drew | apply IsS128.set_1 | refine IsS128.far ?_ NB408_418.out _))) : g408 ≠ gb419)); have n13_ := Aside0.mk ((by rw [hg]; exact Nat.ne_of_gt (IsS128.lt (show IsS128 w _ g408 t406 t417 from by repeat (with_reducible first | exact HI408.out | apply IsS128.alloc | apply IsS128.drewN | apply IsS128.drew | apply IsS128.set_1 | refine IsS128.far ?_ NB408_418.out _))) : gb419 ≠ g408)); clear HO401; clear HO404; clear HO413; clear HO416; clear HI408; clear BK418; clear HB; have HO401 := n0_; have HO404 := n1_; have HO413 := n2_; have HO416 := n3_; have HI408 := n4_; have BK418 := n5_; have HB := n6_; have BK419 := n7_; have GW419 := n8_; have GE419 := n9_; have NB418_419 := n10_; have NB419_418 := n11_; have NB408_419 := n12_; have NB419_408 := n13_; clear n0_ n1_ n2_ n3_ n4_ n5_ n6_ n7_ n8_ n9_ n10_ n11_ n12_ n13_; clear hb hbox hg; have hnb68 := NB418_419.out; have hnc68 := NB419_418.out; have hnb69 := NB418_408.out; have hnc69 := NB408_418.out; have hcz70_0 : w67.cell? ⟨gb418, 0, none⟩ = some (.int .i64 0) := (blk_cell BK418.out 0).trans rfl; have hcz70_1 : w67.cell? ⟨gb418, 1, none⟩ = some (.int .i64 0) := (blk_cell BK418.out 1).trans rfl; have hcz70_2 : w67.cell? ⟨gb418, 2, none⟩ = some (.slice none 0 0) := (blk_cell BK418.out 2).trans rfl; have hcz70_3 : w67.cell? ⟨gb418, 3, none⟩ = some (.slice none 0 0) := (blk_cell BK418.out 3).trans rfl; have hfz70_0 := blk_frozen BK418.out 0; have hfz70_1 := blk_frozen BK418.out 1; have hfz70_2 := blk_frozen BK418.out 2; have hfz70_3 := blk_frozen BK418.out 3; obtain ⟨Ao71, co71, eo71⟩ := Kd.R_slice HO401.out; subst eo71; obtain ⟨Ao72, co72, eo72⟩ := Kd.R_slice HO404.out; subst eo72; have hnb73 := NB419_408.out; have hnc73 := NB408_419.out; have hcz74_0 : w67.cell? ⟨gb419, 0, none⟩ = some (.int .i64 0) := (blk_cell BK419.out 0).trans rfl; have hcz74_1 : w67.cell? ⟨gb419, 1, none⟩ = some (.int .i64 0) := (blk_cell BK419.out 1).trans rfl; have hcz74_2 : w67.cell? ⟨gb419, 2, none⟩ = some (.slice none 0 0) := (blk_cell BK419.out 2).trans rfl; have hcz74_3 : w67.cell? ⟨gb419, 3, none⟩ = some (.slice none 0 0) := (blk_cell BK419.out 3).trans rfl; have hfz74_0 := blk_frozen BK419.out 0; have hfz74_1 := blk_frozen BK419.out 1; have hfz74_2 := blk_frozen BK419.out 2; have hfz74_3 := blk_frozen BK419.out 3; obtain ⟨Ao75, co75, eo75⟩ := Kd.R_slice HO413.out; subst eo75; obtain ⟨Ao76, co76, eo76⟩ := Kd.R_slice HO416.out; subst eo76))
          have n0_ : Aside0 (Kd.R k24 24 ((((((((w67.setCell ⟨gb418, 0, none⟩ (.int .i64 t397)).setCell ⟨gb418, 1, none⟩ (.int .i64 t398)).setCell ⟨gb418, 2, none⟩ (.slice Ao71 t399.length co71)).setCell ⟨gb418, 3, none⟩ (.slice Ao72 t402.length co72)).setCell ⟨gb419, 0, none⟩ (.int .i64 t409)).setCell ⟨gb419, 1, none⟩ (.int .i64 t410)).setCell ⟨gb419, 2, none⟩ (.slice Ao75 t411.length co75)).setCell ⟨gb419, 3, none⟩ (.slice Ao76 t414.length co76)) w.heap.size (fun k_ => some k_ ≠ (.slice Ao75 t411.length co75 : Value).ownBlock) (.slice Ao71 t399.length co71) t399) := ⟨by (with_reducible repeat (first | apply ra_ | apply rn_ | apply rd_)); exact Kd.R_mono (Kd.R_far (p := ⟨gb419, 3, none⟩) (Kd.R_far (p := ⟨gb419, 2, none⟩) (Kd.R_far (p := ⟨gb419, 1, none⟩) (Kd.R_far (p := ⟨gb419, 0, none⟩) (Kd.R_far (p := ⟨gb418, 3, none⟩) (Kd.R_far (p := ⟨gb418, 2, none⟩) (Kd.R_far (p := ⟨gb418, 1, none⟩) (Kd.R_far (p := ⟨gb418, 0, none⟩) (Kd.R_types (Kd.R_types HO401.out BK418.out (by decide)) BK419.out (by decide)) (fun _ hk => hk.1.2) (.int .i64 t397)) (fun _ hk => hk.1.2) (.int .i64 t398)) (fun _ hk => hk.1.2) (.slice Ao71 t399.length co71)) (fun _ hk => hk.1.2) (.slice Ao72 t402.length co72)) (fun _ hk => hk.2) (.int .i64 t409)) (fun _ hk => hk.2) (.int .i64 t410)) (fun _ hk => hk.2) (.slice Ao75 t411.length co75)) (fun _ hk => hk.2) (.slice Ao76 t414.length co76)) (fun _ hk => hk.1.1.2)⟩
          have n1_ : Aside0 (Kd.R k27 27 ((((((((w67.setCell ⟨gb418, 0, none⟩ (.int .i64 t397)).setCell ⟨gb418, 1, none⟩ (.int .i64 t398)).setCell ⟨gb418, 2, none⟩ (.slice Ao71 t399.length co71)).setCell ⟨gb418, 3, none⟩ (.slice Ao72 t402.length co72)).setCell ⟨gb419, 0, none⟩ (.int .i64 t409)).setCell ⟨gb419, 1, none⟩ (.int .i64 t410)).setCell ⟨gb419, 2, none⟩ (.slice Ao75 t411.length co75)).setCell ⟨gb419, 3, none⟩ (.slice Ao76 t414.length co76)) w.heap.size (fun k_ => some k_ ≠ (.slice Ao76 t414.length co76 : Value).ownBlock) (.slice Ao72 t402.length co72) t402) := ⟨by (with_reducible repeat (first | apply ra_ | apply rn_ | apply rd_)); exact Kd.R_mono (Kd.R_far (p := ⟨gb419, 3, none⟩) (Kd.R_far (p := ⟨gb419, 2, none⟩) (Kd.R_far (p := ⟨gb419, 1, none⟩) (Kd.R_far (p := ⟨gb419, 0, none⟩) (Kd.R_far (p := ⟨gb418, 3, none⟩) (Kd.R_far (p := ⟨gb418, 2, none⟩) (Kd.R_far (p := ⟨gb418, 1, none⟩) (Kd.R_far (p := ⟨gb418, 0, none⟩) (Kd.R_types (Kd.R_types HO404.out BK418.out (by decide)) BK419.out (by decide)) (fun _ hk => hk.1.2) (.int .i64 t397)) (fun _ hk => hk.1.2) (.int .i64 t398)) (fun _ hk => hk.1.2) (.slice Ao71 t399.length co71)) (fun _ hk => hk.1.2) (.slice Ao72 t402.length co72)) (fun _ hk => hk.2) (.int .i64 t409)) (fun _ hk => hk.2) (.int .i64 t410)) (fun _ hk => hk.2) (.slice Ao75 t411.length co75)) (fun _ hk => hk.2) (.slice Ao76 t414.length co76)) (fun _ hk => hk.1.1.2)⟩
          have n2_ : Aside0 (Kd.R k24 24 ((((((((w67.setCell ⟨gb418, 0, none⟩ (.int .i64 t397)).setCell ⟨gb418, 1, none⟩ (.int .i64 t398)).setCell ⟨gb418, 2, none⟩ (.slice Ao71 t399.length co71)).setCell ⟨gb418, 3, none⟩ (.slice Ao72 t402.length co72)).setCell ⟨gb419, 0, none⟩ (.int .i64 t409)).setCell ⟨gb419, 1, none⟩ (.int .i64 t410)).setCell ⟨gb419, 2, none⟩ (.slice Ao75 t411.length co75)).setCell ⟨gb419, 3, none⟩ (.slice Ao76 t414.length co76)) w.heap.size (fun k_ => some k_ ≠ (.slice Ao71 t399.length co71 : Value).ownBlock) (.slice Ao75 t411.length co75) t411) := ⟨by (with_reducible repeat (first | apply ra_ | apply rn_ | apply rd_)); exact Kd.R_mono (Kd.R_far (p := ⟨gb419, 3, none⟩) (Kd.R_far (p := ⟨gb419, 2, none⟩) (Kd.R_far (p := ⟨gb419, 1, none⟩) (Kd.R_far (p := ⟨gb419, 0, none⟩) (Kd.R_far (p := ⟨gb418, 3, none⟩) (Kd.R_far (p := ⟨gb418, 2, none⟩) (Kd.R_far (p := ⟨gb418, 1, none⟩) (Kd.R_far (p := ⟨gb418, 0, none⟩) (Kd.R_types (Kd.R_types HO413.out BK418.out (by decide)) BK419.out (by decide)) (fun _ hk => hk.1.2) (.int .i64 t397)) (fun _ hk => hk.1.2) (.int .i64 t398)) (fun _ hk => hk.1.2) (.slice Ao71 t399.length co71)) (fun _ hk => hk.1.2) (.slice Ao72 t402.length co72)) (fun _ hk => hk.2) (.int .i64 t409)) (fun _ hk => hk.2) (.int .i64 t410)) (fun _ hk => hk.2) (.slice Ao75 t411.length co75)) (fun _ hk => hk.2) (.slice Ao76 t414.length co76)) (fun _ hk => hk.1.1.2)⟩
          have n3_ : Aside0 (Kd.R k27 27 ((((((((w67.setCell ⟨gb418, 0, none⟩ (.int .i64 t397)).setCell ⟨gb418, 1, none⟩ (.int .i64 t398)).setCell ⟨gb418, 2, none⟩ (.slice Ao71 t399.length co71)).setCell ⟨gb418, 3, none⟩ (.slice Ao72 t402.length co72)).setCell ⟨gb419, 0, none⟩ (.int .i64 t409)).setCell ⟨gb419, 1, none⟩ (.int .i64 t410)).setCell ⟨gb419, 2, none⟩ (.slice Ao75 t411.length co75)).setCell ⟨gb419, 3, none⟩ (.slice Ao76 t414.length co76)) w.heap.size (fun k_ => some k_ ≠ (.slice Ao72 t402.length co72 : Value).ownBlock) (.slice Ao76 t414.length co76) t414) := ⟨by (with_reducible repeat (first | apply ra_ | apply rn_ | apply rd_)); exact Kd.R_mono (Kd.R_far (p := ⟨gb419, 3, none⟩) (Kd.R_far (p := ⟨gb419, 2, none⟩) (Kd.R_far (p := ⟨gb419, 1, none⟩) (Kd.R_far (p := ⟨gb419, 0, none⟩) (Kd.R_far (p := ⟨gb418, 3, none⟩) (Kd.R_far (p := ⟨gb418, 2, none⟩) (Kd.R_far (p := ⟨gb418, 1, none⟩) (Kd.R_far (p := ⟨gb418, 0, none⟩) (Kd.R_types (Kd.R_types HO416.out BK418.out (by decide)) BK419.out (by decide)) (fun _ hk => hk.1.2) (.int .i64 t397)) (fun _ hk => hk.1.2) (.int .i64 t398)) (fun _ hk => hk.1.2) (.slice Ao71 t399.length co71)) (fun _ hk => hk.1.2) (.slice Ao72 t402.length co72)) (fun _ hk => hk.2) (.int .i64 t409)) (fun _ hk => hk.2) (.int .i64 t410)) (fun _ hk => hk.2) (.slice Ao75 t411.length co75)) (fun _ hk => hk.2) (.slice Ao76 t414.length co76)) (fun _ hk => hk.1.1.2)⟩
          have n4_ : Aside0 (((((((((w67.setCell ⟨gb418, 0, none⟩ (.int .i64 t397)).setCell ⟨gb418, 1, none⟩ (.int .i64 t398)).setCell ⟨gb418, 2, none⟩ (.slice Ao71 t399.length co71)).setCell ⟨gb418, 3, none⟩ (.slice Ao72 t402.length co72)).setCell ⟨gb419, 0, none⟩ (.int .i64 t409)).setCell ⟨gb419, 1, none⟩ (.int .i64 t410)).setCell ⟨gb419, 2, none⟩ (.slice Ao75 t411.length co75)).setCell ⟨gb419, 3, none⟩ (.slice Ao76 t414.length co76)).heap[gb418]? = some (.cells #[.int .i64 t397, .int .i64 t398, .slice Ao71 t399.length co71, .slice Ao72 t402.length co72] 30 (0, 0))) := ⟨by (with_reducible repeat (first | refine kn_ ?_ _ | refine kd_ ?_ | refine ka_ ?_ _)); refine blk_far ?_ NB418_419.out _; (with_reducible repeat (first | refine kn_ ?_ _ | refine kd_ ?_ | refine ka_ ?_ _)); refine blk_far ?_ NB418_419.out _; (with_reducible repeat (first | refine kn_ ?_ _ | refine kd_ ?_ | refine ka_ ?_ _)); refine blk_far ?_ NB418_419.out _; (with_reducible repeat (first | refine kn_ ?_ _ | refine kd_ ?_ | refine ka_ ?_ _)); refine blk_far ?_ NB418_419.out _; (with_reducible repeat (first | refine kn_ ?_ _ | refine kd_ ?_ | refine ka_ ?_ _)); refine blk_put (cs := #[.int .i64 t397, .int .i64 t398, .slice Ao71 t399.length co71, .slice none 0 0]) ?_ 3 _ rfl; (with_reducible repeat (first | refine kn_ ?_ _ | refine kd_ ?_ | refine ka_ ?_ _)); refine blk_put (cs := #[.int .i64 t397, .int .i64 t398, .slice none 0 0, .slice none 0 0]) ?_ 2 _ rfl; (with_reducible repeat (first | refine kn_ ?_ _ | refine kd_ ?_ | refine ka_ ?_ _)); refine blk_put (cs := #[.int .i64 t397, .int .i64 0, .slice none 0 0, .slice none 0 0]) ?_ 1 _ rfl; (with_reducible repeat (first | refine kn_ ?_ _ | refine kd_ ?_ | refine ka_ ?_ _)); refine blk_put (cs := #[.int .i64 0, .int .i64 0, .slice none 0 0, .slice none 0 0]) ?_ 0 _ rfl; (with_reducible repeat (first | refine kn_ ?_ _ | refine kd_ ?_ | refine ka_ ?_ _)); exact BK418.out⟩
          have n5_ : Aside0 (((((((((w67.setCell ⟨gb418, 0, none⟩ (.int .i64 t397)).setCell ⟨gb418, 1, none⟩ (.int .i64 t398)).setCell ⟨gb418, 2, none⟩ (.slice Ao71 t399.length co71)).setCell ⟨gb418, 3, none⟩ (.slice Ao72 t402.length co72)).setCell ⟨gb419, 0, none⟩ (.int .i64 t409)).setCell ⟨gb419, 1, none⟩ (.int .i64 t410)).setCell ⟨gb419, 2, none⟩ (.slice Ao75 t411.length co75)).setCell ⟨gb419, 3, none⟩ (.slice Ao76 t414.length co76)).heap[gb419]? = some (.cells #[.int .i64 t409, .int .i64 t410, .slice Ao75 t411.length co75, .slice Ao76 t414.length co76] 30 (0, 0))) := ⟨by (with_reducible repeat (first | refine kn_ ?_ _ | refine kd_ ?_ | refine ka_ ?_ _)); refine blk_put (cs := #[.int .i64 t409, .int .i64 t410, .slice Ao75 t411.length co75, .slice none 0 0]) ?_ 3 _ rfl; (with_reducible repeat (first | refine kn_ ?_ _ | refine kd_ ?_ | refine ka_ ?_ _)); refine blk_put (cs := #[.int .i64 t409, .int .i64 t410, .slice none 0 0, .slice none 0 0]) ?_ 2 _ rfl; (with_reducible repeat (first | refine kn_ ?_ _ | refine kd_ ?_ | refine ka_ ?_ _)); refine blk_put (cs := #[.int .i64 t409, .int .i64 0, .slice none 0 0, .slice none 0 0]) ?_ 1 _ rfl; (with_reducible repeat (first | refine kn_ ?_ _ | refine kd_ ?_ | refine ka_ ?_ _)); refine blk_put (cs := #[.int .i64 0, .int .i64 0, .slice none 0 0, .slice none 0 0]) ?_ 0 _ rfl; (with_reducible repeat (first | refine kn_ ?_ _ | refine kd_ ?_ | refine ka_ ?_ _)); refine blk_far ?_ NB419_418.out _; (with_reducible repeat (first | refine kn_ ?_ _ | refine kd_ ?_ | refine ka_ ?_ _)); refine blk_far ?_ NB419_418.out _; (with_reducible repeat (first | refine kn_ ?_ _ | refine kd_ ?_ | refine ka_ ?_ _)); refine blk_far ?_ NB419_418.out _; (with_reducible repeat (first | refine kn_ ?_ _ | refine kd_ ?_ | refine ka_ ?_ _)); refine blk_far ?_ NB419_418.out _; (with_reducible repeat (first | refine kn_ ?_ _ | refine kd_ ?_ | refine ka_ ?_ _)); exact BK419.out⟩
          have n6_ : Aside0 (IsS128 w ((((((((w67.setCell ⟨gb418, 0, none⟩ (.int .i64 t397)).setCell ⟨gb418, 1, none⟩ (.int .i64 t398)).setCell ⟨gb418, 2, none⟩ (.slice Ao71 t399.length co71)).setCell ⟨gb418, 3, none⟩ (.slice Ao72 t402.length co72)).setCell ⟨gb419, 0, none⟩ (.int .i64 t409)).setCell ⟨gb419, 1, none⟩ (.int .i64 t410)).setCell ⟨gb419, 2, none⟩ (.slice Ao75 t411.length co75)).setCell ⟨gb419, 3, none⟩ (.slice Ao76 t414.length co76)) g408 t406 t417) := ⟨by repeat (with_reducible first | exact HI408.out | apply IsS128.alloc | apply IsS128.drewN | apply IsS128.drew | apply IsS128.set_1 | refine IsS128.far ?_ NB408_418.out _ | refine IsS128.far ?_ NB408_419.out _)⟩
          have n7_ : Aside0 (Below w.heap.size w ((((((((w67.setCell ⟨gb418, 0, none⟩ (.int .i64 t397)).setCell ⟨gb418, 1, none⟩ (.int .i64 t398)).setCell ⟨gb418, 2, none⟩ (.slice Ao71 t399.length co71)).setCell ⟨gb418, 3, none⟩ (.slice Ao72 t402.length co72)).setCell ⟨gb419, 0, none⟩ (.int .i64 t409)).setCell ⟨gb419, 1, none⟩ (.int .i64 t410)).setCell ⟨gb419, 2, none⟩ (.slice Ao75 t411.length co75)).setCell ⟨gb419, 3, none⟩ (.slice Ao76 t414.length co76))) := ⟨by repeat (with_reducible first | exact HB.out | apply ba_ | apply bn_ | apply bd_ | refine bs_ ?_ (IsS128.ge HI408.out) | refine bs_ ?_ GE418.out | refine bs_ ?_ GE419.out)⟩
          (try clear HO401)
          (try clear HO404)
          (try clear HO413)
          (try clear HO416)
          (try clear BK418)
          (try clear BK419)
          (try clear HI408)
          (try clear HB)
          generalize ((((((((w67.setCell ⟨gb418, 0, none⟩ (.int .i64 t397)).setCell ⟨gb418, 1, none⟩ (.int .i64 t398)).setCell ⟨gb418, 2, none⟩ (.slice Ao71 t399.length co71)).setCell ⟨gb418, 3, none⟩ (.slice Ao72 t402.length co72)).setCell ⟨gb419, 0, none⟩ (.int .i64 t409)).setCell ⟨gb419, 1, none⟩ (.int .i64 t410)).setCell ⟨gb419, 2, none⟩ (.slice Ao75 t411.length co75)).setCell ⟨gb419, 3, none⟩ (.slice Ao76 t414.length co76)) = w77 at n0_ n1_ n2_ n3_ n4_ n5_ n6_ n7_ ⊢
          have HO401 := n0_
          have HO404 := n1_
          have HO413 := n2_
          have HO416 := n3_
          have BK418 := n4_
          have BK419 := n5_
          have HI408 := n6_
          have HB := n7_
          clear n0_ n1_ n2_ n3_ n4_ n5_ n6_ n7_
          have n0_ := Aside0.mk (Kd.R_drew HO401.out)
          have n1_ := Aside0.mk (Kd.R_drew HO404.out)
          have n2_ := Aside0.mk (Kd.R_drew HO413.out)
          have n3_ := Aside0.mk (Kd.R_drew HO416.out)
          have n4_ := Aside0.mk (blk_drew BK418.out)
          have n5_ := Aside0.mk (blk_drew BK419.out)
          have n6_ := Aside0.mk (IsS128.drew HI408.out)
          have n7_ := Aside0.mk (below_drew1 HB.out)
          clear HO401
          clear HO404
          clear HO413
          clear HO416
          clear BK418
          clear BK419
          clear HI408
          clear HB
          have HO401 := n0_
          have HO404 := n1_
          have HO413 := n2_
          have HO416 := n3_
          have BK418 := n4_
          have BK419 := n5_
          have HI408 := n6_
          have HB := n7_
          clear n0_ n1_ n2_ n3_ n4_ n5_ n6_ n7_
          refine start_ (n := 6) (S := fun w' => w'.cell? ⟨gb418, 0, none⟩ = some (.int .i64 t397) ∧ w'.cell? ⟨gb418, 1, none⟩ = some (.int .i64 t398) ∧ w'.cell? ⟨gb418, 2, none⟩ = some (.slice Ao71 t399.length co71) ∧ w'.cell? ⟨gb418, 3, none⟩ = some (.slice Ao72 t402.length co72) ∧ w'.cell? ⟨gb419, 0, none⟩ = some (.int .i64 t409) ∧ w'.cell? ⟨gb419, 1, none⟩ = some (.int .i64 t410) ∧ w'.cell? ⟨gb419, 2, none⟩ = some (.slice Ao75 t411.length co75) ∧ w'.cell? ⟨gb419, 3, none⟩ = some (.slice Ao76 t414.length co76)) (ds := []) #[false, false, false, false, false, false] (by kernel_rfl) rfl rfl ⟨(blk_cell BK418.out 0).trans rfl, (blk_cell BK418.out 1).trans rfl, (blk_cell BK418.out 2).trans rfl, (blk_cell BK418.out 3).trans rfl, (blk_cell BK419.out 0).trans rfl, (blk_cell BK419.out 1).trans rfl, (blk_cell BK419.out 2).trans rfl, (blk_cell BK419.out 3).trans rfl⟩ (fun hHeld => ?_)
          generalize w77.drew = w78 at HO401 HO404 HO413 HO416 BK418 BK419 HI408 HB hHeld ⊢
          refine take_ (i := 0) (N := some 27) (v := ?_) (a' := ?_) #[true, false, false, false, false, false] rfl rfl (by kernel_rfl) (fun _ _ _ h => h) (Or.inl ⟨by rfl, ?_⟩) hHeld ?_ ?_
          rotate_left
          ·rintro w' ⟨s0, s1, s2, s3, s4, s5, s6, s7⟩
           go_simp
           with_reducible rfl
          rotate_left
          ·simp only [Act.put, List.setIfInBounds_toArray, List.set_cons_zero, List.set_cons_succ, i64_w, i32_w]
           rfl
          refine take_ (i := 2) (N := some 29) (v := ?_) (a' := ?_) #[true, false, true, false, false, false] rfl rfl (by kernel_rfl) (fun _ _ _ h => h) (Or.inl ⟨by rfl, ?_⟩) hHeld ?_ ?_
          rotate_left
          ·rintro w' ⟨s0, s1, s2, s3, s4, s5, s6, s7⟩
           go_simp
           with_reducible rfl
          rotate_left
          ·simp only [Act.put, List.setIfInBounds_toArray, List.set_cons_zero, List.set_cons_succ, i64_w, i32_w]
           rfl
          refine one_ (i := 1) (N := some 28) #[true, true, true, false, false, false] rfl rfl (by kernel_rfl) (by decide) (fun K hK => ?_)
          refine goesV_ Try.func19 (by kernel_rfl) rfl #[.agg #[.int .i64 t397, .int .i64 t398, .slice Ao71 t399.length co71, .slice Ao72 t402.length co72]] (by rfl) rfl rfl (by (try simp only [List.map_toArray, List.map_cons, List.map_nil]); first | done | rfl | (simp only [List.length_drop, List.length_take]; rfl)) ?_
          with_reducible refine (txn_Put.calls kj4 t397 t398 _ _ t399 _ _ t402 t420 _ ?side1 ?side2 ?side3 ?side4 A13.out).mono ?_
          (case side1 => repeat (first | exact (Kd.R_reads' HO401.out).2.2 | (with_reducible refine ca_ ?_ _) | (with_reducible refine cn_ ?_ _) | (with_reducible refine cd_ ?_)))
          (case side2 => exact (Kd.R_reads' HO401.out).2.1)
          (case side3 => repeat (first | exact (Kd.R_reads' HO404.out).2.2 | (with_reducible refine ca_ ?_ _) | (with_reducible refine cn_ ?_ _) | (with_reducible refine cd_ ?_)))
          (case side4 => exact (Kd.R_reads' HO404.out).2.1)
          rintro e w79 ⟨v421, rfl, ho0, hb⟩
          refine ⟨_, rfl, ?_⟩
          have n0_ := Aside0.mk (Kd.R_below (by (with_reducible repeat (first | apply ra_ | apply rn_ | apply rd_)); exact HO401.out) hb)
          have n1_ := Aside0.mk (Kd.R_below (by (with_reducible repeat (first | apply ra_ | apply rn_ | apply rd_)); exact HO404.out) hb)
          have n2_ := Aside0.mk (Kd.R_below (by (with_reducible repeat (first | apply ra_ | apply rn_ | apply rd_)); exact HO413.out) hb)
          have n3_ := Aside0.mk (Kd.R_below (by (with_reducible repeat (first | apply ra_ | apply rn_ | apply rd_)); exact HO416.out) hb)
          have n4_ := Aside0.mk (Kd.R_lower ho0 (below_size (by repeat (with_reducible first | exact HB.out | apply ba_ | apply bn_ | apply bd_ | refine bs_ ?_ (IsS128.ge HI408.out) | refine bs_ ?_ GE418.out | refine bs_ ?_ GE419.out))))
          have n5_ := Aside0.mk (IsS128.below (by repeat (with_reducible first | exact HI408.out | apply IsS128.alloc | apply IsS128.drewN | apply IsS128.drew | apply IsS128.set_1 | refine IsS128.far ?_ NB408_418.out _ | refine IsS128.far ?_ NB408_419.out _)) hb)
          have n6_ := Aside0.mk (blk_below (g := gb418) (o := .cells #[.int .i64 t397, .int .i64 t398, .slice Ao71 t399.length co71, .slice Ao72 t402.length co72] 30 (0, 0)) (by (with_reducible repeat (first | refine kn_ ?_ _ | refine kd_ ?_ | refine ka_ ?_ _)); exact BK418.out) hb)
          have n7_ := Aside0.mk (blk_below (g := gb419) (o := .cells #[.int .i64 t409, .int .i64 t410, .slice Ao75 t411.length co75, .slice Ao76 t414.length co76] 30 (0, 0)) (by (with_reducible repeat (first | refine kn_ ?_ _ | refine kd_ ?_ | refine ka_ ?_ _)); exact BK419.out) hb)
          have n8_ := Aside0.mk (below_step (by repeat (with_reducible first | exact HB.out | apply ba_ | apply bn_ | apply bd_ | refine bs_ ?_ (IsS128.ge HI408.out) | refine bs_ ?_ GE418.out | refine bs_ ?_ GE419.out)) hb)
          clear HO401
          clear HO404
          clear HO413
          clear HO416
          clear HI408
          clear BK418
          clear BK419
          clear HB
          have HO401 := n0_
          have HO404 := n1_
          have HO413 := n2_
          have HO416 := n3_
          have HO422 := n4_
          have HI408 := n5_
          have BK418 := n6_
          have BK419 := n7_
          have HB := n8_
          clear n0_ n1_ n2_ n3_ n4_ n5_ n6_ n7_ n8_
          clear hb ho0
          refine hK.out _ _ ⟨(blk_cell BK418.out 0).trans rfl, (blk_cell BK418.out 1).trans rfl, (blk_cell BK418.out 2).trans rfl, (blk_cell BK418.out 3).trans rfl, (blk_cell BK419.out 0).trans rfl, (blk_cell BK419.out 1).trans rfl, (blk_cell BK419.out 2).trans rfl, (blk_cell BK419.out 3).trans rfl⟩ (fun hHeld => ?_)
          clear hK K
          refine norm_ (a' := ?_) ?_ ?_
          rotate_left
          ·show Act.put _ (some 28) _ = _
           simp only [Act.put, List.setIfInBounds_toArray, List.set_cons_zero, List.set_cons_succ, i64_w, i32_w]
           rfl
          refine one_ (i := 3) (N := some 30) #[true, true, true, true, false, false] rfl rfl (by kernel_rfl) (by decide) (fun K hK => ?_)
          refine goesV_ Try.func19 (by kernel_rfl) rfl #[.agg #[.int .i64 t409, .int .i64 t410, .slice Ao75 t411.length co75, .slice Ao76 t414.length co76]] (by rfl) rfl rfl (by (try simp only [List.map_toArray, List.map_cons, List.map_nil]); first | done | rfl | (simp only [List.length_drop, List.length_take]; rfl)) ?_
          with_reducible refine (txn_Put.calls kj4 t409 t410 _ _ t411 _ _ t414 t423 _ ?side1 ?side2 ?side3 ?side4 A14.out).mono ?_
          (case side1 => repeat (first | exact (Kd.R_reads' HO413.out).2.2 | (with_reducible refine ca_ ?_ _) | (with_reducible refine cn_ ?_ _) | (with_reducible refine cd_ ?_)))
          (case side2 => exact (Kd.R_reads' HO413.out).2.1)
          (case side3 => repeat (first | exact (Kd.R_reads' HO416.out).2.2 | (with_reducible refine ca_ ?_ _) | (with_reducible refine cn_ ?_ _) | (with_reducible refine cd_ ?_)))
          (case side4 => exact (Kd.R_reads' HO416.out).2.1)
          rintro e w80 ⟨v424, rfl, ho0, hb⟩
          refine ⟨_, rfl, ?_⟩
          have n0_ := Aside0.mk (Kd.R_below (by (with_reducible repeat (first | apply ra_ | apply rn_ | apply rd_)); exact HO401.out) hb)
          have n1_ := Aside0.mk (Kd.R_below (by (with_reducible repeat (first | apply ra_ | apply rn_ | apply rd_)); exact HO404.out) hb)
          have n2_ := Aside0.mk (Kd.R_below (by (with_reducible repeat (first | apply ra_ | apply rn_ | apply rd_)); exact HO413.out) hb)
          have n3_ := Aside0.mk (Kd.R_below (by (with_reducible repeat (first | apply ra_ | apply rn_ | apply rd_)); exact HO416.out) hb)
          have n4_ := Aside0.mk (Kd.R_elder' (by (with_reducible repeat (first | apply ra_ | apply rn_ | apply rd_)); exact HO422.out) (Kd.R_base ho0) hb)
          have n5_ := Aside0.mk (Kd.R_lower (Kd.R_new' ho0 (Kd.R_lt (by (with_reducible repeat (first | apply ra_ | apply rn_ | apply rd_)); exact HO422.out))) (below_size (by repeat (with_reducible first | exact HB.out | apply ba_ | apply bn_ | apply bd_ | refine bs_ ?_ (IsS128.ge HI408.out) | refine bs_ ?_ GE418.out | refine bs_ ?_ GE419.out))))
          have n6_ := Aside0.mk (IsS128.below (by repeat (with_reducible first | exact HI408.out | apply IsS128.alloc | apply IsS128.drewN | apply IsS128.drew | apply IsS128.set_1 | refine IsS128.far ?_ NB408_418.out _ | refine IsS128.far ?_ NB408_419.out _)) hb)
          have n7_ := Aside0.mk (blk_below (g := gb418) (o := .cells #[.int .i64 t397, .int .i64 t398, .slice Ao71 t399.length co71, .slice Ao72 t402.length co72] 30 (0, 0)) (by (with_reducible repeat (first | refine kn_ ?_ _ | refine kd_ ?_ | refine ka_ ?_ _)); exact BK418.out) hb)
          have n8_ := Aside0.mk (blk_below (g := gb419) (o := .cells #[.int .i64 t409, .int .i64 t410, .slice Ao75 t411.length co75, .slice Ao76 t414.length co76] 30 (0, 0)) (by (with_reducible repeat (first | refine kn_ ?_ _ | refine kd_ ?_ | refine ka_ ?_ _)); exact BK419.out) hb)
          have n9_ := Aside0.mk (below_step (by repeat (with_reducible first | exact HB.out | apply ba_ | apply bn_ | apply bd_ | refine bs_ ?_ (IsS128.ge HI408.out) | refine bs_ ?_ GE418.out | refine bs_ ?_ GE419.out)) hb)
          clear HO401
          clear HO404
          clear HO413
          clear HO416
          clear HO422
          clear HI408
          clear BK418
          clear BK419
          clear HB
          have HO401 := n0_
          have HO404 := n1_
          have HO413 := n2_
          have HO416 := n3_
          have HO422 := n4_
          have HO425 := n5_
          have HI408 := n6_
          have BK418 := n7_
          have BK419 := n8_
          have HB := n9_
          clear n0_ n1_ n2_ n3_ n4_ n5_ n6_ n7_ n8_ n9_
          clear hb ho0
          refine hK.out _ _ ⟨(blk_cell BK418.out 0).trans rfl, (blk_cell BK418.out 1).trans rfl, (blk_cell BK418.out 2).trans rfl, (blk_cell BK418.out 3).trans rfl, (blk_cell BK419.out 0).trans rfl, (blk_cell BK419.out 1).trans rfl, (blk_cell BK419.out 2).trans rfl, (blk_cell BK419.out 3).trans rfl⟩ (fun hHeld => ?_)
          clear hK K
          refine norm_ (a' := ?_) ?_ ?_
          rotate_left
          ·show Act.put _ (some 30) _ = _
           simp only [Act.put, List.setIfInBounds_toArray, List.set_cons_zero, List.set_cons_succ, i64_w, i32_w]
           rfl
          refine pure_ (i := 4) (N := some 7) (v := ?_) (a' := ?_) #[true, true, true, true, true, false] rfl rfl (by kernel_rfl) (fun _ _ _ h => h) (Or.inl ⟨by rfl, ?_⟩) ?_ ?_
          rotate_left
          ·intro w'
           go_simp
           with_reducible rfl
          rotate_left
          ·simp only [Act.put, List.setIfInBounds_toArray, List.set_cons_zero, List.set_cons_succ, i64_w, i32_w]
           rfl
          refine pure_ (i := 5) (N := some 8) (v := ?_) (a' := ?_) #[true, true, true, true, true, true] rfl rfl (by kernel_rfl) (fun _ _ _ h => h) (Or.inl ⟨by rfl, ?_⟩) ?_ ?_
          rotate_left
          ·intro w'
           go_simp
           with_reducible rfl
          rotate_left
          ·simp only [Act.put, List.setIfInBounds_toArray, List.set_cons_zero, List.set_cons_succ, i64_w, i32_w]
           rfl
          refine done_ (by kernel_rfl) ?_
          have hcz81_0 : w80.cell? ⟨gb418, 0, none⟩ = some (.int .i64 t397) := (blk_cell BK418.out 0).trans rfl
          have hcz81_1 : w80.cell? ⟨gb418, 1, none⟩ = some (.int .i64 t398) := (blk_cell BK418.out 1).trans rfl
          have hcz81_2 : w80.cell? ⟨gb418, 2, none⟩ = some (.slice Ao71 t399.length co71) := (blk_cell BK418.out 2).trans rfl
          have hcz81_3 : w80.cell? ⟨gb418, 3, none⟩ = some (.slice Ao72 t402.length co72) := (blk_cell BK418.out 3).trans rfl
          have hfz81_0 := blk_frozen BK418.out 0
          have hfz81_1 := blk_frozen BK418.out 1
          have hfz81_2 := blk_frozen BK418.out 2
          have hfz81_3 := blk_frozen BK418.out 3
          have hcz82_0 : w80.cell? ⟨gb419, 0, none⟩ = some (.int .i64 t409) := (blk_cell BK419.out 0).trans rfl
          have hcz82_1 : w80.cell? ⟨gb419, 1, none⟩ = some (.int .i64 t410) := (blk_cell BK419.out 1).trans rfl
          have hcz82_2 : w80.cell? ⟨gb419, 2, none⟩ = some (.slice Ao75 t411.length co75) := (blk_cell BK419.out 2).trans rfl
          have hcz82_3 : w80.cell? ⟨gb419, 3, none⟩ = some (.slice Ao76 t414.length co76) := (blk_cell BK419.out 3).trans rfl
          have hfz82_0 := blk_frozen BK419.out 0
          have hfz82_1 := blk_frozen BK419.out 1
          have hfz82_2 := blk_frozen BK419.out 2
          have hfz82_3 := blk_frozen BK419.out 3
          try go_wp2_with (first | ((with_reducible refine gate_callee (f := 26) rfl ?_); refine goesM_ (some 33) Try.func26 #[.agg #[.int .i64 t397, .int .i64 t398, .slice Ao71 t399.length co71, .slice Ao72 t402.length co72], .agg #[.int .i64 t409, .int .i64 t410, .slice Ao75 t411.length co75, .slice Ao76 t414.length co76]] ?_; (with_reducible refine (diwanref1_SameTxn.calls kj4 t397 t398 _ _ t399 _ _ t402 t409 t410 _ _ t411 _ _ t414 t426 _ ?side1 ?side2 ?side3 ?side4 ?side5 ?side6 ?side7 ?side8 A15.out).mono ?_); (case side1 => repeat (first | exact (Kd.R_reads' HO401.out).2.2 | (with_reducible refine ca_ ?_ _) | (with_reducible refine cn_ ?_ _) | (with_reducible refine cd_ ?_))); (case side2 => exact (Kd.R_reads' HO401.out).2.1); (case side3 => repeat (first | exact (Kd.R_reads' HO404.out).2.2 | (with_reducible refine ca_ ?_ _) | (with_reducible refine cn_ ?_ _) | (with_reducible refine cd_ ?_))); (case side4 => exact (Kd.R_reads' HO404.out).2.1); (case side5 => repeat (first | exact (Kd.R_reads' HO413.out).2.2 | (with_reducible refine ca_ ?_ _) | (with_reducible refine cn_ ?_ _) | (with_reducible refine cd_ ?_))); (case side6 => exact (Kd.R_reads' HO413.out).2.1); (case side7 => repeat (first | exact (Kd.R_reads' HO416.out).2.2 | (with_reducible refine ca_ ?_ _) | (with_reducible refine cn_ ?_ _) | (with_reducible refine cd_ ?_))); (case side8 => exact (Kd.R_reads' HO416.out).2.1); rintro e w83 ⟨rfl, hb⟩; refine ⟨_, rfl, ?_⟩; have n0_ := Aside0.mk (Kd.R_below (by (with_reducible repeat (first | apply ra_ | apply rn_ | apply rd_)); exact HO401.out) hb); have n1_ := Aside0.mk (Kd.R_below (by (with_reducible repeat (first | apply ra_ | apply rn_ | apply rd_)); exact HO404.out) hb); have n2_ := Aside0.mk (Kd.R_below (by (with_reducible repeat (first | apply ra_ | apply rn_ | apply rd_)); exact HO413.out) hb); have n3_ := Aside0.mk (Kd.R_below (by (with_reducible repeat (first | apply ra_ | apply rn_ | apply rd_)); exact HO416.out) hb); have n4_ := Aside0.mk (Kd.R_below (by (with_reducible repeat (first | apply ra_ | apply rn_ | apply rd_)); exact HO422.out) hb); have n5_ := Aside0.mk (Kd.R_below (by (with_reducible repeat (first | apply ra_ | apply rn_ | apply rd_)); exact HO425.out) hb); have n6_ := Aside0.mk (IsS128.below (by repeat (with_reducible first | exact HI408.out | apply IsS128.alloc | apply IsS128.drewN | apply IsS128.drew | apply IsS128.set_1 | refine IsS128.far ?_ NB408_418.out _ | refine IsS128.far ?_ NB408_419.out _)) hb); have n7_ := Aside0.mk (blk_below (g := gb418) (o := .cells #[.int .i64 t397, .int .i64 t398, .slice Ao71 t399.length co71, .slice Ao72 t402.length co72] 30 (0, 0)) (by (with_reducible repeat (first | refine kn_ ?_ _ | refine kd_ ?_ | refine ka_ ?_ _)); exact BK418.out) hb); have n8_ := Aside0.mk (blk_below (g := gb419) (o := .cells #[.int .i64 t409, .int .i64 t410, .slice Ao75 t411.length co75, .slice Ao76 t414.length co76] 30 (0, 0)) (by (with_reducible repeat (first | refine kn_ ?_ _ | refine kd_ ?_ | refine ka_ ?_ _)); exact BK419.out) hb); have n9_ := Aside0.mk (below_step (by repeat (with_reducible first | exact HB.out | apply ba_ | apply bn_ | apply bd_ | refine bs_ ?_ (IsS128.ge HI408.out) | refine bs_ ?_ GE418.out | refine bs_ ?_ GE419.out)) hb); clear HO401; clear HO404; clear HO413; clear HO416; clear HO422; clear HO425; clear HI408; clear BK418; clear BK419; clear HB; have HO401 := n0_; have HO404 := n1_; have HO413 := n2_; have HO416 := n3_; have HO422 := n4_; have HO425 := n5_; have HI408 := n6_; have BK418 := n7_; have BK419 := n8_; have HB := n9_; clear n0_ n1_ n2_ n3_ n4_ n5_ n6_ n7_ n8_ n9_; clear hb; obtain ⟨Ao84, co84, eo84⟩ := Kd.R_slice HO422.out; subst eo84; obtain ⟨Ao85, co85, eo85⟩ := Kd.R_slice HO425.out; subst eo85))
          have n0_ := Aside0.mk (Kd.R_drew HO401.out)
          have n1_ := Aside0.mk (Kd.R_drew HO404.out)
          have n2_ := Aside0.mk (Kd.R_drew HO413.out)
          have n3_ := Aside0.mk (Kd.R_drew HO416.out)
          have n4_ := Aside0.mk (Kd.R_drew HO422.out)
          have n5_ := Aside0.mk (Kd.R_drew HO425.out)
          have n6_ := Aside0.mk (blk_drew BK418.out)
          have n7_ := Aside0.mk (blk_drew BK419.out)
          have n8_ := Aside0.mk (IsS128.drew HI408.out)
          have n9_ := Aside0.mk (below_drew1 HB.out)
          clear HO401
          clear HO404
          clear HO413
          clear HO416
          clear HO422
          clear HO425
          clear BK418
          clear BK419
          clear HI408
          clear HB
          have HO401 := n0_
          have HO404 := n1_
          have HO413 := n2_
          have HO416 := n3_
          have HO422 := n4_
          have HO425 := n5_
          have BK418 := n6_
          have BK419 := n7_
          have HI408 := n8_
          have HB := n9_
          clear n0_ n1_ n2_ n3_ n4_ n5_ n6_ n7_ n8_ n9_
          refine start_ (n := 19) (S := fun w' => True) (ds := []) #[false, false, false, false, false, false, false, false, false, false, false, false, false, false, false, false, false, false, false] (by kernel_rfl) rfl rfl trivial (fun hHeld => ?_); refine with_tabW diwanlaw5_TxnApart.tab10 diwanlaw5_TxnApart.bits10 (fun HT_ HW_ => ?_)
          generalize w83.drew = w86 at HO401 HO404 HO413 HO416 HO422 HO425 BK418 BK419 HI408 HB hHeld ⊢
          refine pure_ (i := 0) (N := some 42) (v := ?_) (a' := ?_) #[true, false, false, false, false, false, false, false, false, false, false, false, false, false, false, false, false, false, false] rfl rfl (any_of HT_.out (by kernel_rfl)) (fun _ _ _ h => h) (Or.inl ⟨by rfl, ?_⟩) ?_ ?_
          rotate_left
          ·intro w'
           go_simp
           with_reducible rfl
          rotate_left
          ·simp only [Act.put, List.setIfInBounds_toArray, List.set_cons_zero, List.set_cons_succ, i64_w, i32_w]
           rfl
          refine pure_ (i := 1) (N := some 43) (v := ?_) (a' := ?_) #[true, true, false, false, false, false, false, false, false, false, false, false, false, false, false, false, false, false, false] rfl rfl (any_of HT_.out (by kernel_rfl)) (fun _ _ _ h => h) (Or.inl ⟨by rfl, ?_⟩) ?_ ?_
          rotate_left
          ·intro w'
           go_simp
           with_reducible rfl
          rotate_left
          ·simp only [Act.put, List.setIfInBounds_toArray, List.set_cons_zero, List.set_cons_succ, i64_w, i32_w]
           rfl
          refine pure_ (i := 2) (N := some 44) (v := ?_) (a' := ?_) #[true, true, true, false, false, false, false, false, false, false, false, false, false, false, false, false, false, false, false] rfl rfl (any_of HT_.out (by kernel_rfl)) (fun _ _ _ h => h) (Or.inl ⟨by rfl, ?_⟩) ?_ ?_
          rotate_left
          ·intro w'
           go_simp
           with_reducible rfl
          rotate_left
          ·simp only [Act.put, List.setIfInBounds_toArray, List.set_cons_zero, List.set_cons_succ, i64_w, i32_w]
           rfl
          refine pure_ (i := 3) (N := some 45) (v := ?_) (a' := ?_) #[true, true, true, true, false, false, false, false, false, false, false, false, false, false, false, false, false, false, false] rfl rfl (any_of HT_.out (by kernel_rfl)) (fun _ _ _ h => h) (Or.inl ⟨by rfl, ?_⟩) ?_ ?_
          rotate_left
          ·intro w'
           go_simp
           with_reducible rfl
          rotate_left
          ·simp only [Act.put, List.setIfInBounds_toArray, List.set_cons_zero, List.set_cons_succ, i64_w, i32_w]
           rfl
          refine pure_ (i := 4) (N := some 46) (v := ?_) (a' := ?_) #[true, true, true, true, true, false, false, false, false, false, false, false, false, false, false, false, false, false, false] rfl rfl (any_of HT_.out (by kernel_rfl)) (fun _ _ _ h => h) (Or.inl ⟨by rfl, ?_⟩) ?_ ?_
          rotate_left
          ·intro w'
           go_simp
           with_reducible rfl
          rotate_left
          ·simp only [Act.put, List.setIfInBounds_toArray, List.set_cons_zero, List.set_cons_succ, i64_w, i32_w]
           rfl
          refine pure_ (i := 5) (N := some 47) (v := ?_) (a' := ?_) #[true, true, true, true, true, true, false, false, false, false, false, false, false, false, false, false, false, false, false] rfl rfl (any_of HT_.out (by kernel_rfl)) (fun _ _ _ h => h) (Or.inl ⟨by rfl, ?_⟩) ?_ ?_
          rotate_left
          ·intro w'
           go_simp
           with_reducible rfl
          rotate_left
          ·simp only [Act.put, List.setIfInBounds_toArray, List.set_cons_zero, List.set_cons_succ, i64_w, i32_w]
           rfl
          refine pure_ (i := 6) (N := some 48) (v := undef) (a' := ?_) #[true, true, true, true, true, true, true, false, false, false, false, false, false, false, false, false, false, false, false] rfl rfl (any_of HT_.out (by kernel_rfl)) (fun _ _ _ h => h) (Or.inr ⟨by rfl, rfl⟩) ?_ ?_
          rotate_left
          ·simp only [Act.put, List.setIfInBounds_toArray, List.set_cons_zero, List.set_cons_succ, i64_w, i32_w]
           rfl
          refine pure_ (i := 7) (N := some 49) (v := undef) (a' := ?_) #[true, true, true, true, true, true, true, true, false, false, false, false, false, false, false, false, false, false, false] rfl rfl (any_of HT_.out (by kernel_rfl)) (fun _ _ _ h => h) (Or.inr ⟨by rfl, rfl⟩) ?_ ?_
          rotate_left
          ·simp only [Act.put, List.setIfInBounds_toArray, List.set_cons_zero, List.set_cons_succ, i64_w, i32_w]
           rfl
          refine pure_ (i := 8) (N := some 50) (v := undef) (a' := ?_) #[true, true, true, true, true, true, true, true, true, false, false, false, false, false, false, false, false, false, false] rfl rfl (any_of HT_.out (by kernel_rfl)) (fun _ _ _ h => h) (Or.inr ⟨by rfl, rfl⟩) ?_ ?_
          rotate_left
          ·simp only [Act.put, List.setIfInBounds_toArray, List.set_cons_zero, List.set_cons_succ, i64_w, i32_w]
           rfl
          refine pure_ (i := 9) (N := some 51) (v := undef) (a' := ?_) #[true, true, true, true, true, true, true, true, true, true, false, false, false, false, false, false, false, false, false] rfl rfl (any_of HT_.out (by kernel_rfl)) (fun _ _ _ h => h) (Or.inr ⟨by rfl, rfl⟩) ?_ ?_
          rotate_left
          ·simp only [Act.put, List.setIfInBounds_toArray, List.set_cons_zero, List.set_cons_succ, i64_w, i32_w]
           rfl
          refine pure_ (i := 10) (N := some 52) (v := undef) (a' := ?_) #[true, true, true, true, true, true, true, true, true, true, true, false, false, false, false, false, false, false, false] rfl rfl (any_of HT_.out (by kernel_rfl)) (fun _ _ _ h => h) (Or.inr ⟨by rfl, rfl⟩) ?_ ?_
          rotate_left
          ·simp only [Act.put, List.setIfInBounds_toArray, List.set_cons_zero, List.set_cons_succ, i64_w, i32_w]
           rfl
          refine pure_ (i := 11) (N := some 53) (v := undef) (a' := ?_) #[true, true, true, true, true, true, true, true, true, true, true, true, false, false, false, false, false, false, false] rfl rfl (any_of HT_.out (by kernel_rfl)) (fun _ _ _ h => h) (Or.inr ⟨by rfl, rfl⟩) ?_ ?_
          rotate_left
          ·simp only [Act.put, List.setIfInBounds_toArray, List.set_cons_zero, List.set_cons_succ, i64_w, i32_w]
           rfl
          refine pure_ (i := 12) (N := some 54) (v := undef) (a' := ?_) #[true, true, true, true, true, true, true, true, true, true, true, true, true, false, false, false, false, false, false] rfl rfl (any_of HT_.out (by kernel_rfl)) (fun _ _ _ h => h) (Or.inr ⟨by rfl, rfl⟩) ?_ ?_
          rotate_left
          ·simp only [Act.put, List.setIfInBounds_toArray, List.set_cons_zero, List.set_cons_succ, i64_w, i32_w]
           rfl
          refine pure_ (i := 13) (N := some 55) (v := undef) (a' := ?_) #[true, true, true, true, true, true, true, true, true, true, true, true, true, true, false, false, false, false, false] rfl rfl (any_of HT_.out (by kernel_rfl)) (fun _ _ _ h => h) (Or.inr ⟨by rfl, rfl⟩) ?_ ?_
          rotate_left
          ·simp only [Act.put, List.setIfInBounds_toArray, List.set_cons_zero, List.set_cons_succ, i64_w, i32_w]
           rfl
          refine pure_ (i := 14) (N := some 56) (v := undef) (a' := ?_) #[true, true, true, true, true, true, true, true, true, true, true, true, true, true, true, false, false, false, false] rfl rfl (any_of HT_.out (by kernel_rfl)) (fun _ _ _ h => h) (Or.inr ⟨by rfl, rfl⟩) ?_ ?_
          rotate_left
          ·simp only [Act.put, List.setIfInBounds_toArray, List.set_cons_zero, List.set_cons_succ, i64_w, i32_w]
           rfl
          refine pure_ (i := 15) (N := some 57) (v := undef) (a' := ?_) #[true, true, true, true, true, true, true, true, true, true, true, true, true, true, true, true, false, false, false] rfl rfl (any_of HT_.out (by kernel_rfl)) (fun _ _ _ h => h) (Or.inr ⟨by rfl, rfl⟩) ?_ ?_
          rotate_left
          ·simp only [Act.put, List.setIfInBounds_toArray, List.set_cons_zero, List.set_cons_succ, i64_w, i32_w]
           rfl
          refine pure_ (i := 16) (N := some 58) (v := undef) (a' := ?_) #[true, true, true, true, true, true, true, true, true, true, true, true, true, true, true, true, true, false, false] rfl rfl (any_of HT_.out (by kernel_rfl)) (fun _ _ _ h => h) (Or.inr ⟨by rfl, rfl⟩) ?_ ?_
          rotate_left
          ·simp only [Act.put, List.setIfInBounds_toArray, List.set_cons_zero, List.set_cons_succ, i64_w, i32_w]
           rfl
          refine pure_ (i := 17) (N := some 59) (v := ?_) (a' := ?_) #[true, true, true, true, true, true, true, true, true, true, true, true, true, true, true, true, true, true, false] rfl rfl (any_of HT_.out (by kernel_rfl)) (fun _ _ _ h => h) (Or.inl ⟨by rfl, ?_⟩) ?_ ?_
          rotate_left
          ·intro w'
           go_simp
           with_reducible rfl
          rotate_left
          ·simp only [Act.put, List.setIfInBounds_toArray, List.set_cons_zero, List.set_cons_succ, i64_w, i32_w]
           rfl
          refine pure_ (i := 18) (N := some 10) (v := ?_) (a' := ?_) #[true, true, true, true, true, true, true, true, true, true, true, true, true, true, true, true, true, true, true] rfl rfl (any_of HT_.out (by kernel_rfl)) (fun _ _ _ h => h) (Or.inl ⟨by rfl, ?_⟩) ?_ ?_
          rotate_left
          ·intro w'
           go_simp
           with_reducible rfl
          rotate_left
          ·simp only [Act.put, List.setIfInBounds_toArray, List.set_cons_zero, List.set_cons_succ, i64_w, i32_w]
           rfl
          refine done_ (done_of HT_.out (by kernel_rfl)) ?_
          have hcz87_0 : w86.cell? ⟨gb418, 0, none⟩ = some (.int .i64 t397) := (blk_cell BK418.out 0).trans rfl
          have hcz87_1 : w86.cell? ⟨gb418, 1, none⟩ = some (.int .i64 t398) := (blk_cell BK418.out 1).trans rfl
          have hcz87_2 : w86.cell? ⟨gb418, 2, none⟩ = some (.slice Ao71 t399.length co71) := (blk_cell BK418.out 2).trans rfl
          have hcz87_3 : w86.cell? ⟨gb418, 3, none⟩ = some (.slice Ao72 t402.length co72) := (blk_cell BK418.out 3).trans rfl
          have hfz87_0 := blk_frozen BK418.out 0
          have hfz87_1 := blk_frozen BK418.out 1
          have hfz87_2 := blk_frozen BK418.out 2
          have hfz87_3 := blk_frozen BK418.out 3
          have hcz88_0 : w86.cell? ⟨gb419, 0, none⟩ = some (.int .i64 t409) := (blk_cell BK419.out 0).trans rfl
          have hcz88_1 : w86.cell? ⟨gb419, 1, none⟩ = some (.int .i64 t410) := (blk_cell BK419.out 1).trans rfl
          have hcz88_2 : w86.cell? ⟨gb419, 2, none⟩ = some (.slice Ao75 t411.length co75) := (blk_cell BK419.out 2).trans rfl
          have hcz88_3 : w86.cell? ⟨gb419, 3, none⟩ = some (.slice Ao76 t414.length co76) := (blk_cell BK419.out 3).trans rfl
          have hfz88_0 := blk_frozen BK419.out 0
          have hfz88_1 := blk_frozen BK419.out 1
          have hfz88_2 := blk_frozen BK419.out 2
          have hfz88_3 := blk_frozen BK419.out 3
          try go_wp2_with (first | ((with_reducible refine gate_callee (f := 20) rfl ?_); refine goesM_ (some 62) Try.func20 #[.agg #[.int .i64 t397, .int .i64 t398, .slice Ao71 t399.length co71, .slice Ao72 t402.length co72], .agg #[.int .i64 t409, .int .i64 t410, .slice Ao75 t411.length co75, .slice Ao76 t414.length co76]] ?_; (with_reducible refine (txn_Same.calls kj4 t397 t398 _ _ t399 _ _ t402 t409 t410 _ _ t411 _ _ t414 t432 _ ?side1 ?side2 ?side3 ?side4 ?side5 ?side6 ?side7 ?side8 A59.out).mono ?_); (case side1 => repeat (first | exact (Kd.R_reads' HO401.out).2.2 | (with_reducible refine ca_ ?_ _) | (with_reducible refine cn_ ?_ _) | (with_reducible refine cd_ ?_))); (case side2 => exact (Kd.R_reads' HO401.out).2.1); (case side3 => repeat (first | exact (Kd.R_reads' HO404.out).2.2 | (with_reducible refine ca_ ?_ _) | (with_reducible refine cn_ ?_ _) | (with_reducible refine cd_ ?_))); (case side4 => exact (Kd.R_reads' HO404.out).2.1); (case side5 => repeat (first | exact (Kd.R_reads' HO413.out).2.2 | (with_reducible refine ca_ ?_ _) | (with_reducible refine cn_ ?_ _) | (with_reducible refine cd_ ?_))); (case side6 => exact (Kd.R_reads' HO413.out).2.1); (case side7 => repeat (first | exact (Kd.R_reads' HO416.out).2.2 | (with_reducible refine ca_ ?_ _) | (with_reducible refine cn_ ?_ _) | (with_reducible refine cd_ ?_))); (case side8 => exact (Kd.R_reads' HO416.out).2.1); rintro e w89 ⟨rfl, hb⟩; refine ⟨_, rfl, ?_⟩; have n0_ := Aside0.mk (Kd.R_below (by (with_reducible repeat (first | apply ra_ | apply rn_ | apply rd_)); exact HO401.out) hb); have n1_ := Aside0.mk (Kd.R_below (by (with_reducible repeat (first | apply ra_ | apply rn_ | apply rd_)); exact HO404.out) hb); have n2_ := Aside0.mk (Kd.R_below (by (with_reducible repeat (first | apply ra_ | apply rn_ | apply rd_)); exact HO413.out) hb); have n3_ := Aside0.mk (Kd.R_below (by (with_reducible repeat (first | apply ra_ | apply rn_ | apply rd_)); exact HO416.out) hb); have n4_ := Aside0.mk (Kd.R_below (by (with_reducible repeat (first | apply ra_ | apply rn_ | apply rd_)); exact HO422.out) hb); have n5_ := Aside0.mk (Kd.R_below (by (with_reducible repeat (first | apply ra_ | apply rn_ | apply rd_)); exact HO425.out) hb); have n6_ := Aside0.mk (IsS128.below (by repeat (with_reducible first | exact HI408.out | apply IsS128.alloc | apply IsS128.drewN | apply IsS128.drew | apply IsS128.set_1 | refine IsS128.far ?_ NB408_418.out _ | refine IsS128.far ?_ NB408_419.out _)) hb); have n7_ := Aside0.mk (blk_below (g := gb418) (o := .cells #[.int .i64 t397, .int .i64 t398, .slice Ao71 t399.length co71, .slice Ao72 t402.length co72] 30 (0, 0)) (by (with_reducible repeat (first | refine kn_ ?_ _ | refine kd_ ?_ | refine ka_ ?_ _)); exact BK418.out) hb); have n8_ := Aside0.mk (blk_below (g := gb419) (o := .cells #[.int .i64 t409, .int .i64 t410, .slice Ao75 t411.length co75, .slice Ao76 t414.length co76] 30 (0, 0)) (by (with_reducible repeat (first | refine kn_ ?_ _ | refine kd_ ?_ | refine ka_ ?_ _)); exact BK419.out) hb); have n9_ := Aside0.mk (below_step (by repeat (with_reducible first | exact HB.out | apply ba_ | apply bn_ | apply bd_ | refine bs_ ?_ (IsS128.ge HI408.out) | refine bs_ ?_ GE418.out | refine bs_ ?_ GE419.out)) hb); clear HO401; clear HO404; clear HO413; clear HO416; clear HO422; clear HO425; clear HI408; clear BK418; clear BK419; clear HB; have HO401 := n0_; have HO404 := n1_; have HO413 := n2_; have HO416 := n3_; have HO422 := n4_; have HO425 := n5_; have HI408 := n6_; have BK418 := n7_; have BK419 := n8_; have HB := n9_; clear n0_ n1_ n2_ n3_ n4_ n5_ n6_ n7_ n8_ n9_; clear hb; have hcv90 := own_string (P := Try.prog) Try.underlying33 Try.underlying5 Try.underlying9 (Kd.own_of_R HO422.out); have hcv91 := own_string (P := Try.prog) Try.underlying33 Try.underlying5 Try.underlying9 (Kd.own_of_R HO425.out)))
          go_ret
          exact ⟨by first | rfl | (simp [errW_none, errW_some] <;> rfl) | (simp [*, errW_none, errW_some] <;> rfl), by repeat (with_reducible first | exact HB.out | apply ba_ | apply bn_ | apply bd_ | refine bs_ ?_ (IsS128.ge HI408.out) | refine bs_ ?_ GE418.out | refine bs_ ?_ GE419.out)⟩
         ·rw [if_neg c61] at H
          exact absurd H (by simp)
        ·rw [if_neg c60] at H
         exact absurd H (by simp)
 ·replace c4 := Bool.eq_false_iff.mpr c4
  subst c4
  have H1 : (none) = some r := by rw [if_neg (show ¬ (false = true) by decide)] at H; exact H
  clear H
  have H := H1
  clear H1
  exact absurd H (by simp)
/-- THE ONE PURE STATEMENT of diwanlaw5_TxnApart: yours. -/
def diwanlaw5_TxnApart.Pure : Prop := ∀ (l0 : List Int) (l1 : List Int), l0.length ≤ maxLen → l0.length * 1 ≤ 140737488351232 → (∀ x ∈ l0, (Lit.int .u8 x).wf = true) → l1.length ≤ maxLen → l1.length * 1 ≤ 140737488351232 → (∀ x ∈ l1, (Lit.int .u8 x).wf = true) → ∃ k, diwanlaw5_TxnApart.f k l0 l1 = some true
theorem diwanlaw5_TxnApart.walk (P : diwanlaw5_TxnApart.Pure) (a0 : Option Addr) (len0 cap0 : Nat) (z0 : List Int) (a1 : Option Addr) (len1 cap1 : Nat) (z1 : List Int) (w : World) (w0 : (a0 = none ∧ len0 = 0 ∧ cap0 = 0 ∧ z0 = []) ∨ ∃ x, a0 = some x ∧ len0 ≤ cap0 ∧ cap0 ≤ maxLen ∧ z0.length = cap0 ∧ (∀ i, i < z0.length → w.cell? (x.add i) = some (.int .u8 (z0.getD i 0))) ∧ ∀ n ∈ z0, (Lit.int .u8 n).wf = true) (y0 : len0 * 1 ≤ 140737488351232) (w1 : (a1 = none ∧ len1 = 0 ∧ cap1 = 0 ∧ z1 = []) ∨ ∃ x, a1 = some x ∧ len1 ≤ cap1 ∧ cap1 ≤ maxLen ∧ z1.length = cap1 ∧ (∀ i, i < z1.length → w.cell? (x.add i) = some (.int .u8 (z1.getD i 0))) ∧ ∀ n ∈ z1, (Lit.int .u8 n).wf = true) (y1 : len1 * 1 ≤ 140737488351232) :
  Calls Try.prog 5 #[.slice a0 len0 cap0, .slice a1 len1 cap1] w fun e w' => e = .returned (.bool true) ∧ Below w.heap.size w w' := by
 obtain ⟨l0, rfl, hr0, hm0, hw0, hc0⟩ := ReadsInt.ofRowC w0
 obtain ⟨l1, rfl, hr1, hm1, hw1, hc1⟩ := ReadsInt.ofRowC w1
 obtain ⟨k, h⟩ := P l0 l1 hm0 y0 hw0 hm1 y1 hw1
 refine (diwanlaw5_TxnApart.calls k _ _ l0 _ _ l1 true w (Kd.C_of_reads (d := (0 : Int)) (h1 := fun _ => rfl) hr0) hc0 (Kd.C_of_reads (d := (0 : Int)) (h1 := fun _ => rfl) hr1) hc1 h).mono ?_
 rintro e w' ⟨rfl, hd⟩
 exact ⟨rfl, hd⟩
end Go.Proofs.Ytnlfhbohcgjcbaa.PA
namespace Go.Proofs.Ytnlfhbohcgjcbaa.Q
open Go.RowKit Go.Proofs.YtnlfhbohcgjcbaaW.PrintWords Go.Proofs.YtnlfhbohcgjcbaaW.PrintLast Go.Proofs.YtnlfhbohcgjcbaaW.PrintMore Go.Proofs.Ytnlfhbohcgjcbaa.PA
set_option linter.unusedVariables false
/-- From some number of rounds on it tells r. -/
def Evt {α : Type} (g : Nat → Option α) (r : α) : Prop := ∃ k0, ∀ k, k0 ≤ k → g k = some r
section
variable {α β : Type} {g g' h : Nat → Option α} {r : α} {a : β}
theorem Evt.ret : Evt (fun _ => some r) r := ⟨0, fun _ _ => rfl⟩
theorem Evt.const {o : Option α} (h : o = some r) : Evt (fun _ => o) r := ⟨0, fun _ _ => h⟩
theorem Evt.bind {f : Nat → Option β} {h : Nat → β → Option α} (hf : Evt f a) (hh : Evt (fun k => h k a) r) : Evt (fun k => (f k).bind (h k)) r := by
 obtain ⟨k0, h0⟩ := hf
 obtain ⟨k1, h1⟩ := hh
 exact ⟨max k0 k1, fun k hk => by show (f k).bind (h k) = some r; rw [h0 k (by omega), Option.bind_some]; exact h1 k (by omega)⟩
theorem Evt.step (e : ∀ k, g (k + 1) = h k) (hh : Evt h r) : Evt g r := by
 obtain ⟨k0, h0⟩ := hh
 refine ⟨k0 + 1, fun k hk => ?_⟩
 obtain ⟨m, rfl⟩ : ∃ m, k = m + 1 := ⟨k - 1, by omega⟩
 rw [e]
 exact h0 m (by omega)
theorem Evt.pos {c : Prop} [Decidable c] (hc : c) (hh : Evt g r) : Evt (fun k => if c then g k else g' k) r := by
 obtain ⟨k0, h0⟩ := hh
 exact ⟨k0, fun k hk => by show (if c then g k else g' k) = some r; rw [if_pos hc]; exact h0 k hk⟩
theorem Evt.neg {c : Prop} [Decidable c] (hc : ¬ c) (hh : Evt g' r) : Evt (fun k => if c then g k else g' k) r := by
 obtain ⟨k0, h0⟩ := hh
 exact ⟨k0, fun k hk => by show (if c then g k else g' k) = some r; rw [if_neg hc]; exact h0 k hk⟩
theorem Evt.out (hh : Evt g r) : ∃ k, g k = some r := by
 obtain ⟨k0, h0⟩ := hh
 exact ⟨k0, h0 k0 (Nat.le_refl _)⟩
theorem Evt.of_le (mono : ∀ k, LeO (g k) (g (k + 1))) {k : Nat} (hh : g k = some r) : Evt g r := ⟨k, fun k' hk => at_rounds mono hk hh⟩
theorem Evt.congr (e : ∀ k, g k = h k) (hh : Evt h r) : Evt g r := by
 obtain ⟨k0, h0⟩ := hh
 exact ⟨k0, fun k hk => by rw [e]; exact h0 k hk⟩
theorem Evt.uniq {r' : α} (h1 : Evt g r) (h2 : Evt g r') : r = r' := by
 obtain ⟨k0, h0⟩ := h1
 obtain ⟨k1, h1⟩ := h2
 have e0 := h0 (max k0 k1) (by omega)
 have e1 := h1 (max k0 k1) (by omega)
 rw [e0] at e1
 exact Option.some.inj e1
theorem Evt.eq {r' : α} (h1 : Evt g r) (e : r = r') : Evt g r' := e ▸ h1
end
theorem drop_getD {α : Type} (xs : List α) (d : α) (i : Nat) (h : i < xs.length) : xs.drop i = xs.getD i d :: xs.drop (i + 1) := by
 rw [List.drop_eq_getElem_cons h]
 simp [List.getD_eq_getElem?_getD, List.getElem?_eq_getElem h]
theorem getD_mem {α : Type} (xs : List α) (d : α) (i : Nat) (h : i < xs.length) : xs.getD i d ∈ xs := by
 simp [List.getD_eq_getElem?_getD, List.getElem?_eq_getElem h]
theorem wrap_succ (i : Nat) (h : i < 9223372036854775807) : wrap64 ((i : Int) + 1) = ((i + 1 : Nat) : Int) := by
 unfold wrap64
 omega
theorem wrap_pred (i : Nat) (h : i ≤ 9223372036854775807) (h0 : 0 < i) : wrap64 ((i : Int) - 1) = ((i - 1 : Nat) : Int) := by
 unfold wrap64
 omega
theorem wrap_of (x : Int) (h0 : -9223372036854775808 ≤ x) (h1 : x ≤ 9223372036854775807) : wrap64 x = x := by
 unfold wrap64
 omega
theorem rdOf_nat {α : Type} (d : α) (xs : List α) (i : Nat) : rdOf d xs (i : Int) = xs.getD i d := by
 unfold rdOf
 rw [Int.toNat_natCast]
theorem rd_nat (xs : List Int) (i : Nat) : rd xs (i : Int) = xs.getD i 0 := by
 unfold rd
 rw [Int.toNat_natCast]
end Go.Proofs.Ytnlfhbohcgjcbaa.Q
namespace Go.Proofs.Ytnlfhbohcgjcbaa.PA
open Go.RowKit Go.Proofs.YtnlfhbohcgjcbaaW.PrintWords Go.Proofs.YtnlfhbohcgjcbaaW.PrintLast Go.Proofs.YtnlfhbohcgjcbaaW.PrintMore
attribute [local go_sem] max2_int min2_int max_two min_two max_three min_three max_four min_four
set_option linter.unusedVariables false
set_option linter.unusedSimpArgs false
end Go.Proofs.Ytnlfhbohcgjcbaa.PA
namespace Go.Proofs.Ytnlfhbohcgjcbaa.Q
open Go.RowKit Go.Proofs.YtnlfhbohcgjcbaaW.PrintWords Go.Proofs.YtnlfhbohcgjcbaaW.PrintLast Go.Proofs.YtnlfhbohcgjcbaaW.PrintMore Go.Proofs.Ytnlfhbohcgjcbaa.PA
set_option linter.unusedVariables false
theorem bt_nat (s : ByteArray) (i : Nat) : bt s (i : Int) = (bytesOf s).getD i 0 := by
 rw [← rd_bytesOf, rd_nat]
theorem bt_drop (s : ByteArray) (i : Nat) (h : i < s.size) : (bytesOf s).drop i = bt s (i : Int) :: (bytesOf s).drop (i + 1) := by
 rw [bt_nat]
 exact drop_getD _ _ _ (by rw [bytesOf_length]; exact h)
/-- A byte that may be in a name. -/
def okc (c : Int) : Bool := decide (33 ≤ c) && decide (c ≤ 126)
/-- May a name be? -/
def mayKey (s : ByteArray) : Bool := (bytesOf s).all okc && (decide (1 ≤ s.size) && decide (s.size ≤ 8))
theorem key_sign_f (c : Int) : key_sign.f c = some (okc c) := by
 unfold key_sign.f okc
 by_cases h : c ≥ 33
 ·rw [if_pos h, decide_eq_true (show 33 ≤ c from h), Bool.true_and]
 ·rw [if_neg h, decide_eq_false (show ¬ 33 ≤ c from h), Bool.false_and]
theorem key_name_may_l0 (s : ByteArray) (hs : s.size < 9223372036854775807) (d : Nat) : ∀ i : Nat, i ≤ s.size → s.size - i = d →
  Evt (fun k => key_name_may.l0 k s (s.size : Int) (i : Int)) (((bytesOf s).drop i).all okc && (decide (1 ≤ s.size) && decide (s.size ≤ 8))) := by
 induction d with
 | zero =>
  intro i hi hd
  refine Evt.step (fun k => key_name_may.l0.eq_2 _ _ _ _) (Evt.neg (by omega) ?_)
  rw [List.drop_eq_nil_of_le (by rw [bytesOf_length]; omega), List.all_nil, Bool.true_and]
  by_cases h : (s.size : Int) ≥ 1
  ·refine Evt.pos h (Evt.const ?_)
   rw [decide_eq_true (show 1 ≤ s.size by omega), Bool.true_and]
   congr 1
   rw [decide_eq_decide]
   omega
  ·refine Evt.neg h (Evt.const ?_)
   rw [decide_eq_false (show ¬ 1 ≤ s.size by omega), Bool.false_and]
 | succ d ih =>
  intro i hi hd
  refine Evt.step (fun k => key_name_may.l0.eq_2 _ _ _ _) (Evt.pos (by omega) (Evt.pos (by omega) (Evt.pos (by omega) (Evt.bind (Evt.const (key_sign_f _)) ?_))))
  rw [bt_drop s i (by omega), List.all_cons]
  cases okc (bt s (i : Int)) with
  | true =>
   refine Evt.pos rfl ?_
   rw [wrap_succ i (by omega), Bool.true_and]
   exact ih (i + 1) (by omega) (by omega)
  | false => exact Evt.neg (by decide) Evt.ret
theorem key_name_may_f (s : ByteArray) (hs : s.size < 9223372036854775807) : Evt (fun k => key_name_may.f k s) (mayKey s) := by
 have h := key_name_may_l0 s hs s.size 0 (by omega) (by omega)
 rw [List.drop_zero] at h
 exact h
/-- Is one name below another one? -/
def less (a b : ByteArray) : Bool := Op.bytesLess a.toList b.toList
/-- Each is above the one ahead. -/
def rises : List ByteArray → Bool
 | [] => true
 | [x] => true
 | x :: y :: l => less x y && rises (y :: l)
/-- Names that may be, each above the one ahead. -/
def rising (l : List ByteArray) : Bool := l.all mayKey && rises l
/-- The same, the one ahead at hand. -/
def risesFrom : Option ByteArray → List ByteArray → Bool
 | _, [] => true
 | p, x :: l => mayKey x && ((match p with | none => true | some q => less q x) && risesFrom (some x) l)
theorem risesFrom_some (q : ByteArray) (l : List ByteArray) : risesFrom (some q) l = (l.all mayKey && rises (q :: l)) := by
 induction l generalizing q with
 | nil => rfl
 | cons x l ih =>
  simp only [risesFrom, List.all_cons, rises, ih]
  cases mayKey x <;> cases less q x <;> simp
theorem risesFrom_none (l : List ByteArray) : risesFrom none l = rising l := by
 cases l with
 | nil => rfl
 | cons x l =>
  simp only [risesFrom, risesFrom_some, rising, List.all_cons, Bool.true_and, Bool.and_assoc]
theorem key_Rising_l0 (l : List ByteArray) (hl : l.length < 9223372036854775807) (hs : ∀ s ∈ l, s.size < 9223372036854775807) (d : Nat) : ∀ i : Nat, i ≤ l.length → l.length - i = d →
  Evt (fun k => key_Rising.l0 k l l (l.length : Int) (i : Int)) (risesFrom (if i = 0 then none else some (l.getD (i - 1) ByteArray.empty)) (l.drop i)) := by
 induction d with
 | zero =>
  intro i hi hd
  refine Evt.step (fun k => key_Rising.l0.eq_2 _ _ _ _ _) (Evt.neg (by omega) ?_)
  rw [List.drop_eq_nil_of_le (by omega)]
  unfold risesFrom
  exact Evt.ret
 | succ d ih =>
  intro i hi hd
  have hlt : i < l.length := by omega
  have hget := drop_getD l ByteArray.empty i hlt
  refine Evt.step (fun k => key_Rising.l0.eq_2 _ _ _ _ _) (Evt.pos (by omega) (Evt.pos (by omega) (Evt.pos (by omega) ?_)))
  rw [rdOf_nat, hget]
  refine Evt.bind (key_name_may_f _ (hs _ (getD_mem _ _ _ hlt))) ?_
  simp only [risesFrom]
  cases mayKey (l.getD i ByteArray.empty) with
  | false => exact Evt.neg (by decide) Evt.ret
  | true =>
   refine Evt.pos rfl ?_
   rw [Bool.true_and]
   have ih' := ih (i + 1) (by omega) (by omega)
   rw [if_neg (by omega), Nat.add_sub_cancel] at ih'
   by_cases h0 : i = 0
   ·refine Evt.neg (by omega) ?_
    rw [if_pos h0, wrap_succ i (by omega)]
    exact ih'
   ·rw [wrap_pred i (by omega) (by omega), if_neg h0]
    refine Evt.pos (by omega) (Evt.pos (by omega) (Evt.pos (by omega) ?_))
    rw [rdOf_nat, wrap_succ i (by omega)]
    show Evt _ (less (l.getD (i - 1) ByteArray.empty) (l.getD i ByteArray.empty) && _)
    by_cases hb : Op.bytesLess (l.getD (i - 1) ByteArray.empty).toList (l.getD i ByteArray.empty).toList = true
    ·refine Evt.pos hb ?_
     rw [show less (l.getD (i - 1) ByteArray.empty) (l.getD i ByteArray.empty) = true from hb, Bool.true_and]
     exact ih'
    ·refine Evt.neg hb ?_
     rw [show less (l.getD (i - 1) ByteArray.empty) (l.getD i ByteArray.empty) = false from Bool.eq_false_iff.2 hb]
     exact Evt.ret
theorem key_Rising_f (l : List ByteArray) (hl : l.length < 9223372036854775807) (hs : ∀ s ∈ l, s.size < 9223372036854775807) : Evt (fun k => key_Rising.f k l) (rising l) := by
 have h := key_Rising_l0 l hl hs l.length 0 (by omega) (by omega)
 rw [List.drop_zero, if_pos rfl, risesFrom_none] at h
 exact h
abbrev Rd0 := S24
abbrev Wr0 := S27
theorem rdR_nat (xs : List Rd0) (i : Nat) : rd_T24 xs (i : Int) = xs.getD i z24 := by
 unfold rd_T24
 rw [Int.toNat_natCast]
theorem rdW_nat (xs : List Wr0) (i : Nat) : rd_T27 xs (i : Int) = xs.getD i z27 := by
 unfold rd_T27
 rw [Int.toNat_natCast]
theorem keys_l1 (x2 : List ByteArray) (ws : List Wr0) (d : Nat) : ∀ (i : Nat) (acc : List ByteArray), i ≤ ws.length → ws.length - i = d → acc.length + d < 8796093022208 → ws.length < 9223372036854775807 →
  Evt (fun k => txn_keys.l1 k x2 acc ws (ws.length : Int) (i : Int)) (x2, acc ++ (ws.drop i).map (·.f0)) := by
 induction d with
 | zero =>
  intro i acc hi hd hb hw
  refine Evt.step (fun k => txn_keys.l1.eq_2 _ _ _ _ _ _) (Evt.neg (by omega) ?_)
  rw [List.drop_eq_nil_of_le (by omega), List.map_nil, List.append_nil]
  exact Evt.ret
 | succ d ih =>
  intro i acc hi hd hb hw
  refine Evt.step (fun k => txn_keys.l1.eq_2 _ _ _ _ _ _) (Evt.pos (by omega) (Evt.pos (by omega) (Evt.pos (by omega) (Evt.pos (by omega) ?_))))
  rw [rdW_nat, wrap_succ i (by omega), drop_getD ws z27 i (by omega), List.map_cons]
  exact (ih (i + 1) (acc ++ [(ws.getD i z27).f0]) (by omega) (by omega) (by rw [List.length_append, List.length_singleton]; omega) hw).eq (by simp)
theorem keys_l0 (a b : Int) (rs : List Rd0) (ws : List Wr0) (hw : ws.length < 8796093022208) (d : Nat) : ∀ (i : Nat) (acc : List ByteArray), i ≤ rs.length → rs.length - i = d → acc.length + d < 8796093022208 → rs.length < 9223372036854775807 →
  Evt (fun k => txn_keys.l0 k acc rs (rs.length : Int) (i : Int) a b rs ws) (acc ++ (rs.drop i).map (·.f0), ws.map (·.f0)) := by
 induction d with
 | zero =>
  intro i acc hi hd hb hr
  refine Evt.step (fun k => txn_keys.l0.eq_2 _ _ _ _ _ _ _ _ _) (Evt.neg (by omega) ?_)
  rw [List.drop_eq_nil_of_le (by omega), List.map_nil, List.append_nil]
  have h := keys_l1 acc ws ws.length 0 [] (by omega) (by omega) (by rw [List.length_nil]; omega) (by omega)
  rw [List.drop_zero, List.nil_append] at h
  exact h
 | succ d ih =>
  intro i acc hi hd hb hr
  refine Evt.step (fun k => txn_keys.l0.eq_2 _ _ _ _ _ _ _ _ _) (Evt.pos (by omega) (Evt.pos (by omega) (Evt.pos (by omega) (Evt.pos (by omega) ?_))))
  rw [rdR_nat, wrap_succ i (by omega), drop_getD rs z24 i (by omega), List.map_cons]
  exact (ih (i + 1) (acc ++ [(rs.getD i z24).f0]) (by omega) (by omega) (by rw [List.length_append, List.length_singleton]; omega) hr).eq (by simp)
theorem keys_f (a b : Int) (rs : List Rd0) (ws : List Wr0) (hr : rs.length < 8796093022208) (hw : ws.length < 8796093022208) : Evt (fun k => txn_keys.f k a b rs ws) (rs.map (·.f0), ws.map (·.f0)) := by
 have h := keys_l0 a b rs ws hw rs.length 0 [] (by omega) (by omega) (by rw [List.length_nil]; omega) (by omega)
 rw [List.drop_zero, List.nil_append] at h
 exact h
/-- May a read be? -/
def okRead (r : Rd0) : Bool := (if r.f3 then decide (r.f1 ≠ 0) else r.f2.toList == []) && (decide (0 ≤ r.f1) && decide (r.f2.size ≤ 16))
/-- May a write be? -/
def okWrite (w : Wr0) : Bool := decide (w.f1.size ≤ 16) && (if w.f2 then w.f1.toList == [] else true)
theorem txn_read_f (r : Rd0) : txn_read.f r.f0 r.f1 r.f2 r.f3 = some (okRead r) := by
 unfold txn_read.f okRead
 by_cases h0 : r.f1 ≥ 0
 ·rw [if_pos h0, decide_eq_true (show 0 ≤ r.f1 from h0), Bool.true_and, show decide ((r.f2.size : Int) ≤ 16) = decide (r.f2.size ≤ 16) by rw [decide_eq_decide]; omega]
  cases r.f3 with
  | true =>
   by_cases h1 : r.f1 = 0
   ·simp [h1]
   ·simp [h1]
  | false =>
   by_cases h1 : r.f2.toList = ([] : List UInt8)
   ·simp [h1]
   ·simp [h1]
 ·rw [if_neg h0, decide_eq_false (show ¬ 0 ≤ r.f1 from h0), Bool.false_and, Bool.and_false]
  cases r.f3 with
  | true => simp
  | false => simp
theorem txn_May_1_f (r : Rd0) : txn_May_1.f r.f0 r.f1 r.f2 r.f3 = some (!okRead r) := by
 unfold txn_May_1.f
 rw [txn_read_f]
 rfl
theorem txn_write_f (w : Wr0) : txn_write.f w.f0 w.f1 w.f2 = some (okWrite w) := by
 unfold txn_write.f okWrite
 by_cases h0 : (w.f1.size : Int) ≤ 16
 ·rw [if_pos h0, decide_eq_true (show w.f1.size ≤ 16 by omega), Bool.true_and]
  cases w.f2 <;> simp
 ·rw [if_neg h0, decide_eq_false (show ¬ w.f1.size ≤ 16 by omega), Bool.false_and]
theorem txn_May_2_f (w : Wr0) : txn_May_2.f w.f0 w.f1 w.f2 = some (!okWrite w) := by
 unfold txn_May_2.f
 rw [txn_write_f]
 rfl
theorem idxR_l0 (rs : List Rd0) (hr : rs.length < 9223372036854775807) (d : Nat) : ∀ i : Nat, i ≤ rs.length → rs.length - i = d →
  ∃ v : Int, Evt (fun k => slices_IndexFunc_Lapi_Read_api_Read_txn_May_1.l0 k rs (rs.length : Int) (i : Int)) v ∧ decide (v ≥ 0) = (rs.drop i).any (!okRead ·) := by
 induction d with
 | zero =>
  intro i hi hd
  refine ⟨-1, Evt.step (fun k => slices_IndexFunc_Lapi_Read_api_Read_txn_May_1.l0.eq_2 _ _ _ _) (Evt.neg (by omega) Evt.ret), ?_⟩
  rw [List.drop_eq_nil_of_le (by omega)]
  rfl
 | succ d ih =>
  intro i hi hd
  rw [drop_getD rs z24 i (by omega), List.any_cons]
  have e : ∀ v : Int, Evt (fun k => if okRead (rs.getD i z24) = false then some (i : Int) else slices_IndexFunc_Lapi_Read_api_Read_txn_May_1.l0 k rs (rs.length : Int) ((i + 1 : Nat) : Int)) v → Evt (fun k => slices_IndexFunc_Lapi_Read_api_Read_txn_May_1.l0 k rs (rs.length : Int) (i : Int)) v := by
   intro v hv
   refine Evt.step (fun k => slices_IndexFunc_Lapi_Read_api_Read_txn_May_1.l0.eq_2 _ _ _ _) (Evt.pos (by omega) (Evt.pos (by omega) (Evt.pos (by omega) ?_)))
   rw [rdR_nat, wrap_succ i (by omega)]
   refine Evt.bind (Evt.const (txn_May_1_f _)) ?_
   refine Evt.congr (fun k => ?_) hv
   cases okRead (rs.getD i z24) <;> rfl
  cases ho : okRead (rs.getD i z24) with
  | false =>
   refine ⟨i, e _ (Evt.pos ho Evt.ret), ?_⟩
   simp
  | true =>
   obtain ⟨v, hv, hd'⟩ := ih (i + 1) (by omega) (by omega)
   exact ⟨v, e _ (Evt.neg (by rw [ho]; decide) hv), by rw [hd']; rfl⟩
theorem containsR_f (rs : List Rd0) (hr : rs.length < 9223372036854775807) : Evt (fun k => slices_ContainsFunc_Lapi_Read_api_Read_txn_May_1.f k rs) (rs.any (!okRead ·)) := by
 obtain ⟨v, hv, hd⟩ := idxR_l0 rs hr rs.length 0 (by omega) (by omega)
 rw [List.drop_zero] at hd
 rw [← hd]
 exact Evt.bind hv Evt.ret
theorem idxW_l0 (ws : List Wr0) (hr : ws.length < 9223372036854775807) (d : Nat) : ∀ i : Nat, i ≤ ws.length → ws.length - i = d →
  ∃ v : Int, Evt (fun k => slices_IndexFunc_Lapi_Write_api_Write_txn_May_2.l0 k ws (ws.length : Int) (i : Int)) v ∧ decide (v ≥ 0) = (ws.drop i).any (!okWrite ·) := by
 induction d with
 | zero =>
  intro i hi hd
  refine ⟨-1, Evt.step (fun k => slices_IndexFunc_Lapi_Write_api_Write_txn_May_2.l0.eq_2 _ _ _ _) (Evt.neg (by omega) Evt.ret), ?_⟩
  rw [List.drop_eq_nil_of_le (by omega)]
  rfl
 | succ d ih =>
  intro i hi hd
  rw [drop_getD ws z27 i (by omega), List.any_cons]
  have e : ∀ v : Int, Evt (fun k => if okWrite (ws.getD i z27) = false then some (i : Int) else slices_IndexFunc_Lapi_Write_api_Write_txn_May_2.l0 k ws (ws.length : Int) ((i + 1 : Nat) : Int)) v → Evt (fun k => slices_IndexFunc_Lapi_Write_api_Write_txn_May_2.l0 k ws (ws.length : Int) (i : Int)) v := by
   intro v hv
   refine Evt.step (fun k => slices_IndexFunc_Lapi_Write_api_Write_txn_May_2.l0.eq_2 _ _ _ _) (Evt.pos (by omega) (Evt.pos (by omega) (Evt.pos (by omega) ?_)))
   rw [rdW_nat, wrap_succ i (by omega)]
   refine Evt.bind (Evt.const (txn_May_2_f _)) ?_
   refine Evt.congr (fun k => ?_) hv
   cases okWrite (ws.getD i z27) <;> rfl
  cases ho : okWrite (ws.getD i z27) with
  | false =>
   refine ⟨i, e _ (Evt.pos ho Evt.ret), ?_⟩
   simp
  | true =>
   obtain ⟨v, hv, hd'⟩ := ih (i + 1) (by omega) (by omega)
   exact ⟨v, e _ (Evt.neg (by rw [ho]; decide) hv), by rw [hd']; rfl⟩
theorem containsW_f (ws : List Wr0) (hr : ws.length < 9223372036854775807) : Evt (fun k => slices_ContainsFunc_Lapi_Write_api_Write_txn_May_2.f k ws) (ws.any (!okWrite ·)) := by
 obtain ⟨v, hv, hd⟩ := idxW_l0 ws hr ws.length 0 (by omega) (by omega)
 rw [List.drop_zero] at hd
 rw [← hd]
 exact Evt.bind hv Evt.ret
/-- May a transaction be? -/
def mayTxn (a b : Int) (rs : List Rd0) (ws : List Wr0) : Bool :=
 decide (1 ≤ a ∧ a ≤ 9) && (decide (1 ≤ b ∧ b ≤ 1000) && (decide (rs.length ≤ 6) && (rising (rs.map (·.f0)) && (decide (ws.length ≤ 4) && (rising (ws.map (·.f0)) && (rs.all okRead && ws.all okWrite))))))
theorem any_not {α : Type} (p : α → Bool) (l : List α) : l.any (fun x => !p x) = !l.all p := by
 induction l with
 | nil => rfl
 | cons x l ih => rw [List.any_cons, List.all_cons, ih]; cases p x <;> rfl
theorem txn_May_f (a b : Int) (rs : List Rd0) (ws : List Wr0) (hr : rs.length < 8796093022208) (hw : ws.length < 8796093022208) (hrs : ∀ r ∈ rs, r.f0.size < 9223372036854775807) (hws : ∀ w ∈ ws, w.f0.size < 9223372036854775807) :
  Evt (fun k => txn_May.f k a b rs ws) (mayTxn a b rs ws) := by
 unfold txn_May.f mayTxn
 refine Evt.bind (keys_f a b rs ws hr hw) ?_
 dsimp only
 by_cases h1 : a ≥ 1
 case neg => rw [decide_eq_false (show ¬ (1 ≤ a ∧ a ≤ 9) by omega), Bool.false_and]; exact Evt.neg h1 Evt.ret
 refine Evt.pos h1 ?_
 by_cases h2 : a ≤ 9
 case neg => rw [decide_eq_false (show ¬ (1 ≤ a ∧ a ≤ 9) by omega), Bool.false_and]; exact Evt.neg h2 Evt.ret
 refine Evt.pos h2 ?_
 rw [decide_eq_true (show 1 ≤ a ∧ a ≤ 9 by omega), Bool.true_and]
 by_cases h3 : b ≥ 1
 case neg => rw [decide_eq_false (show ¬ (1 ≤ b ∧ b ≤ 1000) by omega), Bool.false_and]; exact Evt.neg h3 Evt.ret
 refine Evt.pos h3 ?_
 by_cases h4 : b ≤ 1000
 case neg => rw [decide_eq_false (show ¬ (1 ≤ b ∧ b ≤ 1000) by omega), Bool.false_and]; exact Evt.neg h4 Evt.ret
 refine Evt.pos h4 ?_
 rw [decide_eq_true (show 1 ≤ b ∧ b ≤ 1000 by omega), Bool.true_and, List.length_map, List.length_map]
 by_cases h5 : (rs.length : Int) ≤ 6
 case neg => rw [decide_eq_false (show ¬ rs.length ≤ 6 by omega), Bool.false_and]; exact Evt.neg h5 Evt.ret
 refine Evt.pos h5 ?_
 rw [decide_eq_true (show rs.length ≤ 6 by omega), Bool.true_and]
 refine Evt.bind (key_Rising_f _ (by rw [List.length_map]; omega) (fun s hs => by obtain ⟨r, hr', rfl⟩ := List.mem_map.1 hs; exact hrs r hr')) ?_
 cases rising (rs.map (·.f0)) with
 | false => exact Evt.neg (by decide) Evt.ret
 | true =>
 refine Evt.pos rfl ?_
 rw [Bool.true_and]
 by_cases h6 : (ws.length : Int) ≤ 4
 case neg => rw [decide_eq_false (show ¬ ws.length ≤ 4 by omega), Bool.false_and]; exact Evt.neg h6 Evt.ret
 refine Evt.pos h6 ?_
 rw [decide_eq_true (show ws.length ≤ 4 by omega), Bool.true_and]
 refine Evt.bind (key_Rising_f _ (by rw [List.length_map]; omega) (fun s hs => by obtain ⟨r, hr', rfl⟩ := List.mem_map.1 hs; exact hws r hr')) ?_
 cases rising (ws.map (·.f0)) with
 | false => exact Evt.neg (by decide) Evt.ret
 | true =>
 refine Evt.pos rfl ?_
 rw [Bool.true_and]
 refine Evt.bind (containsR_f rs (by omega)) ?_
 rw [any_not]
 cases rs.all okRead with
 | false => exact Evt.pos rfl Evt.ret
 | true =>
 refine Evt.neg (by decide) ?_
 rw [Bool.true_and]
 refine Evt.bind (containsW_f ws (by omega)) ?_
 rw [any_not, Bool.not_not]
 exact Evt.ret
theorem bytes_eq {a b : ByteArray} (h : a.toList = b.toList) : a = b := by
 rw [ByteArray.toList_eq, ByteArray.toList_eq, Array.toList_inj] at h
 cases a; cases b
 cases h
 rfl
theorem bytes_iff (a b : ByteArray) : a.toList = b.toList ↔ a = b := ⟨bytes_eq, fun h => by rw [h]⟩
/-- Are two rows alike, cell by cell? -/
def sameL {α : Type} (e : α → α → Bool) : List α → List α → Bool
 | [], [] => true
 | a :: x, b :: y => e a b && sameL e x y
 | _, _ => false
theorem sameL_iff {α : Type} {e : α → α → Bool} (he : ∀ a b, e a b = true ↔ a = b) : ∀ x y : List α, sameL e x y = true ↔ x = y
 | [], [] => by simp [sameL]
 | [], b :: y => by simp [sameL]
 | a :: x, [] => by simp [sameL]
 | a :: x, b :: y => by simp [sameL, he, sameL_iff he x y]
theorem sameL_len {α : Type} {e : α → α → Bool} : ∀ x y : List α, x.length ≠ y.length → sameL e x y = false
 | [], [] => fun h => absurd rfl h
 | [], b :: y => fun _ => rfl
 | a :: x, [] => fun _ => rfl
 | a :: x, b :: y => fun h => by
  have := sameL_len (e := e) x y (by simpa using h)
  simp [sameL, this]
def eqR (a b : Rd0) : Bool := (a.f0.toList == b.f0.toList) && ((a.f1 == b.f1) && ((a.f2.toList == b.f2.toList) && (a.f3 == b.f3)))
def eqW (a b : Wr0) : Bool := (a.f0.toList == b.f0.toList) && ((a.f1.toList == b.f1.toList) && (a.f2 == b.f2))
theorem eqR_iff (a b : Rd0) : eqR a b = true ↔ a = b := by
 obtain ⟨a0, a1, a2, a3⟩ := a
 obtain ⟨b0, b1, b2, b3⟩ := b
 simp only [eqR, Bool.and_eq_true, beq_iff_eq, bytes_iff, S24.mk.injEq]
theorem eqW_iff (a b : Wr0) : eqW a b = true ↔ a = b := by
 obtain ⟨a0, a1, a2⟩ := a
 obtain ⟨b0, b1, b2⟩ := b
 simp only [eqW, Bool.and_eq_true, beq_iff_eq, bytes_iff, S27.mk.injEq]
theorem not4 (a b c d : Bool) : (!a || (!b || (!c || !d))) = !(a && (b && (c && d))) := by cases a <;> cases b <;> cases c <;> cases d <;> rfl
theorem not3 (a b c : Bool) : (!a || (!b || !c)) = !(a && (b && c)) := by cases a <;> cases b <;> cases c <;> rfl
theorem sameReads_l0 (x y : List Rd0) (hl : x.length = y.length) (hx : x.length < 9223372036854775807) (d : Nat) : ∀ i : Nat, i ≤ x.length → x.length - i = d →
  Evt (fun k => diwanref1_SameReads.l0 k x y (i : Int)) (sameL eqR (x.drop i) (y.drop i)) := by
 induction d with
 | zero =>
  intro i hi hd
  refine Evt.step (fun k => diwanref1_SameReads.l0.eq_2 _ _ _ _) (Evt.neg (by omega) ?_)
  rw [List.drop_eq_nil_of_le (by omega), List.drop_eq_nil_of_le (by omega)]
  exact Evt.ret
 | succ d ih =>
  intro i hi hd
  refine Evt.step (fun k => diwanref1_SameReads.l0.eq_2 _ _ _ _) (Evt.pos (by omega) (Evt.pos (by omega) (Evt.pos (by omega) ?_)))
  rw [rdR_nat, rdR_nat, wrap_succ i (by omega), drop_getD x z24 i (by omega), drop_getD y z24 i (by omega), not4]
  show Evt (fun k => if (!eqR (x.getD i z24) (y.getD i z24)) = true then some false else diwanref1_SameReads.l0 k x y ((i + 1 : Nat) : Int)) (eqR (x.getD i z24) (y.getD i z24) && _)
  cases eqR (x.getD i z24) (y.getD i z24) with
  | false => exact Evt.pos rfl Evt.ret
  | true => exact Evt.neg (by decide) (ih (i + 1) (by omega) (by omega))
theorem sameReads_f (x y : List Rd0) (hx : x.length < 9223372036854775807) : Evt (fun k => diwanref1_SameReads.f k x y) (sameL eqR x y) := by
 unfold diwanref1_SameReads.f
 by_cases hl : (x.length : Int) = (y.length : Int)
 ·have h := sameReads_l0 x y (by omega) hx x.length 0 (by omega) (by omega)
  rw [List.drop_zero, List.drop_zero] at h
  exact Evt.pos hl h
 ·rw [sameL_len x y (by omega)]
  exact Evt.neg hl Evt.ret
theorem equalR_l0 (x y : List Rd0) (hl : x.length = y.length) (hx : x.length < 9223372036854775807) (d : Nat) : ∀ i : Nat, i ≤ x.length → x.length - i = d →
  Evt (fun k => slices_Equal_Lapi_Read_api_Read.l0 k x y (x.length : Int) (i : Int)) (sameL eqR (x.drop i) (y.drop i)) := by
 induction d with
 | zero =>
  intro i hi hd
  refine Evt.step (fun k => slices_Equal_Lapi_Read_api_Read.l0.eq_2 _ _ _ _ _) (Evt.neg (by omega) ?_)
  rw [List.drop_eq_nil_of_le (by omega), List.drop_eq_nil_of_le (by omega)]
  exact Evt.ret
 | succ d ih =>
  intro i hi hd
  refine Evt.step (fun k => slices_Equal_Lapi_Read_api_Read.l0.eq_2 _ _ _ _ _) (Evt.pos (by omega) (Evt.pos (by omega) (Evt.pos (by omega) (Evt.pos (by omega) ?_))))
  rw [rdR_nat, rdR_nat, wrap_succ i (by omega), drop_getD x z24 i (by omega), drop_getD y z24 i (by omega), not4]
  show Evt (fun k => if (!eqR (x.getD i z24) (y.getD i z24)) = true then some false else slices_Equal_Lapi_Read_api_Read.l0 k x y (x.length : Int) ((i + 1 : Nat) : Int)) (eqR (x.getD i z24) (y.getD i z24) && _)
  cases eqR (x.getD i z24) (y.getD i z24) with
  | false => exact Evt.pos rfl Evt.ret
  | true => exact Evt.neg (by decide) (ih (i + 1) (by omega) (by omega))
theorem equalR_f (x y : List Rd0) (hx : x.length < 9223372036854775807) : Evt (fun k => slices_Equal_Lapi_Read_api_Read.f k x y) (sameL eqR x y) := by
 unfold slices_Equal_Lapi_Read_api_Read.f
 by_cases hl : (x.length : Int) = (y.length : Int)
 ·have h := equalR_l0 x y (by omega) hx x.length 0 (by omega) (by omega)
  rw [List.drop_zero, List.drop_zero] at h
  exact Evt.pos hl h
 ·rw [sameL_len x y (by omega)]
  exact Evt.neg hl Evt.ret
theorem equalW_l0 (x y : List Wr0) (hl : x.length = y.length) (hx : x.length < 9223372036854775807) (d : Nat) : ∀ i : Nat, i ≤ x.length → x.length - i = d →
  Evt (fun k => slices_Equal_Lapi_Write_api_Write.l0 k x y (x.length : Int) (i : Int)) (sameL eqW (x.drop i) (y.drop i)) := by
 induction d with
 | zero =>
  intro i hi hd
  refine Evt.step (fun k => slices_Equal_Lapi_Write_api_Write.l0.eq_2 _ _ _ _ _) (Evt.neg (by omega) ?_)
  rw [List.drop_eq_nil_of_le (by omega), List.drop_eq_nil_of_le (by omega)]
  exact Evt.ret
 | succ d ih =>
  intro i hi hd
  refine Evt.step (fun k => slices_Equal_Lapi_Write_api_Write.l0.eq_2 _ _ _ _ _) (Evt.pos (by omega) (Evt.pos (by omega) (Evt.pos (by omega) (Evt.pos (by omega) ?_))))
  rw [rdW_nat, rdW_nat, wrap_succ i (by omega), drop_getD x z27 i (by omega), drop_getD y z27 i (by omega), not3]
  show Evt (fun k => if (!eqW (x.getD i z27) (y.getD i z27)) = true then some false else slices_Equal_Lapi_Write_api_Write.l0 k x y (x.length : Int) ((i + 1 : Nat) : Int)) (eqW (x.getD i z27) (y.getD i z27) && _)
  cases eqW (x.getD i z27) (y.getD i z27) with
  | false => exact Evt.pos rfl Evt.ret
  | true => exact Evt.neg (by decide) (ih (i + 1) (by omega) (by omega))
theorem equalW_f (x y : List Wr0) (hx : x.length < 9223372036854775807) : Evt (fun k => slices_Equal_Lapi_Write_api_Write.f k x y) (sameL eqW x y) := by
 unfold slices_Equal_Lapi_Write_api_Write.f
 by_cases hl : (x.length : Int) = (y.length : Int)
 ·have h := equalW_l0 x y (by omega) hx x.length 0 (by omega) (by omega)
  rw [List.drop_zero, List.drop_zero] at h
  exact Evt.pos hl h
 ·rw [sameL_len x y (by omega)]
  exact Evt.neg hl Evt.ret
/-- Are two transactions the same? -/
def sameT (a b : Int) (rs : List Rd0) (ws : List Wr0) (a' b' : Int) (rs' : List Rd0) (ws' : List Wr0) : Bool := (a == a') && ((b == b') && (sameL eqR rs rs' && sameL eqW ws ws'))
theorem sameT_iff (a b : Int) (rs : List Rd0) (ws : List Wr0) (a' b' : Int) (rs' : List Rd0) (ws' : List Wr0) : sameT a b rs ws a' b' rs' ws' = true ↔ a = a' ∧ b = b' ∧ rs = rs' ∧ ws = ws' := by
 simp only [sameT, Bool.and_eq_true, beq_iff_eq, sameL_iff eqR_iff, sameL_iff eqW_iff]
theorem txn_Same_f (a b : Int) (rs : List Rd0) (ws : List Wr0) (a' b' : Int) (rs' : List Rd0) (ws' : List Wr0) (hr : rs.length < 9223372036854775807) (hw : ws.length < 9223372036854775807) :
  Evt (fun k => txn_Same.f k a b rs ws a' b' rs' ws') (sameT a b rs ws a' b' rs' ws') := by
 unfold txn_Same.f sameT
 by_cases h1 : a = a'
 case neg => rw [beq_eq_false_iff_ne.2 h1, Bool.false_and]; exact Evt.neg h1 Evt.ret
 refine Evt.pos h1 ?_
 rw [beq_iff_eq.2 h1, Bool.true_and]
 by_cases h2 : b = b'
 case neg => rw [beq_eq_false_iff_ne.2 h2, Bool.false_and]; exact Evt.neg h2 Evt.ret
 refine Evt.pos h2 ?_
 rw [beq_iff_eq.2 h2, Bool.true_and]
 refine Evt.bind (equalR_f rs rs' hr) ?_
 cases sameL eqR rs rs' with
 | false => exact Evt.neg (by decide) Evt.ret
 | true => exact Evt.pos rfl (Evt.bind (equalW_f ws ws' hw) Evt.ret)
theorem SameTxn_l0 (a b a' b' : Int) (rs rs' : List Rd0) (x y : List Wr0) (hl : x.length = y.length) (hx : x.length < 9223372036854775807) (d : Nat) : ∀ i : Nat, i ≤ x.length → x.length - i = d →
  Evt (fun k => diwanref1_SameTxn.l0 k (i : Int) a b rs x a' b' rs' y) (sameL eqW (x.drop i) (y.drop i)) := by
 induction d with
 | zero =>
  intro i hi hd
  refine Evt.step (fun k => diwanref1_SameTxn.l0.eq_2 _ _ _ _ _ _ _ _ _ _) (Evt.neg (by omega) ?_)
  rw [List.drop_eq_nil_of_le (by omega), List.drop_eq_nil_of_le (by omega)]
  exact Evt.ret
 | succ d ih =>
  intro i hi hd
  refine Evt.step (fun k => diwanref1_SameTxn.l0.eq_2 _ _ _ _ _ _ _ _ _ _) (Evt.pos (by omega) (Evt.pos (by omega) (Evt.pos (by omega) ?_)))
  rw [rdW_nat, rdW_nat, wrap_succ i (by omega), drop_getD x z27 i (by omega), drop_getD y z27 i (by omega), not3]
  show Evt (fun k => if (!eqW (x.getD i z27) (y.getD i z27)) = true then some false else diwanref1_SameTxn.l0 k ((i + 1 : Nat) : Int) a b rs x a' b' rs' y) (eqW (x.getD i z27) (y.getD i z27) && _)
  cases eqW (x.getD i z27) (y.getD i z27) with
  | false => exact Evt.pos rfl Evt.ret
  | true => exact Evt.neg (by decide) (ih (i + 1) (by omega) (by omega))
theorem SameTxn_j0_true (a b a' b' : Int) (rs rs' : List Rd0) (x y : List Wr0) : Evt (fun k => diwanref1_SameTxn.j0 k true a b rs x a' b' rs' y) false :=
 Evt.step (fun k => diwanref1_SameTxn.j0.eq_2 _ _ _ _ _ _ _ _ _ _) (Evt.pos rfl Evt.ret)
theorem SameTxn_f (a b : Int) (rs : List Rd0) (ws : List Wr0) (a' b' : Int) (rs' : List Rd0) (ws' : List Wr0) (hr : rs.length < 9223372036854775807) (hw : ws.length < 9223372036854775807) :
  Evt (fun k => diwanref1_SameTxn.f k a b rs ws a' b' rs' ws') (sameT a b rs ws a' b' rs' ws') := by
 unfold diwanref1_SameTxn.f sameT
 by_cases h1 : a = a'
 case neg => rw [beq_eq_false_iff_ne.2 h1, Bool.false_and]; exact Evt.neg h1 (SameTxn_j0_true _ _ _ _ _ _ _ _)
 refine Evt.pos h1 ?_
 rw [beq_iff_eq.2 h1, Bool.true_and]
 by_cases h2 : b = b'
 case neg => rw [beq_eq_false_iff_ne.2 h2, Bool.false_and]; exact Evt.neg h2 (SameTxn_j0_true _ _ _ _ _ _ _ _)
 refine Evt.pos h2 ?_
 rw [beq_iff_eq.2 h2, Bool.true_and]
 by_cases h3 : (ws.length : Int) = (ws'.length : Int)
 case neg => rw [sameL_len ws ws' (by omega), Bool.and_false]; exact Evt.neg h3 (SameTxn_j0_true _ _ _ _ _ _ _ _)
 refine Evt.pos h3 (Evt.bind (sameReads_f rs rs' hr) ?_)
 cases sameL eqR rs rs' with
 | false => exact SameTxn_j0_true _ _ _ _ _ _ _ _
 | true =>
  refine Evt.step (fun k => diwanref1_SameTxn.j0.eq_2 _ _ _ _ _ _ _ _ _ _) (Evt.neg (by decide) ?_)
  have h := SameTxn_l0 a b a' b' rs rs' ws ws' (by omega) hw ws.length 0 (by omega) (by omega)
  rw [List.drop_zero, List.drop_zero] at h
  rw [Bool.true_and]
  exact h
/-- A number's bytes. -/
def encN (v : Nat) : List Int := if v < 128 then [(v : Int)] else ((v % 128 + 128 : Nat) : Int) :: encN (v / 128)
termination_by v
decreasing_by omega
theorem digit (x : Fin 256) : Go.bits .or .u8 ((x.val : Nat) : Int) 128 = ((x.val % 128 + 128 : Nat) : Int) := by
 revert x
 decide +kernel
theorem digit_of (v : Nat) : Go.bits .or .u8 ((v : Int) % 256) 128 = ((v % 128 + 128 : Nat) : Int) := by
 have h := digit ⟨v % 256, Nat.mod_lt _ (by decide)⟩
 simp only [] at h
 rw [show ((v % 256 : Nat) : Int) = (v : Int) % 256 from by omega] at h
 rw [h]
 congr 2
 omega
theorem encN_len : ∀ (n v : Nat), v < 128 ^ (n + 1) → (encN v).length ≤ n + 1
 | 0, v, h => by rw [encN, if_pos (by simpa using h)]; simp
 | n + 1, v, h => by
  rw [encN]
  split
  ·simp
  ·rw [List.length_cons]
   have := encN_len n (v / 128) (by rw [Nat.pow_succ] at h; omega)
   omega
theorem encN_len9 (v : Nat) (h : v < 9223372036854775808) : (encN v).length ≤ 9 := encN_len 8 v (by omega)
theorem num_Put_l0 (n : Nat) : ∀ (v : Nat) (acc : List Int), v < 128 ^ (n + 1) → acc.length + n + 1 < 140737488355328 → Evt (fun k => num_Put.l0 k (v : Int) acc) (acc ++ encN v) := by
 induction n with
 | zero =>
  intro v acc h hb
  have h' : v < 128 := by simpa using h
  refine Evt.step (fun k => num_Put.l0.eq_2 _ _ _) (Evt.neg (by omega) (Evt.pos (by omega) ?_))
  rw [encN, if_pos h', show (v : Int) % 256 = (v : Int) by omega]
  exact Evt.ret
 | succ n ih =>
  intro v acc h hb
  rw [encN]
  by_cases h' : v < 128
  ·refine Evt.step (fun k => num_Put.l0.eq_2 _ _ _) (Evt.neg (by omega) (Evt.pos (by omega) ?_))
   rw [if_pos h', show (v : Int) % 256 = (v : Int) by omega]
   exact Evt.ret
  ·refine Evt.step (fun k => num_Put.l0.eq_2 _ _ _) (Evt.pos (by omega) (Evt.pos (by omega) ?_))
   rw [if_neg h', digit_of, show (v : Int) / 128 = ((v / 128 : Nat) : Int) by omega]
   exact (ih (v / 128) (acc ++ [((v % 128 + 128 : Nat) : Int)]) (by rw [Nat.pow_succ] at h; omega) (by rw [List.length_append, List.length_singleton]; omega)).eq (by simp)
theorem num_Put_f (v : Int) (h0 : 0 ≤ v) (h1 : v < 9223372036854775808) : Evt (fun k => num_Put.f k v) (encN v.toNat) := by
 unfold num_Put.f
 refine Evt.neg (by omega) ?_
 have h := num_Put_l0 8 v.toNat [] (by omega) (by simp)
 rw [show ((v.toNat : Nat) : Int) = v by omega, List.nil_append] at h
 exact h
/-- A text's bytes. -/
def encT (s : ByteArray) : List Int := encN s.size ++ bytesOf s
theorem num_PutText_f (s : ByteArray) (h : s.size ≤ 255) : Evt (fun k => num_PutText.f k s) (encT s) := by
 unfold num_PutText.f
 refine Evt.neg (by omega) (Evt.bind (num_Put_f _ (by omega) (by omega)) ?_)
 have hl := encN_len9 ((s.size : Int).toNat) (by omega)
 refine Evt.pos (by omega) ?_
 rw [Int.toNat_natCast]
 exact Evt.ret
/-- The sum of the lengths. -/
def lens (l : List (List Int)) : Nat := (l.map (·.length)).foldr (· + ·) 0
theorem lens_cons (x : List Int) (l : List (List Int)) : lens (x :: l) = x.length + lens l := rfl
theorem concat_l1 (xs : List (List Int)) (hx : xs.length < 9223372036854775807) (d : Nat) : ∀ (i : Nat) (acc : List Int), i ≤ xs.length → xs.length - i = d → acc.length + lens (xs.drop i) < 140737488355328 →
  Evt (fun k => slices_Concat_Lbyte_byte.l1 k acc xs (xs.length : Int) (i : Int)) (acc ++ (xs.drop i).flatten) := by
 induction d with
 | zero =>
  intro i acc hi hd hb
  refine Evt.step (fun k => slices_Concat_Lbyte_byte.l1.eq_2 _ _ _ _ _) (Evt.neg (by omega) ?_)
  rw [List.drop_eq_nil_of_le (by omega), List.flatten_nil, List.append_nil]
  exact Evt.ret
 | succ d ih =>
  intro i acc hi hd hb
  rw [drop_getD xs [] i (by omega), lens_cons] at hb
  refine Evt.step (fun k => slices_Concat_Lbyte_byte.l1.eq_2 _ _ _ _ _) (Evt.pos (by omega) (Evt.pos (by omega) (Evt.pos (by omega) ?_)))
  rw [show rd_L7 xs (i : Int) = xs.getD i [] by unfold rd_L7; rw [Int.toNat_natCast], wrap_succ i (by omega), drop_getD xs [] i (by omega), List.flatten_cons, ← List.append_assoc]
  exact Evt.pos (by omega) (ih (i + 1) _ (by omega) (by omega) (by rw [List.length_append]; omega))
theorem concat_l0 (xs : List (List Int)) (hx : xs.length < 9223372036854775807) (hb : lens xs < 140737488355328) (d : Nat) : ∀ (i n : Nat), i ≤ xs.length → xs.length - i = d → n + lens (xs.drop i) = lens xs →
  Evt (fun k => slices_Concat_Lbyte_byte.l0 k xs (n : Int) xs (xs.length : Int) (i : Int)) xs.flatten := by
 induction d with
 | zero =>
  intro i n hi hd hn
  refine Evt.step (fun k => slices_Concat_Lbyte_byte.l0.eq_2 _ _ _ _ _ _) (Evt.neg (by omega) ?_)
  refine Evt.bind (Evt.const (r := []) ?_) ?_
  ·unfold slices_Grow_Lbyte_byte_nil.f
   rw [if_pos (by omega), if_pos (by omega)]
  ·have h := concat_l1 xs hx xs.length 0 [] (by omega) (by omega) (by rw [List.drop_zero, List.length_nil]; omega)
   rw [List.drop_zero, List.nil_append] at h
   exact h
 | succ d ih =>
  intro i n hi hd hn
  rw [drop_getD xs [] i (by omega), lens_cons] at hn
  refine Evt.step (fun k => slices_Concat_Lbyte_byte.l0.eq_2 _ _ _ _ _ _) (Evt.pos (by omega) (Evt.pos (by omega) (Evt.pos (by omega) ?_)))
  rw [show rd_L7 xs (i : Int) = xs.getD i [] by unfold rd_L7; rw [Int.toNat_natCast], wrap_succ i (by omega), wrap_of ((n : Int) + ((xs.getD i []).length : Int)) (by omega) (by omega)]
  exact Evt.neg (by omega) (ih (i + 1) (n + (xs.getD i []).length) (by omega) (by omega) (by omega))
theorem concat_f (xs : List (List Int)) (hx : xs.length < 9223372036854775807) (hb : lens xs < 140737488355328) : Evt (fun k => slices_Concat_Lbyte_byte.f k xs) xs.flatten :=
 concat_l0 xs hx hb xs.length 0 0 (by omega) (by omega) (by rw [List.drop_zero]; omega)
/-- Yes or no in one byte. -/
def encB (b : Bool) : List Int := [if b then 1 else 0]
theorem txn_flag_f (b : Bool) : txn_flag.f b = some (if b then 1 else 0) := by cases b <;> rfl
def encR (r : Rd0) : List Int := encT r.f0 ++ (encN r.f1.toNat ++ (encT r.f2 ++ encB r.f3))
def encW (w : Wr0) : List Int := encT w.f0 ++ (encT w.f1 ++ encB w.f2)
/-- A transaction's bytes. -/
def encX (a b : Int) (rs : List Rd0) (ws : List Wr0) : List Int := encN a.toNat ++ (encN b.toNat ++ (encN rs.length ++ ((rs.map encR).flatten ++ (encN ws.length ++ (ws.map encW).flatten))))
theorem encT_len (s : ByteArray) (h : s.size ≤ 255) : (encT s).length ≤ 264 := by
 have := encN_len9 s.size (by omega)
 rw [encT, List.length_append, bytesOf_length]
 omega
theorem Put_l1 (ws : List Wr0) (hw : ws.length ≤ 1000000) (hs : ∀ w ∈ ws, w.f0.size ≤ 255 ∧ w.f1.size ≤ 255) (d : Nat) : ∀ (i : Nat) (acc : List Int), i ≤ ws.length → ws.length - i = d → acc.length + d * 1000 < 100000000000000 →
  Evt (fun k => txn_Put.l1 k acc ws (ws.length : Int) (i : Int)) (acc ++ ((ws.drop i).map encW).flatten) := by
 induction d with
 | zero =>
  intro i acc hi hd hb
  refine Evt.step (fun k => txn_Put.l1.eq_2 _ _ _ _ _) (Evt.neg (by omega) ?_)
  rw [List.drop_eq_nil_of_le (by omega), List.map_nil, List.flatten_nil, List.append_nil]
  exact Evt.ret
 | succ d ih =>
  intro i acc hi hd hb
  have hlt : i < ws.length := by omega
  obtain ⟨h0, h1⟩ := hs _ (getD_mem ws z27 i hlt)
  refine Evt.step (fun k => txn_Put.l1.eq_2 _ _ _ _ _) (Evt.pos (by omega) (Evt.pos (by omega) (Evt.pos (by omega) ?_)))
  rw [rdW_nat, wrap_succ i (by omega), drop_getD ws z27 i hlt, List.map_cons, List.flatten_cons]
  generalize ws.getD i z27 = z at h0 h1 ⊢
  have l0 := encT_len _ h0
  have l1 := encT_len _ h1
  refine Evt.bind (num_PutText_f _ h0) (Evt.bind (num_PutText_f _ h1) (Evt.bind (concat_f _ (by simp) (by simp [lens]; omega)) (Evt.bind (Evt.const (txn_flag_f _)) (Evt.pos ?_ ?_))))
  ·simp
   omega
  ·exact (ih (i + 1) ([acc, encT z.f0, encT z.f1].flatten ++ [if z.f2 = true then 1 else 0]) (by omega) (by omega) (by simp; omega)).eq (by simp [encW, encB])
theorem Put_l0 (a b : Int) (rs : List Rd0) (ws : List Wr0) (hr : rs.length ≤ 1000000) (hw : ws.length ≤ 1000000) (hrs : ∀ r ∈ rs, r.f0.size ≤ 255 ∧ r.f2.size ≤ 255 ∧ 0 ≤ r.f1 ∧ r.f1 < 9223372036854775808) (hs : ∀ w ∈ ws, w.f0.size ≤ 255 ∧ w.f1.size ≤ 255) (d : Nat) : ∀ (i : Nat) (acc : List Int), i ≤ rs.length → rs.length - i = d → acc.length + d * 1000 < 10000000000000 →
  Evt (fun k => txn_Put.l0 k acc rs (rs.length : Int) (i : Int) a b rs ws) (acc ++ (((rs.drop i).map encR).flatten ++ (encN ws.length ++ (ws.map encW).flatten))) := by
 induction d with
 | zero =>
  intro i acc hi hd hb
  rw [Nat.zero_mul, Nat.add_zero] at hb
  refine Evt.step (fun k => txn_Put.l0.eq_2 _ _ _ _ _ _ _ _ _) (Evt.neg (by omega) (Evt.bind (num_Put_f _ (by omega) (by omega)) ?_))
  have hl := encN_len9 ws.length (by omega)
  have hq : acc.length + (encN ws.length).length < 140737488355328 := by omega
  rw [Int.toNat_natCast]
  have h := Put_l1 ws hw hs ws.length 0 (acc ++ encN ws.length) (by omega) (by omega) (by rw [List.length_append]; omega)
  rw [List.drop_zero] at h
  rw [List.drop_eq_nil_of_le (by omega), List.map_nil, List.flatten_nil, List.nil_append]
  exact Evt.pos hq (h.eq (by rw [List.append_assoc]))
 | succ d ih =>
  intro i acc hi hd hb
  have hlt : i < rs.length := by omega
  obtain ⟨h0, h1, h2, h3⟩ := hrs _ (getD_mem rs z24 i hlt)
  refine Evt.step (fun k => txn_Put.l0.eq_2 _ _ _ _ _ _ _ _ _) (Evt.pos (by omega) (Evt.pos (by omega) (Evt.pos (by omega) ?_)))
  rw [rdR_nat, wrap_succ i (by omega), drop_getD rs z24 i hlt, List.map_cons, List.flatten_cons]
  generalize rs.getD i z24 = z at h0 h1 h2 h3 ⊢
  have l0 := encT_len _ h0
  have l1 := encT_len _ h1
  have l2 := encN_len9 z.f1.toNat (by omega)
  refine Evt.bind (num_PutText_f _ h0) (Evt.bind (num_Put_f _ h2 h3) (Evt.bind (num_PutText_f _ h1) (Evt.bind (concat_f _ (by simp) (by simp [lens]; omega)) (Evt.bind (Evt.const (txn_flag_f _)) (Evt.pos ?_ ?_)))))
  ·simp
   omega
  ·exact (ih (i + 1) ([acc, encT z.f0, encN z.f1.toNat, encT z.f2].flatten ++ [if z.f3 = true then 1 else 0]) (by omega) (by omega) (by simp; omega)).eq (by simp [encR, encB])
/-- What a transaction that may be has. -/
theorem may_sizes {a b : Int} {rs : List Rd0} {ws : List Wr0} (h : mayTxn a b rs ws = true) :
  (1 ≤ a ∧ a ≤ 9) ∧ (1 ≤ b ∧ b ≤ 1000) ∧ rs.length ≤ 6 ∧ ws.length ≤ 4 ∧ (∀ r ∈ rs, r.f0.size ≤ 8 ∧ r.f2.size ≤ 16 ∧ 0 ≤ r.f1) ∧ (∀ w ∈ ws, w.f0.size ≤ 8 ∧ w.f1.size ≤ 16) := by
 simp only [mayTxn, rising, Bool.and_eq_true, decide_eq_true_eq] at h
 obtain ⟨h1, h2, h3, ⟨h4, _⟩, h5, ⟨h6, _⟩, h7, h8⟩ := h
 rw [List.all_eq_true] at h4 h6 h7 h8
 refine ⟨h1, h2, h3, h5, fun r hr => ?_, fun w hw => ?_⟩
 ·have k1 := h4 _ (List.mem_map_of_mem hr)
  have k2 := h7 r hr
  simp only [mayKey, okRead, Bool.and_eq_true, decide_eq_true_eq] at k1 k2
  exact ⟨k1.2.2, k2.2.2, k2.2.1⟩
 ·have k1 := h6 _ (List.mem_map_of_mem hw)
  have k2 := h8 w hw
  simp only [mayKey, okWrite, Bool.and_eq_true, decide_eq_true_eq] at k1 k2
  exact ⟨k1.2.2, k2.1⟩
theorem txn_Put_f (a b : Int) (rs : List Rd0) (ws : List Wr0) (hm : mayTxn a b rs ws = true) (hv : ∀ r ∈ rs, r.f1 < 9223372036854775808) : Evt (fun k => txn_Put.f k a b rs ws) (encX a b rs ws) := by
 obtain ⟨ha, hb, hr, hw, hrs, hws⟩ := may_sizes hm
 unfold txn_Put.f
 have hM := txn_May_f a b rs ws (by omega) (by omega) (fun r h => by have := (hrs r h).1; omega) (fun w h => by have := (hws w h).1; omega)
 rw [hm] at hM
 have l0 := encN_len9 a.toNat (by omega)
 have l1 := encN_len9 b.toNat (by omega)
 have l2 := encN_len9 rs.length (by omega)
 refine Evt.bind hM (Evt.pos rfl (Evt.bind (num_Put_f a (by omega) (by omega)) (Evt.bind (num_Put_f b (by omega) (by omega)) (Evt.bind (num_Put_f _ (by omega) (by omega)) (Evt.bind (concat_f _ (by simp) (by simp [lens]; omega)) ?_)))))
 rw [Int.toNat_natCast]
 have h := Put_l0 a b rs ws (by omega) (by omega) (fun r h => ⟨by have := (hrs r h).1; omega, by have := (hrs r h).2.1; omega, (hrs r h).2.2, hv r h⟩) (fun w h => ⟨by have := (hws w h).1; omega, by have := (hws w h).2; omega⟩) rs.length 0 [encN a.toNat, encN b.toNat, encN rs.length].flatten (by omega) (by omega) (by simp; omega)
 rw [List.drop_zero] at h
 exact h.eq (by simp [encX])
/-- What is told of bytes, then others: it comes back. -/
def PD {α : Type} (e : α → List Int) (D : α → Prop) : Prop := ∀ a b x y, D a → D b → e a ++ x = e b ++ y → a = b ∧ x = y
theorem encN_PD : PD encN (fun _ => True) := by
 intro a
 induction a using Nat.strongRecOn with
 | _ a ih =>
  intro b x y _ _ h
  rw [encN.eq_1 a, encN.eq_1 b] at h
  split at h <;> split at h
  ·simp only [List.singleton_append, List.cons.injEq] at h
   exact ⟨by omega, h.2⟩
  ·simp only [List.singleton_append, List.cons_append, List.cons.injEq] at h
   omega
  ·simp only [List.singleton_append, List.cons_append, List.cons.injEq] at h
   omega
  ·simp only [List.cons_append, List.cons.injEq] at h
   obtain ⟨h1, h2⟩ := ih (a / 128) (by omega) (b / 128) x y trivial trivial h.2
   exact ⟨by omega, h2⟩
theorem bytesOf_inj {a b : ByteArray} (h : bytesOf a = bytesOf b) : a = b := by
 apply bytes_eq
 rw [ByteArray.toList_eq, ByteArray.toList_eq]
 unfold bytesOf at h
 exact List.map_inj_right (fun x y hxy => by
  have : x.toNat = y.toNat := by omega
  exact UInt8.toNat_inj.1 this) |>.1 h
theorem encT_PD : PD encT (fun _ => True) := by
 intro a b x y _ _ h
 unfold encT at h
 rw [List.append_assoc, List.append_assoc] at h
 obtain ⟨h1, h2⟩ := encN_PD _ _ _ _ trivial trivial h
 obtain ⟨h3, h4⟩ := List.append_inj h2 (by rw [bytesOf_length, bytesOf_length, h1])
 exact ⟨bytesOf_inj h3, h4⟩
theorem encB_PD : PD encB (fun _ => True) := by
 intro a b x y _ _ h
 cases a <;> cases b <;> simp_all [encB]
theorem encR_PD : PD encR (fun r => 0 ≤ r.f1) := by
 intro a b x y ha hb h
 unfold encR at h
 simp only [List.append_assoc] at h
 obtain ⟨h1, h⟩ := encT_PD _ _ _ _ trivial trivial h
 obtain ⟨h2, h⟩ := encN_PD _ _ _ _ trivial trivial h
 obtain ⟨h3, h⟩ := encT_PD _ _ _ _ trivial trivial h
 obtain ⟨h4, h⟩ := encB_PD _ _ _ _ trivial trivial h
 refine ⟨?_, h⟩
 obtain ⟨a0, a1, a2, a3⟩ := a
 obtain ⟨b0, b1, b2, b3⟩ := b
 simp only at h1 h2 h3 h4 ha hb
 have : a1 = b1 := by omega
 rw [h1, this, h3, h4]
theorem encW_PD : PD encW (fun _ => True) := by
 intro a b x y ha hb h
 unfold encW at h
 simp only [List.append_assoc] at h
 obtain ⟨h1, h⟩ := encT_PD _ _ _ _ trivial trivial h
 obtain ⟨h3, h⟩ := encT_PD _ _ _ _ trivial trivial h
 obtain ⟨h4, h⟩ := encB_PD _ _ _ _ trivial trivial h
 refine ⟨?_, h⟩
 obtain ⟨a0, a1, a2⟩ := a
 obtain ⟨b0, b1, b2⟩ := b
 simp only at h1 h3 h4
 rw [h1, h3, h4]
theorem list_PD {α : Type} {e : α → List Int} {D : α → Prop} (he : PD e D) : ∀ (l m : List α) (x y : List Int), l.length = m.length → (∀ a ∈ l, D a) → (∀ a ∈ m, D a) → (l.map e).flatten ++ x = (m.map e).flatten ++ y → l = m ∧ x = y
 | [], [], x, y, _, _, _, h => ⟨rfl, h⟩
 | [], b :: m, x, y, hl, _, _, _ => by simp at hl
 | a :: l, [], x, y, hl, _, _, _ => by simp at hl
 | a :: l, b :: m, x, y, hl, ha, hb, h => by
  simp only [List.map_cons, List.flatten_cons, List.append_assoc] at h
  obtain ⟨h1, h⟩ := he a b _ _ (ha a (by simp)) (hb b (by simp)) h
  obtain ⟨h2, h⟩ := list_PD he l m x y (by simpa using hl) (fun z hz => ha z (by simp [hz])) (fun z hz => hb z (by simp [hz])) h
  exact ⟨by rw [h1, h2], h⟩
theorem encX_PD {a b a' b' : Int} {rs rs' : List Rd0} {ws ws' : List Wr0} (x y : List Int) (ha : 0 ≤ a ∧ 0 ≤ b ∧ ∀ r ∈ rs, 0 ≤ r.f1) (hb : 0 ≤ a' ∧ 0 ≤ b' ∧ ∀ r ∈ rs', 0 ≤ r.f1)
  (h : encX a b rs ws ++ x = encX a' b' rs' ws' ++ y) : (a = a' ∧ b = b' ∧ rs = rs' ∧ ws = ws') ∧ x = y := by
 unfold encX at h
 simp only [List.append_assoc] at h
 obtain ⟨h1, h⟩ := encN_PD _ _ _ _ trivial trivial h
 obtain ⟨h2, h⟩ := encN_PD _ _ _ _ trivial trivial h
 obtain ⟨h3, h⟩ := encN_PD _ _ _ _ trivial trivial h
 obtain ⟨h4, h⟩ := list_PD encR_PD rs rs' _ _ h3 ha.2.2 hb.2.2 h
 obtain ⟨h5, h⟩ := encN_PD _ _ _ _ trivial trivial h
 obtain ⟨h6, h⟩ := list_PD encW_PD ws ws' _ _ h5 (fun _ _ => trivial) (fun _ _ => trivial) h
 exact ⟨⟨by omega, by omega, h4, h6⟩, h⟩
theorem encN_ne (v : Nat) : encN v ≠ [] := by
 rw [encN]
 split <;> simp
theorem encX_ne (a b : Int) (rs : List Rd0) (ws : List Wr0) : encX a b rs ws ≠ [] := by
 unfold encX
 intro h
 exact encN_ne _ (List.append_eq_nil_iff.1 h).1
/-- Picks, and how far they are. -/
def OkP (ps : List Int) (pos : Int) : Prop := (∀ x ∈ ps, 0 ≤ x ∧ x ≤ 255) ∧ 0 ≤ pos ∧ pos ≤ ps.length ∧ ps.length < 4611686018427387904
theorem Num_f {ps : List Int} {pos : Int} (h : OkP ps pos) (m : Int) (hm : 0 < m) (hm2 : m ≤ 1000000) : ∃ v pos', diwanplay_Picks_Num.f ps pos m = some (v, pos') ∧ 0 ≤ v ∧ v < m ∧ OkP ps pos' := by
 obtain ⟨hp, h0, h1, h2⟩ := h
 unfold diwanplay_Picks_Num.f
 by_cases hge : pos ≥ (ps.length : Int)
 ·rw [if_pos hge]
  exact ⟨0, pos, rfl, Int.le_refl _, hm, hp, h0, h1, h2⟩
 ·rw [if_neg hge]
  obtain ⟨i, rfl⟩ := Int.eq_ofNat_of_zero_le h0
  have e : wrap64 (wrap64 ((i : Int) + 1) - 1) = (i : Int) := by unfold wrap64; omega
  rw [e, if_pos (by omega), if_pos (by omega), if_neg (by omega), rd_nat, wrap_succ i (by omega)]
  have hx := hp _ (getD_mem ps 0 i (by omega))
  generalize ps.getD i 0 = x at hx ⊢
  rw [wrap_of x (by omega) (by omega), Int.tmod_eq_emod_of_nonneg hx.1]
  exact ⟨_, _, rfl, Int.emod_nonneg _ (by omega), Int.emod_lt_of_pos _ hm, hp, by omega, by omega, h2⟩
/-- The values that are chosen from. -/
def vals : List ByteArray := [⟨#[]⟩, ⟨#[118]⟩, ⟨#[119]⟩, ⟨#[120, 120]⟩, ⟨#[115, 105, 120, 116, 101, 101, 110, 45, 98, 121, 116, 101, 115, 45, 111, 107]⟩]
theorem empty_vals : (⟨#[]⟩ : ByteArray) ∈ vals := by simp [vals]
theorem vals_size : ∀ v ∈ vals, v.size ≤ 16 := by decide
theorem Val_f {ps : List Int} {pos : Int} (h : OkP ps pos) : ∃ v pos', diwanplay_Picks_Val.f ps pos = some (v, pos') ∧ v ∈ vals ∧ OkP ps pos' := by
 obtain ⟨v, pos', e, h0, h1, hp⟩ := Num_f h 5 (by decide) (by decide)
 unfold diwanplay_Picks_Val.f
 rw [Option.bind_some, e, Option.bind_some]
 obtain ⟨i, rfl⟩ := Int.eq_ofNat_of_zero_le h0
 have hi : i < 5 := by omega
 refine ⟨vals.getD i ByteArray.empty, pos', ?_, getD_mem _ _ _ hi, hp⟩
 show (if 0 ≤ (i : Int) then (if (i : Int) < ((5 : Nat) : Int) then some (rdOf ByteArray.empty vals (i : Int), pos') else none) else none) = _
 rw [if_pos (by omega), if_pos (by omega), rdOf_nat]
/-- The keys that are chosen from. -/
def six : List ByteArray := [⟨#[97]⟩, ⟨#[98]⟩, ⟨#[99]⟩, ⟨#[100]⟩, ⟨#[101, 101]⟩, ⟨#[102, 102]⟩]
theorem keys_six : diwanplay_keys.f = some six := rfl
theorem six_may : ∀ s ∈ six, mayKey s = true := by decide
theorem six_rises : six.Pairwise (fun a b => less a b = true) := by decide +kernel
theorem rises_of {l : List ByteArray} (h : l.Pairwise (fun a b => less a b = true)) : rises l = true := by
 induction l with
 | nil => rfl
 | cons x l ih =>
  cases l with
  | nil => rfl
  | cons y l =>
   rw [List.pairwise_cons] at h
   simp only [rises, Bool.and_eq_true]
   exact ⟨h.1 y (by simp), ih h.2⟩
theorem rising_sub {l : List ByteArray} (h : l.Sublist six) : rising l = true := by
 unfold rising
 rw [Bool.and_eq_true]
 exact ⟨List.all_eq_true.2 fun s hs => six_may s (h.subset hs), rises_of (six_rises.sublist h)⟩
theorem Keys_l0 (ps : List Int) (pos most : Int) (d : Nat) : ∀ (i : Nat) (out : List ByteArray) (bits : Int), i ≤ 6 → 6 - i = d → 0 ≤ bits → bits ≤ 1000000 → out.length ≤ i →
  ∃ s : List ByteArray, Evt (fun k => diwanplay_Picks_Keys.l0 k most out bits six (i : Int) ps pos) (out ++ s, pos) ∧ s.Sublist (six.drop i) ∧ ((out.length : Int) ≤ most → ((out ++ s).length : Int) ≤ most) := by
 induction d with
 | zero =>
  intro i out bits hi hd h0 hb ho
  have e : i = 6 := by omega
  subst e
  refine ⟨[], ?_, List.nil_sublist _, by simp⟩
  rw [List.append_nil]
  refine Evt.step (fun k => diwanplay_Picks_Keys.l0.eq_2 _ _ _ _ _ _ _ _) (Evt.neg (by decide) ?_)
  exact Evt.step (fun k => diwanplay_Picks_Keys.j1.eq_2 _ _ _ _ _ _ _ _ _) (Evt.neg (by decide) Evt.ret)
 | succ d ih =>
  intro i out bits hi hd h0 hb ho
  have hl : six.length = 6 := rfl
  by_cases hm : (out.length : Int) < most
  case neg =>
   refine ⟨[], ?_, List.nil_sublist _, by simp⟩
   rw [List.append_nil]
   refine Evt.step (fun k => diwanplay_Picks_Keys.l0.eq_2 _ _ _ _ _ _ _ _) (Evt.pos (by rw [hl]; omega) ?_)
   rw [decide_eq_false hm]
   exact Evt.step (fun k => diwanplay_Picks_Keys.j1.eq_2 _ _ _ _ _ _ _ _ _) (Evt.neg (by decide) Evt.ret)
  have hb2 : Int.tdiv bits 2 = bits / 2 := Int.tdiv_eq_ediv_of_nonneg h0
  have hget := drop_getD six ByteArray.empty i (by rw [hl]; omega)
  by_cases ht : Int.tmod bits 2 = 1
  ·obtain ⟨s, hs, hs2, hs3⟩ := ih (i + 1) (out ++ [six.getD i ByteArray.empty]) (bits / 2) (by omega) (by omega) (by omega) (by omega) (by rw [List.length_append, List.length_singleton]; omega)
   refine ⟨six.getD i ByteArray.empty :: s, ?_, by rw [hget]; exact hs2.cons_cons _, fun h => ?_⟩
   ·refine Evt.step (fun k => diwanplay_Picks_Keys.l0.eq_2 _ _ _ _ _ _ _ _) (Evt.pos (by rw [hl]; omega) ?_)
    rw [decide_eq_true hm]
    refine Evt.step (fun k => diwanplay_Picks_Keys.j1.eq_2 _ _ _ _ _ _ _ _ _) (Evt.pos rfl (Evt.pos ht (Evt.pos (by omega) (Evt.pos (by rw [hl]; omega) (Evt.pos (by omega) ?_)))))
    rw [hb2, wrap_of (bits / 2) (by omega) (by omega), wrap_succ i (by omega), rdOf_nat]
    exact hs.eq (by simp)
   ·have := hs3 (by rw [List.length_append, List.length_singleton]; omega)
    simpa using this
  ·obtain ⟨s, hs, hs2, hs3⟩ := ih (i + 1) out (bits / 2) (by omega) (by omega) (by omega) (by omega) (by omega)
   refine ⟨s, ?_, by rw [hget]; exact hs2.cons _, hs3⟩
   refine Evt.step (fun k => diwanplay_Picks_Keys.l0.eq_2 _ _ _ _ _ _ _ _) (Evt.pos (by rw [hl]; omega) ?_)
   rw [decide_eq_true hm]
   refine Evt.step (fun k => diwanplay_Picks_Keys.j1.eq_2 _ _ _ _ _ _ _ _ _) (Evt.pos rfl (Evt.neg ht ?_))
   rw [hb2, wrap_of (bits / 2) (by omega) (by omega), wrap_succ i (by omega)]
   exact hs
theorem Keys_f {ps : List Int} {pos : Int} (h : OkP ps pos) (most : Int) (hm : 0 ≤ most) : ∃ l pos', Evt (fun k => diwanplay_Picks_Keys.f k ps pos most) (l, pos') ∧ l.Sublist six ∧ (l.length : Int) ≤ most ∧ OkP ps pos' := by
 obtain ⟨v, pos', e, h0, h1, hp⟩ := Num_f h 64 (by decide) (by decide)
 obtain ⟨s, hs, hs2, hs3⟩ := Keys_l0 ps pos' most 6 0 [] v (by omega) (by omega) h0 (by omega) (by simp)
 refine ⟨s, pos', ?_, by simpa using hs2, by simpa using hs3 (by simpa using hm), hp⟩
 unfold diwanplay_Picks_Keys.f
 refine Evt.bind (Evt.const e) (Evt.bind (Evt.const keys_six) ?_)
 exact hs.eq (by simp)
/-- A read, a write as they are made. -/
def MadeR (most : Int) (r : Rd0) : Prop := okRead r = true ∧ r.f1 < mx most 1 ∧ r.f2 ∈ vals ∧ (r.f3 = false → r.f2 = ⟨#[]⟩)
def MadeW (w : Wr0) : Prop := okWrite w = true ∧ w.f1 ∈ vals
theorem mx_pos (a : Int) : 1 ≤ mx a 1 := by unfold mx; omega
theorem mx_le (a : Int) (h : a ≤ 1000000) : mx a 1 ≤ 1000000 := by unfold mx; omega
theorem txReads_f (ps : List Int) (most : Int) (hmost : most ≤ 1000000) : ∀ (l : List ByteArray) (pos : Int) (acc : List Rd0), OkP ps pos → acc.length + l.length < 1000000 →
  ∃ rs pos', txReads ps most l pos acc = some (acc ++ rs, pos') ∧ rs.map (·.f0) = l ∧ (∀ r ∈ rs, MadeR most r) ∧ OkP ps pos'
 | [], pos, acc, h, _ => ⟨[], pos, by simp [txReads], rfl, by simp, h⟩
 | x :: l, pos, acc, h, hl => by
  rw [List.length_cons] at hl
  obtain ⟨v, p1, e1, h0, h1, hp1⟩ := Num_f h (mx most 1) (by have := mx_pos most; omega) (mx_le _ hmost)
  have ht : ∃ s b p2, txThere ps p1 v = some (s, b, p2) ∧ OkP ps p2 ∧ s ∈ vals ∧ (b = true → 0 < v) ∧ (b = false → s = ⟨#[]⟩) := by
   unfold txThere
   by_cases hv : 0 < v
   ·rw [if_pos hv]
    obtain ⟨q, p2, e2, h2, h3, hp2⟩ := Num_f hp1 4 (by decide) (by decide)
    rw [e2, Option.bind_some]
    by_cases hq : 0 < q
    ·obtain ⟨s, p3, e3, hs, hp3⟩ := Val_f hp2
     exact ⟨s, true, p3, by show (if 0 < q then _ else _) = _; rw [if_pos hq, e3]; rfl, hp3, hs, fun _ => hv, by simp⟩
    ·exact ⟨⟨#[]⟩, false, p2, by show (if 0 < q then _ else _) = _; rw [if_neg hq], hp2, empty_vals, by simp, fun _ => rfl⟩
   ·rw [if_neg hv]
    exact ⟨⟨#[]⟩, false, p1, rfl, hp1, empty_vals, by simp, fun _ => rfl⟩
  obtain ⟨s, b, p2, e2, hp2, hs, hb, hb2⟩ := ht
  obtain ⟨rs, p3, e3, hk, hr, hp3⟩ := txReads_f ps most hmost l p2 (acc ++ [⟨x, v, s, b⟩]) hp2 (by rw [List.length_append, List.length_singleton]; omega)
  refine ⟨⟨x, v, s, b⟩ :: rs, p3, ?_, by rw [List.map_cons, hk], fun r hr' => ?_, hp3⟩
  ·simp only [txReads, e1, Option.bind_some, e2]
   rw [if_pos (by omega), e3]
   simp
  ·rcases List.mem_cons.1 hr' with rfl | hr'
   ·refine ⟨?_, h1, hs, hb2⟩
    have hz := vals_size s hs
    unfold okRead
    cases b with
    | true =>
     have := hb rfl
     simp [h0, hz]
     omega
    | false =>
     have := hb2 rfl
     subst this
     simp [h0]
     decide
   ·exact hr r hr'
theorem txWrites_f (ps : List Int) : ∀ (l : List ByteArray) (pos : Int) (acc : List Wr0), OkP ps pos → acc.length + l.length < 1000000 →
  ∃ ws pos', txWrites ps l pos acc = some (acc ++ ws, pos') ∧ ws.map (·.f0) = l ∧ (∀ w ∈ ws, MadeW w) ∧ OkP ps pos'
 | [], pos, acc, h, _ => ⟨[], pos, by simp [txWrites], rfl, by simp, h⟩
 | x :: l, pos, acc, h, hl => by
  rw [List.length_cons] at hl
  obtain ⟨v, p1, e1, hv, hp1⟩ := Val_f h
  obtain ⟨q, p2, e2, h0, h1, hp2⟩ := Num_f hp1 4 (by decide) (by decide)
  obtain ⟨ws, p3, e3, hk, hr, hp3⟩ := txWrites_f ps l p2 (acc ++ [if q = 0 then ⟨x, ⟨#[]⟩, true⟩ else ⟨x, v, false⟩]) hp2 (by rw [List.length_append, List.length_singleton]; omega)
  refine ⟨(if q = 0 then ⟨x, ⟨#[]⟩, true⟩ else ⟨x, v, false⟩) :: ws, p3, ?_, by rw [List.map_cons, hk]; split <;> rfl, fun r hr' => ?_, hp3⟩
  ·simp only [txWrites, e1, Option.bind_some, e2]
   rw [if_pos (by omega), e3]
   simp
  ·rcases List.mem_cons.1 hr' with rfl | hr'
   ·have hz := vals_size v hv
    split
    ·exact ⟨by unfold okWrite; simp [ByteArray.toList_eq]; decide, empty_vals⟩
    ·refine ⟨?_, hv⟩
     unfold okWrite
     simp [hz]
   ·exact hr r hr'
/-- A transaction as it is made. -/
structure MadeT (most a b : Int) (rs : List Rd0) (ws : List Wr0) : Prop where
 a : 1 ≤ a ∧ a ≤ 3
 b : 1 ≤ b ∧ b ≤ 6
 rk : (rs.map (·.f0)).Sublist six
 rl : rs.length ≤ 3
 wk : (ws.map (·.f0)).Sublist six
 wl : ws.length ≤ 3
 r : ∀ r ∈ rs, MadeR most r
 w : ∀ w ∈ ws, MadeW w
theorem Txn_f {ps : List Int} {pos : Int} (h : OkP ps pos) (most : Int) (hmost : most ≤ 1000000) : ∃ a b rs ws pos', Evt (fun k => diwanplay_Picks_Txn.f k ps pos most) (a, b, rs, ws, pos') ∧ MadeT most a b rs ws ∧ OkP ps pos' := by
 obtain ⟨a, p1, e1, a0, a1, hp1⟩ := Num_f h 3 (by decide) (by decide)
 obtain ⟨b, p2, e2, b0, b1, hp2⟩ := Num_f hp1 6 (by decide) (by decide)
 obtain ⟨l, p3, e3, l0, l1, hp3⟩ := Keys_f hp2 3 (by decide)
 obtain ⟨rs, p4, e4, r0, r1, hp4⟩ := txReads_f ps most hmost l p3 [] hp3 (by rw [List.length_nil]; omega)
 obtain ⟨m, p5, e5, m0, m1, hp5⟩ := Keys_f hp4 3 (by decide)
 obtain ⟨ws, p6, e6, w0, w1, hp6⟩ := txWrites_f ps m p5 [] hp5 (by rw [List.length_nil]; omega)
 refine ⟨1 + a, 1 + b, rs, ws, p6, ?_, ⟨by omega, by omega, by rw [r0]; exact l0, ?_, by rw [w0]; exact m0, ?_, r1, w1⟩, hp6⟩
 ·unfold diwanplay_Picks_Txn.f
  refine Evt.bind (Evt.const e1) (Evt.bind (Evt.const e2) (Evt.bind e3 (Evt.bind (Evt.const e4) (Evt.bind e5 (Evt.bind (Evt.const e6) (Evt.const ?_))))))
  dsimp only
  rw [wrap_of (1 + a) (by omega) (by omega), wrap_of (1 + b) (by omega) (by omega), List.nil_append, List.nil_append]
 ·have := congrArg List.length r0
  rw [List.length_map] at this
  omega
 ·have := congrArg List.length w0
  rw [List.length_map] at this
  omega
theorem MadeT.may {most a b : Int} {rs : List Rd0} {ws : List Wr0} (h : MadeT most a b rs ws) : mayTxn a b rs ws = true := by
 obtain ⟨ha, hb, rk, rl, wk, wl, hr, hw⟩ := h
 unfold mayTxn
 rw [decide_eq_true (show 1 ≤ a ∧ a ≤ 9 by omega), decide_eq_true (show 1 ≤ b ∧ b ≤ 1000 by omega), decide_eq_true (show rs.length ≤ 6 by omega), decide_eq_true (show ws.length ≤ 4 by omega), rising_sub rk, rising_sub wk,
  List.all_eq_true.2 (fun r h => (hr r h).1), List.all_eq_true.2 (fun w h => (hw w h).1)]
 rfl
theorem Made_f (l : List Int) : diwanplay_Made.f l = some (l, 0) := rfl
theorem OkP_made {l : List Int} (h : ∀ x ∈ l, (Lit.int .u8 x).wf = true) (hl : l.length < 4611686018427387904) : OkP l 0 := by
 refine ⟨fun x hx => ?_, by omega, by omega, hl⟩
 exact bounds_u8 (h x hx)
end Go.Proofs.Ytnlfhbohcgjcbaa.Q
namespace Go.Proofs.Ytnlfhbohcgjcbaa.Pure
open Go.RowKit Go.Proofs.Ytnlfhbohcgjcbaa.PA Go.Proofs.YtnlfhbohcgjcbaaW.PrintWords Go.Proofs.YtnlfhbohcgjcbaaW.PrintLast Go.Proofs.Ytnlfhbohcgjcbaa.Q
set_option linter.unusedVariables false
set_option maxRecDepth 100000 in
theorem begun5 : diwanlaw5_begun.f 40 = some true := by kernel_rfl
theorem begun5_evt : Evt (fun k => diwanlaw5_begun.f k) true := Evt.of_le diwanlaw5_begun.mono begun5
theorem str_inj {x y : List Int} (hx : ∀ a ∈ x, 0 ≤ a ∧ a ≤ 255) (hy : ∀ a ∈ y, 0 ≤ a ∧ a ≤ 255) : (strOfNums x).toList = (strOfNums y).toList ↔ x = y := by
 rw [ByteArray.toList_eq, ByteArray.toList_eq, strOfNums_data, strOfNums_data]
 constructor
 ·intro h
  induction x generalizing y with
  | nil => cases y with
   | nil => rfl
   | cons b y => simp at h
  | cons a x ih =>
   cases y with
   | nil => simp at h
   | cons b y =>
    simp only [List.map_cons, List.cons.injEq] at h
    have ha := hx a (by simp)
    have hb := hy b (by simp)
    have e : a = b := by
     have := congrArg UInt8.toNat h.1
     simp only [UInt8.toNat_ofNat'] at this
     omega
    rw [e, ih (fun z hz => hx z (by simp [hz])) (fun z hz => hy z (by simp [hz])) h.2]
 ·intro h
  rw [h]
theorem encN_bytes : ∀ (v : Nat), ∀ a ∈ encN v, 0 ≤ a ∧ a ≤ 255 := by
 intro v
 induction v using Nat.strongRecOn with
 | _ v ih =>
  intro a ha
  rw [encN.eq_1] at ha
  split at ha
  ·rcases List.mem_singleton.1 ha with rfl
   omega
  ·rcases List.mem_cons.1 ha with rfl | ha
   ·omega
   ·exact ih (v / 128) (by omega) a ha
theorem encT_bytes (s : ByteArray) : ∀ a ∈ encT s, 0 ≤ a ∧ a ≤ 255 := by
 intro a ha
 rcases List.mem_append.1 ha with ha | ha
 ·exact encN_bytes _ a ha
 ·unfold bytesOf at ha
  obtain ⟨b, _, rfl⟩ := List.mem_map.1 ha
  have := b.toNat_lt
  omega
theorem encB_bytes (b : Bool) : ∀ a ∈ encB b, 0 ≤ a ∧ a ≤ 255 := by
 intro a ha
 rcases List.mem_singleton.1 ha with rfl
 cases b <;> decide
theorem encX_bytes (a b : Int) (rs : List Rd0) (ws : List Wr0) : ∀ z ∈ encX a b rs ws, 0 ≤ z ∧ z ≤ 255 := by
 intro z hz
 unfold encX at hz
 simp only [List.mem_append, List.mem_flatten, List.mem_map] at hz
 rcases hz with h | h | h | ⟨l, ⟨r, _, rfl⟩, h⟩ | h | ⟨l, ⟨w, _, rfl⟩, h⟩
 ·exact encN_bytes _ z h
 ·exact encN_bytes _ z h
 ·exact encN_bytes _ z h
 ·unfold encR at h
  simp only [List.mem_append] at h
  rcases h with h | h | h | h
  ·exact encT_bytes _ z h
  ·exact encN_bytes _ z h
  ·exact encT_bytes _ z h
  ·exact encB_bytes _ z h
 ·exact encN_bytes _ z h
 ·unfold encW at h
  simp only [List.mem_append] at h
  rcases h with h | h | h
  ·exact encT_bytes _ z h
  ·exact encT_bytes _ z h
  ·exact encB_bytes _ z h
theorem beq_of_iff {x y : List UInt8} {b : Bool} (h : x = y ↔ b = true) : ((x == y) == b) = true := by
 cases b with
 | true => simp [h]
 | false => simp [show ¬ x = y from fun hp => by simpa using h.1 hp]
theorem TxnApart : diwanlaw5_TxnApart.Pure := by
 intro l0 l1 hm0 hr0 hw0 hm1 hr1 hw1
 refine Evt.out (g := fun k => diwanlaw5_TxnApart.f k l0 l1) ?_
 unfold diwanlaw5_TxnApart.f
 refine Evt.bind begun5_evt (Evt.pos rfl ?_)
 by_cases h0 : (l0.length : Int) > 30
 ·exact Evt.pos h0 (Evt.step (fun k => diwanlaw5_TxnApart.j0.eq_2 _ _ _ _) (Evt.pos rfl Evt.ret))
 refine Evt.neg h0 ?_
 by_cases h1 : (l1.length : Int) > 30
 ·rw [decide_eq_true h1]
  exact Evt.step (fun k => diwanlaw5_TxnApart.j0.eq_2 _ _ _ _) (Evt.pos rfl Evt.ret)
 rw [decide_eq_false h1]
 refine Evt.step (fun k => diwanlaw5_TxnApart.j0.eq_2 _ _ _ _) (Evt.neg (by decide) ?_)
 obtain ⟨a, b, rs, ws, p, e, h, _⟩ := Txn_f (OkP_made hw0 (by omega)) 4 (by decide)
 obtain ⟨a', b', rs', ws', p', e', h', _⟩ := Txn_f (OkP_made hw1 (by omega)) 4 (by decide)
 refine Evt.bind (Evt.const (Made_f l0)) (Evt.bind e (Evt.bind (Evt.const (Made_f l1)) (Evt.bind e' ?_)))
 clear e e' hm0 hr0 hw0 hm1 hr1 hw1 h0 h1
 dsimp only
 have hm := h.may
 have hm' := h'.may
 have hf : ∀ r ∈ rs, 0 ≤ r.f1 ∧ r.f1 < 9223372036854775808 := fun r hr => by
  have h1 := (h.r r hr).1
  have h2 := (h.r r hr).2.1
  simp only [okRead, Bool.and_eq_true, decide_eq_true_eq] at h1
  exact ⟨h1.2.1, by unfold mx at h2; omega⟩
 have hf' : ∀ r ∈ rs', 0 ≤ r.f1 ∧ r.f1 < 9223372036854775808 := fun r hr => by
  have h1 := (h'.r r hr).1
  have h2 := (h'.r r hr).2.1
  simp only [okRead, Bool.and_eq_true, decide_eq_true_eq] at h1
  exact ⟨h1.2.1, by unfold mx at h2; omega⟩
 have ha := h.a
 have hb := h.b
 have ha' := h'.a
 have hb' := h'.b
 have hrl := h.rl
 have hwl := h.wl
 refine Evt.bind (txn_Put_f _ _ _ _ hm (fun r hr => (hf r hr).2)) (Evt.bind (txn_Put_f _ _ _ _ hm' (fun r hr => (hf' r hr).2)) (Evt.bind (SameTxn_f _ _ _ _ _ _ _ _ (by omega) (by omega)) ?_))
 have hS : Evt (fun k => txn_Same.f k a b rs ws a' b' rs' ws') (sameT a b rs ws a' b' rs' ws') := txn_Same_f _ _ _ _ _ _ _ _ (by omega) (by omega)
 have hiff := sameT_iff a b rs ws a' b' rs' ws'
 have hne := encX_ne a b rs ws
 have hne' := encX_ne a' b' rs' ws'
 have hPD : ∀ x y, encX a b rs ws ++ x = encX a' b' rs' ws' ++ y → (a = a' ∧ b = b' ∧ rs = rs' ∧ ws = ws') ∧ x = y := fun x y e =>
  encX_PD x y ⟨by omega, by omega, fun r hr => (hf r hr).1⟩ ⟨by omega, by omega, fun r hr => (hf' r hr).1⟩ e
 have hB := encX_bytes a b rs ws
 have hB' := encX_bytes a' b' rs' ws'
 have heq : (a = a' ∧ b = b' ∧ rs = rs' ∧ ws = ws') → encX a b rs ws = encX a' b' rs' ws' := by
  rintro ⟨rfl, rfl, rfl, rfl⟩
  rfl
 generalize encX a b rs ws = X at *
 generalize encX a' b' rs' ws' = Y at *
 generalize sameT a b rs ws a' b' rs' ws' = S at *
 have hx : X.length ≠ 0 := fun e => hne (List.length_eq_zero_iff.1 e)
 have hy : Y.length ≠ 0 := fun e => hne' (List.length_eq_zero_iff.1 e)
 have hXY : X = Y ↔ S = true := by
  rw [hiff]
  constructor
  ·intro e
   exact (hPD [] [] (by rw [e])).1
  ·exact heq
 refine Evt.neg (by omega) (Evt.neg (by omega) ?_)
 have hlast : (((strOfNums X).toList == (strOfNums Y).toList) == S) = true := by
  have := beq_of_iff ((str_inj hB hB').trans hXY)
  exact this
 by_cases hle : (X.length : Int) ≤ (Y.length : Int)
 ·refine Evt.pos hle ?_
  have hmn : mn (X.length : Int) (Y.length : Int) = (X.length : Int) := by unfold mn; omega
  rw [hmn]
  refine Evt.pos (by omega) (Evt.pos hle (Evt.bind hS (Evt.pos (by simp) (Evt.pos ?_ (Evt.const (by rw [hlast]))))))
  rw [Int.toNat_natCast]
  refine beq_of_iff ((str_inj (fun z hz => hB' z (List.mem_of_mem_take hz)) hB).trans ?_)
  rw [hiff]
  constructor
  ·intro e
   refine (hPD (Y.drop X.length) [] ?_).1
   rw [List.append_nil]
   conv => lhs; lhs; rw [← e]
   exact List.take_append_drop _ _
  ·intro e
   rw [heq e, List.take_length]
 ·refine Evt.neg hle (Evt.bind hS (Evt.pos (by simp) (Evt.pos ?_ (Evt.const (by rw [hlast])))))
  have : S = false := by
   rw [← Bool.not_eq_true, ← hXY]
   intro e
   rw [e] at hle
   exact hle (Int.le_refl _)
  rw [this]
  rfl
end Go.Proofs.Ytnlfhbohcgjcbaa.Pure
namespace Go.Proofs.Ytnlfhbohcgjcbaa.txnApart
open Go.ChangeShapes Go.WideShapes Go.ChangeAt Go.RowKit
open Go.Proofs.YtnlfhbohcgjcbaaW
open Go.ChangeMaps (open_string shut_string)
set_option linter.unusedVariables false
theorem own : ownKnob Try.prog.godebug = none := by kernel_rfl
theorem laidOut : laidOutB Try.prog = true := by kernel_rfl
def IsRow (k : IntKind) (w : World) (a : Option Addr) (len cap : Nat) (zs : List Int) : Prop :=
 (a = none ∧ len = 0 ∧ cap = 0 ∧ zs = []) ∨
 ∃ x, a = some x ∧ len ≤ cap ∧ cap ≤ maxLen ∧ zs.length = cap ∧ (∀ i, i < zs.length → w.cell? (x.add i) = some (.int k (zs.getD i 0))) ∧ ∀ n ∈ zs, (Lit.int k n).wf = true
set_option maxRecDepth 100000 in
theorem lifted (os : Os) (started : os.Started) (H : Type) (enc : TypeId × Value → H) :
  ReturnsInHanded {} Try.checked os 5 .any (Rows.txnApartSpec.pre6 enc Try.prog Try.f5 Rows.txnApartRow.domain false) (Rows.txnApartSpec.post enc Try.prog Try.f5 false true false false) := by
 refine returnsInHanded_of_change_sized (C := Try.checked) own started (by kernel_rfl) Try.func5
  (ChangeSpec.witness6 (enc := enc) (C := Try.checked) false ⟨#[], #[.slice none 0 0, .slice none 0 0], []⟩ 8 (by kernel_rfl) (by kernel_rfl) (by kernel_rfl) (by kernel_rfl)) ?_
 intro W base args ds gs before hval0 hW hcnd hsz0 _
 have hsz : (DataW.weightsEach Try.prog (Try.f5.params.toList ++ Rows.txnApartSpec.plain.varTypes Try.prog) (ds ++ gs)).all (· ≤ reachBytes) = true := hsz0
 have hval : ∀ (j : Nat) t v, Try.f5.params[j]? = some t → args[j]? = some v → Value.okWide Try.prog W .any base t v := hval0
 have hW' := hW
 obtain ⟨p, q, hA0, hV, rfl, hfz, hnd⟩ := hW
 have hA : DataW.TrodAll enc Try.prog W 0 (fun _ => true) true Try.f5.params.toList args.toList ds p := hA0
 rw [Try.params5] at hA hval hsz
 obtain ⟨v0, vs0, d0, ds0, p0, q0, hargs, rfl, rfl, h0, r0⟩ := trodAll_cons hA
 obtain ⟨v1, vs1, d1, ds1, p1, q1, rfl, rfl, rfl, h1, r1⟩ := trodAll_cons r0
 obtain ⟨rfl, rfl, rfl⟩ := trodAll_nil r1
 obtain rfl : args = #[v0, v1] := by cases args; simp_all
 obtain ⟨rfl, rfl⟩ := trodVars_none hV
 obtain ⟨a0, len0, cap0, rfl⟩ := okWide_slice Try.underlying33 (hval 0 33 v0 rfl rfl)
 have k0 := h0
 have lt0 : ∀ x ∈ p0, x.block < W.heap.size := by obtain ⟨m, hm⟩ := k0; exact DataW.trod_lt m _ _ _ hm
 obtain ⟨z0, w0⟩ : ∃ zs, IsRow .u8 W a0 len0 cap0 zs := by
  obtain ⟨fuel, hf⟩ := h0
  rcases open_ints Try.underlying33 Try.underlying5 (by kernel_rfl) hf with ⟨hcs, _⟩ | ⟨x, l, c, zs, hcs, _, hl, hm, hz, _, hcell, hwz⟩
  ·simp [Value.cells] at hcs
   obtain ⟨rfl, rfl, rfl⟩ := hcs
   exact ⟨[], .inl ⟨rfl, rfl, rfl, rfl⟩⟩
  ·simp [Value.cells] at hcs
   obtain ⟨rfl, rfl, rfl⟩ := hcs
   exact ⟨zs, .inr ⟨_, rfl, hl, hm, by simpa using hz, hcell, hwz⟩⟩
 have y0 : len0 * 1 ≤ 140737488351232 := PrintWords.sized_ints hsz (j := 0) (t := 33) rfl rfl Try.underlying33 Try.underlying5 (by kernel_rfl) (by kernel_rfl) h0
 obtain ⟨a1, len1, cap1, rfl⟩ := okWide_slice Try.underlying33 (hval 1 33 v1 rfl rfl)
 have k1 := h1
 have lt1 : ∀ x ∈ p1, x.block < W.heap.size := by obtain ⟨m, hm⟩ := k1; exact DataW.trod_lt m _ _ _ hm
 obtain ⟨z1, w1⟩ : ∃ zs, IsRow .u8 W a1 len1 cap1 zs := by
  obtain ⟨fuel, hf⟩ := h1
  rcases open_ints Try.underlying33 Try.underlying5 (by kernel_rfl) hf with ⟨hcs, _⟩ | ⟨x, l, c, zs, hcs, _, hl, hm, hz, _, hcell, hwz⟩
  ·simp [Value.cells] at hcs
   obtain ⟨rfl, rfl, rfl⟩ := hcs
   exact ⟨[], .inl ⟨rfl, rfl, rfl, rfl⟩⟩
  ·simp [Value.cells] at hcs
   obtain ⟨rfl, rfl, rfl⟩ := hcs
   exact ⟨zs, .inr ⟨_, rfl, hl, hm, by simpa using hz, hcell, hwz⟩⟩
 have y1 : len1 * 1 ≤ 140737488351232 := PrintWords.sized_ints hsz (j := 1) (t := 33) rfl rfl Try.underlying33 Try.underlying5 (by kernel_rfl) (by kernel_rfl) h1
 clear hA0 hval0 hsz0 hsz
 refine (PA.diwanlaw5_TxnApart.walk Pure.TxnApart a0 len0 cap0 z0 a1 len1 cap1 z1 W w0 y0 w1 y1).mono fun e W' ⟨he, bel⟩ => ?_
 subst he
 exact ⟨_, rfl, _, _, _, [], _, [], hW', trodAll_mk1 (shut_bool Try.underlying4 _), (trodAll_cons_mk (Below.trod laidOut (by kernel_rfl) (of_decide_eq_true (by kernel_rfl)) k0 bel lt0) (trodAll_cons_mk (Below.trod laidOut (by kernel_rfl) (of_decide_eq_true (by kernel_rfl)) k1 bel lt1) trodAll_mk0)), rfl, bel.frame _, fun h => by cases h⟩
theorem over : Rows.txnApartRow.holds Try.pinned (OpenSpec.ofChange Rows.txnApartSpec) :=
 OpenClaim.holds_of_wide 5 Try.f5 rfl rfl rfl rfl rfl rfl rfl ⟨rfl, rfl, rfl, rfl, rfl⟩ rfl rfl rfl rfl rfl (by kernel_rfl) Try.func5 (by kernel_rfl)
  (of_decide_eq_true (by kernel_rfl)) (by unfold Func.isWrapper; first | (rw [if_pos (by decide +kernel)]; kernel_rfl) | (rw [if_neg (by decide +kernel)]; exact ⟨rfl, rfl⟩))
  (fun os started H enc _ => lifted os started H enc)
theorem proved : Rows.TxnApartSaid := over
end Go.Proofs.Ytnlfhbohcgjcbaa.txnApart
namespace Go.Proofs.Ytnlfhbohcgjcbaa
/-- The row, under a short name, for the claim. -/
theorem txnApart_holds : Rows.TxnApartSaid := txnApart.proved
end Go.Proofs.Ytnlfhbohcgjcbaa
