/- What some rows come to: P21.1. (A closed statement.) -/
import Derived.Test.YtnlfhbohcgjcbaaCBitsFormsm0
import Derived.KernelRfl
import Derived.Test.YtnlfhbohcgjcbaaRows
import Derived.WalkKit
import Derived.ProofKit
import Derived.OpenShut
import Derived.ShutString
import Derived.ChangeOld
import Derived.Below
import Derived.SizedLaws
namespace Go.Proofs.Ytnlfhbohcgjcbaa.PA
open Go.RowKit Go.Proofs.YtnlfhbohcgjcbaaW.PrintWords Go.Proofs.YtnlfhbohcgjcbaaW.PrintLast Go.Proofs.YtnlfhbohcgjcbaaW.PrintMore
attribute [local go_sem] max2_int min2_int max_two min_two max_three min_three max_four min_four
set_option linter.unusedVariables false
set_option linter.unusedSimpArgs false
def diwanlaw21_BitsForms.l0 : Nat → List (List Int) → List Int → List Int → Int → Int → Int → List (S24) → Int → Int → Option (Bool)
 | 0, _, _, _, _, _, _, _, _, _ => none
 | k + 1, x3, x4, x5, x6, x6000, x6001, x6002, x7000, x7001 => if x6 < (x3.length : Int) then (if 0 ≤ x6 then ((bits_Verdict.f k x6000 x6001 x6002 ([] : List (S27)) 2 (rd_L13 x3 x6)).bind fun t35 => (if x6 < (x4.length : Int) then (if t35 = (rd x4 x6) then ((bits_Missing.f k x6000 x6001 x6002 ([] : List (S27)) 2 (rd_L13 x3 x6)).bind fun t38 => (if x6 < (x5.length : Int) then (if (t38.length : Int) = (rd x5 x6) then (diwanlaw21_BitsForms.l0 k x3 x4 x5 (wrap64 (x6 + 1)) x6000 x6001 x6002 x7000 x7001) else (none)) else (none))) else (none)) else (none))) else (none)) else ((bits_Add.f k ([] : List (S52)) 3 0 1).bind fun t42 => ((bits_Add.f k t42 3 0 2).bind fun t45 => ((bits_Add.f k t45 3 1 0).bind fun t48 => ((bits_Verdict.f k x7000 x7001 ([] : List (S24)) ([] : List (S27)) 3 ([] : List Int)).bind fun t51 => (if t51 = 1 then ((bits_Missing.f k x7000 x7001 ([] : List (S24)) ([] : List (S27)) 3 ([] : List Int)).bind fun t52 => (if (t52.length : Int) = 0 then (if (t48.length : Int) = 1 then ((bits_Of.f k t48 3 0).bind fun t55 => (if t55 = 1 then ((bits_Row.f k t48 3 0).bind fun t56 => (some ((t56.length : Int) == 0))) else (none))) else (none)) else (none))) else (none))))))
def diwanlaw21_BitsForms.f (k : Nat)  : Option (Bool) := (diwanlaw21_begun.f).bind fun t1 => (if t1 = true then (diwanlaw21_BitsForms.l0 k (([(([1, 1] : List Int)), (([1, 2] : List Int)), (([2, 0] : List Int)), (([1, 0] : List Int)), (([0, 1] : List Int)), (([1] : List Int)), []] : List (List Int))) (([1, 2, 2, 0, 0, 0, 0] : List Int)) (([0, 0, 0, 1, 1, 1, 2] : List Int)) 0 1 1 (([(⟨(⟨#[97]⟩ : ByteArray), 0, (⟨#[]⟩ : ByteArray), false⟩ : S24), (⟨(⟨#[98]⟩ : ByteArray), 0, (⟨#[]⟩ : ByteArray), false⟩ : S24)] : List (S24))) 1 1) else (none))
def diwanlaw21_BitsForms.T10 : Bool × List (List Nat × List Nat) := (true, [([], []), ([], []), ([], []), ([1, 2], [1, 2]), ([3], [3]), ([0, 4], [0, 4]), ([], []), ([], []), ([6, 7], [6, 7]), ([8], [8]), ([5, 9], [5, 9]), ([10, 5], [10]), ([11], [11]), ([11], [11]), ([11], [11]), ([13, 14, 11], [11, 13, 14]), ([15, 11], [11, 15]), ([12, 16, 11, 11], [11, 12, 16]), ([17, 11], [11, 17]), ([11], [11]), ([11], [11]), ([19, 20, 11], [11, 19, 20]), ([21, 11], [11, 21]), ([18, 22, 11], [11, 18, 22]), ([11, 23], [11, 23])])
def diwanlaw21_BitsForms.B10 : List Nat := [0, 0, 0, 6, 14, 31, 0, 0, 192, 448, 1023, 2047, 4095, 4095, 4095, 28671, 61439, 131071, 262143, 4095, 4095, 1576959, 3674111, 8388607, 16777215]
theorem diwanlaw21_BitsForms.tab10 : rtab .any (opsOf Try.f8 10) = diwanlaw21_BitsForms.T10 := by kernel_rfl
theorem diwanlaw21_BitsForms.bits10 : waitsOk diwanlaw21_BitsForms.T10.2 diwanlaw21_BitsForms.B10 = true := by kernel_rfl
set_option maxHeartbeats 8000000 in
set_option maxRecDepth 100000 in
theorem diwanlaw21_BitsForms.calls (k : Nat)  (r : Bool) (w : World) (h : diwanlaw21_BitsForms.f k  = some r) :
  Calls Try.prog 8 #[] w fun e w' => e = .returned (.bool r) ∧ Below w.heap.size w w' := by
 have hu24 := Try.underlying24
 have hu30 := Try.underlying30
 have HB := Aside0.mk (Below.refl w.heap.size w)
 have H : ((diwanlaw21_begun.f).bind fun t1 => (if t1 = true then (diwanlaw21_BitsForms.l0 k (([(([1, 1] : List Int)), (([1, 2] : List Int)), (([2, 0] : List Int)), (([1, 0] : List Int)), (([0, 1] : List Int)), (([1] : List Int)), []] : List (List Int))) (([1, 2, 2, 0, 0, 0, 0] : List Int)) (([0, 0, 0, 1, 1, 1, 2] : List Int)) 0 1 1 (([(⟨(⟨#[97]⟩ : ByteArray), 0, (⟨#[]⟩ : ByteArray), false⟩ : S24), (⟨(⟨#[98]⟩ : ByteArray), 0, (⟨#[]⟩ : ByteArray), false⟩ : S24)] : List (S24))) 1 1) else (none))) = some r := h
 clear h
 replace H := Option.bind_eq_some_iff.mp H
 obtain ⟨t1, A10, H⟩ := H
 (try dsimp only at H)
 have A1 := Aside0.mk A10
 clear A10
 by_cases c2 : t1 = true
 ·subst c2
  have H1 : (diwanlaw21_BitsForms.l0 k (([(([1, 1] : List Int)), (([1, 2] : List Int)), (([2, 0] : List Int)), (([1, 0] : List Int)), (([0, 1] : List Int)), (([1] : List Int)), []] : List (List Int))) (([1, 2, 2, 0, 0, 0, 0] : List Int)) (([0, 0, 0, 1, 1, 1, 2] : List Int)) 0 1 1 (([(⟨(⟨#[97]⟩ : ByteArray), 0, (⟨#[]⟩ : ByteArray), false⟩ : S24), (⟨(⟨#[98]⟩ : ByteArray), 0, (⟨#[]⟩ : ByteArray), false⟩ : S24)] : List (S24))) 1 1) = some r := by rw [if_pos rfl] at H; exact H
  clear H
  have H := H1
  clear H1
  obtain ⟨y2, hy2⟩ : ∃ y_ : List (S24), y_ = (([(⟨(⟨#[97]⟩ : ByteArray), 0, (⟨#[]⟩ : ByteArray), false⟩ : S24), (⟨(⟨#[98]⟩ : ByteArray), 0, (⟨#[]⟩ : ByteArray), false⟩ : S24)] : List (S24))) := ⟨_, rfl⟩
  replace H : (diwanlaw21_BitsForms.l0 k (([(([1, 1] : List Int)), (([1, 2] : List Int)), (([2, 0] : List Int)), (([1, 0] : List Int)), (([0, 1] : List Int)), (([1] : List Int)), []] : List (List Int))) (([1, 2, 2, 0, 0, 0, 0] : List Int)) (([0, 0, 0, 1, 1, 1, 2] : List Int)) 0 1 1 y2 1 1) = some r := by first | (rw [hy2]; with_reducible exact H) | (have H2_ := (Option.bind_some _ _).symm.trans H; rw [hy2]; with_reducible exact H2_) | (have H2_ := (Option.bind_some _ _).symm.trans H; with_reducible exact H2_) | with_reducible exact H | (rw [hy2]; exact H) | exact H
  have Ny2 := Aside0.mk hy2
  clear hy2
  obtain ⟨y7, hy7⟩ : ∃ y_ : List Int, y_ = (([1, 1] : List Int)) := ⟨_, rfl⟩
  replace H : (diwanlaw21_BitsForms.l0 k (([y7, (([1, 2] : List Int)), (([2, 0] : List Int)), (([1, 0] : List Int)), (([0, 1] : List Int)), (([1] : List Int)), []] : List (List Int))) (([1, 2, 2, 0, 0, 0, 0] : List Int)) (([0, 0, 0, 1, 1, 1, 2] : List Int)) 0 1 1 y2 1 1) = some r := by first | (rw [hy7]; with_reducible exact H) | (have H2_ := (Option.bind_some _ _).symm.trans H; rw [hy7]; with_reducible exact H2_) | (have H2_ := (Option.bind_some _ _).symm.trans H; with_reducible exact H2_) | with_reducible exact H | (rw [hy7]; exact H) | exact H
  have Ny7 := Aside0.mk hy7
  clear hy7
  obtain ⟨y10, hy10⟩ : ∃ y_ : List Int, y_ = (([1, 2] : List Int)) := ⟨_, rfl⟩
  replace H : (diwanlaw21_BitsForms.l0 k (([y7, y10, (([2, 0] : List Int)), (([1, 0] : List Int)), (([0, 1] : List Int)), (([1] : List Int)), []] : List (List Int))) (([1, 2, 2, 0, 0, 0, 0] : List Int)) (([0, 0, 0, 1, 1, 1, 2] : List Int)) 0 1 1 y2 1 1) = some r := by first | (rw [hy10]; with_reducible exact H) | (have H2_ := (Option.bind_some _ _).symm.trans H; rw [hy10]; with_reducible exact H2_) | (have H2_ := (Option.bind_some _ _).symm.trans H; with_reducible exact H2_) | with_reducible exact H | (rw [hy10]; exact H) | exact H
  have Ny10 := Aside0.mk hy10
  clear hy10
  obtain ⟨y13, hy13⟩ : ∃ y_ : List Int, y_ = (([2, 0] : List Int)) := ⟨_, rfl⟩
  replace H : (diwanlaw21_BitsForms.l0 k (([y7, y10, y13, (([1, 0] : List Int)), (([0, 1] : List Int)), (([1] : List Int)), []] : List (List Int))) (([1, 2, 2, 0, 0, 0, 0] : List Int)) (([0, 0, 0, 1, 1, 1, 2] : List Int)) 0 1 1 y2 1 1) = some r := by first | (rw [hy13]; with_reducible exact H) | (have H2_ := (Option.bind_some _ _).symm.trans H; rw [hy13]; with_reducible exact H2_) | (have H2_ := (Option.bind_some _ _).symm.trans H; with_reducible exact H2_) | with_reducible exact H | (rw [hy13]; exact H) | exact H
  have Ny13 := Aside0.mk hy13
  clear hy13
  obtain ⟨y16, hy16⟩ : ∃ y_ : List Int, y_ = (([1, 0] : List Int)) := ⟨_, rfl⟩
  replace H : (diwanlaw21_BitsForms.l0 k (([y7, y10, y13, y16, (([0, 1] : List Int)), (([1] : List Int)), []] : List (List Int))) (([1, 2, 2, 0, 0, 0, 0] : List Int)) (([0, 0, 0, 1, 1, 1, 2] : List Int)) 0 1 1 y2 1 1) = some r := by first | (rw [hy16]; with_reducible exact H) | (have H2_ := (Option.bind_some _ _).symm.trans H; rw [hy16]; with_reducible exact H2_) | (have H2_ := (Option.bind_some _ _).symm.trans H; with_reducible exact H2_) | with_reducible exact H | (rw [hy16]; exact H) | exact H
  have Ny16 := Aside0.mk hy16
  clear hy16
  obtain ⟨y19, hy19⟩ : ∃ y_ : List Int, y_ = (([0, 1] : List Int)) := ⟨_, rfl⟩
  replace H : (diwanlaw21_BitsForms.l0 k (([y7, y10, y13, y16, y19, (([1] : List Int)), []] : List (List Int))) (([1, 2, 2, 0, 0, 0, 0] : List Int)) (([0, 0, 0, 1, 1, 1, 2] : List Int)) 0 1 1 y2 1 1) = some r := by first | (rw [hy19]; with_reducible exact H) | (have H2_ := (Option.bind_some _ _).symm.trans H; rw [hy19]; with_reducible exact H2_) | (have H2_ := (Option.bind_some _ _).symm.trans H; with_reducible exact H2_) | with_reducible exact H | (rw [hy19]; exact H) | exact H
  have Ny19 := Aside0.mk hy19
  clear hy19
  obtain ⟨y22, hy22⟩ : ∃ y_ : List Int, y_ = (([1] : List Int)) := ⟨_, rfl⟩
  replace H : (diwanlaw21_BitsForms.l0 k (([y7, y10, y13, y16, y19, y22, []] : List (List Int))) (([1, 2, 2, 0, 0, 0, 0] : List Int)) (([0, 0, 0, 1, 1, 1, 2] : List Int)) 0 1 1 y2 1 1) = some r := by first | (rw [hy22]; with_reducible exact H) | (have H2_ := (Option.bind_some _ _).symm.trans H; rw [hy22]; with_reducible exact H2_) | (have H2_ := (Option.bind_some _ _).symm.trans H; with_reducible exact H2_) | with_reducible exact H | (rw [hy22]; exact H) | exact H
  have Ny22 := Aside0.mk hy22
  clear hy22
  obtain ⟨y25, hy25⟩ : ∃ y_ : List (List Int), y_ = (([y7, y10, y13, y16, y19, y22, []] : List (List Int))) := ⟨_, rfl⟩
  replace H : (diwanlaw21_BitsForms.l0 k y25 (([1, 2, 2, 0, 0, 0, 0] : List Int)) (([0, 0, 0, 1, 1, 1, 2] : List Int)) 0 1 1 y2 1 1) = some r := by first | (rw [hy25]; with_reducible exact H) | (have H2_ := (Option.bind_some _ _).symm.trans H; rw [hy25]; with_reducible exact H2_) | (have H2_ := (Option.bind_some _ _).symm.trans H; with_reducible exact H2_) | with_reducible exact H | (rw [hy25]; exact H) | exact H
  have Ny25 := Aside0.mk hy25
  clear hy25
  obtain ⟨y28, hy28⟩ : ∃ y_ : List Int, y_ = (([1, 2, 2, 0, 0, 0, 0] : List Int)) := ⟨_, rfl⟩
  replace H : (diwanlaw21_BitsForms.l0 k y25 y28 (([0, 0, 0, 1, 1, 1, 2] : List Int)) 0 1 1 y2 1 1) = some r := by first | (rw [hy28]; with_reducible exact H) | (have H2_ := (Option.bind_some _ _).symm.trans H; rw [hy28]; with_reducible exact H2_) | (have H2_ := (Option.bind_some _ _).symm.trans H; with_reducible exact H2_) | with_reducible exact H | (rw [hy28]; exact H) | exact H
  have Ny28 := Aside0.mk hy28
  clear hy28
  obtain ⟨y31, hy31⟩ : ∃ y_ : List Int, y_ = (([0, 0, 0, 1, 1, 1, 2] : List Int)) := ⟨_, rfl⟩
  replace H : (diwanlaw21_BitsForms.l0 k y25 y28 y31 0 1 1 y2 1 1) = some r := by first | (rw [hy31]; with_reducible exact H) | (have H2_ := (Option.bind_some _ _).symm.trans H; rw [hy31]; with_reducible exact H2_) | (have H2_ := (Option.bind_some _ _).symm.trans H; with_reducible exact H2_) | with_reducible exact H | (rw [hy31]; exact H) | exact H
  have Ny31 := Aside0.mk hy31
  clear hy31
  have H' := Aside0.mk H
  clear H
  go_enter Try.func8, Try.ntmps8
  go_wp2_with (first | ((with_reducible refine gate_callee (f := 27) rfl ?_); refine goesM_ (some 8) Try.func27 #[] ?_; (with_reducible refine (diwanlaw21_begun.calls  true _ A1.out).mono ?_); rintro e w3 ⟨rfl, hb⟩; refine ⟨_, rfl, ?_⟩; have n0_ := Aside0.mk (below_step (by repeat (with_reducible first | exact HB.out | apply ba_ | apply bn_ | apply bd_)) hb); clear HB; have HB := n0_; clear n0_; clear hb) | ((with_reducible refine gate_dst (N := 12) rfl ?_); (try (refine gate_guard (by rfl) ?_; dsimp only)); refine Kd.R_lit k24 _ 24 ?hg (N := 12) ?hd (xs := ([(⟨(⟨#[97]⟩ : ByteArray), 0, (⟨#[]⟩ : ByteArray), false⟩ : S24), (⟨(⟨#[98]⟩ : ByteArray), 0, (⟨#[]⟩ : ByteArray), false⟩ : S24)] : List (S24))) (inner := [.string (⟨#[97]⟩ : ByteArray), .int .i64 0, .string (⟨#[]⟩ : ByteArray), .bool false, .string (⟨#[98]⟩ : ByteArray), .int .i64 0, .string (⟨#[]⟩ : ByteArray), .bool false]) (ok := fun _ => True) (okp := fun _ => True) ?hr ?hp (fun _ hk => hk) trivial (Below.refl _ _) (Nat.le_refl _) (by simp) ?_; (case hd => rfl); (case hg => rfl); (case hr => first | (go_simp; done) | (go_simp; rfl)); (case hp => exact (Reps.c4 (show Kd.M k24 _ _ _ (⟨(⟨#[97]⟩ : ByteArray), 0, (⟨#[]⟩ : ByteArray), false⟩ : S24) [.string (⟨#[97]⟩ : ByteArray), .int .i64 0, .string (⟨#[]⟩ : ByteArray), .bool false] from (k24_mkM _ _ _ (⟨(⟨#[97]⟩ : ByteArray), 0, (⟨#[]⟩ : ByteArray), false⟩ : S24) )) (Reps.c4 (show Kd.M k24 _ _ _ (⟨(⟨#[98]⟩ : ByteArray), 0, (⟨#[]⟩ : ByteArray), false⟩ : S24) [.string (⟨#[98]⟩ : ByteArray), .int .i64 0, .string (⟨#[]⟩ : ByteArray), .bool false] from (k24_mkM _ _ _ (⟨(⟨#[98]⟩ : ByteArray), 0, (⟨#[]⟩ : ByteArray), false⟩ : S24) )) (Reps.none _ _)))); intro v3 w4 ho5 hb hg_ hnew_; clear hg_ hnew_; (first | rw [← Ny2.out] at ho5 | (simp only [Int.reduceToNat] at ho5; rw [← Ny2.out] at ho5)); have n0_ := Aside0.mk (Kd.R_lower ho5 (below_size (by repeat (with_reducible first | exact HB.out | apply ba_ | apply bn_ | apply bd_)))); have n1_ := Aside0.mk (below_step (by repeat (with_reducible first | exact HB.out | apply ba_ | apply bn_ | apply bd_)) hb); clear HB; have HO4 := n0_; have HB := n1_; clear n0_ n1_; clear hb ho5; obtain ⟨Ao6, co6, eo6⟩ := Kd.R_slice HO4.out; subst eo6) | ((with_reducible refine gate_dst (N := 1) rfl ?_); (try (refine gate_guard (by rfl) ?_; dsimp only)); refine box_event ?hg (N := 1) ?hd (cs := #[.int .i64 0, .int .i64 0, .slice none 0 0, .slice none 0 0]) (t := 30) ?hr ?_; (case hd => rfl); (case hg => rfl); (case hr => first | (go_simp; done) | (go_simp; rfl)); intro gb5 hg w7 hbox hb; have n0_ := Aside0.mk (Kd.R_below (by (with_reducible repeat (first | apply ra_ | apply rn_ | apply rd_)); exact HO4.out) hb); have n1_ := Aside0.mk (below_step (by repeat (with_reducible first | exact HB.out | apply ba_ | apply bn_ | apply bd_)) hb); have n2_ := Aside0.mk (hbox); have n3_ := Aside0.mk ((by rw [hg]; exact (below_size (by repeat (with_reducible first | exact HB.out | apply ba_ | apply bn_ | apply bd_))) : w.heap.size ≤ gb5)); have n4_ := Aside0.mk ((by rw [hg]; exact (below_size (by repeat (with_reducible first | exact HB.out | apply ba_ | apply bn_ | apply bd_))) : w.heap.size ≤ gb5)); clear HO4; clear HB; have HO4 := n0_; have HB := n1_; have BK5 := n2_; have GW5 := n3_; have GE5 := n4_; clear n0_ n1_ n2_ n3_ n4_; clear hb hbox hg; have hcz8_0 : w7.cell? ⟨gb5, 0, none⟩ = some (.int .i64 0) := (blk_cell BK5.out 0).trans rfl; have hcz8_1 : w7.cell? ⟨gb5, 1, none⟩ = some (.int .i64 0) := (blk_cell BK5.out 1).trans rfl; have hcz8_2 : w7.cell? ⟨gb5, 2, none⟩ = some (.slice none 0 0) := (blk_cell BK5.out 2).trans rfl; have hcz8_3 : w7.cell? ⟨gb5, 3, none⟩ = some (.slice none 0 0) := (blk_cell BK5.out 3).trans rfl; have hfz8_0 := blk_frozen BK5.out 0; have hfz8_1 := blk_frozen BK5.out 1; have hfz8_2 := blk_frozen BK5.out 2; have hfz8_3 := blk_frozen BK5.out 3) | ((with_reducible refine gate_dst (N := 2) rfl ?_); (try (refine gate_guard (by rfl) ?_; dsimp only)); refine box_event ?hg (N := 2) ?hd (cs := #[.int .i64 0, .int .i64 0, .slice none 0 0, .slice none 0 0]) (t := 30) ?hr ?_; (case hd => rfl); (case hg => rfl); (case hr => first | (go_simp; done) | (go_simp; rfl)); intro gb6 hg w9 hbox hb; have n0_ := Aside0.mk (Kd.R_below (by (with_reducible repeat (first | apply ra_ | apply rn_ | apply rd_)); exact (Kd.R_mono (Kd.R_far (p := ⟨gb5, 3, none⟩) (Kd.R_far (p := ⟨gb5, 2, none⟩) (Kd.R_far (p := ⟨gb5, 1, none⟩) (Kd.R_far (p := ⟨gb5, 0, none⟩) (Kd.R_types HO4.out BK5.out (by decide)) (fun _ hk => hk.2) (.int .i64 1)) (fun _ hk => hk.2) (.int .i64 1)) (fun _ hk => hk.2) (.slice Ao6 y2.length co6)) (fun _ hk => hk.2) (.slice none 0 0)) (fun _ h_ => h_.1))) hb); have n1_ := Aside0.mk (blk_below (g := gb5) (o := .cells #[.int .i64 1, .int .i64 1, .slice Ao6 y2.length co6, .slice none 0 0] 30 (0, 0)) (by (with_reducible repeat (first | refine kn_ ?_ _ | refine kd_ ?_ | refine ka_ ?_ _)); refine blk_put (cs := #[.int .i64 1, .int .i64 1, .slice Ao6 y2.length co6, .slice none 0 0]) ?_ 3 _ rfl; (with_reducible repeat (first | refine kn_ ?_ _ | refine kd_ ?_ | refine ka_ ?_ _)); refine blk_put (cs := #[.int .i64 1, .int .i64 1, .slice none 0 0, .slice none 0 0]) ?_ 2 _ rfl; (with_reducible repeat (first | refine kn_ ?_ _ | refine kd_ ?_ | refine ka_ ?_ _)); refine blk_put (cs := #[.int .i64 1, .int .i64 0, .slice none 0 0, .slice none 0 0]) ?_ 1 _ rfl; (with_reducible repeat (first | refine kn_ ?_ _ | refine kd_ ?_ | refine ka_ ?_ _)); refine blk_put (cs := #[.int .i64 0, .int .i64 0, .slice none 0 0, .slice none 0 0]) ?_ 0 _ rfl; (with_reducible repeat (first | refine kn_ ?_ _ | refine kd_ ?_ | refine ka_ ?_ _)); exact BK5.out) hb); have n2_ := Aside0.mk (below_step (by repeat (with_reducible first | exact HB.out | apply ba_ | apply bn_ | apply bd_ | refine bs_ ?_ GE5.out)) hb); have n3_ := Aside0.mk (hbox); have n4_ := Aside0.mk ((by rw [hg]; exact (below_size (by repeat (with_reducible first | exact HB.out | apply ba_ | apply bn_ | apply bd_ | refine bs_ ?_ GE5.out))) : w.heap.size ≤ gb6)); have n5_ := Aside0.mk ((by rw [hg]; exact (below_size (by repeat (with_reducible first | exact HB.out | apply ba_ | apply bn_ | apply bd_ | refine bs_ ?_ GE5.out))) : w.heap.size ≤ gb6)); have n6_ := Aside0.mk ((by rw [hg]; exact Nat.ne_of_lt (blk_lt (g := gb5) (o := .cells #[.int .i64 1, .int .i64 1, .slice Ao6 y2.length co6, .slice none 0 0] 30 (0, 0)) (by (with_reducible repeat (first | refine kn_ ?_ _ | refine kd_ ?_ | refine ka_ ?_ _)); refine blk_put (cs := #[.int .i64 1, .int .i64 1, .slice Ao6 y2.length co6, .slice none 0 0]) ?_ 3 _ rfl; (with_reducible repeat (first | refine kn_ ?_ _ | refine kd_ ?_ | refine ka_ ?_ _)); refine blk_put (cs := #[.int .i64 1, .int .i64 1, .slice none 0 0, .slice none 0 0]) ?_ 2 _ rfl; (with_reducible repeat (first | refine kn_ ?_ _ | refine kd_ ?_ | refine ka_ ?_ _)); refine blk_put (cs := #[.int .i64 1, .int .i64 0, .slice none 0 0, .slice none 0 0]) ?_ 1 _ rfl; (with_reducible repeat (first | refine kn_ ?_ _ | refine kd_ ?_ | refine ka_ ?_ _)); refine blk_put (cs := #[.int .i64 0, .int .i64 0, .slice none 0 0, .slice none 0 0]) ?_ 0 _ rfl; (with_reducible repeat (first | refine kn_ ?_ _ | refine kd_ ?_ | refine ka_ ?_ _)); exact BK5.out)) : gb5 ≠ gb6)); have n7_ := Aside0.mk ((by rw [hg]; exact Nat.ne_of_gt (blk_lt (g := gb5) (o := .cells #[.int .i64 1, .int .i64 1, .slice Ao6 y2.length co6, .slice none 0 0] 30 (0, 0)) (by (with_reducible repeat (first | refine kn_ ?_ _ | refine kd_ ?_ | refine ka_ ?_ _)); refine blk_put (cs := #[.int .i64 1, .int .i64 1, .slice Ao6 y2.length co6, .slice none 0 0]) ?_ 3 _ rfl; (with_reducible repeat (first | refine kn_ ?_ _ | refine kd_ ?_ | refine ka_ ?_ _)); refine blk_put (cs := #[.int .i64 1, .int .i64 1, .slice none 0 0, .slice none 0 0]) ?_ 2 _ rfl; (with_reducible repeat (first | refine kn_ ?_ _ | refine kd_ ?_ | refine ka_ ?_ _)); refine blk_put (cs := #[.int .i64 1, .int .i64 0, .slice none 0 0, .slice none 0 0]) ?_ 1 _ rfl; (with_reducible repeat (first | refine kn_ ?_ _ | refine kd_ ?_ | refine ka_ ?_ _)); refine blk_put (cs := #[.int .i64 0, .int .i64 0, .slice none 0 0, .slice none 0 0]) ?_ 0 _ rfl; (with_reducible repeat (first | refine kn_ ?_ _ | refine kd_ ?_ | refine ka_ ?_ _)); exact BK5.out)) : gb6 ≠ gb5)); clear HO4; clear BK5; clear HB; have HO4 := n0_; have BK5 := n1_; have HB := n2_; have BK6 := n3_; have GW6 := n4_; have GE6 := n5_; have NB5_6 := n6_; have NB6_5 := n7_; clear n0_ n1_ n2_ n3_ n4_ n5_ n6_ n7_; clear hb hbox hg; have hnb10 := NB6_5.out; have hnc10 := NB5_6.out; have hcz11_0 : w9.cell? ⟨gb6, 0, none⟩ = some (.int .i64 0) := (blk_cell BK6.out 0).trans rfl; have hcz11_1 : w9.cell? ⟨gb6, 1, none⟩ = some (.int .i64 0) := (blk_cell BK6.out 1).trans rfl; have hcz11_2 : w9.cell? ⟨gb6, 2, none⟩ = some (.slice none 0 0) := (blk_cell BK6.out 2).trans rfl; have hcz11_3 : w9.cell? ⟨gb6, 3, none⟩ = some (.slice none 0 0) := (blk_cell BK6.out 3).trans rfl; have hfz11_0 := blk_frozen BK6.out 0; have hfz11_1 := blk_frozen BK6.out 1; have hfz11_2 := blk_frozen BK6.out 2; have hfz11_3 := blk_frozen BK6.out 3) | ((with_reducible refine gate_dst (N := 15) rfl ?_); (try (refine gate_guard (by rfl) ?_; dsimp only)); refine Kd.R_lit (Kd.int .i64) _ 3 ?hg (N := 15) ?hd (xs := ([1, 1] : List Int)) (inner := [.int .i64 1, .int .i64 1]) (ok := fun _ => True) (okp := fun _ => True) ?hr ?hp (fun _ hk => hk) trivial (Below.refl _ _) (Nat.le_refl _) (by simp) ?_; (case hd => rfl); (case hg => rfl); (case hr => first | (go_simp; done) | (go_simp; rfl)); (case hp => exact (Reps.one (show Kd.M (Kd.int .i64) _ _ _ 1 [.int .i64 1] from rfl) (Reps.one (show Kd.M (Kd.int .i64) _ _ _ 1 [.int .i64 1] from rfl) (Reps.none _ _)))); intro v8 w12 ho13 hb hg_ hnew_; clear hg_ hnew_; (first | rw [← Ny7.out] at ho13 | (simp only [Int.reduceToNat] at ho13; rw [← Ny7.out] at ho13)); have n0_ := Aside0.mk (Kd.R_below (by (with_reducible repeat (first | apply ra_ | apply rn_ | apply rd_)); exact (Kd.R_mono (Kd.R_far (p := ⟨gb6, 3, none⟩) (Kd.R_far (p := ⟨gb6, 2, none⟩) (Kd.R_far (p := ⟨gb6, 1, none⟩) (Kd.R_far (p := ⟨gb6, 0, none⟩) (Kd.R_types HO4.out BK6.out (by decide)) (fun _ hk => hk.2) (.int .i64 1)) (fun _ hk => hk.2) (.int .i64 1)) (fun _ hk => hk.2) (.slice none 0 0)) (fun _ hk => hk.2) (.slice none 0 0)) (fun _ h_ => h_.1))) hb); have n1_ := Aside0.mk (Kd.R_lower ho13 (below_size (by repeat (with_reducible first | exact HB.out | apply ba_ | apply bn_ | apply bd_ | refine bs_ ?_ GE5.out | refine bs_ ?_ GE6.out)))); have n2_ := Aside0.mk (blk_below (g := gb5) (o := .cells #[.int .i64 1, .int .i64 1, .slice Ao6 y2.length co6, .slice none 0 0] 30 (0, 0)) (by (with_reducible repeat (first | refine kn_ ?_ _ | refine kd_ ?_ | refine ka_ ?_ _)); refine blk_far ?_ NB5_6.out _; (with_reducible repeat (first | refine kn_ ?_ _ | refine kd_ ?_ | refine ka_ ?_ _)); refine blk_far ?_ NB5_6.out _; (with_reducible repeat (first | refine kn_ ?_ _ | refine kd_ ?_ | refine ka_ ?_ _)); refine blk_far ?_ NB5_6.out _; (with_reducible repeat (first | refine kn_ ?_ _ | refine kd_ ?_ | refine ka_ ?_ _)); refine blk_far ?_ NB5_6.out _; (with_reducible repeat (first | refine kn_ ?_ _ | refine kd_ ?_ | refine ka_ ?_ _)); exact BK5.out) hb); have n3_ := Aside0.mk (blk_below (g := gb6) (o := .cells #[.int .i64 1, .int .i64 1, .slice none 0 0, .slice none 0 0] 30 (0, 0)) (by (with_reducible repeat (first | refine kn_ ?_ _ | refine kd_ ?_ | refine ka_ ?_ _)); refine blk_put (cs := #[.int .i64 1, .int .i64 1, .slice none 0 0, .slice none 0 0]) ?_ 3 _ rfl; (with_reducible repeat (first | refine kn_ ?_ _ | refine kd_ ?_ | refine ka_ ?_ _)); refine blk_put (cs := #[.int .i64 1, .int .i64 1, .slice none 0 0, .slice none 0 0]) ?_ 2 _ rfl; (with_reducible repeat (first | refine kn_ ?_ _ | refine kd_ ?_ | refine ka_ ?_ _)); refine blk_put (cs := #[.int .i64 1, .int .i64 0, .slice none 0 0, .slice none 0 0]) ?_ 1 _ rfl; (with_reducible repeat (first | refine kn_ ?_ _ | refine kd_ ?_ | refine ka_ ?_ _)); refine blk_put (cs := #[.int .i64 0, .int .i64 0, .slice none 0 0, .slice none 0 0]) ?_ 0 _ rfl; (with_reducible repeat (first | refine kn_ ?_ _ | refine kd_ ?_ | refine ka_ ?_ _)); exact BK6.out) hb); have n4_ := Aside0.mk (below_step (by repeat (with_reducible first | exact HB.out | apply ba_ | apply bn_ | apply bd_ | refine bs_ ?_ GE5.out | refine bs_ ?_ GE6.out)) hb); clear HO4; clear BK5; clear BK6; clear HB; have HO4 := n0_; have HO9 := n1_; have BK5 := n2_; have BK6 := n3_; have HB := n4_; clear n0_ n1_ n2_ n3_ n4_; clear hb ho13) | ((with_reducible refine gate_dst (N := 16) rfl ?_); (try (refine gate_guard (by rfl) ?_; dsimp only)); refine Kd.R_lit (Kd.int .i64) _ 3 ?hg (N := 16) ?hd (xs := ([1, 2] : List Int)) (inner := [.int .i64 1, .int .i64 2]) (ok := fun _ => True) (okp := fun _ => True) ?hr ?hp (fun _ hk => hk) trivial (Below.refl _ _) (Nat.le_refl _) (by simp) ?_; (case hd => rfl); (case hg => rfl); (case hr => first | (go_simp; done) | (go_simp; rfl)); (case hp => exact (Reps.one (show Kd.M (Kd.int .i64) _ _ _ 1 [.int .i64 1] from rfl) (Reps.one (show Kd.M (Kd.int .i64) _ _ _ 2 [.int .i64 2] from rfl) (Reps.none _ _)))); intro v11 w14 ho15 hb hg_ hnew_; clear hg_ hnew_; (first | rw [← Ny10.out] at ho15 | (simp only [Int.reduceToNat] at ho15; rw [← Ny10.out] at ho15)); have n0_ := Aside0.mk (Kd.R_below (by (with_reducible repeat (first | apply ra_ | apply rn_ | apply rd_)); exact HO4.out) hb); have n1_ := Aside0.mk (Kd.R_elder' (by (with_reducible repeat (first | apply ra_ | apply rn_ | apply rd_)); exact HO9.out) (Kd.R_base ho15) hb); have n2_ := Aside0.mk (Kd.R_lower (Kd.R_new' ho15 (Kd.R_lt (by (with_reducible repeat (first | apply ra_ | apply rn_ | apply rd_)); exact HO9.out))) (below_size (by repeat (with_reducible first | exact HB.out | apply ba_ | apply bn_ | apply bd_ | refine bs_ ?_ GE5.out | refine bs_ ?_ GE6.out)))); have n3_ := Aside0.mk (blk_below (g := gb5) (o := .cells #[.int .i64 1, .int .i64 1, .slice Ao6 y2.length co6, .slice none 0 0] 30 (0, 0)) (by (with_reducible repeat (first | refine kn_ ?_ _ | refine kd_ ?_ | refine ka_ ?_ _)); exact BK5.out) hb); have n4_ := Aside0.mk (blk_below (g := gb6) (o := .cells #[.int .i64 1, .int .i64 1, .slice none 0 0, .slice none 0 0] 30 (0, 0)) (by (with_reducible repeat (first | refine kn_ ?_ _ | refine kd_ ?_ | refine ka_ ?_ _)); exact BK6.out) hb); have n5_ := Aside0.mk (below_step (by repeat (with_reducible first | exact HB.out | apply ba_ | apply bn_ | apply bd_ | refine bs_ ?_ GE5.out | refine bs_ ?_ GE6.out)) hb); clear HO4; clear HO9; clear BK5; clear BK6; clear HB; have HO4 := n0_; have HO9 := n1_; have HO12 := n2_; have BK5 := n3_; have BK6 := n4_; have HB := n5_; clear n0_ n1_ n2_ n3_ n4_ n5_; clear hb ho15) | ((with_reducible refine gate_dst (N := 17) rfl ?_); (try (refine gate_guard (by rfl) ?_; dsimp only)); refine Kd.R_lit (Kd.int .i64) _ 3 ?hg (N := 17) ?hd (xs := ([2, 0] : List Int)) (inner := [.int .i64 2, .int .i64 0]) (ok := fun _ => True) (okp := fun _ => True) ?hr ?hp (fun _ hk => hk) trivial (Below.refl _ _) (Nat.le_refl _) (by simp) ?_; (case hd => rfl); (case hg => rfl); (case hr => first | (go_simp; done) | (go_simp; rfl)); (case hp => exact (Reps.one (show Kd.M (Kd.int .i64) _ _ _ 2 [.int .i64 2] from rfl) (Reps.one (show Kd.M (Kd.int .i64) _ _ _ 0 [.int .i64 0] from rfl) (Reps.none _ _)))); intro v14 w16 ho17 hb hg_ hnew_; clear hg_ hnew_; (first | rw [← Ny13.out] at ho17 | (simp only [Int.reduceToNat] at ho17; rw [← Ny13.out] at ho17)); have n0_ := Aside0.mk (Kd.R_below (by (with_reducible repeat (first | apply ra_ | apply rn_ | apply rd_)); exact HO4.out) hb); have n1_ := Aside0.mk (Kd.R_elder' (by (with_reducible repeat (first | apply ra_ | apply rn_ | apply rd_)); exact HO9.out) (Kd.R_base ho17) hb); have n2_ := Aside0.mk (Kd.R_elder' (by (with_reducible repeat (first | apply ra_ | apply rn_ | apply rd_)); exact HO12.out) (Kd.R_base ho17) hb); have n3_ := Aside0.mk (Kd.R_lower (Kd.R_new' (Kd.R_new' ho17 (Kd.R_lt (by (with_reducible repeat (first | apply ra_ | apply rn_ | apply rd_)); exact HO9.out))) (Kd.R_lt (by (with_reducible repeat (first | apply ra_ | apply rn_ | apply rd_)); exact HO12.out))) (below_size (by repeat (with_reducible first | exact HB.out | apply ba_ | apply bn_ | apply bd_ | refine bs_ ?_ GE5.out | refine bs_ ?_ GE6.out)))); have n4_ := Aside0.mk (blk_below (g := gb5) (o := .cells #[.int .i64 1, .int .i64 1, .slice Ao6 y2.length co6, .slice none 0 0] 30 (0, 0)) (by (with_reducible repeat (first | refine kn_ ?_ _ | refine kd_ ?_ | refine ka_ ?_ _)); exact BK5.out) hb); have n5_ := Aside0.mk (blk_below (g := gb6) (o := .cells #[.int .i64 1, .int .i64 1, .slice none 0 0, .slice none 0 0] 30 (0, 0)) (by (with_reducible repeat (first | refine kn_ ?_ _ | refine kd_ ?_ | refine ka_ ?_ _)); exact BK6.out) hb); have n6_ := Aside0.mk (below_step (by repeat (with_reducible first | exact HB.out | apply ba_ | apply bn_ | apply bd_ | refine bs_ ?_ GE5.out | refine bs_ ?_ GE6.out)) hb); clear HO4; clear HO9; clear HO12; clear BK5; clear BK6; clear HB; have HO4 := n0_; have HO9 := n1_; have HO12 := n2_; have HO15 := n3_; have BK5 := n4_; have BK6 := n5_; have HB := n6_; clear n0_ n1_ n2_ n3_ n4_ n5_ n6_; clear hb ho17) | ((with_reducible refine gate_dst (N := 18) rfl ?_); (try (refine gate_guard (by rfl) ?_; dsimp only)); refine Kd.R_lit (Kd.int .i64) _ 3 ?hg (N := 18) ?hd (xs := ([1, 0] : List Int)) (inner := [.int .i64 1, .int .i64 0]) (ok := fun _ => True) (okp := fun _ => True) ?hr ?hp (fun _ hk => hk) trivial (Below.refl _ _) (Nat.le_refl _) (by simp) ?_; (case hd => rfl); (case hg => rfl); (case hr => first | (go_simp; done) | (go_simp; rfl)); (case hp => exact (Reps.one (show Kd.M (Kd.int .i64) _ _ _ 1 [.int .i64 1] from rfl) (Reps.one (show Kd.M (Kd.int .i64) _ _ _ 0 [.int .i64 0] from rfl) (Reps.none _ _)))); intro v17 w18 ho19 hb hg_ hnew_; clear hg_ hnew_; (first | rw [← Ny16.out] at ho19 | (simp only [Int.reduceToNat] at ho19; rw [← Ny16.out] at ho19)); have n0_ := Aside0.mk (Kd.R_below (by (with_reducible repeat (first | apply ra_ | apply rn_ | apply rd_)); exact HO4.out) hb); have n1_ := Aside0.mk (Kd.R_elder' (by (with_reducible repeat (first | apply ra_ | apply rn_ | apply rd_)); exact HO9.out) (Kd.R_base ho19) hb); have n2_ := Aside0.mk (Kd.R_elder' (by (with_reducible repeat (first | apply ra_ | apply rn_ | apply rd_)); exact HO12.out) (Kd.R_base ho19) hb); have n3_ := Aside0.mk (Kd.R_elder' (by (with_reducible repeat (first | apply ra_ | apply rn_ | apply rd_)); exact HO15.out) (Kd.R_base ho19) hb); have n4_ := Aside0.mk (Kd.R_lower (Kd.R_new' (Kd.R_new' (Kd.R_new' ho19 (Kd.R_lt (by (with_reducible repeat (first | apply ra_ | apply rn_ | apply rd_)); exact HO9.out))) (Kd.R_lt (by (with_reducible repeat (first | apply ra_ | apply rn_ | apply rd_)); exact HO12.out))) (Kd.R_lt (by (with_reducible repeat (first | apply ra_ | apply rn_ | apply rd_)); exact HO15.out))) (below_size (by repeat (with_reducible first | exact HB.out | apply ba_ | apply bn_ | apply bd_ | refine bs_ ?_ GE5.out | refine bs_ ?_ GE6.out)))); have n5_ := Aside0.mk (blk_below (g := gb5) (o := .cells #[.int .i64 1, .int .i64 1, .slice Ao6 y2.length co6, .slice none 0 0] 30 (0, 0)) (by (with_reducible repeat (first | refine kn_ ?_ _ | refine kd_ ?_ | refine ka_ ?_ _)); exact BK5.out) hb); have n6_ := Aside0.mk (blk_below (g := gb6) (o := .cells #[.int .i64 1, .int .i64 1, .slice none 0 0, .slice none 0 0] 30 (0, 0)) (by (with_reducible repeat (first | refine kn_ ?_ _ | refine kd_ ?_ | refine ka_ ?_ _)); exact BK6.out) hb); have n7_ := Aside0.mk (below_step (by repeat (with_reducible first | exact HB.out | apply ba_ | apply bn_ | apply bd_ | refine bs_ ?_ GE5.out | refine bs_ ?_ GE6.out)) hb); clear HO4; clear HO9; clear HO12; clear HO15; clear BK5; clear BK6; clear HB; have HO4 := n0_; have HO9 := n1_; have HO12 := n2_; have HO15 := n3_; have HO18 := n4_; have BK5 := n5_; have BK6 := n6_; have HB := n7_; clear n0_ n1_ n2_ n3_ n4_ n5_ n6_ n7_; clear hb ho19) | ((with_reducible refine gate_dst (N := 19) rfl ?_); (try (refine gate_guard (by rfl) ?_; dsimp only)); refine Kd.R_lit (Kd.int .i64) _ 3 ?hg (N := 19) ?hd (xs := ([0, 1] : List Int)) (inner := [.int .i64 0, .int .i64 1]) (ok := fun _ => True) (okp := fun _ => True) ?hr ?hp (fun _ hk => hk) trivial (Below.refl _ _) (Nat.le_refl _) (by simp) ?_; (case hd => rfl); (case hg => rfl); (case hr => first | (go_simp; done) | (go_simp; rfl)); (case hp => exact (Reps.one (show Kd.M (Kd.int .i64) _ _ _ 0 [.int .i64 0] from rfl) (Reps.one (show Kd.M (Kd.int .i64) _ _ _ 1 [.int .i64 1] from rfl) (Reps.none _ _)))); intro v20 w20 ho21 hb hg_ hnew_; clear hg_ hnew_; (first | rw [← Ny19.out] at ho21 | (simp only [Int.reduceToNat] at ho21; rw [← Ny19.out] at ho21)); have n0_ := Aside0.mk (Kd.R_below (by (with_reducible repeat (first | apply ra_ | apply rn_ | apply rd_)); exact HO4.out) hb); have n1_ := Aside0.mk (Kd.R_elder' (by (with_reducible repeat (first | apply ra_ | apply rn_ | apply rd_)); exact HO9.out) (Kd.R_base ho21) hb); have n2_ := Aside0.mk (Kd.R_elder' (by (with_reducible repeat (first | apply ra_ | apply rn_ | apply rd_)); exact HO12.out) (Kd.R_base ho21) hb); have n3_ := Aside0.mk (Kd.R_elder' (by (with_reducible repeat (first | apply ra_ | apply rn_ | apply rd_)); exact HO15.out) (Kd.R_base ho21) hb); have n4_ := Aside0.mk (Kd.R_elder' (by (with_reducible repeat (first | apply ra_ | apply rn_ | apply rd_)); exact HO18.out) (Kd.R_base ho21) hb); have n5_ := Aside0.mk (Kd.R_lower (Kd.R_new' (Kd.R_new' (Kd.R_new' (Kd.R_new' ho21 (Kd.R_lt (by (with_reducible repeat (first | apply ra_ | apply rn_ | apply rd_)); exact HO9.out))) (Kd.R_lt (by (with_reducible repeat (first | apply ra_ | apply rn_ | apply rd_)); exact HO12.out))) (Kd.R_lt (by (with_reducible repeat (first | apply ra_ | apply rn_ | apply rd_)); exact HO15.out))) (Kd.R_lt (by (with_reducible repeat (first | apply ra_ | apply rn_ | apply rd_)); exact HO18.out))) (below_size (by repeat (with_reducible first | exact HB.out | apply ba_ | apply bn_ | apply bd_ | refine bs_ ?_ GE5.out | refine bs_ ?_ GE6.out)))); have n6_ := Aside0.mk (blk_below (g := gb5) (o := .cells #[.int .i64 1, .int .i64 1, .slice Ao6 y2.length co6, .slice none 0 0] 30 (0, 0)) (by (with_reducible repeat (first | refine kn_ ?_ _ | refine kd_ ?_ | refine ka_ ?_ _)); exact BK5.out) hb); have n7_ := Aside0.mk (blk_below (g := gb6) (o := .cells #[.int .i64 1, .int .i64 1, .slice none 0 0, .slice none 0 0] 30 (0, 0)) (by (with_reducible repeat (first | refine kn_ ?_ _ | refine kd_ ?_ | refine ka_ ?_ _)); exact BK6.out) hb); have n8_ := Aside0.mk (below_step (by repeat (with_reducible first | exact HB.out | apply ba_ | apply bn_ | apply bd_ | refine bs_ ?_ GE5.out | refine bs_ ?_ GE6.out)) hb); clear HO4; clear HO9; clear HO12; clear HO15; clear HO18; clear BK5; clear BK6; clear HB; have HO4 := n0_; have HO9 := n1_; have HO12 := n2_; have HO15 := n3_; have HO18 := n4_; have HO21 := n5_; have BK5 := n6_; have BK6 := n7_; have HB := n8_; clear n0_ n1_ n2_ n3_ n4_ n5_ n6_ n7_ n8_; clear hb ho21) | ((with_reducible refine gate_dst (N := 20) rfl ?_); (try (refine gate_guard (by rfl) ?_; dsimp only)); refine Kd.R_lit (Kd.int .i64) _ 3 ?hg (N := 20) ?hd (xs := ([1] : List Int)) (inner := [.int .i64 1]) (ok := fun _ => True) (okp := fun _ => True) ?hr ?hp (fun _ hk => hk) trivial (Below.refl _ _) (Nat.le_refl _) (by simp) ?_; (case hd => rfl); (case hg => rfl); (case hr => first | (go_simp; done) | (go_simp; rfl)); (case hp => exact (Reps.one (show Kd.M (Kd.int .i64) _ _ _ 1 [.int .i64 1] from rfl) (Reps.none _ _))); intro v23 w22 ho23 hb hg_ hnew_; clear hg_ hnew_; (first | rw [← Ny22.out] at ho23 | (simp only [Int.reduceToNat] at ho23; rw [← Ny22.out] at ho23)); have n0_ := Aside0.mk (Kd.R_below (by (with_reducible repeat (first | apply ra_ | apply rn_ | apply rd_)); exact HO4.out) hb); have n1_ := Aside0.mk (Kd.R_elder' (by (with_reducible repeat (first | apply ra_ | apply rn_ | apply rd_)); exact HO9.out) (Kd.R_base ho23) hb); have n2_ := Aside0.mk (Kd.R_elder' (by (with_reducible repeat (first | apply ra_ | apply rn_ | apply rd_)); exact HO12.out) (Kd.R_base ho23) hb); have n3_ := Aside0.mk (Kd.R_elder' (by (with_reducible repeat (first | apply ra_ | apply rn_ | apply rd_)); exact HO15.out) (Kd.R_base ho23) hb); have n4_ := Aside0.mk (Kd.R_elder' (by (with_reducible repeat (first | apply ra_ | apply rn_ | apply rd_)); exact HO18.out) (Kd.R_base ho23) hb); have n5_ := Aside0.mk (Kd.R_elder' (by (with_reducible repeat (first | apply ra_ | apply rn_ | apply rd_)); exact HO21.out) (Kd.R_base ho23) hb); have n6_ := Aside0.mk (Kd.R_lower (Kd.R_new' (Kd.R_new' (Kd.R_new' (Kd.R_new' (Kd.R_new' ho23 (Kd.R_lt (by (with_reducible repeat (first | apply ra_ | apply rn_ | apply rd_)); exact HO9.out))) (Kd.R_lt (by (with_reducible repeat (first | apply ra_ | apply rn_ | apply rd_)); exact HO12.out))) (Kd.R_lt (by (with_reducible repeat (first | apply ra_ | apply rn_ | apply rd_)); exact HO15.out))) (Kd.R_lt (by (with_reducible repeat (first | apply ra_ | apply rn_ | apply rd_)); exact HO18.out))) (Kd.R_lt (by (with_reducible repeat (first | apply ra_ | apply rn_ | apply rd_)); exact HO21.out))) (below_size (by repeat (with_reducible first | exact HB.out | apply ba_ | apply bn_ | apply bd_ | refine bs_ ?_ GE5.out | refine bs_ ?_ GE6.out)))); have n7_ := Aside0.mk (blk_below (g := gb5) (o := .cells #[.int .i64 1, .int .i64 1, .slice Ao6 y2.length co6, .slice none 0 0] 30 (0, 0)) (by (with_reducible repeat (first | refine kn_ ?_ _ | refine kd_ ?_ | refine ka_ ?_ _)); exact BK5.out) hb); have n8_ := Aside0.mk (blk_below (g := gb6) (o := .cells #[.int .i64 1, .int .i64 1, .slice none 0 0, .slice none 0 0] 30 (0, 0)) (by (with_reducible repeat (first | refine kn_ ?_ _ | refine kd_ ?_ | refine ka_ ?_ _)); exact BK6.out) hb); have n9_ := Aside0.mk (below_step (by repeat (with_reducible first | exact HB.out | apply ba_ | apply bn_ | apply bd_ | refine bs_ ?_ GE5.out | refine bs_ ?_ GE6.out)) hb); clear HO4; clear HO9; clear HO12; clear HO15; clear HO18; clear HO21; clear BK5; clear BK6; clear HB; have HO4 := n0_; have HO9 := n1_; have HO12 := n2_; have HO15 := n3_; have HO18 := n4_; have HO21 := n5_; have HO24 := n6_; have BK5 := n7_; have BK6 := n8_; have HB := n9_; clear n0_ n1_ n2_ n3_ n4_ n5_ n6_ n7_ n8_ n9_; clear hb ho23; obtain ⟨Ao24, co24, eo24⟩ := Kd.R_slice HO9.out; subst eo24; obtain ⟨Ao25, co25, eo25⟩ := Kd.R_slice HO12.out; subst eo25; obtain ⟨Ao26, co26, eo26⟩ := Kd.R_slice HO15.out; subst eo26; obtain ⟨Ao27, co27, eo27⟩ := Kd.R_slice HO18.out; subst eo27; obtain ⟨Ao28, co28, eo28⟩ := Kd.R_slice HO21.out; subst eo28; obtain ⟨Ao29, co29, eo29⟩ := Kd.R_slice HO24.out; subst eo29) | ((with_reducible refine gate_dst (N := 21) rfl ?_); (try (refine gate_guard (by rfl) ?_; dsimp only)); refine Kd.N_lit (Kd.slice 3 (Kd.int .i64)) _ 41 ?hg (N' := 21) ?hd (xs := ([y7, y10, y13, y16, y19, y22, []] : List (List Int))) (inner := [.slice Ao24 y7.length co24, .slice Ao25 y10.length co25, .slice Ao26 y13.length co26, .slice Ao27 y16.length co27, .slice Ao28 y19.length co28, .slice Ao29 y22.length co29, .slice none 0 0]) (ok := (fun k_ => some k_ ≠ (.slice Ao6 y2.length co6 : Value).ownBlock ∧ k_ ≠ gb5 ∧ k_ ≠ gb6)) (okp := (fun k_ => some k_ ≠ (.slice Ao6 y2.length co6 : Value).ownBlock ∧ k_ ≠ gb5 ∧ k_ ≠ gb6)) ?hr ?hp (fun _ hk => hk) ((show ∀ k_, w22.heap.size ≤ k_ → (fun k_ => some k_ ≠ (.slice Ao6 y2.length co6 : Value).ownBlock ∧ k_ ≠ gb5 ∧ k_ ≠ gb6) k_ from fun k_ hk => ⟨Kd.fresh' (Kd.R_lt (by (with_reducible repeat (first | apply ra_ | apply rn_ | apply rd_)); exact HO4.out)) k_ hk, Kd.freshB (g := gb5) (o := .cells #[.int .i64 1, .int .i64 1, .slice Ao6 y2.length co6, .slice none 0 0] 30 (0, 0)) (by (with_reducible repeat (first | refine kn_ ?_ _ | refine kd_ ?_ | refine ka_ ?_ _)); exact BK5.out) k_ hk, Kd.freshB (g := gb6) (o := .cells #[.int .i64 1, .int .i64 1, .slice none 0 0, .slice none 0 0] 30 (0, 0)) (by (with_reducible repeat (first | refine kn_ ?_ _ | refine kd_ ?_ | refine ka_ ?_ _)); exact BK6.out) k_ hk⟩) _ (Nat.le_refl _)) (Below.refl _ _) (Nat.le_refl _) (by simp) ?_; (case hd => rfl); (case hg => rfl); (case hr => first | (go_simp; done) | (go_simp; rfl)); (case hp => exact (Reps.one (show Kd.FK (Kd.slice 3 (Kd.int .i64)) _ _ y7 [.slice Ao24 y7.length co24] from (Kd.FK_slice_mk (Kd.R_reads' (Kd.R_mono (ok' := (fun k_ => some k_ ≠ (.slice Ao6 y2.length co6 : Value).ownBlock ∧ k_ ≠ gb5 ∧ k_ ≠ gb6)) (Kd.R_types (Kd.R_types (Kd.R_apart' (HO9.out) (Kd.R_typed HO4.out) (by decide)) BK5.out (by decide)) BK6.out (by decide)) (fun k_ hk => ⟨hk.1.1.2, ⟨hk.1.2, hk.2⟩⟩))).2.1 (Kd.R_F (Kd.R_mono (ok' := (fun k_ => some k_ ≠ (.slice Ao6 y2.length co6 : Value).ownBlock ∧ k_ ≠ gb5 ∧ k_ ≠ gb6)) (Kd.R_types (Kd.R_types (Kd.R_apart' (HO9.out) (Kd.R_typed HO4.out) (by decide)) BK5.out (by decide)) BK6.out (by decide)) (fun k_ hk => ⟨hk.1.1.2, ⟨hk.1.2, hk.2⟩⟩))))) (Reps.one (show Kd.FK (Kd.slice 3 (Kd.int .i64)) _ _ y10 [.slice Ao25 y10.length co25] from (Kd.FK_slice_mk (Kd.R_reads' (Kd.R_mono (ok' := (fun k_ => some k_ ≠ (.slice Ao6 y2.length co6 : Value).ownBlock ∧ k_ ≠ gb5 ∧ k_ ≠ gb6)) (Kd.R_types (Kd.R_types (Kd.R_apart' (HO12.out) (Kd.R_typed HO4.out) (by decide)) BK5.out (by decide)) BK6.out (by decide)) (fun k_ hk => ⟨hk.1.1.2, ⟨hk.1.2, hk.2⟩⟩))).2.1 (Kd.R_F (Kd.R_mono (ok' := (fun k_ => some k_ ≠ (.slice Ao6 y2.length co6 : Value).ownBlock ∧ k_ ≠ gb5 ∧ k_ ≠ gb6)) (Kd.R_types (Kd.R_types (Kd.R_apart' (HO12.out) (Kd.R_typed HO4.out) (by decide)) BK5.out (by decide)) BK6.out (by decide)) (fun k_ hk => ⟨hk.1.1.2, ⟨hk.1.2, hk.2⟩⟩))))) (Reps.one (show Kd.FK (Kd.slice 3 (Kd.int .i64)) _ _ y13 [.slice Ao26 y13.length co26] from (Kd.FK_slice_mk (Kd.R_reads' (Kd.R_mono (ok' := (fun k_ => some k_ ≠ (.slice Ao6 y2.length co6 : Value).ownBlock ∧ k_ ≠ gb5 ∧ k_ ≠ gb6)) (Kd.R_types (Kd.R_types (Kd.R_apart' (HO15.out) (Kd.R_typed HO4.out) (by decide)) BK5.out (by decide)) BK6.out (by decide)) (fun k_ hk => ⟨hk.1.1.2, ⟨hk.1.2, hk.2⟩⟩))).2.1 (Kd.R_F (Kd.R_mono (ok' := (fun k_ => some k_ ≠ (.slice Ao6 y2.length co6 : Value).ownBlock ∧ k_ ≠ gb5 ∧ k_ ≠ gb6)) (Kd.R_types (Kd.R_types (Kd.R_apart' (HO15.out) (Kd.R_typed HO4.out) (by decide)) BK5.out (by decide)) BK6.out (by decide)) (fun k_ hk => ⟨hk.1.1.2, ⟨hk.1.2, hk.2⟩⟩))))) (Reps.one (show Kd.FK (Kd.slice 3 (Kd.int .i64)) _ _ y16 [.slice Ao27 y16.length co27] from (Kd.FK_slice_mk (Kd.R_reads' (Kd.R_mono (ok' := (fun k_ => some k_ ≠ (.slice Ao6 y2.length co6 : Value).ownBlock ∧ k_ ≠ gb5 ∧ k_ ≠ gb6)) (Kd.R_types (Kd.R_types (Kd.R_apart' (HO18.out) (Kd.R_typed HO4.out) (by decide)) BK5.out (by decide)) BK6.out (by decide)) (fun k_ hk => ⟨hk.1.1.2, ⟨hk.1.2, hk.2⟩⟩))).2.1 (Kd.R_F (Kd.R_mono (ok' := (fun k_ => some k_ ≠ (.slice Ao6 y2.length co6 : Value).ownBlock ∧ k_ ≠ gb5 ∧ k_ ≠ gb6)) (Kd.R_types (Kd.R_types (Kd.R_apart' (HO18.out) (Kd.R_typed HO4.out) (by decide)) BK5.out (by decide)) BK6.out (by decide)) (fun k_ hk => ⟨hk.1.1.2, ⟨hk.1.2, hk.2⟩⟩))))) (Reps.one (show Kd.FK (Kd.slice 3 (Kd.int .i64)) _ _ y19 [.slice Ao28 y19.length co28] from (Kd.FK_slice_mk (Kd.R_reads' (Kd.R_mono (ok' := (fun k_ => some k_ ≠ (.slice Ao6 y2.length co6 : Value).ownBlock ∧ k_ ≠ gb5 ∧ k_ ≠ gb6)) (Kd.R_types (Kd.R_types (Kd.R_apart' (HO21.out) (Kd.R_typed HO4.out) (by decide)) BK5.out (by decide)) BK6.out (by decide)) (fun k_ hk => ⟨hk.1.1.2, ⟨hk.1.2, hk.2⟩⟩))).2.1 (Kd.R_F (Kd.R_mono (ok' := (fun k_ => some k_ ≠ (.slice Ao6 y2.length co6 : Value).ownBlock ∧ k_ ≠ gb5 ∧ k_ ≠ gb6)) (Kd.R_types (Kd.R_types (Kd.R_apart' (HO21.out) (Kd.R_typed HO4.out) (by decide)) BK5.out (by decide)) BK6.out (by decide)) (fun k_ hk => ⟨hk.1.1.2, ⟨hk.1.2, hk.2⟩⟩))))) (Reps.one (show Kd.FK (Kd.slice 3 (Kd.int .i64)) _ _ y22 [.slice Ao29 y22.length co29] from (Kd.FK_slice_mk (Kd.R_reads' (Kd.R_mono (ok' := (fun k_ => some k_ ≠ (.slice Ao6 y2.length co6 : Value).ownBlock ∧ k_ ≠ gb5 ∧ k_ ≠ gb6)) (Kd.R_types (Kd.R_types (Kd.R_apart' (HO24.out) (Kd.R_typed HO4.out) (by decide)) BK5.out (by decide)) BK6.out (by decide)) (fun k_ hk => ⟨hk.1.1.2, ⟨hk.1.2, hk.2⟩⟩))).2.1 (Kd.R_F (Kd.R_mono (ok' := (fun k_ => some k_ ≠ (.slice Ao6 y2.length co6 : Value).ownBlock ∧ k_ ≠ gb5 ∧ k_ ≠ gb6)) (Kd.R_types (Kd.R_types (Kd.R_apart' (HO24.out) (Kd.R_typed HO4.out) (by decide)) BK5.out (by decide)) BK6.out (by decide)) (fun k_ hk => ⟨hk.1.1.2, ⟨hk.1.2, hk.2⟩⟩))))) (Reps.one (show Kd.FK (Kd.slice 3 (Kd.int .i64)) _ _ [] [.slice none 0 0] from (Kd.FK_slice_mk (Nat.le_refl _) (Kd.F_nil _ _ _))) (Reps.none _ _))))))))); intro v26 w30 ho31 hb hg_ hnew_; clear hg_ hnew_; (first | rw [← Ny25.out] at ho31 | (simp only [Int.reduceToNat] at ho31; rw [← Ny25.out] at ho31)); have n0_ := Aside0.mk (Kd.R_below (by (with_reducible repeat (first | apply ra_ | apply rn_ | apply rd_)); exact HO4.out) hb); have n1_ := Aside0.mk (Kd.N_lower ho31 (below_size (by repeat (with_reducible first | exact HB.out | apply ba_ | apply bn_ | apply bd_ | refine bs_ ?_ GE5.out | refine bs_ ?_ GE6.out)))); have n2_ := Aside0.mk (blk_below (g := gb5) (o := .cells #[.int .i64 1, .int .i64 1, .slice Ao6 y2.length co6, .slice none 0 0] 30 (0, 0)) (by (with_reducible repeat (first | refine kn_ ?_ _ | refine kd_ ?_ | refine ka_ ?_ _)); exact BK5.out) hb); have n3_ := Aside0.mk (blk_below (g := gb6) (o := .cells #[.int .i64 1, .int .i64 1, .slice none 0 0, .slice none 0 0] 30 (0, 0)) (by (with_reducible repeat (first | refine kn_ ?_ _ | refine kd_ ?_ | refine ka_ ?_ _)); exact BK6.out) hb); have n4_ := Aside0.mk (below_step (by repeat (with_reducible first | exact HB.out | apply ba_ | apply bn_ | apply bd_ | refine bs_ ?_ GE5.out | refine bs_ ?_ GE6.out)) hb); clear HO4; clear BK5; clear BK6; clear HB; clear HO12; clear HO15; clear HO18; clear HO21; clear HO24; clear HO9; have HO4 := n0_; have HO27 := n1_; have BK5 := n2_; have BK6 := n3_; have HB := n4_; clear n0_ n1_ n2_ n3_ n4_; clear hb ho31) | ((with_reducible refine gate_dst (N := 22) rfl ?_); (try (refine gate_guard (by rfl) ?_; dsimp only)); refine Kd.R_lit (Kd.int .i64) _ 3 ?hg (N := 22) ?hd (xs := ([1, 2, 2, 0, 0, 0, 0] : List Int)) (inner := [.int .i64 1, .int .i64 2, .int .i64 2, .int .i64 0, .int .i64 0, .int .i64 0, .int .i64 0]) (ok := fun _ => True) (okp := fun _ => True) ?hr ?hp (fun _ hk => hk) trivial (Below.refl _ _) (Nat.le_refl _) (by simp) ?_; (case hd => rfl); (case hg => rfl); (case hr => first | (go_simp; done) | (go_simp; rfl)); (case hp => exact (Reps.one (show Kd.M (Kd.int .i64) _ _ _ 1 [.int .i64 1] from rfl) (Reps.one (show Kd.M (Kd.int .i64) _ _ _ 2 [.int .i64 2] from rfl) (Reps.one (show Kd.M (Kd.int .i64) _ _ _ 2 [.int .i64 2] from rfl) (Reps.one (show Kd.M (Kd.int .i64) _ _ _ 0 [.int .i64 0] from rfl) (Reps.one (show Kd.M (Kd.int .i64) _ _ _ 0 [.int .i64 0] from rfl) (Reps.one (show Kd.M (Kd.int .i64) _ _ _ 0 [.int .i64 0] from rfl) (Reps.one (show Kd.M (Kd.int .i64) _ _ _ 0 [.int .i64 0] from rfl) (Reps.none _ _))))))))); intro v29 w32 ho33 hb hg_ hnew_; clear hg_ hnew_; (first | rw [← Ny28.out] at ho33 | (simp only [Int.reduceToNat] at ho33; rw [← Ny28.out] at ho33)); have n0_ := Aside0.mk (Kd.R_below (by (with_reducible repeat (first | apply ra_ | apply rn_ | apply rd_)); exact HO4.out) hb); have n1_ := Aside0.mk (Kd.N_elder' (by (with_reducible repeat (first | apply Kd.N_alloc | apply Kd.N_drewN | apply Kd.N_drew)); exact HO27.out) (Kd.R_base ho33) hb); have n2_ := Aside0.mk (Kd.R_lower ho33 (below_size (by repeat (with_reducible first | exact HB.out | apply ba_ | apply bn_ | apply bd_ | refine bs_ ?_ GE5.out | refine bs_ ?_ GE6.out)))); have n3_ := Aside0.mk (blk_below (g := gb5) (o := .cells #[.int .i64 1, .int .i64 1, .slice Ao6 y2.length co6, .slice none 0 0] 30 (0, 0)) (by (with_reducible repeat (first | refine kn_ ?_ _ | refine kd_ ?_ | refine ka_ ?_ _)); exact BK5.out) hb); have n4_ := Aside0.mk (blk_below (g := gb6) (o := .cells #[.int .i64 1, .int .i64 1, .slice none 0 0, .slice none 0 0] 30 (0, 0)) (by (with_reducible repeat (first | refine kn_ ?_ _ | refine kd_ ?_ | refine ka_ ?_ _)); exact BK6.out) hb); have n5_ := Aside0.mk (below_step (by repeat (with_reducible first | exact HB.out | apply ba_ | apply bn_ | apply bd_ | refine bs_ ?_ GE5.out | refine bs_ ?_ GE6.out)) hb); clear HO4; clear HO27; clear BK5; clear BK6; clear HB; have HO4 := n0_; have HO27 := n1_; have HO30 := n2_; have BK5 := n3_; have BK6 := n4_; have HB := n5_; clear n0_ n1_ n2_ n3_ n4_ n5_; clear hb ho33) | ((with_reducible refine gate_dst (N := 23) rfl ?_); (try (refine gate_guard (by rfl) ?_; dsimp only)); refine Kd.R_lit (Kd.int .i64) _ 3 ?hg (N := 23) ?hd (xs := ([0, 0, 0, 1, 1, 1, 2] : List Int)) (inner := [.int .i64 0, .int .i64 0, .int .i64 0, .int .i64 1, .int .i64 1, .int .i64 1, .int .i64 2]) (ok := fun _ => True) (okp := fun _ => True) ?hr ?hp (fun _ hk => hk) trivial (Below.refl _ _) (Nat.le_refl _) (by simp) ?_; (case hd => rfl); (case hg => rfl); (case hr => first | (go_simp; done) | (go_simp; rfl)); (case hp => exact (Reps.one (show Kd.M (Kd.int .i64) _ _ _ 0 [.int .i64 0] from rfl) (Reps.one (show Kd.M (Kd.int .i64) _ _ _ 0 [.int .i64 0] from rfl) (Reps.one (show Kd.M (Kd.int .i64) _ _ _ 0 [.int .i64 0] from rfl) (Reps.one (show Kd.M (Kd.int .i64) _ _ _ 1 [.int .i64 1] from rfl) (Reps.one (show Kd.M (Kd.int .i64) _ _ _ 1 [.int .i64 1] from rfl) (Reps.one (show Kd.M (Kd.int .i64) _ _ _ 1 [.int .i64 1] from rfl) (Reps.one (show Kd.M (Kd.int .i64) _ _ _ 2 [.int .i64 2] from rfl) (Reps.none _ _))))))))); intro v32 w34 ho35 hb hg_ hnew_; clear hg_ hnew_; (first | rw [← Ny31.out] at ho35 | (simp only [Int.reduceToNat] at ho35; rw [← Ny31.out] at ho35)); have n0_ := Aside0.mk (Kd.R_below (by (with_reducible repeat (first | apply ra_ | apply rn_ | apply rd_)); exact HO4.out) hb); have n1_ := Aside0.mk (Kd.N_elder' (by (with_reducible repeat (first | apply Kd.N_alloc | apply Kd.N_drewN | apply Kd.N_drew)); exact HO27.out) (Kd.R_base ho35) hb); have n2_ := Aside0.mk (Kd.R_elder' (by (with_reducible repeat (first | apply ra_ | apply rn_ | apply rd_)); exact HO30.out) (Kd.R_base ho35) hb); have n3_ := Aside0.mk (Kd.R_lower (Kd.R_new' ho35 (Kd.R_lt (by (with_reducible repeat (first | apply ra_ | apply rn_ | apply rd_)); exact HO30.out))) (below_size (by repeat (with_reducible first | exact HB.out | apply ba_ | apply bn_ | apply bd_ | refine bs_ ?_ GE5.out | refine bs_ ?_ GE6.out)))); have n4_ := Aside0.mk (blk_below (g := gb5) (o := .cells #[.int .i64 1, .int .i64 1, .slice Ao6 y2.length co6, .slice none 0 0] 30 (0, 0)) (by (with_reducible repeat (first | refine kn_ ?_ _ | refine kd_ ?_ | refine ka_ ?_ _)); exact BK5.out) hb); have n5_ := Aside0.mk (blk_below (g := gb6) (o := .cells #[.int .i64 1, .int .i64 1, .slice none 0 0, .slice none 0 0] 30 (0, 0)) (by (with_reducible repeat (first | refine kn_ ?_ _ | refine kd_ ?_ | refine ka_ ?_ _)); exact BK6.out) hb); have n6_ := Aside0.mk (below_step (by repeat (with_reducible first | exact HB.out | apply ba_ | apply bn_ | apply bd_ | refine bs_ ?_ GE5.out | refine bs_ ?_ GE6.out)) hb); clear HO4; clear HO27; clear HO30; clear BK5; clear BK6; clear HB; have HO4 := n0_; have HO27 := n1_; have HO30 := n2_; have HO33 := n3_; have BK5 := n4_; have BK6 := n5_; have HB := n6_; clear n0_ n1_ n2_ n3_ n4_ n5_ n6_; clear hb ho35))
  go_loopg [6] k (fun kq v6 w' => ∃ (x6_1 : Int), v6 = .int .i64 x6_1 ∧ Aside0 (diwanlaw21_BitsForms.l0 kq y25 y28 y31 x6_1 1 1 y2 1 1 = some r) ∧ Aside0 (kq ≤ k) ∧ Aside0 (Kd.N (Kd.slice 3 (Kd.int .i64)) 41 w' w.heap.size (fun k_ => some k_ ≠ (v29 : Value).ownBlock ∧ some k_ ≠ (v32 : Value).ownBlock ∧ some k_ ≠ ((.slice Ao6 y2.length co6) : Value).ownBlock ∧ k_ ≠ gb5 ∧ k_ ≠ gb6) v26 y25) ∧ Aside0 (Kd.R (Kd.int .i64) 3 w' w.heap.size (fun k_ => some k_ ≠ (v32 : Value).ownBlock) v29 y28) ∧ Aside0 (Kd.R (Kd.int .i64) 3 w' w.heap.size (fun k_ => some k_ ≠ (v29 : Value).ownBlock) v32 y31) ∧ Aside0 (Kd.R k24 24 w' w.heap.size (fun _ => True) (.slice Ao6 y2.length co6) y2) ∧ Aside0 (w'.heap[gb5]? = some (.cells #[.int .i64 1, .int .i64 1, (.slice Ao6 y2.length co6), (.slice none 0 0)] 30 (0, 0))) ∧ Aside0 (w'.heap[gb6]? = some (.cells #[.int .i64 1, .int .i64 1, (.slice none 0 0), (.slice none 0 0)] 30 (0, 0))) ∧ Aside0 (Below w.heap.size w w'))
  case atStart => exact ⟨(0), (by first | rfl | (simp; done) | (simp [*]; done)), H', ⟨Nat.le_refl _⟩, ⟨by (with_reducible repeat (first | apply Kd.N_alloc | apply Kd.N_drewN | apply Kd.N_drew)); exact Kd.N_mono HO27.out (fun _ hk => ⟨hk.1.2, ⟨hk.2, ⟨hk.1.1.1, ⟨hk.1.1.2.1, hk.1.1.2.2⟩⟩⟩⟩)⟩, ⟨by (with_reducible repeat (first | apply ra_ | apply rn_ | apply rd_)); exact Kd.R_mono HO30.out (fun _ hk => hk.2)⟩, ⟨by (with_reducible repeat (first | apply ra_ | apply rn_ | apply rd_)); exact Kd.R_mono HO33.out (fun _ hk => hk.2)⟩, ⟨by (with_reducible repeat (first | apply ra_ | apply rn_ | apply rd_)); exact HO4.out⟩, ⟨by (with_reducible repeat (first | refine kn_ ?_ _ | refine kd_ ?_ | refine ka_ ?_ _)); exact BK5.out⟩, ⟨by (with_reducible repeat (first | refine kn_ ?_ _ | refine kd_ ?_ | refine ka_ ?_ _)); exact BK6.out⟩, ⟨by repeat (with_reducible first | exact HB.out | apply ba_ | apply bn_ | apply bd_ | refine bs_ ?_ GE5.out | refine bs_ ?_ GE6.out)⟩⟩
  case round =>
   clear H'
   try clear c1
   try clear c2
   try clear p2
   try clear c4
   try clear c8
   try clear c10
   try clear c27
   try clear hcz11_0
   try clear hcz11_1
   try clear hcz11_2
   try clear hcz11_3
   try clear hcz8_0
   try clear hcz8_1
   try clear hcz8_2
   try clear hcz8_3
   try clear hfz11_0
   try clear hfz11_1
   try clear hfz11_2
   try clear hfz11_3
   try clear hfz8_0
   try clear hfz8_1
   try clear hfz8_2
   try clear hfz8_3
   obtain ⟨x6_1, rfl, HA, HK1, HO_3, HO_4, HO_5, HO_6002, BK5, BK6, HB⟩ := hrel
   cases gk with
   | zero => exact absurd HA.out (by simp [diwanlaw21_BitsForms.l0])
   | succ k1 =>
    have H := HA.out
    clear HA
    simp only [diwanlaw21_BitsForms.l0] at H
    by_cases c36 : x6_1 < (y25.length : Int)
    ·rw [if_pos c36] at H
     have c36b0 : decide (x6_1 < (y25.length : Int)) = true := decide_eq_true c36
     clear c36
     by_cases c37 : 0 ≤ x6_1
     ·rw [if_pos c37] at H
      have c37b0 : decide (0 ≤ x6_1) = true := decide_eq_true c37
      clear c37
      replace H := Option.bind_eq_some_iff.mp H
      obtain ⟨t35, A380, H⟩ := H
      (try dsimp only at H)
      have A38 := Aside0.mk A380
      clear A380
      by_cases c39 : x6_1 < (y28.length : Int)
      ·rw [if_pos c39] at H
       have c39b0 : decide (x6_1 < (y28.length : Int)) = true := decide_eq_true c39
       clear c39
       by_cases c40 : t35 = (rd y28 x6_1)
       ·rw [if_pos c40] at H
        have c40b0 : (t35 == (rd y28 x6_1)) = true := beq_iff_eq.mpr c40
        have c40b1 : (t35 != (rd y28 x6_1)) = false := bne_eq_false_iff_eq.mpr c40
        clear c40
        replace H := Option.bind_eq_some_iff.mp H
        obtain ⟨t38, A410, H⟩ := H
        (try dsimp only at H)
        have A41 := Aside0.mk A410
        clear A410
        by_cases c42 : x6_1 < (y31.length : Int)
        ·rw [if_pos c42] at H
         have c42b0 : decide (x6_1 < (y31.length : Int)) = true := decide_eq_true c42
         clear c42
         by_cases c43 : (t38.length : Int) = (rd y31 x6_1)
         ·rw [if_pos c43] at H
          have c43b0 : ((t38.length : Int) == (rd y31 x6_1)) = true := beq_iff_eq.mpr c43
          have c43b1 : ((t38.length : Int) != (rd y31 x6_1)) = false := bne_eq_false_iff_eq.mpr c43
          clear c43
          have H' := Aside0.mk H
          clear H
          obtain ⟨Ao44, co44, eo44⟩ := Kd.N_slice HO_3.out
          subst eo44
          try go_wp2
          have n0_ := Aside0.mk (Kd.N_drew HO_3.out)
          have n1_ := Aside0.mk (Kd.R_drew HO_4.out)
          have n2_ := Aside0.mk (Kd.R_drew HO_5.out)
          have n3_ := Aside0.mk (Kd.R_drew HO_6002.out)
          have n4_ := Aside0.mk (blk_drew BK5.out)
          have n5_ := Aside0.mk (blk_drew BK6.out)
          have n6_ := Aside0.mk (below_drew1 HB.out)
          clear HO_3
          clear HO_4
          clear HO_5
          clear HO_6002
          clear BK5
          clear BK6
          clear HB
          have HO_3 := n0_
          have HO_4 := n1_
          have HO_5 := n2_
          have HO_6002 := n3_
          have BK5 := n4_
          have BK6 := n5_
          have HB := n6_
          clear n0_ n1_ n2_ n3_ n4_ n5_ n6_
          have p34 : 0 ≤ (x6_1 : Int) := of_decide_eq_true (by first | (with_reducible assumption) | assumption)
          have q34 : x6_1 < (y25.length : Int) := of_decide_eq_true (by first | (with_reducible assumption) | assumption)
          obtain ⟨ad34, A34_0, c34_0, e34, hx34_0, hl34_0, hi34_0⟩ := at_L13 (Kd.N_reads' HO_3.out).2.2 x6_1 p34 q34
          cases e34
          obtain ⟨ce34, hce34, hMe34, hcc34⟩ := Kd.N_get HO_3.out [] x6_1 p34 (by first | exact q34 | exact of_decide_eq_true (by first | (with_reducible assumption) | assumption) | (have e_ := (Kd.N_reads' HO_3.out).1; omega))
          obtain ⟨ua34_0, uc34_0, rfl, ul34_0, ge34_0⟩ := Kd.FK_slice_open hMe34
          have hv34_0 := hcc34 0 _ rfl
          rw [Nat.add_zero, show ((Kd.slice 3 (Kd.int .i64))).sz = 1 from rfl, Nat.mul_one] at hv34_0
          replace hv34_0 := Option.some.inj (hv34_0.symm.trans hx34_0)
          injection hv34_0 with hva_ hvn_ hvc_
          rw [hva_] at ge34_0
          rw [hvc_] at ul34_0
          have HL34_0 := Aside0.mk (show Kd.V (Kd.int .i64) 3 _ w.heap.size _ _ (rd_L13 y25 x6_1) from Kd.V_mk ul34_0 ge34_0)
          clear hva_ hvn_ hvc_ ge34_0 ul34_0
          clear hcc34 hce34
          have HR34_0 := Aside0.mk hi34_0
          have HC34_0 := Aside0.mk hl34_0
          clear hi34_0 hl34_0
          replace p34 := eq_true p34
          replace q34 := eq_true q34
          obtain ⟨Ao46, co46, eo46⟩ := Kd.R_slice HO_4.out
          (first | subst eo46 | (injection eo46 with f1_ f2_ f3_; have f4_ := f1_.symm; have f5_ := f3_.symm; clear f1_ f2_ f3_; subst f4_; subst f5_))
          have p36 : 0 ≤ (x6_1 : Int) := of_decide_eq_true (by first | (with_reducible assumption) | assumption)
          have q36 : x6_1 < (y28.length : Int) := of_decide_eq_true (by first | (with_reducible assumption) | assumption)
          obtain ⟨ad36, e36, hx36_0⟩ := Kd.at_int (Kd.R_reads' HO_4.out).2.2 x6_1 p36 q36
          cases e36
          replace p36 := eq_true p36
          replace q36 := eq_true q36
          have p37 : 0 ≤ (x6_1 : Int) := of_decide_eq_true (by first | (with_reducible assumption) | assumption)
          have q37 : x6_1 < (y25.length : Int) := of_decide_eq_true (by first | (with_reducible assumption) | assumption)
          obtain ⟨ad37, A37_0, c37_0, e37, hx37_0, hl37_0, hi37_0⟩ := at_L13 (Kd.N_reads' HO_3.out).2.2 x6_1 p37 q37
          obtain rfl : ad34 = ad37 := (by injection e37)
          obtain ⟨ce37, hce37, hMe37, hcc37⟩ := Kd.N_get HO_3.out [] x6_1 p37 (by first | exact q37 | exact of_decide_eq_true (by first | (with_reducible assumption) | assumption) | (have e_ := (Kd.N_reads' HO_3.out).1; omega))
          obtain ⟨ua37_0, uc37_0, rfl, ul37_0, ge37_0⟩ := Kd.FK_slice_open hMe37
          have hv37_0 := hcc37 0 _ rfl
          rw [Nat.add_zero, show ((Kd.slice 3 (Kd.int .i64))).sz = 1 from rfl, Nat.mul_one] at hv37_0
          replace hv37_0 := Option.some.inj (hv37_0.symm.trans hx37_0)
          injection hv37_0 with hva_ hvn_ hvc_
          rw [hva_] at ge37_0
          rw [hvc_] at ul37_0
          have HL37_0 := Aside0.mk (show Kd.V (Kd.int .i64) 3 _ w.heap.size _ _ (rd_L13 y25 x6_1) from Kd.V_mk ul37_0 ge37_0)
          clear hva_ hvn_ hvc_ ge37_0 ul37_0
          clear hcc37 hce37
          have HR37_0 := Aside0.mk hi37_0
          have HC37_0 := Aside0.mk hl37_0
          clear hi37_0 hl37_0
          replace p37 := eq_true p37
          replace q37 := eq_true q37
          obtain ⟨AoZ, coZ, eoZ⟩ := Kd.R_slice HO_5.out
          subst eoZ
          have p41 : 0 ≤ (x6_1 : Int) := of_decide_eq_true (by first | (with_reducible assumption) | assumption)
          have q41 : x6_1 < (y31.length : Int) := of_decide_eq_true (by first | (with_reducible assumption) | assumption)
          obtain ⟨ad41, e41, hx41_0⟩ := Kd.at_int (Kd.R_reads' HO_5.out).2.2 x6_1 p41 q41
          cases e41
          replace p41 := eq_true p41
          replace q41 := eq_true q41
          refine start_ (n := 25) (S := fun w' => w'.cell? ⟨gb5, 0, none⟩ = some (.int .i64 1) ∧ w'.cell? ⟨gb5, 1, none⟩ = some (.int .i64 1) ∧ w'.cell? ⟨gb5, 2, none⟩ = some (.slice Ao6 y2.length co6) ∧ w'.cell? ⟨gb5, 3, none⟩ = some (.slice none 0 0) ∧ w'.cell? (ad34.add (x6_1).toNat) = some (.slice A34_0 (rd_L13 y25 x6_1).length c34_0) ∧ w'.cell? (ad36.add (x6_1).toNat) = some (.int .i64 (rd y28 x6_1)) ∧ w'.cell? (ad34.add (x6_1).toNat) = some (.slice A37_0 (rd_L13 y25 x6_1).length c37_0) ∧ w'.cell? (ad41.add (x6_1).toNat) = some (.int .i64 (rd y31 x6_1))) (ds := []) #[false, false, false, false, false, false, false, false, false, false, false, false, false, false, false, false, false, false, false, false, false, false, false, false, false] (by kernel_rfl) rfl rfl ⟨(blk_cell BK5.out 0).trans rfl, (blk_cell BK5.out 1).trans rfl, (blk_cell BK5.out 2).trans rfl, (blk_cell BK5.out 3).trans rfl, hx34_0, hx36_0, hx37_0, hx41_0⟩ (fun hHeld => ?_); refine with_tabW diwanlaw21_BitsForms.tab10 diwanlaw21_BitsForms.bits10 (fun HT_ HW_ => ?_)
          generalize wr.drew = w45 at HO_3 HO_4 HO_5 HO_6002 BK5 BK6 HB HL34_0 HL37_0 HR34_0 HR37_0 hx34_0 hx36_0 hx37_0 hx41_0 hHeld ⊢
          refine pure_ (i := 1) (N := some 31) (v := ?_) (a' := ?_) #[false, true, false, false, false, false, false, false, false, false, false, false, false, false, false, false, false, false, false, false, false, false, false, false, false] rfl rfl (any_of HT_.out (by kernel_rfl)) (fun _ _ _ h => h) (Or.inl ⟨by rfl, ?_⟩) ?_ ?_
          rotate_left
          ·intro w'
           go_simp
           with_reducible rfl
          rotate_left
          ·simp only [Act.put, List.setIfInBounds_toArray, List.set_cons_zero, List.set_cons_succ, i64_w, i32_w]
           rfl
          refine pure_ (i := 2) (N := some 32) (v := ?_) (a' := ?_) #[false, true, true, false, false, false, false, false, false, false, false, false, false, false, false, false, false, false, false, false, false, false, false, false, false] rfl rfl (any_of HT_.out (by kernel_rfl)) (fun _ _ _ h => h) (Or.inl ⟨by rfl, ?_⟩) ?_ ?_
          rotate_left
          ·intro w'
           go_simp
           with_reducible rfl
          rotate_left
          ·simp only [Act.put, List.setIfInBounds_toArray, List.set_cons_zero, List.set_cons_succ, i64_w, i32_w]
           rfl
          refine pure_ (i := 3) (N := some 33) (v := ?_) (a' := ?_) #[false, true, true, true, false, false, false, false, false, false, false, false, false, false, false, false, false, false, false, false, false, false, false, false, false] rfl rfl (any_of HT_.out (by kernel_rfl)) (fun _ _ _ h => h) (Or.inl ⟨by rfl, ?_⟩) ?_ ?_
          rotate_left
          ·intro w'
           go_simp
           with_reducible rfl
          rotate_left
          ·simp only [Act.put, List.setIfInBounds_toArray, List.set_cons_zero, List.set_cons_succ, i64_w, i32_w]
           rfl
          refine pure_ (i := 6) (N := some 36) (v := ?_) (a' := ?_) #[false, true, true, true, false, false, true, false, false, false, false, false, false, false, false, false, false, false, false, false, false, false, false, false, false] rfl rfl (any_of HT_.out (by kernel_rfl)) (fun _ _ _ h => h) (Or.inl ⟨by rfl, ?_⟩) ?_ ?_
          rotate_left
          ·intro w'
           go_simp
           with_reducible rfl
          rotate_left
          ·simp only [Act.put, List.setIfInBounds_toArray, List.set_cons_zero, List.set_cons_succ, i64_w, i32_w]
           rfl
          refine pure_ (i := 7) (N := some 37) (v := ?_) (a' := ?_) #[false, true, true, true, false, false, true, true, false, false, false, false, false, false, false, false, false, false, false, false, false, false, false, false, false] rfl rfl (any_of HT_.out (by kernel_rfl)) (fun _ _ _ h => h) (Or.inl ⟨by rfl, ?_⟩) ?_ ?_
          rotate_left
          ·intro w'
           go_simp
           with_reducible rfl
          rotate_left
          ·simp only [Act.put, List.setIfInBounds_toArray, List.set_cons_zero, List.set_cons_succ, i64_w, i32_w]
           rfl
          refine pure_ (i := 8) (N := some 38) (v := ?_) (a' := ?_) #[false, true, true, true, false, false, true, true, true, false, false, false, false, false, false, false, false, false, false, false, false, false, false, false, false] rfl rfl (any_of HT_.out (by kernel_rfl)) (fun _ _ _ h => h) (Or.inl ⟨by rfl, ?_⟩) ?_ ?_
          rotate_left
          ·intro w'
           go_simp
           with_reducible rfl
          rotate_left
          ·simp only [Act.put, List.setIfInBounds_toArray, List.set_cons_zero, List.set_cons_succ, i64_w, i32_w]
           rfl
          refine take_ (i := 0) (N := some 30) (v := ?_) (a' := ?_) #[true, true, true, true, false, false, true, true, true, false, false, false, false, false, false, false, false, false, false, false, false, false, false, false, false] rfl rfl (take_ofW HT_.out HW_.out (by kernel_rfl)) (fun _ _ _ h => h) (Or.inl ⟨by rfl, ?_⟩) hHeld ?_ ?_
          rotate_left
          ·rintro w' ⟨s0, s1, s2, s3, s4, s5, s6, s7⟩
           go_simp
           with_reducible rfl
          rotate_left
          ·simp only [Act.put, List.setIfInBounds_toArray, List.set_cons_zero, List.set_cons_succ, i64_w, i32_w]
           rfl
          refine take_ (i := 4) (N := some 34) (v := ?_) (a' := ?_) #[true, true, true, true, true, false, true, true, true, false, false, false, false, false, false, false, false, false, false, false, false, false, false, false, false] rfl rfl (take_ofW HT_.out HW_.out (by kernel_rfl)) (fun _ _ _ h => h) (Or.inl ⟨by rfl, ?_⟩) hHeld ?_ ?_
          rotate_left
          ·rintro w' ⟨s0, s1, s2, s3, s4, s5, s6, s7⟩
           go_simp
           with_reducible rfl
          rotate_left
          ·simp only [Act.put, List.setIfInBounds_toArray, List.set_cons_zero, List.set_cons_succ, i64_w, i32_w]
           rfl
          refine take_ (i := 9) (N := some 39) (v := ?_) (a' := ?_) #[true, true, true, true, true, false, true, true, true, true, false, false, false, false, false, false, false, false, false, false, false, false, false, false, false] rfl rfl (take_ofW HT_.out HW_.out (by kernel_rfl)) (fun _ _ _ h => h) (Or.inl ⟨by rfl, ?_⟩) hHeld ?_ ?_
          rotate_left
          ·rintro w' ⟨s0, s1, s2, s3, s4, s5, s6, s7⟩
           go_simp
           with_reducible rfl
          rotate_left
          ·simp only [Act.put, List.setIfInBounds_toArray, List.set_cons_zero, List.set_cons_succ, i64_w, i32_w]
           rfl
          refine one_ (i := 5) (N := some 35) #[true, true, true, true, true, true, true, true, true, true, false, false, false, false, false, false, false, false, false, false, false, false, false, false, false] rfl rfl (one_of HT_.out (by kernel_rfl)) (by decide) (fun K hK => ?_)
          refine goesV_ Try.func34 (by kernel_rfl) rfl #[.agg #[.int .i64 1, .int .i64 1, .slice Ao6 y2.length co6, .slice none 0 0], .int .i64 2, .slice A34_0 (rd_L13 y25 x6_1).length c34_0] (by rfl) rfl rfl (by (try simp only [List.map_toArray, List.map_cons, List.map_nil]); first | done | rfl | (simp only [List.length_drop, List.length_take]; rfl)) ?_
          refine (bits_Verdict.calls k1 1 1 _ _ y2 _ _ ([] : List (S27)) 2 _ _ (rd_L13 y25 x6_1) t35 _ ?side1 ?side2 ?side3 ?side4 ?side5 ?side6 A38.out).mono ?_
          (case side1 => repeat (first | exact (Kd.R_reads' HO_6002.out).2.2 | (with_reducible refine ca_ ?_ _) | (with_reducible refine cn_ ?_ _) | (with_reducible refine cd_ ?_)))
          (case side2 => exact (Kd.R_reads' HO_6002.out).2.1)
          (case side3 => exact Kd.C_nil _ _)
          (case side4 => exact Nat.le_refl _)
          (case side5 => repeat (first | exact (by repeat (first | (with_reducible exact HR34_0.out) | (with_reducible refine ca_ ?_ _) | (with_reducible refine cn_ ?_ _) | (with_reducible refine cd_ ?_) | exact HR34_0.out)) | (with_reducible refine ca_ ?_ _) | (with_reducible refine cn_ ?_ _) | (with_reducible refine cd_ ?_)))
          (case side6 => exact HC34_0.out)
          rintro e w47 ⟨rfl, hb⟩
          have HS4_ := (hb.cell (World.block_lt_of_cell? _ _ (hHeld.2.2.2.2.1))).trans (hHeld.2.2.2.2.1)
          have HS5_ := (hb.cell (World.block_lt_of_cell? _ _ (hHeld.2.2.2.2.2.1))).trans (hHeld.2.2.2.2.2.1)
          have HS6_ := (hb.cell (World.block_lt_of_cell? _ _ (hHeld.2.2.2.2.2.2.1))).trans (hHeld.2.2.2.2.2.2.1)
          have HS7_ := (hb.cell (World.block_lt_of_cell? _ _ (hHeld.2.2.2.2.2.2.2))).trans (hHeld.2.2.2.2.2.2.2)
          refine ⟨_, rfl, ?_⟩
          have n0_ := Aside0.mk (Kd.N_below (by (with_reducible repeat (first | apply Kd.N_alloc | apply Kd.N_drewN | apply Kd.N_drew)); exact HO_3.out) hb)
          have n1_ := Aside0.mk (Kd.R_below (by (with_reducible repeat (first | apply ra_ | apply rn_ | apply rd_)); exact HO_4.out) hb)
          have n2_ := Aside0.mk (Kd.R_below (by (with_reducible repeat (first | apply ra_ | apply rn_ | apply rd_)); exact HO_5.out) hb)
          have n3_ := Aside0.mk (Kd.R_below (by (with_reducible repeat (first | apply ra_ | apply rn_ | apply rd_)); exact HO_6002.out) hb)
          have n4_ := Aside0.mk (Kd.V_below (by (with_reducible repeat (first | apply Kd.V_alloc | apply Kd.V_drewN | apply Kd.V_drew)); exact HL34_0.out) hb)
          have n5_ := Aside0.mk (blk_below (g := gb5) (o := .cells #[.int .i64 1, .int .i64 1, .slice Ao6 y2.length co6, .slice none 0 0] 30 (0, 0)) (by (with_reducible repeat (first | refine kn_ ?_ _ | refine kd_ ?_ | refine ka_ ?_ _)); exact BK5.out) hb)
          have n6_ := Aside0.mk (blk_below (g := gb6) (o := .cells #[.int .i64 1, .int .i64 1, .slice none 0 0, .slice none 0 0] 30 (0, 0)) (by (with_reducible repeat (first | refine kn_ ?_ _ | refine kd_ ?_ | refine ka_ ?_ _)); exact BK6.out) hb)
          have n7_ := Aside0.mk (Kd.C_below (by repeat (first | (with_reducible exact HR34_0.out) | (with_reducible refine ca_ ?_ _) | (with_reducible refine cn_ ?_ _) | (with_reducible refine cd_ ?_) | exact HR34_0.out)) hb)
          have n8_ := Aside0.mk (below_step (by repeat (with_reducible first | exact HB.out | apply ba_ | apply bn_ | apply bd_ | refine bs_ ?_ GE5.out | refine bs_ ?_ GE6.out)) hb)
          clear HO_3
          clear HO_4
          clear HO_5
          clear HO_6002
          clear HL34_0
          clear BK5
          clear BK6
          clear HR34_0
          clear HB
          have HO_3 := n0_
          have HO_4 := n1_
          have HO_5 := n2_
          have HO_6002 := n3_
          have HL34_0 := n4_
          have BK5 := n5_
          have BK6 := n6_
          have HR34_0 := n7_
          have HB := n8_
          clear n0_ n1_ n2_ n3_ n4_ n5_ n6_ n7_ n8_
          clear hb
          refine hK.out _ _ ⟨(blk_cell BK5.out 0).trans rfl, (blk_cell BK5.out 1).trans rfl, (blk_cell BK5.out 2).trans rfl, (blk_cell BK5.out 3).trans rfl, HS4_, HS5_, HS6_, HS7_⟩ (fun hHeld => ?_)
          clear hK K
          refine norm_ (a' := ?_) ?_ ?_
          rotate_left
          ·show Act.put _ (some 35) _ = _
           simp only [Act.put, List.setIfInBounds_toArray, List.set_cons_zero, List.set_cons_succ, i64_w, i32_w]
           rfl
          refine pure_ (i := 10) (N := some 40) (v := ?_) (a' := ?_) #[true, true, true, true, true, true, true, true, true, true, true, false, false, false, false, false, false, false, false, false, false, false, false, false, false] rfl rfl (any_of HT_.out (by kernel_rfl)) (fun _ _ _ h => h) (Or.inl ⟨by rfl, ?_⟩) ?_ ?_
          rotate_left
          ·intro w'
           go_simp
           with_reducible rfl
          rotate_left
          ·simp only [Act.put, List.setIfInBounds_toArray, List.set_cons_zero, List.set_cons_succ, i64_w, i32_w]
           rfl
          refine pure_ (i := 11) (N := some 41) (v := ?_) (a' := ?_) #[true, true, true, true, true, true, true, true, true, true, true, true, false, false, false, false, false, false, false, false, false, false, false, false, false] rfl rfl (any_of HT_.out (by kernel_rfl)) (fun _ _ _ h => h) (Or.inl ⟨by rfl, ?_⟩) ?_ ?_
          rotate_left
          ·intro w'
           go_simp
           with_reducible rfl
          rotate_left
          ·simp only [Act.put, List.setIfInBounds_toArray, List.set_cons_zero, List.set_cons_succ, i64_w, i32_w]
           rfl
          refine pure_ (i := 13) (N := some 43) (v := ?_) (a' := ?_) #[true, true, true, true, true, true, true, true, true, true, true, true, false, true, false, false, false, false, false, false, false, false, false, false, false] rfl rfl (any_of HT_.out (by kernel_rfl)) (fun _ _ _ h => h) (Or.inl ⟨by rfl, ?_⟩) ?_ ?_
          rotate_left
          ·intro w'
           go_simp
           with_reducible rfl
          rotate_left
          ·simp only [Act.put, List.setIfInBounds_toArray, List.set_cons_zero, List.set_cons_succ, i64_w, i32_w]
           rfl
          refine pure_ (i := 14) (N := some 44) (v := ?_) (a' := ?_) #[true, true, true, true, true, true, true, true, true, true, true, true, false, true, true, false, false, false, false, false, false, false, false, false, false] rfl rfl (any_of HT_.out (by kernel_rfl)) (fun _ _ _ h => h) (Or.inl ⟨by rfl, ?_⟩) ?_ ?_
          rotate_left
          ·intro w'
           go_simp
           with_reducible rfl
          rotate_left
          ·simp only [Act.put, List.setIfInBounds_toArray, List.set_cons_zero, List.set_cons_succ, i64_w, i32_w]
           rfl
          refine pure_ (i := 15) (N := some 45) (v := ?_) (a' := ?_) #[true, true, true, true, true, true, true, true, true, true, true, true, false, true, true, true, false, false, false, false, false, false, false, false, false] rfl rfl (any_of HT_.out (by kernel_rfl)) (fun _ _ _ h => h) (Or.inl ⟨by rfl, ?_⟩) ?_ ?_
          rotate_left
          ·intro w'
           go_simp
           with_reducible rfl
          rotate_left
          ·simp only [Act.put, List.setIfInBounds_toArray, List.set_cons_zero, List.set_cons_succ, i64_w, i32_w]
           rfl
          refine pure_ (i := 19) (N := some 49) (v := ?_) (a' := ?_) #[true, true, true, true, true, true, true, true, true, true, true, true, false, true, true, true, false, false, false, true, false, false, false, false, false] rfl rfl (any_of HT_.out (by kernel_rfl)) (fun _ _ _ h => h) (Or.inl ⟨by rfl, ?_⟩) ?_ ?_
          rotate_left
          ·intro w'
           go_simp
           with_reducible rfl
          rotate_left
          ·simp only [Act.put, List.setIfInBounds_toArray, List.set_cons_zero, List.set_cons_succ, i64_w, i32_w]
           rfl
          refine pure_ (i := 20) (N := some 50) (v := ?_) (a' := ?_) #[true, true, true, true, true, true, true, true, true, true, true, true, false, true, true, true, false, false, false, true, true, false, false, false, false] rfl rfl (any_of HT_.out (by kernel_rfl)) (fun _ _ _ h => h) (Or.inl ⟨by rfl, ?_⟩) ?_ ?_
          rotate_left
          ·intro w'
           go_simp
           with_reducible rfl
          rotate_left
          ·simp only [Act.put, List.setIfInBounds_toArray, List.set_cons_zero, List.set_cons_succ, i64_w, i32_w]
           rfl
          refine pure_ (i := 21) (N := some 51) (v := ?_) (a' := ?_) #[true, true, true, true, true, true, true, true, true, true, true, true, false, true, true, true, false, false, false, true, true, true, false, false, false] rfl rfl (any_of HT_.out (by kernel_rfl)) (fun _ _ _ h => h) (Or.inl ⟨by rfl, ?_⟩) ?_ ?_
          rotate_left
          ·intro w'
           go_simp
           with_reducible rfl
          rotate_left
          ·simp only [Act.put, List.setIfInBounds_toArray, List.set_cons_zero, List.set_cons_succ, i64_w, i32_w]
           rfl
          refine take_ (i := 12) (N := some 42) (v := ?_) (a' := ?_) #[true, true, true, true, true, true, true, true, true, true, true, true, true, true, true, true, false, false, false, true, true, true, false, false, false] rfl rfl (take_ofW HT_.out HW_.out (by kernel_rfl)) (fun _ _ _ h => h) (Or.inl ⟨by rfl, ?_⟩) hHeld ?_ ?_
          rotate_left
          ·rintro w' ⟨s0, s1, s2, s3, s4, s5, s6, s7⟩
           go_simp
           with_reducible rfl
          rotate_left
          ·simp only [Act.put, List.setIfInBounds_toArray, List.set_cons_zero, List.set_cons_succ, i64_w, i32_w]
           rfl
          refine take_ (i := 16) (N := some 46) (v := ?_) (a' := ?_) #[true, true, true, true, true, true, true, true, true, true, true, true, true, true, true, true, true, false, false, true, true, true, false, false, false] rfl rfl (take_ofW HT_.out HW_.out (by kernel_rfl)) (fun _ _ _ h => h) (Or.inl ⟨by rfl, ?_⟩) hHeld ?_ ?_
          rotate_left
          ·rintro w' ⟨s0, s1, s2, s3, s4, s5, s6, s7⟩
           go_simp
           with_reducible rfl
          rotate_left
          ·simp only [Act.put, List.setIfInBounds_toArray, List.set_cons_zero, List.set_cons_succ, i64_w, i32_w]
           rfl
          refine take_ (i := 22) (N := some 52) (v := ?_) (a' := ?_) #[true, true, true, true, true, true, true, true, true, true, true, true, true, true, true, true, true, false, false, true, true, true, true, false, false] rfl rfl (take_ofW HT_.out HW_.out (by kernel_rfl)) (fun _ _ _ h => h) (Or.inl ⟨by rfl, ?_⟩) hHeld ?_ ?_
          rotate_left
          ·rintro w' ⟨s0, s1, s2, s3, s4, s5, s6, s7⟩
           go_simp
           with_reducible rfl
          rotate_left
          ·simp only [Act.put, List.setIfInBounds_toArray, List.set_cons_zero, List.set_cons_succ, i64_w, i32_w]
           rfl
          refine one_ (i := 17) (N := some 47) #[true, true, true, true, true, true, true, true, true, true, true, true, true, true, true, true, true, true, false, true, true, true, true, false, false] rfl rfl (one_of HT_.out (by kernel_rfl)) (by decide) (fun K hK => ?_)
          refine goesV_ Try.func36 (by kernel_rfl) rfl #[.agg #[.int .i64 1, .int .i64 1, .slice Ao6 y2.length co6, .slice none 0 0], .int .i64 2, .slice A34_0 (rd_L13 y25 x6_1).length c34_0] (by rfl) rfl rfl (by (try simp only [List.map_toArray, List.map_cons, List.map_nil]); first | done | rfl | (simp only [List.length_drop, List.length_take]; rfl)) ?_
          refine (bits_Missing.calls k1 1 1 _ _ y2 _ _ ([] : List (S27)) 2 _ _ (rd_L13 y25 x6_1) t38 _ ?side1 ?side2 ?side3 ?side4 ?side5 ?side6 A41.out).mono ?_
          (case side1 => repeat (first | exact (Kd.R_reads' HO_6002.out).2.2 | (with_reducible refine ca_ ?_ _) | (with_reducible refine cn_ ?_ _) | (with_reducible refine cd_ ?_)))
          (case side2 => exact (Kd.R_reads' HO_6002.out).2.1)
          (case side3 => exact Kd.C_nil _ _)
          (case side4 => exact Nat.le_refl _)
          (case side5 => repeat (first | exact (by repeat (first | (with_reducible exact HR34_0.out) | (with_reducible refine ca_ ?_ _) | (with_reducible refine cn_ ?_ _) | (with_reducible refine cd_ ?_) | exact HR34_0.out)) | (with_reducible refine ca_ ?_ _) | (with_reducible refine cn_ ?_ _) | (with_reducible refine cd_ ?_)))
          (case side6 => exact HC34_0.out)
          rintro e w48 ⟨v39, rfl, ho0, hb⟩
          have HS4_ := (hb.cell (World.block_lt_of_cell? _ _ (hHeld.2.2.2.2.1))).trans (hHeld.2.2.2.2.1)
          have HS5_ := (hb.cell (World.block_lt_of_cell? _ _ (hHeld.2.2.2.2.2.1))).trans (hHeld.2.2.2.2.2.1)
          have HS6_ := (hb.cell (World.block_lt_of_cell? _ _ (hHeld.2.2.2.2.2.2.1))).trans (hHeld.2.2.2.2.2.2.1)
          have HS7_ := (hb.cell (World.block_lt_of_cell? _ _ (hHeld.2.2.2.2.2.2.2))).trans (hHeld.2.2.2.2.2.2.2)
          refine ⟨_, rfl, ?_⟩
          have n0_ := Aside0.mk (Kd.N_elder' (by (with_reducible repeat (first | apply Kd.N_alloc | apply Kd.N_drewN | apply Kd.N_drew)); exact HO_3.out) (Kd.R_base ho0) hb)
          have n1_ := Aside0.mk (Kd.R_elder' (by (with_reducible repeat (first | apply ra_ | apply rn_ | apply rd_)); exact HO_4.out) (Kd.R_base ho0) hb)
          have n2_ := Aside0.mk (Kd.R_elder' (by (with_reducible repeat (first | apply ra_ | apply rn_ | apply rd_)); exact HO_5.out) (Kd.R_base ho0) hb)
          have n3_ := Aside0.mk (Kd.R_below (by (with_reducible repeat (first | apply ra_ | apply rn_ | apply rd_)); exact HO_6002.out) hb)
          have n4_ := Aside0.mk (Kd.V_elder' (by (with_reducible repeat (first | apply Kd.V_alloc | apply Kd.V_drewN | apply Kd.V_drew)); exact HL34_0.out) (Kd.R_base ho0) hb)
          have n6_ := Aside0.mk (Kd.R_lower (Kd.R_new' (Kd.R_new' ho0 (Kd.R_lt (by (with_reducible repeat (first | apply ra_ | apply rn_ | apply rd_)); exact HO_4.out))) (Kd.R_lt (by (with_reducible repeat (first | apply ra_ | apply rn_ | apply rd_)); exact HO_5.out))) (below_size (by repeat (with_reducible first | exact HB.out | apply ba_ | apply bn_ | apply bd_ | refine bs_ ?_ GE5.out | refine bs_ ?_ GE6.out))))
          have n7_ := Aside0.mk (blk_below (g := gb5) (o := .cells #[.int .i64 1, .int .i64 1, .slice Ao6 y2.length co6, .slice none 0 0] 30 (0, 0)) (by (with_reducible repeat (first | refine kn_ ?_ _ | refine kd_ ?_ | refine ka_ ?_ _)); exact BK5.out) hb)
          have n8_ := Aside0.mk (blk_below (g := gb6) (o := .cells #[.int .i64 1, .int .i64 1, .slice none 0 0, .slice none 0 0] 30 (0, 0)) (by (with_reducible repeat (first | refine kn_ ?_ _ | refine kd_ ?_ | refine ka_ ?_ _)); exact BK6.out) hb)
          have n9_ := Aside0.mk (Kd.C_below (by repeat (first | (with_reducible exact HR34_0.out) | (with_reducible refine ca_ ?_ _) | (with_reducible refine cn_ ?_ _) | (with_reducible refine cd_ ?_) | exact HR34_0.out)) hb)
          have n11_ := Aside0.mk (below_step (by repeat (with_reducible first | exact HB.out | apply ba_ | apply bn_ | apply bd_ | refine bs_ ?_ GE5.out | refine bs_ ?_ GE6.out)) hb)
          clear HO_3
          clear HO_4
          clear HO_5
          clear HO_6002
          clear HL34_0
          clear BK5
          clear BK6
          clear HR34_0
          clear HB
          have HO_3 := n0_
          have HO_4 := n1_
          have HO_5 := n2_
          have HO_6002 := n3_
          have HL34_0 := n4_
          have HO40 := n6_
          have BK5 := n7_
          have BK6 := n8_
          have HR34_0 := n9_
          have HB := n11_
          clear n0_ n1_ n2_ n3_ n4_ n6_ n7_ n8_ n9_ n11_
          clear hb ho0
          obtain ⟨Ao49, co49, eo49⟩ := Kd.R_slice HO40.out
          (first | subst eo49 | (injection eo49 with f1_ f2_ f3_; have f4_ := f1_.symm; have f5_ := f3_.symm; clear f1_ f2_ f3_; subst f4_; subst f5_))
          obtain ⟨Ao50, co50, eo50⟩ := Kd.R_slice HO_5.out
          (first | subst eo50 | (injection eo50 with f1_ f2_ f3_; have f4_ := f1_.symm; have f5_ := f3_.symm; clear f1_ f2_ f3_; subst f4_; subst f5_))
          refine hK.out _ _ ⟨(blk_cell BK5.out 0).trans rfl, (blk_cell BK5.out 1).trans rfl, (blk_cell BK5.out 2).trans rfl, (blk_cell BK5.out 3).trans rfl, HS4_, HS5_, HS6_, HS7_⟩ (fun hHeld => ?_)
          clear hK K
          refine norm_ (a' := ?_) ?_ ?_
          rotate_left
          ·show Act.put _ (some 47) _ = _
           simp only [Act.put, List.setIfInBounds_toArray, List.set_cons_zero, List.set_cons_succ, i64_w, i32_w]
           rfl
          refine pure_ (i := 18) (N := some 48) (v := ?_) (a' := ?_) #[true, true, true, true, true, true, true, true, true, true, true, true, true, true, true, true, true, true, true, true, true, true, true, false, false] rfl rfl (any_of HT_.out (by kernel_rfl)) (fun _ _ _ h => h) (Or.inl ⟨by rfl, ?_⟩) ?_ ?_
          rotate_left
          ·intro w'
           go_simp
           with_reducible rfl
          rotate_left
          ·simp only [Act.put, List.setIfInBounds_toArray, List.set_cons_zero, List.set_cons_succ, i64_w, i32_w]
           rfl
          refine pure_ (i := 23) (N := some 53) (v := ?_) (a' := ?_) #[true, true, true, true, true, true, true, true, true, true, true, true, true, true, true, true, true, true, true, true, true, true, true, true, false] rfl rfl (any_of HT_.out (by kernel_rfl)) (fun _ _ _ h => h) (Or.inl ⟨by rfl, ?_⟩) ?_ ?_
          rotate_left
          ·intro w'
           go_simp
           with_reducible rfl
          rotate_left
          ·simp only [Act.put, List.setIfInBounds_toArray, List.set_cons_zero, List.set_cons_succ, i64_w, i32_w]
           rfl
          refine pure_ (i := 24) (N := some 54) (v := ?_) (a' := ?_) #[true, true, true, true, true, true, true, true, true, true, true, true, true, true, true, true, true, true, true, true, true, true, true, true, true] rfl rfl (any_of HT_.out (by kernel_rfl)) (fun _ _ _ h => h) (Or.inl ⟨by rfl, ?_⟩) ?_ ?_
          rotate_left
          ·intro w'
           go_simp
           with_reducible rfl
          rotate_left
          ·simp only [Act.put, List.setIfInBounds_toArray, List.set_cons_zero, List.set_cons_succ, i64_w, i32_w]
           rfl
          refine done_ (done_of HT_.out (by kernel_rfl)) ?_
          try go_wp2
          go_roundg k1
          case measure => have := HK1.out; omega
          case rel => exact ⟨(wrap64 (x6_1 + 1)), (by first | rfl | (simp; done) | (simp [*]; done)), H', ⟨by have := HK1.out; omega⟩, ⟨by (with_reducible repeat (first | apply Kd.N_alloc | apply Kd.N_drewN | apply Kd.N_drew)); exact Kd.N_mono HO_3.out (fun _ hk => ⟨hk.1.1, ⟨hk.1.2.1, ⟨hk.1.2.2.1, ⟨hk.1.2.2.2.1, hk.1.2.2.2.2⟩⟩⟩⟩)⟩, ⟨by (with_reducible repeat (first | apply ra_ | apply rn_ | apply rd_)); exact Kd.R_mono HO_4.out (fun _ hk => hk.1)⟩, ⟨by (with_reducible repeat (first | apply ra_ | apply rn_ | apply rd_)); exact Kd.R_mono HO_5.out (fun _ hk => hk.1)⟩, ⟨by (with_reducible repeat (first | apply ra_ | apply rn_ | apply rd_)); exact HO_6002.out⟩, ⟨by (with_reducible repeat (first | refine kn_ ?_ _ | refine kd_ ?_ | refine ka_ ?_ _)); exact BK5.out⟩, ⟨by (with_reducible repeat (first | refine kn_ ?_ _ | refine kd_ ?_ | refine ka_ ?_ _)); exact BK6.out⟩, ⟨by repeat (with_reducible first | exact HB.out | apply ba_ | apply bn_ | apply bd_ | refine bs_ ?_ GE5.out | refine bs_ ?_ GE6.out)⟩⟩
         ·rw [if_neg c43] at H
          exact absurd H (by simp)
        ·rw [if_neg c42] at H
         exact absurd H (by simp)
       ·rw [if_neg c40] at H
        have c40b0 : (t35 == (rd y28 x6_1)) = false := beq_eq_false_iff_ne.mpr c40
        have c40b1 : (t35 != (rd y28 x6_1)) = true := bne_iff_ne.mpr c40
        exact absurd H (by simp)
      ·rw [if_neg c39] at H
       exact absurd H (by simp)
     ·rw [if_neg c37] at H
      exact absurd H (by simp)
    ·rw [if_neg c36] at H
     have c36b0 : decide (x6_1 < (y25.length : Int)) = false := decide_eq_false c36
     clear c36
     replace H := Option.bind_eq_some_iff.mp H
     obtain ⟨t42, A510, H⟩ := H
     (try dsimp only at H)
     have A51 := Aside0.mk A510
     clear A510
     replace H := Option.bind_eq_some_iff.mp H
     obtain ⟨t45, A520, H⟩ := H
     (try dsimp only at H)
     have A52 := Aside0.mk A520
     clear A520
     replace H := Option.bind_eq_some_iff.mp H
     obtain ⟨t48, A530, H⟩ := H
     (try dsimp only at H)
     have A53 := Aside0.mk A530
     clear A530
     replace H := Option.bind_eq_some_iff.mp H
     obtain ⟨t51, A540, H⟩ := H
     (try dsimp only at H)
     have A54 := Aside0.mk A540
     clear A540
     by_cases c55 : t51 = 1
     ·rw [if_pos c55] at H
      have c55b0 : (t51 == 1) = true := beq_iff_eq.mpr c55
      have c55b1 : (t51 != 1) = false := bne_eq_false_iff_eq.mpr c55
      clear c55
      replace H := Option.bind_eq_some_iff.mp H
      obtain ⟨t52, A560, H⟩ := H
      (try dsimp only at H)
      have A56 := Aside0.mk A560
      clear A560
      by_cases c57 : (t52.length : Int) = 0
      ·rw [if_pos c57] at H
       have c57b0 : ((t52.length : Int) == 0) = true := beq_iff_eq.mpr c57
       have c57b1 : ((t52.length : Int) != 0) = false := bne_eq_false_iff_eq.mpr c57
       clear c57
       by_cases c58 : (t48.length : Int) = 1
       ·rw [if_pos c58] at H
        have c58b0 : ((t48.length : Int) == 1) = true := beq_iff_eq.mpr c58
        have c58b1 : ((t48.length : Int) != 1) = false := bne_eq_false_iff_eq.mpr c58
        clear c58
        replace H := Option.bind_eq_some_iff.mp H
        obtain ⟨t55, A590, H⟩ := H
        (try dsimp only at H)
        have A59 := Aside0.mk A590
        clear A590
        by_cases c60 : t55 = 1
        ·rw [if_pos c60] at H
         have c60b0 : (t55 == 1) = true := beq_iff_eq.mpr c60
         have c60b1 : (t55 != 1) = false := bne_eq_false_iff_eq.mpr c60
         clear c60
         replace H := Option.bind_eq_some_iff.mp H
         obtain ⟨t56, A610, H⟩ := H
         (try dsimp only at H)
         have A61 := Aside0.mk A610
         clear A610
         obtain rfl := Option.some.inj H
         obtain ⟨Ao62, co62, eo62⟩ := Kd.N_slice HO_3.out
         subst eo62
         go_wp2_with (first | ((with_reducible refine gate_callee (f := 38) rfl ?_); refine goesM_ (some 55) Try.func38 #[.slice none 0 0, .int .i64 3, .int .i64 0, .int .i64 1] ?_; (refine (bits_Add.calls k1 _ _ ([] : List (S52)) 3 0 1 t42 _ ?side1 ?side2 A51.out).mono ?_); (case side1 => exact Kd.C_nil _ _); (case side2 => exact Nat.le_refl _); rintro e w63 ⟨v43, rfl, ho0, hb⟩; refine ⟨_, rfl, ?_⟩; have n0_ := Aside0.mk (Kd.N_elder' (by (with_reducible repeat (first | apply Kd.N_alloc | apply Kd.N_drewN | apply Kd.N_drew)); exact HO_3.out) (Kd.R_base ho0) hb); have n1_ := Aside0.mk (Kd.R_below (by (with_reducible repeat (first | apply ra_ | apply rn_ | apply rd_)); exact HO_4.out) hb); have n2_ := Aside0.mk (Kd.R_below (by (with_reducible repeat (first | apply ra_ | apply rn_ | apply rd_)); exact HO_5.out) hb); have n3_ := Aside0.mk (Kd.R_below (by (with_reducible repeat (first | apply ra_ | apply rn_ | apply rd_)); exact HO_6002.out) hb); have n4_ := Aside0.mk (Kd.R_lower ho0 (below_size (by repeat (with_reducible first | exact HB.out | apply ba_ | apply bn_ | apply bd_ | refine bs_ ?_ GE5.out | refine bs_ ?_ GE6.out)))); have n5_ := Aside0.mk (blk_below (g := gb5) (o := .cells #[.int .i64 1, .int .i64 1, .slice Ao6 y2.length co6, .slice none 0 0] 30 (0, 0)) (by (with_reducible repeat (first | refine kn_ ?_ _ | refine kd_ ?_ | refine ka_ ?_ _)); exact BK5.out) hb); have n6_ := Aside0.mk (blk_below (g := gb6) (o := .cells #[.int .i64 1, .int .i64 1, .slice none 0 0, .slice none 0 0] 30 (0, 0)) (by (with_reducible repeat (first | refine kn_ ?_ _ | refine kd_ ?_ | refine ka_ ?_ _)); exact BK6.out) hb); have n7_ := Aside0.mk (below_step (by repeat (with_reducible first | exact HB.out | apply ba_ | apply bn_ | apply bd_ | refine bs_ ?_ GE5.out | refine bs_ ?_ GE6.out)) hb); clear HO_3; clear HO_4; clear HO_5; clear HO_6002; clear BK5; clear BK6; clear HB; have HO_3 := n0_; have HO_4 := n1_; have HO_5 := n2_; have HO_6002 := n3_; have HO44 := n4_; have BK5 := n5_; have BK6 := n6_; have HB := n7_; clear n0_ n1_ n2_ n3_ n4_ n5_ n6_ n7_; clear hb ho0; obtain ⟨Ao64, co64, eo64⟩ := Kd.R_slice HO44.out; subst eo64) | ((with_reducible refine gate_callee (f := 38) rfl ?_); refine goesM_ (some 56) Try.func38 #[.slice Ao64 t42.length co64, .int .i64 3, .int .i64 0, .int .i64 2] ?_; (with_reducible refine (bits_Add.calls k1 _ _ t42 3 0 2 t45 _ ?side1 ?side2 A52.out).mono ?_); (case side1 => repeat (first | exact (Kd.R_reads' HO44.out).2.2 | (with_reducible refine ca_ ?_ _) | (with_reducible refine cn_ ?_ _) | (with_reducible refine cd_ ?_))); (case side2 => exact (Kd.R_reads' HO44.out).2.1); rintro e w65 ⟨v46, rfl, ho0, hb⟩; refine ⟨_, rfl, ?_⟩; have n0_ := Aside0.mk (Kd.N_elder' (by (with_reducible repeat (first | apply Kd.N_alloc | apply Kd.N_drewN | apply Kd.N_drew)); exact HO_3.out) (Kd.R_base ho0) hb); have n1_ := Aside0.mk (Kd.R_below (by (with_reducible repeat (first | apply ra_ | apply rn_ | apply rd_)); exact HO_4.out) hb); have n2_ := Aside0.mk (Kd.R_below (by (with_reducible repeat (first | apply ra_ | apply rn_ | apply rd_)); exact HO_5.out) hb); have n3_ := Aside0.mk (Kd.R_below (by (with_reducible repeat (first | apply ra_ | apply rn_ | apply rd_)); exact HO_6002.out) hb); have n4_ := Aside0.mk (Kd.R_elder' (by (with_reducible repeat (first | apply ra_ | apply rn_ | apply rd_)); exact HO44.out) (Kd.R_base ho0) hb); have n5_ := Aside0.mk (Kd.R_lower (Kd.R_new' ho0 (Kd.R_lt (by (with_reducible repeat (first | apply ra_ | apply rn_ | apply rd_)); exact HO44.out))) (below_size (by repeat (with_reducible first | exact HB.out | apply ba_ | apply bn_ | apply bd_ | refine bs_ ?_ GE5.out | refine bs_ ?_ GE6.out)))); have n6_ := Aside0.mk (blk_below (g := gb5) (o := .cells #[.int .i64 1, .int .i64 1, .slice Ao6 y2.length co6, .slice none 0 0] 30 (0, 0)) (by (with_reducible repeat (first | refine kn_ ?_ _ | refine kd_ ?_ | refine ka_ ?_ _)); exact BK5.out) hb); have n7_ := Aside0.mk (blk_below (g := gb6) (o := .cells #[.int .i64 1, .int .i64 1, .slice none 0 0, .slice none 0 0] 30 (0, 0)) (by (with_reducible repeat (first | refine kn_ ?_ _ | refine kd_ ?_ | refine ka_ ?_ _)); exact BK6.out) hb); have n8_ := Aside0.mk (below_step (by repeat (with_reducible first | exact HB.out | apply ba_ | apply bn_ | apply bd_ | refine bs_ ?_ GE5.out | refine bs_ ?_ GE6.out)) hb); clear HO_3; clear HO_4; clear HO_5; clear HO_6002; clear HO44; clear BK5; clear BK6; clear HB; have HO_3 := n0_; have HO_4 := n1_; have HO_5 := n2_; have HO_6002 := n3_; have HO44 := n4_; have HO47 := n5_; have BK5 := n6_; have BK6 := n7_; have HB := n8_; clear n0_ n1_ n2_ n3_ n4_ n5_ n6_ n7_ n8_; clear hb ho0; obtain ⟨Ao66, co66, eo66⟩ := Kd.R_slice HO47.out; subst eo66) | ((with_reducible refine gate_callee (f := 38) rfl ?_); refine goesM_ (some 57) Try.func38 #[.slice Ao66 t45.length co66, .int .i64 3, .int .i64 1, .int .i64 0] ?_; (with_reducible refine (bits_Add.calls k1 _ _ t45 3 1 0 t48 _ ?side1 ?side2 A53.out).mono ?_); (case side1 => repeat (first | exact (Kd.R_reads' HO47.out).2.2 | (with_reducible refine ca_ ?_ _) | (with_reducible refine cn_ ?_ _) | (with_reducible refine cd_ ?_))); (case side2 => exact (Kd.R_reads' HO47.out).2.1); rintro e w67 ⟨v49, rfl, ho0, hb⟩; refine ⟨_, rfl, ?_⟩; have n0_ := Aside0.mk (Kd.N_elder' (by (with_reducible repeat (first | apply Kd.N_alloc | apply Kd.N_drewN | apply Kd.N_drew)); exact HO_3.out) (Kd.R_base ho0) hb); have n1_ := Aside0.mk (Kd.R_below (by (with_reducible repeat (first | apply ra_ | apply rn_ | apply rd_)); exact HO_4.out) hb); have n2_ := Aside0.mk (Kd.R_below (by (with_reducible repeat (first | apply ra_ | apply rn_ | apply rd_)); exact HO_5.out) hb); have n3_ := Aside0.mk (Kd.R_below (by (with_reducible repeat (first | apply ra_ | apply rn_ | apply rd_)); exact HO_6002.out) hb); have n4_ := Aside0.mk (Kd.R_elder' (by (with_reducible repeat (first | apply ra_ | apply rn_ | apply rd_)); exact HO44.out) (Kd.R_base ho0) hb); have n5_ := Aside0.mk (Kd.R_elder' (by (with_reducible repeat (first | apply ra_ | apply rn_ | apply rd_)); exact HO47.out) (Kd.R_base ho0) hb); have n6_ := Aside0.mk (Kd.R_lower (Kd.R_new' (Kd.R_new' ho0 (Kd.R_lt (by (with_reducible repeat (first | apply ra_ | apply rn_ | apply rd_)); exact HO44.out))) (Kd.R_lt (by (with_reducible repeat (first | apply ra_ | apply rn_ | apply rd_)); exact HO47.out))) (below_size (by repeat (with_reducible first | exact HB.out | apply ba_ | apply bn_ | apply bd_ | refine bs_ ?_ GE5.out | refine bs_ ?_ GE6.out)))); have n7_ := Aside0.mk (blk_below (g := gb5) (o := .cells #[.int .i64 1, .int .i64 1, .slice Ao6 y2.length co6, .slice none 0 0] 30 (0, 0)) (by (with_reducible repeat (first | refine kn_ ?_ _ | refine kd_ ?_ | refine ka_ ?_ _)); exact BK5.out) hb); have n8_ := Aside0.mk (blk_below (g := gb6) (o := .cells #[.int .i64 1, .int .i64 1, .slice none 0 0, .slice none 0 0] 30 (0, 0)) (by (with_reducible repeat (first | refine kn_ ?_ _ | refine kd_ ?_ | refine ka_ ?_ _)); exact BK6.out) hb); have n9_ := Aside0.mk (below_step (by repeat (with_reducible first | exact HB.out | apply ba_ | apply bn_ | apply bd_ | refine bs_ ?_ GE5.out | refine bs_ ?_ GE6.out)) hb); clear HO_3; clear HO_4; clear HO_5; clear HO_6002; clear HO44; clear HO47; clear BK5; clear BK6; clear HB; have HO_3 := n0_; have HO_4 := n1_; have HO_5 := n2_; have HO_6002 := n3_; have HO44 := n4_; have HO47 := n5_; have HO50 := n6_; have BK5 := n7_; have BK6 := n8_; have HB := n9_; clear n0_ n1_ n2_ n3_ n4_ n5_ n6_ n7_ n8_ n9_; clear hb ho0; have hnb68 := NB6_5.out; have hnc68 := NB5_6.out; have hcz69_0 : w67.cell? ⟨gb6, 0, none⟩ = some (.int .i64 1) := (blk_cell BK6.out 0).trans rfl; have hcz69_1 : w67.cell? ⟨gb6, 1, none⟩ = some (.int .i64 1) := (blk_cell BK6.out 1).trans rfl; have hcz69_2 : w67.cell? ⟨gb6, 2, none⟩ = some (.slice none 0 0) := (blk_cell BK6.out 2).trans rfl; have hcz69_3 : w67.cell? ⟨gb6, 3, none⟩ = some (.slice none 0 0) := (blk_cell BK6.out 3).trans rfl; have hfz69_0 := blk_frozen BK6.out 0; have hfz69_1 := blk_frozen BK6.out 1; have hfz69_2 := blk_frozen BK6.out 2; have hfz69_3 := blk_frozen BK6.out 3) | ((with_reducible refine gate_callee (f := 34) rfl ?_); refine goesM_ (some 59) Try.func34 #[.agg #[.int .i64 1, .int .i64 1, .slice none 0 0, .slice none 0 0], .int .i64 3, .slice none 0 0] ?_; (refine (bits_Verdict.calls k1 1 1 _ _ ([] : List (S24)) _ _ ([] : List (S27)) 3 _ _ ([] : List Int) t51 _ ?side1 ?side2 ?side3 ?side4 ?side5 ?side6 A54.out).mono ?_); (case side1 => exact Kd.C_nil _ _); (case side2 => exact Nat.le_refl _); (case side3 => exact Kd.C_nil _ _); (case side4 => exact Nat.le_refl _); (case side5 => exact Kd.C_nil _ _); (case side6 => exact Nat.le_refl _); rintro e w70 ⟨rfl, hb⟩; refine ⟨_, rfl, ?_⟩; have n0_ := Aside0.mk (Kd.N_below (by (with_reducible repeat (first | apply Kd.N_alloc | apply Kd.N_drewN | apply Kd.N_drew)); exact HO_3.out) hb); have n1_ := Aside0.mk (Kd.R_below (by (with_reducible repeat (first | apply ra_ | apply rn_ | apply rd_)); exact HO_4.out) hb); have n2_ := Aside0.mk (Kd.R_below (by (with_reducible repeat (first | apply ra_ | apply rn_ | apply rd_)); exact HO_5.out) hb); have n3_ := Aside0.mk (Kd.R_below (by (with_reducible repeat (first | apply ra_ | apply rn_ | apply rd_)); exact HO_6002.out) hb); have n4_ := Aside0.mk (Kd.R_below (by (with_reducible repeat (first | apply ra_ | apply rn_ | apply rd_)); exact HO44.out) hb); have n5_ := Aside0.mk (Kd.R_below (by (with_reducible repeat (first | apply ra_ | apply rn_ | apply rd_)); exact HO47.out) hb); have n6_ := Aside0.mk (Kd.R_below (by (with_reducible repeat (first | apply ra_ | apply rn_ | apply rd_)); exact HO50.out) hb); have n7_ := Aside0.mk (blk_below (g := gb5) (o := .cells #[.int .i64 1, .int .i64 1, .slice Ao6 y2.length co6, .slice none 0 0] 30 (0, 0)) (by (with_reducible repeat (first | refine kn_ ?_ _ | refine kd_ ?_ | refine ka_ ?_ _)); exact BK5.out) hb); have n8_ := Aside0.mk (blk_below (g := gb6) (o := .cells #[.int .i64 1, .int .i64 1, .slice none 0 0, .slice none 0 0] 30 (0, 0)) (by (with_reducible repeat (first | refine kn_ ?_ _ | refine kd_ ?_ | refine ka_ ?_ _)); exact BK6.out) hb); have n9_ := Aside0.mk (below_step (by repeat (with_reducible first | exact HB.out | apply ba_ | apply bn_ | apply bd_ | refine bs_ ?_ GE5.out | refine bs_ ?_ GE6.out)) hb); clear HO_3; clear HO_4; clear HO_5; clear HO_6002; clear HO44; clear HO47; clear HO50; clear BK5; clear BK6; clear HB; have HO_3 := n0_; have HO_4 := n1_; have HO_5 := n2_; have HO_6002 := n3_; have HO44 := n4_; have HO47 := n5_; have HO50 := n6_; have BK5 := n7_; have BK6 := n8_; have HB := n9_; clear n0_ n1_ n2_ n3_ n4_ n5_ n6_ n7_ n8_ n9_; clear hb; have hcz71_0 : w70.cell? ⟨gb6, 0, none⟩ = some (.int .i64 1) := (blk_cell BK6.out 0).trans rfl; have hcz71_1 : w70.cell? ⟨gb6, 1, none⟩ = some (.int .i64 1) := (blk_cell BK6.out 1).trans rfl; have hcz71_2 : w70.cell? ⟨gb6, 2, none⟩ = some (.slice none 0 0) := (blk_cell BK6.out 2).trans rfl; have hcz71_3 : w70.cell? ⟨gb6, 3, none⟩ = some (.slice none 0 0) := (blk_cell BK6.out 3).trans rfl; have hfz71_0 := blk_frozen BK6.out 0; have hfz71_1 := blk_frozen BK6.out 1; have hfz71_2 := blk_frozen BK6.out 2; have hfz71_3 := blk_frozen BK6.out 3) | (go_at_call 36; (refine (bits_Missing.calls k1 1 1 _ _ ([] : List (S24)) _ _ ([] : List (S27)) 3 _ _ ([] : List Int) t52 _ ?side1 ?side2 ?side3 ?side4 ?side5 ?side6 A56.out).mono ?_); (case side1 => exact Kd.C_nil _ _); (case side2 => exact Nat.le_refl _); (case side3 => exact Kd.C_nil _ _); (case side4 => exact Nat.le_refl _); (case side5 => exact Kd.C_nil _ _); (case side6 => exact Nat.le_refl _); rintro e w72 ⟨v53, rfl, ho0, hb⟩; have n0_ := Aside0.mk (Kd.N_elder' (by (with_reducible repeat (first | apply Kd.N_alloc | apply Kd.N_drewN | apply Kd.N_drew)); exact HO_3.out) (Kd.R_base ho0) hb); have n1_ := Aside0.mk (Kd.R_elder' (by (with_reducible repeat (first | apply ra_ | apply rn_ | apply rd_)); exact HO_4.out) (Kd.R_base ho0) hb); have n2_ := Aside0.mk (Kd.R_elder' (by (with_reducible repeat (first | apply ra_ | apply rn_ | apply rd_)); exact HO_5.out) (Kd.R_base ho0) hb); have n3_ := Aside0.mk (Kd.R_below (by (with_reducible repeat (first | apply ra_ | apply rn_ | apply rd_)); exact HO_6002.out) hb); have n4_ := Aside0.mk (Kd.R_below (by (with_reducible repeat (first | apply ra_ | apply rn_ | apply rd_)); exact HO44.out) hb); have n5_ := Aside0.mk (Kd.R_below (by (with_reducible repeat (first | apply ra_ | apply rn_ | apply rd_)); exact HO47.out) hb); have n6_ := Aside0.mk (Kd.R_below (by (with_reducible repeat (first | apply ra_ | apply rn_ | apply rd_)); exact HO50.out) hb); have n7_ := Aside0.mk (Kd.R_lower (Kd.R_new' (Kd.R_new' ho0 (Kd.R_lt (by (with_reducible repeat (first | apply ra_ | apply rn_ | apply rd_)); exact HO_4.out))) (Kd.R_lt (by (with_reducible repeat (first | apply ra_ | apply rn_ | apply rd_)); exact HO_5.out))) (below_size (by repeat (with_reducible first | exact HB.out | apply ba_ | apply bn_ | apply bd_ | refine bs_ ?_ GE5.out | refine bs_ ?_ GE6.out)))); have n8_ := Aside0.mk (blk_below (g := gb5) (o := .cells #[.int .i64 1, .int .i64 1, .slice Ao6 y2.length co6, .slice none 0 0] 30 (0, 0)) (by (with_reducible repeat (first | refine kn_ ?_ _ | refine kd_ ?_ | refine ka_ ?_ _)); exact BK5.out) hb); have n9_ := Aside0.mk (blk_below (g := gb6) (o := .cells #[.int .i64 1, .int .i64 1, .slice none 0 0, .slice none 0 0] 30 (0, 0)) (by (with_reducible repeat (first | refine kn_ ?_ _ | refine kd_ ?_ | refine ka_ ?_ _)); exact BK6.out) hb); have n10_ := Aside0.mk (below_step (by repeat (with_reducible first | exact HB.out | apply ba_ | apply bn_ | apply bd_ | refine bs_ ?_ GE5.out | refine bs_ ?_ GE6.out)) hb); clear HO_3; clear HO_4; clear HO_5; clear HO_6002; clear HO44; clear HO47; clear HO50; clear BK5; clear BK6; clear HB; have HO_3 := n0_; have HO_4 := n1_; have HO_5 := n2_; have HO_6002 := n3_; have HO44 := n4_; have HO47 := n5_; have HO50 := n6_; have HO54 := n7_; have BK5 := n8_; have BK6 := n9_; have HB := n10_; clear n0_ n1_ n2_ n3_ n4_ n5_ n6_ n7_ n8_ n9_ n10_; clear hb ho0; obtain ⟨Ao73, co73, eo73⟩ := Kd.R_slice HO54.out; subst eo73; obtain ⟨Ao74, co74, eo74⟩ := Kd.R_slice HO50.out; subst eo74) | (go_at_call 32; (with_reducible refine (bits_Of.calls k1 _ _ t48 3 0 t55 _ ?side1 ?side2 A59.out).mono ?_); (case side1 => repeat (first | exact (Kd.R_reads' HO50.out).2.2 | (with_reducible refine ca_ ?_ _) | (with_reducible refine cn_ ?_ _) | (with_reducible refine cd_ ?_))); (case side2 => exact (Kd.R_reads' HO50.out).2.1); rintro e w75 ⟨rfl, hb⟩; have n0_ := Aside0.mk (Kd.N_below (by (with_reducible repeat (first | apply Kd.N_alloc | apply Kd.N_drewN | apply Kd.N_drew)); exact HO_3.out) hb); have n1_ := Aside0.mk (Kd.R_below (by (with_reducible repeat (first | apply ra_ | apply rn_ | apply rd_)); exact HO_4.out) hb); have n2_ := Aside0.mk (Kd.R_below (by (with_reducible repeat (first | apply ra_ | apply rn_ | apply rd_)); exact HO_5.out) hb); have n3_ := Aside0.mk (Kd.R_below (by (with_reducible repeat (first | apply ra_ | apply rn_ | apply rd_)); exact HO_6002.out) hb); have n4_ := Aside0.mk (Kd.R_below (by (with_reducible repeat (first | apply ra_ | apply rn_ | apply rd_)); exact HO44.out) hb); have n5_ := Aside0.mk (Kd.R_below (by (with_reducible repeat (first | apply ra_ | apply rn_ | apply rd_)); exact HO47.out) hb); have n6_ := Aside0.mk (Kd.R_below (by (with_reducible repeat (first | apply ra_ | apply rn_ | apply rd_)); exact HO50.out) hb); have n7_ := Aside0.mk (Kd.R_below (by (with_reducible repeat (first | apply ra_ | apply rn_ | apply rd_)); exact HO54.out) hb); have n8_ := Aside0.mk (blk_below (g := gb5) (o := .cells #[.int .i64 1, .int .i64 1, .slice Ao6 y2.length co6, .slice none 0 0] 30 (0, 0)) (by (with_reducible repeat (first | refine kn_ ?_ _ | refine kd_ ?_ | refine ka_ ?_ _)); exact BK5.out) hb); have n9_ := Aside0.mk (blk_below (g := gb6) (o := .cells #[.int .i64 1, .int .i64 1, .slice none 0 0, .slice none 0 0] 30 (0, 0)) (by (with_reducible repeat (first | refine kn_ ?_ _ | refine kd_ ?_ | refine ka_ ?_ _)); exact BK6.out) hb); have n10_ := Aside0.mk (below_step (by repeat (with_reducible first | exact HB.out | apply ba_ | apply bn_ | apply bd_ | refine bs_ ?_ GE5.out | refine bs_ ?_ GE6.out)) hb); clear HO_3; clear HO_4; clear HO_5; clear HO_6002; clear HO44; clear HO47; clear HO50; clear HO54; clear BK5; clear BK6; clear HB; have HO_3 := n0_; have HO_4 := n1_; have HO_5 := n2_; have HO_6002 := n3_; have HO44 := n4_; have HO47 := n5_; have HO50 := n6_; have HO54 := n7_; have BK5 := n8_; have BK6 := n9_; have HB := n10_; clear n0_ n1_ n2_ n3_ n4_ n5_ n6_ n7_ n8_ n9_ n10_; clear hb) | (go_at_call 31; (with_reducible refine (bits_Row.calls k1 _ _ t48 3 0 t56 _ ?side1 ?side2 A61.out).mono ?_); (case side1 => repeat (first | exact (Kd.R_reads' HO50.out).2.2 | (with_reducible refine ca_ ?_ _) | (with_reducible refine cn_ ?_ _) | (with_reducible refine cd_ ?_))); (case side2 => exact (Kd.R_reads' HO50.out).2.1); rintro e w76 ⟨v57, rfl, ho0, hb⟩; have n0_ := Aside0.mk (Kd.N_elder' (by (with_reducible repeat (first | apply Kd.N_alloc | apply Kd.N_drewN | apply Kd.N_drew)); exact HO_3.out) (Kd.R_base ho0) hb); have n1_ := Aside0.mk (Kd.R_elder' (by (with_reducible repeat (first | apply ra_ | apply rn_ | apply rd_)); exact HO_4.out) (Kd.R_base ho0) hb); have n2_ := Aside0.mk (Kd.R_elder' (by (with_reducible repeat (first | apply ra_ | apply rn_ | apply rd_)); exact HO_5.out) (Kd.R_base ho0) hb); have n3_ := Aside0.mk (Kd.R_below (by (with_reducible repeat (first | apply ra_ | apply rn_ | apply rd_)); exact HO_6002.out) hb); have n4_ := Aside0.mk (Kd.R_below (by (with_reducible repeat (first | apply ra_ | apply rn_ | apply rd_)); exact HO44.out) hb); have n5_ := Aside0.mk (Kd.R_below (by (with_reducible repeat (first | apply ra_ | apply rn_ | apply rd_)); exact HO47.out) hb); have n6_ := Aside0.mk (Kd.R_below (by (with_reducible repeat (first | apply ra_ | apply rn_ | apply rd_)); exact HO50.out) hb); have n7_ := Aside0.mk (Kd.R_elder' (by (with_reducible repeat (first | apply ra_ | apply rn_ | apply rd_)); exact HO54.out) (Kd.R_base ho0) hb); have n8_ := Aside0.mk (Kd.R_lower (Kd.R_new' (Kd.R_new' (Kd.R_new' ho0 (Kd.R_lt (by (with_reducible repeat (first | apply ra_ | apply rn_ | apply rd_)); exact HO_4.out))) (Kd.R_lt (by (with_reducible repeat (first | apply ra_ | apply rn_ | apply rd_)); exact HO_5.out))) (Kd.R_lt (by (with_reducible repeat (first | apply ra_ | apply rn_ | apply rd_)); exact HO54.out))) (below_size (by repeat (with_reducible first | exact HB.out | apply ba_ | apply bn_ | apply bd_ | refine bs_ ?_ GE5.out | refine bs_ ?_ GE6.out)))); have n9_ := Aside0.mk (blk_below (g := gb5) (o := .cells #[.int .i64 1, .int .i64 1, .slice Ao6 y2.length co6, .slice none 0 0] 30 (0, 0)) (by (with_reducible repeat (first | refine kn_ ?_ _ | refine kd_ ?_ | refine ka_ ?_ _)); exact BK5.out) hb); have n10_ := Aside0.mk (blk_below (g := gb6) (o := .cells #[.int .i64 1, .int .i64 1, .slice none 0 0, .slice none 0 0] 30 (0, 0)) (by (with_reducible repeat (first | refine kn_ ?_ _ | refine kd_ ?_ | refine ka_ ?_ _)); exact BK6.out) hb); have n11_ := Aside0.mk (below_step (by repeat (with_reducible first | exact HB.out | apply ba_ | apply bn_ | apply bd_ | refine bs_ ?_ GE5.out | refine bs_ ?_ GE6.out)) hb); clear HO_3; clear HO_4; clear HO_5; clear HO_6002; clear HO44; clear HO47; clear HO50; clear HO54; clear BK5; clear BK6; clear HB; have HO_3 := n0_; have HO_4 := n1_; have HO_5 := n2_; have HO_6002 := n3_; have HO44 := n4_; have HO47 := n5_; have HO50 := n6_; have HO54 := n7_; have HO58 := n8_; have BK5 := n9_; have BK6 := n10_; have HB := n11_; clear n0_ n1_ n2_ n3_ n4_ n5_ n6_ n7_ n8_ n9_ n10_ n11_; clear hb ho0; obtain ⟨Ao77, co77, eo77⟩ := Kd.R_slice HO58.out; subst eo77))
         go_ret
         exact ⟨by first | rfl | (simp [errW_none, errW_some] <;> rfl) | (simp [*, errW_none, errW_some] <;> rfl), by repeat (with_reducible first | exact HB.out | apply ba_ | apply bn_ | apply bd_ | refine bs_ ?_ GE5.out | refine bs_ ?_ GE6.out)⟩
        ·rw [if_neg c60] at H
         exact absurd H (by simp)
       ·rw [if_neg c58] at H
        exact absurd H (by simp)
      ·rw [if_neg c57] at H
       exact absurd H (by simp)
     ·rw [if_neg c55] at H
      exact absurd H (by simp)
 ·replace c2 := Bool.eq_false_iff.mpr c2
  subst c2
  have H1 : (none) = some r := by rw [if_neg (show ¬ (false = true) by decide)] at H; exact H
  clear H
  have H := H1
  clear H1
  exact absurd H (by simp)
/-- THE ONE PURE STATEMENT of diwanlaw21_BitsForms: yours. -/
def diwanlaw21_BitsForms.Pure : Prop := ∃ k, diwanlaw21_BitsForms.f k  = some true
theorem diwanlaw21_BitsForms.walk (P : diwanlaw21_BitsForms.Pure)  (w : World)  :
  Calls Try.prog 8 #[] w fun e w' => e = .returned (.bool true) ∧ Below w.heap.size w w' := by
 obtain ⟨k, h⟩ := P  
 refine (diwanlaw21_BitsForms.calls k  true w h).mono ?_
 rintro e w' ⟨rfl, hd⟩
 exact ⟨rfl, hd⟩
end Go.Proofs.Ytnlfhbohcgjcbaa.PA
namespace Go.Proofs.Ytnlfhbohcgjcbaa.Pure
open Go.RowKit Go.Proofs.Ytnlfhbohcgjcbaa.PA Go.Proofs.YtnlfhbohcgjcbaaW.PrintWords Go.Proofs.YtnlfhbohcgjcbaaW.PrintLast
set_option maxRecDepth 100000 in
theorem bitsForms40 : diwanlaw21_BitsForms.f 40 = some true := by kernel_rfl
theorem BitsForms : diwanlaw21_BitsForms.Pure := ⟨40, bitsForms40⟩
end Go.Proofs.Ytnlfhbohcgjcbaa.Pure
namespace Go.Proofs.Ytnlfhbohcgjcbaa.bitsForms
open Go.ChangeShapes Go.WideShapes Go.ChangeAt Go.RowKit
open Go.Proofs.YtnlfhbohcgjcbaaW
open Go.ChangeMaps (open_string shut_string)
set_option linter.unusedVariables false
theorem own : ownKnob Try.prog.godebug = none := by kernel_rfl
set_option maxRecDepth 100000 in
theorem lifted (os : Os) (started : os.Started) (H : Type) (enc : TypeId × Value → H) :
  ReturnsInHanded {} Try.checked os 8 .any (Rows.bitsFormsSpec.pre6 enc Try.prog Try.f8 Rows.bitsFormsRow.domain false) (Rows.bitsFormsSpec.post enc Try.prog Try.f8 false true false false) := by
 refine returnsInHanded_of_change_sized (C := Try.checked) own started (by kernel_rfl) Try.func8
  (ChangeSpec.witness6 (enc := enc) (C := Try.checked) false ⟨#[], #[], []⟩ 8 (by kernel_rfl) (by kernel_rfl) (by kernel_rfl) (by kernel_rfl)) ?_
 intro W base args ds gs before hval0 hW hcnd hsz0 _
 have hsz : (DataW.weightsEach Try.prog (Try.f8.params.toList ++ Rows.bitsFormsSpec.plain.varTypes Try.prog) (ds ++ gs)).all (· ≤ reachBytes) = true := hsz0
 have hval : ∀ (j : Nat) t v, Try.f8.params[j]? = some t → args[j]? = some v → Value.okWide Try.prog W .any base t v := hval0
 have hW' := hW
 obtain ⟨p, q, hA0, hV, rfl, hfz, hnd⟩ := hW
 have hA : DataW.TrodAll enc Try.prog W 0 (fun _ => true) true Try.f8.params.toList args.toList ds p := hA0
 rw [Try.params8] at hA hval hsz
 obtain ⟨rfl, rfl, rfl⟩ := trodAll_none hA
 obtain ⟨rfl, rfl⟩ := trodVars_none hV
 clear hA0 hval0 hsz0 hsz
 refine (PA.diwanlaw21_BitsForms.walk Pure.BitsForms  W ).mono fun e W' ⟨he, bel⟩ => ?_
 subst he
 exact ⟨_, rfl, _, _, _, [], _, [], hW', trodAll_mk1 (shut_bool Try.underlying4 _), trodAll_mk0, rfl, bel.frame _, fun h => by cases h⟩
theorem over : Rows.bitsFormsRow.holds Try.pinned (OpenSpec.ofChange Rows.bitsFormsSpec) :=
 OpenClaim.holds_of_wide 8 Try.f8 rfl rfl rfl rfl rfl rfl rfl ⟨rfl, rfl, rfl, rfl, rfl⟩ rfl rfl rfl rfl rfl (by kernel_rfl) Try.func8 (by kernel_rfl)
  (of_decide_eq_true (by kernel_rfl)) (by unfold Func.isWrapper; first | (rw [if_pos (by decide +kernel)]; kernel_rfl) | (rw [if_neg (by decide +kernel)]; exact ⟨rfl, rfl⟩))
  (fun os started H enc _ => lifted os started H enc)
theorem proved : Rows.BitsFormsSaid := over
end Go.Proofs.Ytnlfhbohcgjcbaa.bitsForms
namespace Go.Proofs.Ytnlfhbohcgjcbaa
/-- The row, under a short name, for the claim. -/
theorem bitsForms_holds : Rows.BitsFormsSaid := bitsForms.proved
end Go.Proofs.Ytnlfhbohcgjcbaa
