/- Part 2 of a claim of several texts. The statement TxnApart is proved: of any two lots of numbers the transactions made of them are the same for the program just where they are the same for the document, just where their bytes are equal, and just where the one's bytes begin with the other one's. For every input, without a condition. -/
import Derived.Test.YtnlfhbohcgjcbaaCTxnApartm0
import Derived.Shelf.Small.Wraps
import Derived.Shelf.Sort.Plain
import Derived.Shelf.Slices.Turned
import Derived.Ground.Names2Prog
import Derived.Shelf.Slices.CompactI
import Derived.Shelf.Slices.Cells
import Derived.Shelf.Slices.In.SortNone
import Derived.Shelf.Bytes.SlSmallAll
import Derived.Shelf.Bytes.SlEqualAll
import Derived.Shelf.Bytes.Small
import Derived.Test.YtnlfhbohcgjcbaaProg
namespace Go.Proofs.Ytnlfhbohcgjcbaa.PA
open Go.RowKit Go.Proofs.YtnlfhbohcgjcbaaW.PrintWords Go.Proofs.YtnlfhbohcgjcbaaW.PrintLast Go.Proofs.YtnlfhbohcgjcbaaW.PrintMore
attribute [local go_sem] max2_int min2_int max_two min_two max_three min_three max_four min_four
set_option linter.unusedVariables false
set_option linter.unusedSimpArgs false
mutual
def txn_Put.l0 : Nat → List Int → List (S24) → Int → Int → Int → Int → List (S24) → List (S27) → Option (List Int)
 | 0, _, _, _, _, _, _, _, _ => none
 | k + 1, x3, x24, x25, x26, x191000, x191001, x191002, x191003 => if x26 < x25 then (if 0 ≤ x26 then (if x26 < (x24.length : Int) then ((num_PutText.f k ((rd_T24 x24 x26).f0)).bind fun t209 => ((num_Put.f k ((rd_T24 x24 x26).f1)).bind fun t212 => ((num_PutText.f k ((rd_T24 x24 x26).f2)).bind fun t215 => ((slices_Concat_Lbyte_byte.f k (([x3, t209, t212, t215] : List (List Int)))).bind fun t221 => ((txn_flag.f ((rd_T24 x24 x26).f3)).bind fun t224 => (if t221.length < 140737488355328 then (txn_Put.l0 k (t221 ++ [t224]) x24 x25 (wrap64 (x26 + 1)) x191000 x191001 x191002 x191003) else (none))))))) else (none)) else (none)) else ((num_Put.f k (x191003.length : Int)).bind fun t228 => (if x3.length + t228.length < 140737488355328 then (txn_Put.l1 k (x3 ++ t228) x191003 (x191003.length : Int) 0) else (none)))
def txn_Put.l1 : Nat → List Int → List (S27) → Int → Int → Option (List Int)
 | 0, _, _, _, _ => none
 | k + 1, x3, x55, x56, x57 => if x57 < x56 then (if 0 ≤ x57 then (if x57 < (x55.length : Int) then ((num_PutText.f k ((rd_T27 x55 x57).f0)).bind fun t236 => ((num_PutText.f k ((rd_T27 x55 x57).f1)).bind fun t239 => ((slices_Concat_Lbyte_byte.f k (([x3, t236, t239] : List (List Int)))).bind fun t245 => ((txn_flag.f ((rd_T27 x55 x57).f2)).bind fun t248 => (if t245.length < 140737488355328 then (txn_Put.l1 k (t245 ++ [t248]) x55 x56 (wrap64 (x57 + 1))) else (none)))))) else (none)) else (none)) else (some x3)
end
def txn_Put.f (k : Nat) (a0_0 : Int) (a0_1 : Int) (l0_2 : List (S24)) (l0_3 : List (S27)) : Option (List Int) := (txn_May.f k a0_0 a0_1 l0_2 l0_3).bind fun t191 => (if t191 = true then ((num_Put.f k a0_0).bind fun t192 => ((num_Put.f k a0_1).bind fun t195 => ((num_Put.f k (l0_2.length : Int)).bind fun t198 => ((slices_Concat_Lbyte_byte.f k (([t192, t195, t198] : List (List Int)))).bind fun t204 => (txn_Put.l0 k t204 l0_2 (l0_2.length : Int) 0 a0_0 a0_1 l0_2 l0_3))))) else (some ([] : List Int)))
theorem txn_Put.mono_l : ∀ k, (∀ y0 y1 y2 y3 y4 y5 y6 y7, LeO (txn_Put.l0 k y0 y1 y2 y3 y4 y5 y6 y7) (txn_Put.l0 (k + 1) y0 y1 y2 y3 y4 y5 y6 y7)) ∧ (∀ y0 y1 y2 y3, LeO (txn_Put.l1 k y0 y1 y2 y3) (txn_Put.l1 (k + 1) y0 y1 y2 y3))
 | 0 => ⟨fun _ _ _ _ _ _ _ _ r h => by simp [txn_Put.l0] at h, fun _ _ _ _ r h => by simp [txn_Put.l1] at h⟩
 | k + 1 => by
  obtain ⟨ih0, ih1⟩ := txn_Put.mono_l k
  refine ⟨?_, ?_⟩
  ·intro y0 y1 y2 y3 y4 y5 y6 y7
   unfold txn_Put.l0
   repeat' first
   | (with_reducible exact ih0 _ _ _ _ _ _ _ _)
   | (with_reducible exact ih1 _ _ _ _)
   | (with_reducible exact num_Put.mono _ _)
   | (with_reducible exact num_PutText.mono _ _)
   | (with_reducible exact slices_Concat_Lbyte_byte.mono _ _)
   | (with_reducible exact txn_May.mono _ _ _ _ _)
   | (with_reducible exact LeO.refl _)
   | (with_reducible exact LeO.none _)
   | (with_reducible refine LeO.ite ?_ ?_)
   | (with_reducible refine LeO.bind ?_ (fun _ => ?_))
  ·intro y0 y1 y2 y3
   unfold txn_Put.l1
   repeat' first
   | (with_reducible exact ih0 _ _ _ _ _ _ _ _)
   | (with_reducible exact ih1 _ _ _ _)
   | (with_reducible exact num_Put.mono _ _)
   | (with_reducible exact num_PutText.mono _ _)
   | (with_reducible exact slices_Concat_Lbyte_byte.mono _ _)
   | (with_reducible exact txn_May.mono _ _ _ _ _)
   | (with_reducible exact LeO.refl _)
   | (with_reducible exact LeO.none _)
   | (with_reducible refine LeO.ite ?_ ?_)
   | (with_reducible refine LeO.bind ?_ (fun _ => ?_))
theorem txn_Put.mono : ∀ a0 a1 a2 a3 k, LeO (txn_Put.f k a0 a1 a2 a3) (txn_Put.f (k + 1) a0 a1 a2 a3) := by
 intro a0 a1 a2 a3 k
 obtain ⟨ih0, ih1⟩ := txn_Put.mono_l k
 unfold txn_Put.f
 repeat' first
   | (with_reducible exact ih0 _ _ _ _ _ _ _ _)
   | (with_reducible exact ih1 _ _ _ _)
   | (with_reducible exact num_Put.mono _ _)
   | (with_reducible exact num_PutText.mono _ _)
   | (with_reducible exact slices_Concat_Lbyte_byte.mono _ _)
   | (with_reducible exact txn_May.mono _ _ _ _ _)
   | (with_reducible exact LeO.refl _)
   | (with_reducible exact LeO.none _)
   | (with_reducible refine LeO.ite ?_ ?_)
   | (with_reducible refine LeO.bind ?_ (fun _ => ?_))
def txn_Put.T3 : Bool × List (List Nat × List Nat) := (true, [([], []), ([0], [0]), ([1], [1]), ([], []), ([3], [3]), ([4, 2], [4]), ([], []), ([6], [6]), ([7], [7]), ([8, 5], [8]), ([2, 5, 9], [2, 5, 9]), ([10, 9], [10]), ([11, 11, 0, 1, 2, 3, 4, 5, 6, 7, 8, 9, 10, 11], [11])])
def txn_Put.B3 : List Nat := [0, 1, 3, 0, 8, 31, 0, 64, 192, 511, 1023, 2047, 4095]
theorem txn_Put.tab3 : rtab .any (opsOf Try.f19 3) = txn_Put.T3 := by kernel_rfl
theorem txn_Put.bits3 : waitsOk txn_Put.T3.2 txn_Put.B3 = true := by kernel_rfl
def txn_Put.T7 : Bool × List (List Nat × List Nat) := (true, [([], []), ([], []), ([1], [1]), ([2], [2]), ([], []), ([4], [4]), ([5, 3], [5]), ([], []), ([7], [7]), ([8, 6], [8]), ([0, 3, 6, 9], [0, 3, 6, 9]), ([10, 9], [10]), ([], []), ([12], [12]), ([13, 11], [13]), ([14], [14]), ([11, 15, 14], [11, 15]), ([16, 16, 0, 1, 2, 3, 4, 5, 6, 7, 8, 9, 10, 11, 12, 13, 14, 15, 16], [0, 16])])
def txn_Put.B7 : List Nat := [0, 0, 2, 6, 0, 16, 62, 0, 128, 510, 1023, 2047, 0, 4096, 16383, 32767, 65535, 131071]
theorem txn_Put.tab7 : rtab .any (opsOf Try.f19 7) = txn_Put.T7 := by kernel_rfl
theorem txn_Put.bits7 : waitsOk txn_Put.T7.2 txn_Put.B7 = true := by kernel_rfl
def txn_Put.T13 : Bool × List (List Nat × List Nat) := (true, [([], []), ([], []), ([1], [1]), ([2], [2]), ([], []), ([4], [4]), ([5, 3], [5]), ([0, 3, 6], [0, 3, 6]), ([7, 6], [7]), ([], []), ([9], [9]), ([10, 8], [10]), ([11], [11]), ([8, 12, 11], [8, 12]), ([13, 13, 0, 1, 2, 3, 4, 5, 6, 7, 8, 9, 10, 11, 12, 13], [0, 13])])
def txn_Put.B13 : List Nat := [0, 0, 2, 6, 0, 16, 62, 127, 255, 0, 512, 2047, 4095, 8191, 16383]
theorem txn_Put.tab13 : rtab .any (opsOf Try.f19 13) = txn_Put.T13 := by kernel_rfl
theorem txn_Put.bits13 : waitsOk txn_Put.T13.2 txn_Put.B13 = true := by kernel_rfl
set_option maxHeartbeats 8000000 in
set_option maxRecDepth 100000 in
theorem txn_Put.calls (k : Nat) (a0_0 : Int) (a0_1 : Int) (A0_2 : Option Addr) (c0_2 : Nat) (l0_2 : List (S24)) (A0_3 : Option Addr) (c0_3 : Nat) (l0_3 : List (S27)) (r : List Int) (w : World) (hr0_2 : Kd.C k24 w A0_2 l0_2.length l0_2) (hc0_2 : l0_2.length ≤ c0_2) (hr0_3 : Kd.C k27 w A0_3 l0_3.length l0_3) (hc0_3 : l0_3.length ≤ c0_3) (h : txn_Put.f k a0_0 a0_1 l0_2 l0_3 = some r) :
  Calls Try.prog 19 #[.agg #[.int .i64 a0_0, .int .i64 a0_1, .slice A0_2 l0_2.length c0_2, .slice A0_3 l0_3.length c0_3]] w fun e w' => ∃ v0_ : Value, e = .returned (v0_) ∧ Kd.R (Kd.int .u8) 5 w' w.heap.size (fun _ => True) v0_ r ∧ Below w.heap.size w w' := by
 have hu30 := Try.underlying30
 have hu24 := Try.underlying24
 have hu27 := Try.underlying27
 have HR0_2 := Aside0.mk hr0_2
 have HC0_2 := Aside0.mk hc0_2
 clear hr0_2 hc0_2
 have HR0_3 := Aside0.mk hr0_3
 have HC0_3 := Aside0.mk hc0_3
 clear hr0_3 hc0_3
 have HB := Aside0.mk (Below.refl w.heap.size w)
 have H : ((txn_May.f k a0_0 a0_1 l0_2 l0_3).bind fun t191 => (if t191 = true then ((num_Put.f k a0_0).bind fun t192 => ((num_Put.f k a0_1).bind fun t195 => ((num_Put.f k (l0_2.length : Int)).bind fun t198 => ((slices_Concat_Lbyte_byte.f k (([t192, t195, t198] : List (List Int)))).bind fun t204 => (txn_Put.l0 k t204 l0_2 (l0_2.length : Int) 0 a0_0 a0_1 l0_2 l0_3))))) else (some ([] : List Int)))) = some r := h
 clear h
 replace H := Option.bind_eq_some_iff.mp H
 obtain ⟨t191, A20, H⟩ := H
 (try dsimp only at H)
 have A2 := Aside0.mk A20
 clear A20
 by_cases c3 : t191 = true
 ·subst c3
  have H1 : ((num_Put.f k a0_0).bind fun t192 => ((num_Put.f k a0_1).bind fun t195 => ((num_Put.f k (l0_2.length : Int)).bind fun t198 => ((slices_Concat_Lbyte_byte.f k (([t192, t195, t198] : List (List Int)))).bind fun t204 => (txn_Put.l0 k t204 l0_2 (l0_2.length : Int) 0 a0_0 a0_1 l0_2 l0_3))))) = some r := by rw [if_pos rfl] at H; exact H
  clear H
  have H := H1
  clear H1
  replace H := Option.bind_eq_some_iff.mp H
  obtain ⟨t192, A40, H⟩ := H
  (try dsimp only at H)
  have A4 := Aside0.mk A40
  clear A40
  replace H := Option.bind_eq_some_iff.mp H
  obtain ⟨t195, A50, H⟩ := H
  (try dsimp only at H)
  have A5 := Aside0.mk A50
  clear A50
  replace H := Option.bind_eq_some_iff.mp H
  obtain ⟨t198, A60, H⟩ := H
  (try dsimp only at H)
  have A6 := Aside0.mk A60
  clear A60
  obtain ⟨y201, hy201⟩ : ∃ y_ : List (List Int), y_ = (([t192, t195, t198] : List (List Int))) := ⟨_, rfl⟩
  replace H : ((slices_Concat_Lbyte_byte.f k y201).bind fun t204 => (txn_Put.l0 k t204 l0_2 (l0_2.length : Int) 0 a0_0 a0_1 l0_2 l0_3)) = some r := by first | (rw [hy201]; with_reducible exact H) | (have H2_ := (Option.bind_some _ _).symm.trans H; rw [hy201]; with_reducible exact H2_) | (have H2_ := (Option.bind_some _ _).symm.trans H; with_reducible exact H2_) | with_reducible exact H | (rw [hy201]; exact H) | exact H
  have Ny201 := Aside0.mk hy201
  clear hy201
  replace H := Option.bind_eq_some_iff.mp H
  obtain ⟨t204, A70, H⟩ := H
  (try dsimp only at H)
  have A7 := Aside0.mk A70
  clear A70
  have H' := Aside0.mk H
  clear H
  go_enter Try.func19, Try.ntmps19
  try go_wp2_with (first | ((with_reducible refine gate_dst (N := 1) rfl ?_); refine box_event ?hg (N := 1) ?hd (cs := #[.int .i64 a0_0, .int .i64 a0_1, .slice A0_2 l0_2.length c0_2, .slice A0_3 l0_3.length c0_3]) (t := 30) ?hr ?_; (case hd => rfl); (case hg => rfl); (case hr => first | (go_simp; done) | (go_simp; rfl)); intro gb190 hg w8 hbox hb; have n0_ := Aside0.mk (below_step (by repeat (with_reducible first | exact HB.out | apply ba_ | apply bn_ | apply bd_)) hb); have n1_ := Aside0.mk (hbox); have n2_ := Aside0.mk ((by rw [hg]; exact (below_size (by repeat (with_reducible first | exact HB.out | apply ba_ | apply bn_ | apply bd_))) : w.heap.size ≤ gb190)); have n3_ := Aside0.mk ((by rw [hg]; exact (below_size (by repeat (with_reducible first | exact HB.out | apply ba_ | apply bn_ | apply bd_))) : w.heap.size ≤ gb190)); clear HB; have HB := n0_; have BK190 := n1_; have GW190 := n2_; have GE190 := n3_; clear n0_ n1_ n2_ n3_; clear hb hbox hg; have hcz9_0 : w8.cell? ⟨gb190, 0, none⟩ = some (.int .i64 a0_0) := (blk_cell BK190.out 0).trans rfl; have hcz9_1 : w8.cell? ⟨gb190, 1, none⟩ = some (.int .i64 a0_1) := (blk_cell BK190.out 1).trans rfl; have hcz9_2 : w8.cell? ⟨gb190, 2, none⟩ = some (.slice A0_2 l0_2.length c0_2) := (blk_cell BK190.out 2).trans rfl; have hcz9_3 : w8.cell? ⟨gb190, 3, none⟩ = some (.slice A0_3 l0_3.length c0_3) := (blk_cell BK190.out 3).trans rfl; have hfz9_0 := blk_frozen BK190.out 0; have hfz9_1 := blk_frozen BK190.out 1; have hfz9_2 := blk_frozen BK190.out 2; have hfz9_3 := blk_frozen BK190.out 3) | ((with_reducible refine gate_callee (f := 18) rfl ?_); refine goesM_ (some 9) Try.func18 #[.agg #[.int .i64 a0_0, .int .i64 a0_1, .slice A0_2 l0_2.length c0_2, .slice A0_3 l0_3.length c0_3]] ?_; (with_reducible refine (txn_May.calls k a0_0 a0_1 _ _ l0_2 _ _ l0_3 true _ ?side1 ?side2 ?side3 ?side4 A2.out).mono ?_); (case side1 => repeat (first | exact (Kd.C_below HR0_2.out HB.out) | (with_reducible refine ca_ ?_ _) | (with_reducible refine cn_ ?_ _) | (with_reducible refine cd_ ?_))); (case side2 => exact HC0_2.out); (case side3 => repeat (first | exact (Kd.C_below HR0_3.out HB.out) | (with_reducible refine ca_ ?_ _) | (with_reducible refine cn_ ?_ _) | (with_reducible refine cd_ ?_))); (case side4 => exact HC0_3.out); rintro e w10 ⟨rfl, hb⟩; refine ⟨_, rfl, ?_⟩; have n0_ := Aside0.mk (blk_below (g := gb190) (o := .cells #[.int .i64 a0_0, .int .i64 a0_1, .slice A0_2 l0_2.length c0_2, .slice A0_3 l0_3.length c0_3] 30 (0, 0)) (by (with_reducible repeat (first | refine kn_ ?_ _ | refine kd_ ?_ | refine ka_ ?_ _)); exact BK190.out) hb); have n1_ := Aside0.mk (below_step (by repeat (with_reducible first | exact HB.out | apply ba_ | apply bn_ | apply bd_ | refine bs_ ?_ GE190.out)) hb); clear BK190; clear HB; have BK190 := n0_; have HB := n1_; clear n0_ n1_; clear hb))
  have n0_ := Aside0.mk (blk_drew BK190.out)
  have n1_ := Aside0.mk (below_drew1 HB.out)
  clear BK190
  clear HB
  have BK190 := n0_
  have HB := n1_
  clear n0_ n1_
  refine start_ (n := 13) (S := fun w' => w'.cell? ⟨gb190, 0, none⟩ = some (.int .i64 a0_0) ∧ w'.cell? ⟨gb190, 1, none⟩ = some (.int .i64 a0_1) ∧ w'.cell? ⟨gb190, 2, none⟩ = some (.slice A0_2 l0_2.length c0_2) ∧ w'.cell? ⟨gb190, 3, none⟩ = some (.slice A0_3 l0_3.length c0_3)) (ds := []) #[false, false, false, false, false, false, false, false, false, false, false, false, false] (by kernel_rfl) rfl rfl ⟨(blk_cell BK190.out 0).trans rfl, (blk_cell BK190.out 1).trans rfl, (blk_cell BK190.out 2).trans rfl, (blk_cell BK190.out 3).trans rfl⟩ (fun hHeld => ?_); refine with_tabW txn_Put.tab3 txn_Put.bits3 (fun HT_ HW_ => ?_)
  generalize w10.drew = w11 at BK190 HB hHeld ⊢
  refine pure_ (i := 0) (N := some 11) (v := ?_) (a' := ?_) #[true, false, false, false, false, false, false, false, false, false, false, false, false] rfl rfl (any_of HT_.out (by kernel_rfl)) (fun _ _ _ h => h) (Or.inl ⟨by rfl, ?_⟩) ?_ ?_
  rotate_left
  ·intro w'
   go_simp
   with_reducible rfl
  rotate_left
  ·simp only [Act.put, List.setIfInBounds_toArray, List.set_cons_zero, List.set_cons_succ, i64_w, i32_w]
   rfl
  refine pure_ (i := 3) (N := some 14) (v := ?_) (a' := ?_) #[true, false, false, true, false, false, false, false, false, false, false, false, false] rfl rfl (any_of HT_.out (by kernel_rfl)) (fun _ _ _ h => h) (Or.inl ⟨by rfl, ?_⟩) ?_ ?_
  rotate_left
  ·intro w'
   go_simp
   with_reducible rfl
  rotate_left
  ·simp only [Act.put, List.setIfInBounds_toArray, List.set_cons_zero, List.set_cons_succ, i64_w, i32_w]
   rfl
  refine pure_ (i := 6) (N := some 17) (v := ?_) (a' := ?_) #[true, false, false, true, false, false, true, false, false, false, false, false, false] rfl rfl (any_of HT_.out (by kernel_rfl)) (fun _ _ _ h => h) (Or.inl ⟨by rfl, ?_⟩) ?_ ?_
  rotate_left
  ·intro w'
   go_simp
   with_reducible rfl
  rotate_left
  ·simp only [Act.put, List.setIfInBounds_toArray, List.set_cons_zero, List.set_cons_succ, i64_w, i32_w]
   rfl
  refine take_ (i := 1) (N := some 12) (v := ?_) (a' := ?_) #[true, true, false, true, false, false, true, false, false, false, false, false, false] rfl rfl (take_ofW HT_.out HW_.out (by kernel_rfl)) (fun _ _ _ h => h) (Or.inl ⟨by rfl, ?_⟩) hHeld ?_ ?_
  rotate_left
  ·rintro w' ⟨s0, s1, s2, s3⟩
   go_simp
   with_reducible rfl
  rotate_left
  ·simp only [Act.put, List.setIfInBounds_toArray, List.set_cons_zero, List.set_cons_succ, i64_w, i32_w]
   rfl
  refine take_ (i := 4) (N := some 15) (v := ?_) (a' := ?_) #[true, true, false, true, true, false, true, false, false, false, false, false, false] rfl rfl (take_ofW HT_.out HW_.out (by kernel_rfl)) (fun _ _ _ h => h) (Or.inl ⟨by rfl, ?_⟩) hHeld ?_ ?_
  rotate_left
  ·rintro w' ⟨s0, s1, s2, s3⟩
   go_simp
   with_reducible rfl
  rotate_left
  ·simp only [Act.put, List.setIfInBounds_toArray, List.set_cons_zero, List.set_cons_succ, i64_w, i32_w]
   rfl
  refine take_ (i := 7) (N := some 18) (v := ?_) (a' := ?_) #[true, true, false, true, true, false, true, true, false, false, false, false, false] rfl rfl (take_ofW HT_.out HW_.out (by kernel_rfl)) (fun _ _ _ h => h) (Or.inl ⟨by rfl, ?_⟩) hHeld ?_ ?_
  rotate_left
  ·rintro w' ⟨s0, s1, s2, s3⟩
   go_simp
   with_reducible rfl
  rotate_left
  ·simp only [Act.put, List.setIfInBounds_toArray, List.set_cons_zero, List.set_cons_succ, i64_w, i32_w]
   rfl
  refine pure_ (i := 8) (N := some 19) (v := ?_) (a' := ?_) #[true, true, false, true, true, false, true, true, true, false, false, false, false] rfl rfl (any_of HT_.out (by kernel_rfl)) (fun _ _ _ h => h) (Or.inl ⟨by rfl, ?_⟩) ?_ ?_
  rotate_left
  ·intro w'
   go_simp
   with_reducible rfl
  rotate_left
  ·simp only [Act.put, List.setIfInBounds_toArray, List.set_cons_zero, List.set_cons_succ, i64_w, i32_w]
   rfl
  refine one_ (i := 2) (N := some 13) #[true, true, true, true, true, false, true, true, true, false, false, false, false] rfl rfl (one_of HT_.out (by kernel_rfl)) (by decide) (fun K hK => ?_)
  refine goesV_ Try.func73 (by kernel_rfl) rfl #[.int .i64 a0_0] (by rfl) rfl rfl (by (try simp only [List.map_toArray, List.map_cons, List.map_nil]); first | done | rfl | (simp only [List.length_drop, List.length_take]; rfl)) ?_
  with_reducible refine (num_Put.calls k a0_0 t192 _ A4.out).mono ?_
  rintro e w12 ⟨v193, rfl, ho0, hb⟩
  refine ⟨_, rfl, ?_⟩
  have n0_ := Aside0.mk (Kd.R_lower ho0 (below_size (by repeat (with_reducible first | exact HB.out | apply ba_ | apply bn_ | apply bd_ | refine bs_ ?_ GE190.out))))
  have n1_ := Aside0.mk (blk_below (g := gb190) (o := .cells #[.int .i64 a0_0, .int .i64 a0_1, .slice A0_2 l0_2.length c0_2, .slice A0_3 l0_3.length c0_3] 30 (0, 0)) (by (with_reducible repeat (first | refine kn_ ?_ _ | refine kd_ ?_ | refine ka_ ?_ _)); exact BK190.out) hb)
  have n2_ := Aside0.mk (below_step (by repeat (with_reducible first | exact HB.out | apply ba_ | apply bn_ | apply bd_ | refine bs_ ?_ GE190.out)) hb)
  clear BK190
  clear HB
  have HO194 := n0_
  have BK190 := n1_
  have HB := n2_
  clear n0_ n1_ n2_
  clear hb ho0
  refine hK.out _ _ ⟨(blk_cell BK190.out 0).trans rfl, (blk_cell BK190.out 1).trans rfl, (blk_cell BK190.out 2).trans rfl, (blk_cell BK190.out 3).trans rfl⟩ (fun hHeld => ?_)
  clear hK K
  refine norm_ (a' := ?_) ?_ ?_
  rotate_left
  ·show Act.put _ (some 13) _ = _
   simp only [Act.put, List.setIfInBounds_toArray, List.set_cons_zero, List.set_cons_succ, i64_w, i32_w]
   rfl
  refine one_ (i := 5) (N := some 16) #[true, true, true, true, true, true, true, true, true, false, false, false, false] rfl rfl (one_of HT_.out (by kernel_rfl)) (by decide) (fun K hK => ?_)
  refine goesV_ Try.func73 (by kernel_rfl) rfl #[.int .i64 a0_1] (by rfl) rfl rfl (by (try simp only [List.map_toArray, List.map_cons, List.map_nil]); first | done | rfl | (simp only [List.length_drop, List.length_take]; rfl)) ?_
  with_reducible refine (num_Put.calls k a0_1 t195 _ A5.out).mono ?_
  rintro e w13 ⟨v196, rfl, ho0, hb⟩
  refine ⟨_, rfl, ?_⟩
  have n0_ := Aside0.mk (Kd.R_elder' (by (with_reducible repeat (first | apply ra_ | apply rn_ | apply rd_)); exact HO194.out) (Kd.R_base ho0) hb)
  have n1_ := Aside0.mk (Kd.R_lower (Kd.R_new' ho0 (Kd.R_lt (by (with_reducible repeat (first | apply ra_ | apply rn_ | apply rd_)); exact HO194.out))) (below_size (by repeat (with_reducible first | exact HB.out | apply ba_ | apply bn_ | apply bd_ | refine bs_ ?_ GE190.out))))
  have n2_ := Aside0.mk (blk_below (g := gb190) (o := .cells #[.int .i64 a0_0, .int .i64 a0_1, .slice A0_2 l0_2.length c0_2, .slice A0_3 l0_3.length c0_3] 30 (0, 0)) (by (with_reducible repeat (first | refine kn_ ?_ _ | refine kd_ ?_ | refine ka_ ?_ _)); exact BK190.out) hb)
  have n3_ := Aside0.mk (below_step (by repeat (with_reducible first | exact HB.out | apply ba_ | apply bn_ | apply bd_ | refine bs_ ?_ GE190.out)) hb)
  clear HO194
  clear BK190
  clear HB
  have HO194 := n0_
  have HO197 := n1_
  have BK190 := n2_
  have HB := n3_
  clear n0_ n1_ n2_ n3_
  clear hb ho0
  refine hK.out _ _ ⟨(blk_cell BK190.out 0).trans rfl, (blk_cell BK190.out 1).trans rfl, (blk_cell BK190.out 2).trans rfl, (blk_cell BK190.out 3).trans rfl⟩ (fun hHeld => ?_)
  clear hK K
  refine norm_ (a' := ?_) ?_ ?_
  rotate_left
  ·show Act.put _ (some 16) _ = _
   simp only [Act.put, List.setIfInBounds_toArray, List.set_cons_zero, List.set_cons_succ, i64_w, i32_w]
   rfl
  refine one_ (i := 9) (N := some 20) #[true, true, true, true, true, true, true, true, true, true, false, false, false] rfl rfl (one_of HT_.out (by kernel_rfl)) (by decide) (fun K hK => ?_)
  refine goesV_ Try.func73 (by kernel_rfl) rfl #[.int .i64 (l0_2.length : Int)] (by rfl) rfl rfl (by (try simp only [List.map_toArray, List.map_cons, List.map_nil]); first | done | rfl | (simp only [List.length_drop, List.length_take]; rfl)) ?_
  with_reducible refine (num_Put.calls k (l0_2.length : Int) t198 _ A6.out).mono ?_
  rintro e w14 ⟨v199, rfl, ho0, hb⟩
  refine ⟨_, rfl, ?_⟩
  have n0_ := Aside0.mk (Kd.R_elder' (by (with_reducible repeat (first | apply ra_ | apply rn_ | apply rd_)); exact HO194.out) (Kd.R_base ho0) hb)
  have n1_ := Aside0.mk (Kd.R_elder' (by (with_reducible repeat (first | apply ra_ | apply rn_ | apply rd_)); exact HO197.out) (Kd.R_base ho0) hb)
  have n2_ := Aside0.mk (Kd.R_lower (Kd.R_new' (Kd.R_new' ho0 (Kd.R_lt (by (with_reducible repeat (first | apply ra_ | apply rn_ | apply rd_)); exact HO194.out))) (Kd.R_lt (by (with_reducible repeat (first | apply ra_ | apply rn_ | apply rd_)); exact HO197.out))) (below_size (by repeat (with_reducible first | exact HB.out | apply ba_ | apply bn_ | apply bd_ | refine bs_ ?_ GE190.out))))
  have n3_ := Aside0.mk (blk_below (g := gb190) (o := .cells #[.int .i64 a0_0, .int .i64 a0_1, .slice A0_2 l0_2.length c0_2, .slice A0_3 l0_3.length c0_3] 30 (0, 0)) (by (with_reducible repeat (first | refine kn_ ?_ _ | refine kd_ ?_ | refine ka_ ?_ _)); exact BK190.out) hb)
  have n4_ := Aside0.mk (below_step (by repeat (with_reducible first | exact HB.out | apply ba_ | apply bn_ | apply bd_ | refine bs_ ?_ GE190.out)) hb)
  clear HO194
  clear HO197
  clear BK190
  clear HB
  have HO194 := n0_
  have HO197 := n1_
  have HO200 := n2_
  have BK190 := n3_
  have HB := n4_
  clear n0_ n1_ n2_ n3_ n4_
  clear hb ho0
  obtain ⟨Ao15, co15, eo15⟩ := Kd.R_slice HO194.out
  (first | subst eo15 | (injection eo15 with f1_ f2_ f3_; have f4_ := f1_.symm; have f5_ := f3_.symm; clear f1_ f2_ f3_; subst f4_; subst f5_))
  obtain ⟨Ao16, co16, eo16⟩ := Kd.R_slice HO197.out
  (first | subst eo16 | (injection eo16 with f1_ f2_ f3_; have f4_ := f1_.symm; have f5_ := f3_.symm; clear f1_ f2_ f3_; subst f4_; subst f5_))
  obtain ⟨Ao17, co17, eo17⟩ := Kd.R_slice HO200.out
  (first | subst eo17 | (injection eo17 with f1_ f2_ f3_; have f4_ := f1_.symm; have f5_ := f3_.symm; clear f1_ f2_ f3_; subst f4_; subst f5_))
  refine hK.out _ _ ⟨(blk_cell BK190.out 0).trans rfl, (blk_cell BK190.out 1).trans rfl, (blk_cell BK190.out 2).trans rfl, (blk_cell BK190.out 3).trans rfl⟩ (fun hHeld => ?_)
  clear hK K
  refine norm_ (a' := ?_) ?_ ?_
  rotate_left
  ·show Act.put _ (some 20) _ = _
   simp only [Act.put, List.setIfInBounds_toArray, List.set_cons_zero, List.set_cons_succ, i64_w, i32_w]
   rfl
  refine one_ (i := 10) (N := some 21) #[true, true, true, true, true, true, true, true, true, true, true, false, false] rfl rfl (one_of HT_.out (by kernel_rfl)) (by decide) (fun K hK => ?_)
  refine Kd.N_lit_step (Kd.slice 5 (Kd.int .u8)) _ 33 ?hg (N' := 21) ?hd (xs := ([t192, t195, t198] : List (List Int))) (inner := [.slice Ao15 t192.length co15, .slice Ao16 t195.length co16, .slice Ao17 t198.length co17]) (ok := (fun k_ => k_ ≠ gb190)) (okp := (fun k_ => k_ ≠ gb190)) ?hr ?hp (fun _ hk => hk) ((show ∀ k_, w14.heap.size ≤ k_ → (fun k_ => k_ ≠ gb190) k_ from fun k_ hk => Kd.freshB (g := gb190) (o := .cells #[.int .i64 a0_0, .int .i64 a0_1, .slice A0_2 l0_2.length c0_2, .slice A0_3 l0_3.length c0_3] 30 (0, 0)) (by (with_reducible repeat (first | refine kn_ ?_ _ | refine kd_ ?_ | refine ka_ ?_ _)); exact BK190.out) k_ hk) _ (Nat.le_refl _)) (Below.refl _ _) (Nat.le_refl _) (by simp) ?_; (case hd => rfl); (case hg => rfl); (case hr => first | (go_simp; done) | (go_simp; rfl)); (case hp => exact (Reps.one (show Kd.FK (Kd.slice 5 (Kd.int .u8)) _ _ t192 [.slice Ao15 t192.length co15] from (Kd.FK_slice_mk (Kd.R_reads' (Kd.R_mono (ok' := (fun k_ => k_ ≠ gb190)) (Kd.R_types (HO194.out) BK190.out (by decide)) (fun k_ hk => hk.2))).2.1 (Kd.R_F (Kd.R_mono (ok' := (fun k_ => k_ ≠ gb190)) (Kd.R_types (HO194.out) BK190.out (by decide)) (fun k_ hk => hk.2))))) (Reps.one (show Kd.FK (Kd.slice 5 (Kd.int .u8)) _ _ t195 [.slice Ao16 t195.length co16] from (Kd.FK_slice_mk (Kd.R_reads' (Kd.R_mono (ok' := (fun k_ => k_ ≠ gb190)) (Kd.R_types (HO197.out) BK190.out (by decide)) (fun k_ hk => hk.2))).2.1 (Kd.R_F (Kd.R_mono (ok' := (fun k_ => k_ ≠ gb190)) (Kd.R_types (HO197.out) BK190.out (by decide)) (fun k_ hk => hk.2))))) (Reps.one (show Kd.FK (Kd.slice 5 (Kd.int .u8)) _ _ t198 [.slice Ao17 t198.length co17] from (Kd.FK_slice_mk (Kd.R_reads' (Kd.R_mono (ok' := (fun k_ => k_ ≠ gb190)) (Kd.R_types (HO200.out) BK190.out (by decide)) (fun k_ hk => hk.2))).2.1 (Kd.R_F (Kd.R_mono (ok' := (fun k_ => k_ ≠ gb190)) (Kd.R_types (HO200.out) BK190.out (by decide)) (fun k_ hk => hk.2))))) (Reps.none _ _)))))
  intro v202 w18 ho19 hb hg_ hnew_
  clear hg_ hnew_
  (first | rw [← Ny201.out] at ho19 | (simp only [Int.reduceToNat] at ho19; rw [← Ny201.out] at ho19))
  have n0_ := Aside0.mk (Kd.N_lower ho19 (below_size (by repeat (with_reducible first | exact HB.out | apply ba_ | apply bn_ | apply bd_ | refine bs_ ?_ GE190.out))))
  have n1_ := Aside0.mk (blk_below (g := gb190) (o := .cells #[.int .i64 a0_0, .int .i64 a0_1, .slice A0_2 l0_2.length c0_2, .slice A0_3 l0_3.length c0_3] 30 (0, 0)) (by (with_reducible repeat (first | refine kn_ ?_ _ | refine kd_ ?_ | refine ka_ ?_ _)); exact BK190.out) hb)
  have n2_ := Aside0.mk (below_step (by repeat (with_reducible first | exact HB.out | apply ba_ | apply bn_ | apply bd_ | refine bs_ ?_ GE190.out)) hb)
  clear BK190
  clear HB
  clear HO194
  clear HO197
  clear HO200
  have HO203 := n0_
  have BK190 := n1_
  have HB := n2_
  clear n0_ n1_ n2_
  clear hb ho19
  obtain ⟨Ao20, co20, eo20⟩ := Kd.N_slice HO203.out
  (first | subst eo20 | (injection eo20 with f1_ f2_ f3_; have f4_ := f1_.symm; have f5_ := f3_.symm; clear f1_ f2_ f3_; subst f4_; subst f5_))
  refine hK.out _ _ ⟨(blk_cell BK190.out 0).trans rfl, (blk_cell BK190.out 1).trans rfl, (blk_cell BK190.out 2).trans rfl, (blk_cell BK190.out 3).trans rfl⟩ (fun hHeld => ?_)
  clear hK K
  refine norm_ (a' := ?_) ?_ ?_
  rotate_left
  ·show Act.put _ (some 21) _ = _
   simp only [Act.put, List.setIfInBounds_toArray, List.set_cons_zero, List.set_cons_succ, i64_w, i32_w]
   rfl
  refine one_ (i := 11) (N := some 22) #[true, true, true, true, true, true, true, true, true, true, true, true, false] rfl rfl (one_of HT_.out (by kernel_rfl)) (by decide) (fun K hK => ?_)
  refine goesV_ Try.func72 (by kernel_rfl) rfl #[.slice Ao20 y201.length co20] (by rfl) rfl rfl (by (try simp only [List.map_toArray, List.map_cons, List.map_nil]); first | done | rfl | (simp only [List.length_drop, List.length_take]; rfl)) ?_
  with_reducible refine (slices_Concat_Lbyte_byte.calls k _ _ y201 t204 _ ?side1 ?side2 A7.out).mono ?_
  (case side1 => repeat (first | exact (Kd.N_reads' HO203.out).2.2 | (with_reducible refine ca_ ?_ _) | (with_reducible refine cn_ ?_ _) | (with_reducible refine cd_ ?_)))
  (case side2 => exact (Kd.N_reads' HO203.out).2.1)
  rintro e w21 ⟨v205, rfl, ho0, hb⟩
  refine ⟨_, rfl, ?_⟩
  have n0_ := Aside0.mk (Kd.N_elder' (by (with_reducible repeat (first | apply Kd.N_alloc | apply Kd.N_drewN | apply Kd.N_drew)); exact HO203.out) (Kd.R_base ho0) hb)
  have n1_ := Aside0.mk (Kd.R_lower ho0 (below_size (by repeat (with_reducible first | exact HB.out | apply ba_ | apply bn_ | apply bd_ | refine bs_ ?_ GE190.out))))
  have n2_ := Aside0.mk (blk_below (g := gb190) (o := .cells #[.int .i64 a0_0, .int .i64 a0_1, .slice A0_2 l0_2.length c0_2, .slice A0_3 l0_3.length c0_3] 30 (0, 0)) (by (with_reducible repeat (first | refine kn_ ?_ _ | refine kd_ ?_ | refine ka_ ?_ _)); exact BK190.out) hb)
  have n3_ := Aside0.mk (below_step (by repeat (with_reducible first | exact HB.out | apply ba_ | apply bn_ | apply bd_ | refine bs_ ?_ GE190.out)) hb)
  clear HO203
  clear BK190
  clear HB
  have HO203 := n0_
  have HO206 := n1_
  have BK190 := n2_
  have HB := n3_
  clear n0_ n1_ n2_ n3_
  clear hb ho0
  refine hK.out _ _ ⟨(blk_cell BK190.out 0).trans rfl, (blk_cell BK190.out 1).trans rfl, (blk_cell BK190.out 2).trans rfl, (blk_cell BK190.out 3).trans rfl⟩ (fun hHeld => ?_)
  clear hK K
  refine norm_ (a' := ?_) ?_ ?_
  rotate_left
  ·show Act.put _ (some 22) _ = _
   simp only [Act.put, List.setIfInBounds_toArray, List.set_cons_zero, List.set_cons_succ, i64_w, i32_w]
   rfl
  refine pure_ (i := 12) (N := some 3) (v := ?_) (a' := ?_) #[true, true, true, true, true, true, true, true, true, true, true, true, true] rfl rfl (any_of HT_.out (by kernel_rfl)) (fun _ _ _ h => h) (Or.inl ⟨by rfl, ?_⟩) ?_ ?_
  rotate_left
  ·intro w'
   go_simp
   with_reducible rfl
  rotate_left
  ·simp only [Act.put, List.setIfInBounds_toArray, List.set_cons_zero, List.set_cons_succ, i64_w, i32_w]
   rfl
  refine done_ (done_of HT_.out (by kernel_rfl)) ?_
  have hcz22_0 : w21.cell? ⟨gb190, 0, none⟩ = some (.int .i64 a0_0) := (blk_cell BK190.out 0).trans rfl
  have hcz22_1 : w21.cell? ⟨gb190, 1, none⟩ = some (.int .i64 a0_1) := (blk_cell BK190.out 1).trans rfl
  have hcz22_2 : w21.cell? ⟨gb190, 2, none⟩ = some (.slice A0_2 l0_2.length c0_2) := (blk_cell BK190.out 2).trans rfl
  have hcz22_3 : w21.cell? ⟨gb190, 3, none⟩ = some (.slice A0_3 l0_3.length c0_3) := (blk_cell BK190.out 3).trans rfl
  have hfz22_0 := blk_frozen BK190.out 0
  have hfz22_1 := blk_frozen BK190.out 1
  have hfz22_2 := blk_frozen BK190.out 2
  have hfz22_3 := blk_frozen BK190.out 3
  try go_wp2
  go_loopg [3, 26] k (fun kq v3 v26 w' => ∃ (x3_1 : List Int) (x26_1 : Int), v26 = .int .i64 x26_1 ∧ Aside0 (txn_Put.l0 kq x3_1 l0_2 (l0_2.length : Int) x26_1 a0_0 a0_1 l0_2 l0_3 = some r) ∧ Aside0 (kq ≤ k) ∧ Aside0 (Kd.R (Kd.int .u8) 5 w' w.heap.size (fun _ => True) v3 x3_1) ∧ Aside0 (w'.heap[gb190]? = some (.cells #[.int .i64 a0_0, .int .i64 a0_1, (.slice A0_2 l0_2.length c0_2), (.slice A0_3 l0_3.length c0_3)] 30 (0, 0))) ∧ Aside0 (Below w.heap.size w w'))
  case atStart => exact ⟨(t204), (0), (by first | rfl | (simp; done) | (simp [*]; done)), H', ⟨Nat.le_refl _⟩, ⟨by (with_reducible repeat (first | apply ra_ | apply rn_ | apply rd_)); exact HO206.out⟩, ⟨by (with_reducible repeat (first | refine kn_ ?_ _ | refine kd_ ?_ | refine ka_ ?_ _)); exact BK190.out⟩, ⟨by repeat (with_reducible first | exact HB.out | apply ba_ | apply bn_ | apply bd_ | refine bs_ ?_ GE190.out)⟩⟩
  case round =>
   clear H'
   try clear c1
   try clear p2
   try clear c3
   try clear c7
   try clear c18
   try clear c19
   try clear hcz22_0
   try clear hcz22_1
   try clear hcz22_2
   try clear hcz22_3
   try clear hcz9_0
   try clear hcz9_1
   try clear hcz9_2
   try clear hcz9_3
   try clear hfz22_0
   try clear hfz22_1
   try clear hfz22_2
   try clear hfz22_3
   try clear hfz9_0
   try clear hfz9_1
   try clear hfz9_2
   try clear hfz9_3
   obtain ⟨x3_1, x26_1, rfl, HA, HK1, HO_3, BK190, HB⟩ := hrel
   cases gk with
   | zero => exact absurd HA.out (by simp [txn_Put.l0])
   | succ k1 =>
    have H := HA.out
    clear HA
    simp only [txn_Put.l0] at H
    by_cases c23 : x26_1 < (l0_2.length : Int)
    ·rw [if_pos c23] at H
     have c23b0 : decide (x26_1 < (l0_2.length : Int)) = true := decide_eq_true c23
     clear c23
     by_cases c24 : 0 ≤ x26_1
     ·rw [if_pos c24] at H
      have c24b0 : decide (0 ≤ x26_1) = true := decide_eq_true c24
      clear c24
      by_cases c25 : x26_1 < (l0_2.length : Int)
      ·rw [if_pos c25] at H
       have c25b0 : decide (x26_1 < (l0_2.length : Int)) = true := decide_eq_true c25
       clear c25
       replace H := Option.bind_eq_some_iff.mp H
       obtain ⟨t209, A260, H⟩ := H
       (try dsimp only at H)
       have A26 := Aside0.mk A260
       clear A260
       replace H := Option.bind_eq_some_iff.mp H
       obtain ⟨t212, A270, H⟩ := H
       (try dsimp only at H)
       have A27 := Aside0.mk A270
       clear A270
       replace H := Option.bind_eq_some_iff.mp H
       obtain ⟨t215, A280, H⟩ := H
       (try dsimp only at H)
       have A28 := Aside0.mk A280
       clear A280
       obtain ⟨y218, hy218⟩ : ∃ y_ : List (List Int), y_ = (([x3_1, t209, t212, t215] : List (List Int))) := ⟨_, rfl⟩
       replace H : ((slices_Concat_Lbyte_byte.f k1 y218).bind fun t221 => ((txn_flag.f ((rd_T24 l0_2 x26_1).f3)).bind fun t224 => (if t221.length < 140737488355328 then (txn_Put.l0 k1 (t221 ++ [t224]) l0_2 (l0_2.length : Int) (wrap64 (x26_1 + 1)) a0_0 a0_1 l0_2 l0_3) else (none)))) = some r := by first | (rw [hy218]; with_reducible exact H) | (have H2_ := (Option.bind_some _ _).symm.trans H; rw [hy218]; with_reducible exact H2_) | (have H2_ := (Option.bind_some _ _).symm.trans H; with_reducible exact H2_) | with_reducible exact H | (rw [hy218]; exact H) | exact H
       have Ny218 := Aside0.mk hy218
       clear hy218
       replace H := Option.bind_eq_some_iff.mp H
       obtain ⟨t221, A290, H⟩ := H
       (try dsimp only at H)
       have A29 := Aside0.mk A290
       clear A290
       replace H := Option.bind_eq_some_iff.mp H
       obtain ⟨t224, A300, H⟩ := H
       (try dsimp only at H)
       have A30 := Aside0.mk A300
       clear A300
       by_cases c31 : t221.length < 140737488355328
       ·rw [if_pos c31] at H
        have LMc31 := Aside0.mk c31
        clear c31
        obtain ⟨y225, hy225⟩ : ∃ y_ : List Int, y_ = (t221 ++ [t224]) := ⟨_, rfl⟩
        replace H : (txn_Put.l0 k1 y225 l0_2 (l0_2.length : Int) (wrap64 (x26_1 + 1)) a0_0 a0_1 l0_2 l0_3) = some r := by first | (rw [hy225]; with_reducible exact H) | (have H2_ := (Option.bind_some _ _).symm.trans H; rw [hy225]; with_reducible exact H2_) | (have H2_ := (Option.bind_some _ _).symm.trans H; with_reducible exact H2_) | with_reducible exact H | (rw [hy225]; exact H) | exact H
        have Ny225 := Aside0.mk hy225
        clear hy225
        have H' := Aside0.mk H
        clear H
        have p207 : 0 ≤ (x26_1 : Int) := of_decide_eq_true (by first | (with_reducible assumption) | assumption)
        have q207 : x26_1 < (l0_2.length : Int) := of_decide_eq_true (by first | (with_reducible assumption) | assumption)
        obtain ⟨ad207, e207, hx207_0, hx207_1, hx207_2, hx207_3⟩ := at_T24 HR0_2.out x26_1 p207 q207
        cases e207
        replace hx207_0 := (HB.out.cell (World.block_lt_of_cell? w _ hx207_0)).trans hx207_0
        replace hx207_1 := (HB.out.cell (World.block_lt_of_cell? w _ hx207_1)).trans hx207_1
        replace hx207_2 := (HB.out.cell (World.block_lt_of_cell? w _ hx207_2)).trans hx207_2
        replace hx207_3 := (HB.out.cell (World.block_lt_of_cell? w _ hx207_3)).trans hx207_3
        replace p207 := eq_true p207
        replace q207 := eq_true q207
        try go_wp2_with (first | ((with_reducible refine gate_dst (N := 5) rfl ?_); refine box_event ?hg (N := 5) ?hd (cs := #[.string (⟨#[]⟩ : ByteArray), .int .i64 0, .string (⟨#[]⟩ : ByteArray), .bool false]) (t := 24) ?hr ?_; (case hd => rfl); (case hg => rfl); (case hr => first | (go_simp; done) | (go_simp; rfl)); intro gb208 hg w32 hbox hb; have n0_ := Aside0.mk (Kd.R_below (by (with_reducible repeat (first | apply ra_ | apply rn_ | apply rd_)); exact HO_3.out) hb); have n1_ := Aside0.mk (blk_below (g := gb190) (o := .cells #[.int .i64 a0_0, .int .i64 a0_1, .slice (some ad207) l0_2.length c0_2, .slice A0_3 l0_3.length c0_3] 30 (0, 0)) (by (with_reducible repeat (first | refine kn_ ?_ _ | refine kd_ ?_ | refine ka_ ?_ _)); exact BK190.out) hb); have n2_ := Aside0.mk (below_step (by repeat (with_reducible first | exact HB.out | apply ba_ | apply bn_ | apply bd_ | refine bs_ ?_ GE190.out)) hb); have n3_ := Aside0.mk (hbox); have n4_ := Aside0.mk ((by rw [hg]; exact (below_size (by repeat (with_reducible first | exact HB.out | apply ba_ | apply bn_ | apply bd_ | refine bs_ ?_ GE190.out))) : w.heap.size ≤ gb208)); have n5_ := Aside0.mk ((by rw [hg]; exact (below_size (by repeat (with_reducible first | exact HB.out | apply ba_ | apply bn_ | apply bd_ | refine bs_ ?_ GE190.out))) : w.heap.size ≤ gb208)); have n6_ := Aside0.mk ((by rw [hg]; exact Nat.ne_of_lt (blk_lt (g := gb190) (o := .cells #[.int .i64 a0_0, .int .i64 a0_1, .slice (some ad207) l0_2.length c0_2, .slice A0_3 l0_3.length c0_3] 30 (0, 0)) (by (with_reducible repeat (first | refine kn_ ?_ _ | refine kd_ ?_ | refine ka_ ?_ _)); exact BK190.out)) : gb190 ≠ gb208)); have n7_ := Aside0.mk ((by rw [hg]; exact Nat.ne_of_gt (blk_lt (g := gb190) (o := .cells #[.int .i64 a0_0, .int .i64 a0_1, .slice (some ad207) l0_2.length c0_2, .slice A0_3 l0_3.length c0_3] 30 (0, 0)) (by (with_reducible repeat (first | refine kn_ ?_ _ | refine kd_ ?_ | refine ka_ ?_ _)); exact BK190.out)) : gb208 ≠ gb190)); clear HO_3; clear BK190; clear HB; have HO_3 := n0_; have BK190 := n1_; have HB := n2_; have BK208 := n3_; have GW208 := n4_; have GE208 := n5_; have NB190_208 := n6_; have NB208_190 := n7_; clear n0_ n1_ n2_ n3_ n4_ n5_ n6_ n7_; clear hb hbox hg; have hnb33 := NB208_190.out; have hnc33 := NB190_208.out; have hcz34_0 : w32.cell? ⟨gb208, 0, none⟩ = some (.string (⟨#[]⟩ : ByteArray)) := (blk_cell BK208.out 0).trans rfl; have hcz34_1 : w32.cell? ⟨gb208, 1, none⟩ = some (.int .i64 0) := (blk_cell BK208.out 1).trans rfl; have hcz34_2 : w32.cell? ⟨gb208, 2, none⟩ = some (.string (⟨#[]⟩ : ByteArray)) := (blk_cell BK208.out 2).trans rfl; have hcz34_3 : w32.cell? ⟨gb208, 3, none⟩ = some (.bool false) := (blk_cell BK208.out 3).trans rfl; have hfz34_0 := blk_frozen BK208.out 0; have hfz34_1 := blk_frozen BK208.out 1; have hfz34_2 := blk_frozen BK208.out 2; have hfz34_3 := blk_frozen BK208.out 3))
        have n0_ : Aside0 (Kd.R (Kd.int .u8) 5 ((((w32.setCell ⟨gb208, 0, none⟩ (.string ((rd_T24 l0_2 x26_1).f0))).setCell ⟨gb208, 1, none⟩ (.int .i64 ((rd_T24 l0_2 x26_1).f1))).setCell ⟨gb208, 2, none⟩ (.string ((rd_T24 l0_2 x26_1).f2))).setCell ⟨gb208, 3, none⟩ (.bool ((rd_T24 l0_2 x26_1).f3))) w.heap.size (fun _ => True) u3 x3_1) := ⟨by (with_reducible repeat (first | apply ra_ | apply rn_ | apply rd_)); exact Kd.R_mono (Kd.R_far (p := ⟨gb208, 3, none⟩) (Kd.R_far (p := ⟨gb208, 2, none⟩) (Kd.R_far (p := ⟨gb208, 1, none⟩) (Kd.R_far (p := ⟨gb208, 0, none⟩) (Kd.R_types HO_3.out BK208.out (by decide)) (fun _ hk => hk.2) (.string ((rd_T24 l0_2 x26_1).f0))) (fun _ hk => hk.2) (.int .i64 ((rd_T24 l0_2 x26_1).f1))) (fun _ hk => hk.2) (.string ((rd_T24 l0_2 x26_1).f2))) (fun _ hk => hk.2) (.bool ((rd_T24 l0_2 x26_1).f3))) (fun _ hk => trivial)⟩
        have n1_ : Aside0 (((((w32.setCell ⟨gb208, 0, none⟩ (.string ((rd_T24 l0_2 x26_1).f0))).setCell ⟨gb208, 1, none⟩ (.int .i64 ((rd_T24 l0_2 x26_1).f1))).setCell ⟨gb208, 2, none⟩ (.string ((rd_T24 l0_2 x26_1).f2))).setCell ⟨gb208, 3, none⟩ (.bool ((rd_T24 l0_2 x26_1).f3))).heap[gb190]? = some (.cells #[.int .i64 a0_0, .int .i64 a0_1, .slice (some ad207) l0_2.length c0_2, .slice A0_3 l0_3.length c0_3] 30 (0, 0))) := ⟨by (with_reducible repeat (first | refine kn_ ?_ _ | refine kd_ ?_ | refine ka_ ?_ _)); refine blk_far ?_ NB190_208.out _; (with_reducible repeat (first | refine kn_ ?_ _ | refine kd_ ?_ | refine ka_ ?_ _)); refine blk_far ?_ NB190_208.out _; (with_reducible repeat (first | refine kn_ ?_ _ | refine kd_ ?_ | refine ka_ ?_ _)); refine blk_far ?_ NB190_208.out _; (with_reducible repeat (first | refine kn_ ?_ _ | refine kd_ ?_ | refine ka_ ?_ _)); refine blk_far ?_ NB190_208.out _; (with_reducible repeat (first | refine kn_ ?_ _ | refine kd_ ?_ | refine ka_ ?_ _)); exact BK190.out⟩
        have n2_ : Aside0 (((((w32.setCell ⟨gb208, 0, none⟩ (.string ((rd_T24 l0_2 x26_1).f0))).setCell ⟨gb208, 1, none⟩ (.int .i64 ((rd_T24 l0_2 x26_1).f1))).setCell ⟨gb208, 2, none⟩ (.string ((rd_T24 l0_2 x26_1).f2))).setCell ⟨gb208, 3, none⟩ (.bool ((rd_T24 l0_2 x26_1).f3))).heap[gb208]? = some (.cells #[.string ((rd_T24 l0_2 x26_1).f0), .int .i64 ((rd_T24 l0_2 x26_1).f1), .string ((rd_T24 l0_2 x26_1).f2), .bool ((rd_T24 l0_2 x26_1).f3)] 24 (0, 0))) := ⟨by (with_reducible repeat (first | refine kn_ ?_ _ | refine kd_ ?_ | refine ka_ ?_ _)); refine blk_put (cs := #[.string ((rd_T24 l0_2 x26_1).f0), .int .i64 ((rd_T24 l0_2 x26_1).f1), .string ((rd_T24 l0_2 x26_1).f2), .bool false]) ?_ 3 _ rfl; (with_reducible repeat (first | refine kn_ ?_ _ | refine kd_ ?_ | refine ka_ ?_ _)); refine blk_put (cs := #[.string ((rd_T24 l0_2 x26_1).f0), .int .i64 ((rd_T24 l0_2 x26_1).f1), .string (⟨#[]⟩ : ByteArray), .bool false]) ?_ 2 _ rfl; (with_reducible repeat (first | refine kn_ ?_ _ | refine kd_ ?_ | refine ka_ ?_ _)); refine blk_put (cs := #[.string ((rd_T24 l0_2 x26_1).f0), .int .i64 0, .string (⟨#[]⟩ : ByteArray), .bool false]) ?_ 1 _ rfl; (with_reducible repeat (first | refine kn_ ?_ _ | refine kd_ ?_ | refine ka_ ?_ _)); refine blk_put (cs := #[.string (⟨#[]⟩ : ByteArray), .int .i64 0, .string (⟨#[]⟩ : ByteArray), .bool false]) ?_ 0 _ rfl; (with_reducible repeat (first | refine kn_ ?_ _ | refine kd_ ?_ | refine ka_ ?_ _)); exact BK208.out⟩
        have n3_ : Aside0 (Below w.heap.size w ((((w32.setCell ⟨gb208, 0, none⟩ (.string ((rd_T24 l0_2 x26_1).f0))).setCell ⟨gb208, 1, none⟩ (.int .i64 ((rd_T24 l0_2 x26_1).f1))).setCell ⟨gb208, 2, none⟩ (.string ((rd_T24 l0_2 x26_1).f2))).setCell ⟨gb208, 3, none⟩ (.bool ((rd_T24 l0_2 x26_1).f3)))) := ⟨by repeat (with_reducible first | exact HB.out | apply ba_ | apply bn_ | apply bd_ | refine bs_ ?_ GE190.out | refine bs_ ?_ GE208.out)⟩
        (try clear HO_3)
        (try clear BK190)
        (try clear BK208)
        (try clear HB)
        generalize ((((w32.setCell ⟨gb208, 0, none⟩ (.string ((rd_T24 l0_2 x26_1).f0))).setCell ⟨gb208, 1, none⟩ (.int .i64 ((rd_T24 l0_2 x26_1).f1))).setCell ⟨gb208, 2, none⟩ (.string ((rd_T24 l0_2 x26_1).f2))).setCell ⟨gb208, 3, none⟩ (.bool ((rd_T24 l0_2 x26_1).f3))) = w35 at n0_ n1_ n2_ n3_ ⊢
        have HO_3 := n0_
        have BK190 := n1_
        have BK208 := n2_
        have HB := n3_
        clear n0_ n1_ n2_ n3_
        have n0_ := Aside0.mk (Kd.R_drew HO_3.out)
        have n1_ := Aside0.mk (blk_drew BK190.out)
        have n2_ := Aside0.mk (blk_drew BK208.out)
        have n3_ := Aside0.mk (below_drew1 HB.out)
        clear HO_3
        clear BK190
        clear BK208
        clear HB
        have HO_3 := n0_
        have BK190 := n1_
        have BK208 := n2_
        have HB := n3_
        clear n0_ n1_ n2_ n3_
        refine start_ (n := 18) (S := fun w' => w'.cell? ⟨gb208, 0, none⟩ = some (.string ((rd_T24 l0_2 x26_1).f0)) ∧ w'.cell? ⟨gb208, 1, none⟩ = some (.int .i64 ((rd_T24 l0_2 x26_1).f1)) ∧ w'.cell? ⟨gb208, 2, none⟩ = some (.string ((rd_T24 l0_2 x26_1).f2)) ∧ w'.cell? ⟨gb208, 3, none⟩ = some (.bool ((rd_T24 l0_2 x26_1).f3))) (ds := []) #[false, false, false, false, false, false, false, false, false, false, false, false, false, false, false, false, false, false] (by kernel_rfl) rfl rfl ⟨(blk_cell BK208.out 0).trans rfl, (blk_cell BK208.out 1).trans rfl, (blk_cell BK208.out 2).trans rfl, (blk_cell BK208.out 3).trans rfl⟩ (fun hHeld => ?_); refine with_tabW txn_Put.tab7 txn_Put.bits7 (fun HT_ HW_ => ?_)
        generalize w35.drew = w36 at HO_3 BK190 BK208 HB hHeld ⊢
        refine pure_ (i := 0) (N := some 30) (v := ?_) (a' := ?_) #[true, false, false, false, false, false, false, false, false, false, false, false, false, false, false, false, false, false] rfl rfl (any_of HT_.out (by kernel_rfl)) (fun _ _ _ h => h) (Or.inl ⟨by rfl, ?_⟩) ?_ ?_
        rotate_left
        ·intro w'
         go_simp
         with_reducible rfl
        rotate_left
        ·simp only [Act.put, List.setIfInBounds_toArray, List.set_cons_zero, List.set_cons_succ, i64_w, i32_w]
         rfl
        refine pure_ (i := 1) (N := some 31) (v := ?_) (a' := ?_) #[true, true, false, false, false, false, false, false, false, false, false, false, false, false, false, false, false, false] rfl rfl (any_of HT_.out (by kernel_rfl)) (fun _ _ _ h => h) (Or.inl ⟨by rfl, ?_⟩) ?_ ?_
        rotate_left
        ·intro w'
         go_simp
         with_reducible rfl
        rotate_left
        ·simp only [Act.put, List.setIfInBounds_toArray, List.set_cons_zero, List.set_cons_succ, i64_w, i32_w]
         rfl
        refine pure_ (i := 4) (N := some 34) (v := ?_) (a' := ?_) #[true, true, false, false, true, false, false, false, false, false, false, false, false, false, false, false, false, false] rfl rfl (any_of HT_.out (by kernel_rfl)) (fun _ _ _ h => h) (Or.inl ⟨by rfl, ?_⟩) ?_ ?_
        rotate_left
        ·intro w'
         go_simp
         with_reducible rfl
        rotate_left
        ·simp only [Act.put, List.setIfInBounds_toArray, List.set_cons_zero, List.set_cons_succ, i64_w, i32_w]
         rfl
        refine pure_ (i := 7) (N := some 37) (v := ?_) (a' := ?_) #[true, true, false, false, true, false, false, true, false, false, false, false, false, false, false, false, false, false] rfl rfl (any_of HT_.out (by kernel_rfl)) (fun _ _ _ h => h) (Or.inl ⟨by rfl, ?_⟩) ?_ ?_
        rotate_left
        ·intro w'
         go_simp
         with_reducible rfl
        rotate_left
        ·simp only [Act.put, List.setIfInBounds_toArray, List.set_cons_zero, List.set_cons_succ, i64_w, i32_w]
         rfl
        refine pure_ (i := 12) (N := some 42) (v := ?_) (a' := ?_) #[true, true, false, false, true, false, false, true, false, false, false, false, true, false, false, false, false, false] rfl rfl (any_of HT_.out (by kernel_rfl)) (fun _ _ _ h => h) (Or.inl ⟨by rfl, ?_⟩) ?_ ?_
        rotate_left
        ·intro w'
         go_simp
         with_reducible rfl
        rotate_left
        ·simp only [Act.put, List.setIfInBounds_toArray, List.set_cons_zero, List.set_cons_succ, i64_w, i32_w]
         rfl
        refine take_ (i := 2) (N := some 32) (v := ?_) (a' := ?_) #[true, true, true, false, true, false, false, true, false, false, false, false, true, false, false, false, false, false] rfl rfl (take_ofW HT_.out HW_.out (by kernel_rfl)) (fun _ _ _ h => h) (Or.inl ⟨by rfl, ?_⟩) hHeld ?_ ?_
        rotate_left
        ·rintro w' ⟨s0, s1, s2, s3⟩
         go_simp
         with_reducible rfl
        rotate_left
        ·simp only [Act.put, List.setIfInBounds_toArray, List.set_cons_zero, List.set_cons_succ, i64_w, i32_w]
         rfl
        refine take_ (i := 5) (N := some 35) (v := ?_) (a' := ?_) #[true, true, true, false, true, true, false, true, false, false, false, false, true, false, false, false, false, false] rfl rfl (take_ofW HT_.out HW_.out (by kernel_rfl)) (fun _ _ _ h => h) (Or.inl ⟨by rfl, ?_⟩) hHeld ?_ ?_
        rotate_left
        ·rintro w' ⟨s0, s1, s2, s3⟩
         go_simp
         with_reducible rfl
        rotate_left
        ·simp only [Act.put, List.setIfInBounds_toArray, List.set_cons_zero, List.set_cons_succ, i64_w, i32_w]
         rfl
        refine take_ (i := 8) (N := some 38) (v := ?_) (a' := ?_) #[true, true, true, false, true, true, false, true, true, false, false, false, true, false, false, false, false, false] rfl rfl (take_ofW HT_.out HW_.out (by kernel_rfl)) (fun _ _ _ h => h) (Or.inl ⟨by rfl, ?_⟩) hHeld ?_ ?_
        rotate_left
        ·rintro w' ⟨s0, s1, s2, s3⟩
         go_simp
         with_reducible rfl
        rotate_left
        ·simp only [Act.put, List.setIfInBounds_toArray, List.set_cons_zero, List.set_cons_succ, i64_w, i32_w]
         rfl
        refine take_ (i := 13) (N := some 43) (v := ?_) (a' := ?_) #[true, true, true, false, true, true, false, true, true, false, false, false, true, true, false, false, false, false] rfl rfl (take_ofW HT_.out HW_.out (by kernel_rfl)) (fun _ _ _ h => h) (Or.inl ⟨by rfl, ?_⟩) hHeld ?_ ?_
        rotate_left
        ·rintro w' ⟨s0, s1, s2, s3⟩
         go_simp
         with_reducible rfl
        rotate_left
        ·simp only [Act.put, List.setIfInBounds_toArray, List.set_cons_zero, List.set_cons_succ, i64_w, i32_w]
         rfl
        refine one_ (i := 3) (N := some 33) #[true, true, true, true, true, true, false, true, true, false, false, false, true, true, false, false, false, false] rfl rfl (one_of HT_.out (by kernel_rfl)) (by decide) (fun K hK => ?_)
        refine goesV_ Try.func74 (by kernel_rfl) rfl #[.string ((rd_T24 l0_2 x26_1).f0)] (by rfl) rfl rfl (by (try simp only [List.map_toArray, List.map_cons, List.map_nil]); first | done | rfl | (simp only [List.length_drop, List.length_take]; rfl)) ?_
        with_reducible refine (num_PutText.calls k1 ((rd_T24 l0_2 x26_1).f0) t209 _ A26.out).mono ?_
        rintro e w37 ⟨v210, rfl, ho0, hb⟩
        refine ⟨_, rfl, ?_⟩
        have n0_ := Aside0.mk (Kd.R_elder' (by (with_reducible repeat (first | apply ra_ | apply rn_ | apply rd_)); exact HO_3.out) (Kd.R_base ho0) hb)
        have n1_ := Aside0.mk (Kd.R_lower (Kd.R_new' ho0 (Kd.R_lt (by (with_reducible repeat (first | apply ra_ | apply rn_ | apply rd_)); exact HO_3.out))) (below_size (by repeat (with_reducible first | exact HB.out | apply ba_ | apply bn_ | apply bd_ | refine bs_ ?_ GE190.out | refine bs_ ?_ GE208.out))))
        have n2_ := Aside0.mk (blk_below (g := gb190) (o := .cells #[.int .i64 a0_0, .int .i64 a0_1, .slice (some ad207) l0_2.length c0_2, .slice A0_3 l0_3.length c0_3] 30 (0, 0)) (by (with_reducible repeat (first | refine kn_ ?_ _ | refine kd_ ?_ | refine ka_ ?_ _)); exact BK190.out) hb)
        have n3_ := Aside0.mk (blk_below (g := gb208) (o := .cells #[.string ((rd_T24 l0_2 x26_1).f0), .int .i64 ((rd_T24 l0_2 x26_1).f1), .string ((rd_T24 l0_2 x26_1).f2), .bool ((rd_T24 l0_2 x26_1).f3)] 24 (0, 0)) (by (with_reducible repeat (first | refine kn_ ?_ _ | refine kd_ ?_ | refine ka_ ?_ _)); exact BK208.out) hb)
        have n4_ := Aside0.mk (below_step (by repeat (with_reducible first | exact HB.out | apply ba_ | apply bn_ | apply bd_ | refine bs_ ?_ GE190.out | refine bs_ ?_ GE208.out)) hb)
        clear HO_3
        clear BK190
        clear BK208
        clear HB
        have HO_3 := n0_
        have HO211 := n1_
        have BK190 := n2_
        have BK208 := n3_
        have HB := n4_
        clear n0_ n1_ n2_ n3_ n4_
        clear hb ho0
        refine hK.out _ _ ⟨(blk_cell BK208.out 0).trans rfl, (blk_cell BK208.out 1).trans rfl, (blk_cell BK208.out 2).trans rfl, (blk_cell BK208.out 3).trans rfl⟩ (fun hHeld => ?_)
        clear hK K
        refine norm_ (a' := ?_) ?_ ?_
        rotate_left
        ·show Act.put _ (some 33) _ = _
         simp only [Act.put, List.setIfInBounds_toArray, List.set_cons_zero, List.set_cons_succ, i64_w, i32_w]
         rfl
        refine one_ (i := 6) (N := some 36) #[true, true, true, true, true, true, true, true, true, false, false, false, true, true, false, false, false, false] rfl rfl (one_of HT_.out (by kernel_rfl)) (by decide) (fun K hK => ?_)
        refine goesV_ Try.func73 (by kernel_rfl) rfl #[.int .i64 ((rd_T24 l0_2 x26_1).f1)] (by rfl) rfl rfl (by (try simp only [List.map_toArray, List.map_cons, List.map_nil]); first | done | rfl | (simp only [List.length_drop, List.length_take]; rfl)) ?_
        with_reducible refine (num_Put.calls k1 ((rd_T24 l0_2 x26_1).f1) t212 _ A27.out).mono ?_
        rintro e w38 ⟨v213, rfl, ho0, hb⟩
        refine ⟨_, rfl, ?_⟩
        have n0_ := Aside0.mk (Kd.R_elder' (by (with_reducible repeat (first | apply ra_ | apply rn_ | apply rd_)); exact HO_3.out) (Kd.R_base ho0) hb)
        have n1_ := Aside0.mk (Kd.R_elder' (by (with_reducible repeat (first | apply ra_ | apply rn_ | apply rd_)); exact HO211.out) (Kd.R_base ho0) hb)
        have n2_ := Aside0.mk (Kd.R_lower (Kd.R_new' (Kd.R_new' ho0 (Kd.R_lt (by (with_reducible repeat (first | apply ra_ | apply rn_ | apply rd_)); exact HO_3.out))) (Kd.R_lt (by (with_reducible repeat (first | apply ra_ | apply rn_ | apply rd_)); exact HO211.out))) (below_size (by repeat (with_reducible first | exact HB.out | apply ba_ | apply bn_ | apply bd_ | refine bs_ ?_ GE190.out | refine bs_ ?_ GE208.out))))
        have n3_ := Aside0.mk (blk_below (g := gb190) (o := .cells #[.int .i64 a0_0, .int .i64 a0_1, .slice (some ad207) l0_2.length c0_2, .slice A0_3 l0_3.length c0_3] 30 (0, 0)) (by (with_reducible repeat (first | refine kn_ ?_ _ | refine kd_ ?_ | refine ka_ ?_ _)); exact BK190.out) hb)
        have n4_ := Aside0.mk (blk_below (g := gb208) (o := .cells #[.string ((rd_T24 l0_2 x26_1).f0), .int .i64 ((rd_T24 l0_2 x26_1).f1), .string ((rd_T24 l0_2 x26_1).f2), .bool ((rd_T24 l0_2 x26_1).f3)] 24 (0, 0)) (by (with_reducible repeat (first | refine kn_ ?_ _ | refine kd_ ?_ | refine ka_ ?_ _)); exact BK208.out) hb)
        have n5_ := Aside0.mk (below_step (by repeat (with_reducible first | exact HB.out | apply ba_ | apply bn_ | apply bd_ | refine bs_ ?_ GE190.out | refine bs_ ?_ GE208.out)) hb)
        clear HO_3
        clear HO211
        clear BK190
        clear BK208
        clear HB
        have HO_3 := n0_
        have HO211 := n1_
        have HO214 := n2_
        have BK190 := n3_
        have BK208 := n4_
        have HB := n5_
        clear n0_ n1_ n2_ n3_ n4_ n5_
        clear hb ho0
        refine hK.out _ _ ⟨(blk_cell BK208.out 0).trans rfl, (blk_cell BK208.out 1).trans rfl, (blk_cell BK208.out 2).trans rfl, (blk_cell BK208.out 3).trans rfl⟩ (fun hHeld => ?_)
        clear hK K
        refine norm_ (a' := ?_) ?_ ?_
        rotate_left
        ·show Act.put _ (some 36) _ = _
         simp only [Act.put, List.setIfInBounds_toArray, List.set_cons_zero, List.set_cons_succ, i64_w, i32_w]
         rfl
        refine one_ (i := 9) (N := some 39) #[true, true, true, true, true, true, true, true, true, true, false, false, true, true, false, false, false, false] rfl rfl (one_of HT_.out (by kernel_rfl)) (by decide) (fun K hK => ?_)
        refine goesV_ Try.func74 (by kernel_rfl) rfl #[.string ((rd_T24 l0_2 x26_1).f2)] (by rfl) rfl rfl (by (try simp only [List.map_toArray, List.map_cons, List.map_nil]); first | done | rfl | (simp only [List.length_drop, List.length_take]; rfl)) ?_
        with_reducible refine (num_PutText.calls k1 ((rd_T24 l0_2 x26_1).f2) t215 _ A28.out).mono ?_
        rintro e w39 ⟨v216, rfl, ho0, hb⟩
        refine ⟨_, rfl, ?_⟩
        have n0_ := Aside0.mk (Kd.R_elder' (by (with_reducible repeat (first | apply ra_ | apply rn_ | apply rd_)); exact HO_3.out) (Kd.R_base ho0) hb)
        have n1_ := Aside0.mk (Kd.R_elder' (by (with_reducible repeat (first | apply ra_ | apply rn_ | apply rd_)); exact HO211.out) (Kd.R_base ho0) hb)
        have n2_ := Aside0.mk (Kd.R_elder' (by (with_reducible repeat (first | apply ra_ | apply rn_ | apply rd_)); exact HO214.out) (Kd.R_base ho0) hb)
        have n3_ := Aside0.mk (Kd.R_lower (Kd.R_new' (Kd.R_new' (Kd.R_new' ho0 (Kd.R_lt (by (with_reducible repeat (first | apply ra_ | apply rn_ | apply rd_)); exact HO_3.out))) (Kd.R_lt (by (with_reducible repeat (first | apply ra_ | apply rn_ | apply rd_)); exact HO211.out))) (Kd.R_lt (by (with_reducible repeat (first | apply ra_ | apply rn_ | apply rd_)); exact HO214.out))) (below_size (by repeat (with_reducible first | exact HB.out | apply ba_ | apply bn_ | apply bd_ | refine bs_ ?_ GE190.out | refine bs_ ?_ GE208.out))))
        have n4_ := Aside0.mk (blk_below (g := gb190) (o := .cells #[.int .i64 a0_0, .int .i64 a0_1, .slice (some ad207) l0_2.length c0_2, .slice A0_3 l0_3.length c0_3] 30 (0, 0)) (by (with_reducible repeat (first | refine kn_ ?_ _ | refine kd_ ?_ | refine ka_ ?_ _)); exact BK190.out) hb)
        have n5_ := Aside0.mk (blk_below (g := gb208) (o := .cells #[.string ((rd_T24 l0_2 x26_1).f0), .int .i64 ((rd_T24 l0_2 x26_1).f1), .string ((rd_T24 l0_2 x26_1).f2), .bool ((rd_T24 l0_2 x26_1).f3)] 24 (0, 0)) (by (with_reducible repeat (first | refine kn_ ?_ _ | refine kd_ ?_ | refine ka_ ?_ _)); exact BK208.out) hb)
        have n6_ := Aside0.mk (below_step (by repeat (with_reducible first | exact HB.out | apply ba_ | apply bn_ | apply bd_ | refine bs_ ?_ GE190.out | refine bs_ ?_ GE208.out)) hb)
        clear HO_3
        clear HO211
        clear HO214
        clear BK190
        clear BK208
        clear HB
        have HO_3 := n0_
        have HO211 := n1_
        have HO214 := n2_
        have HO217 := n3_
        have BK190 := n4_
        have BK208 := n5_
        have HB := n6_
        clear n0_ n1_ n2_ n3_ n4_ n5_ n6_
        clear hb ho0
        obtain ⟨Ao40, co40, eo40⟩ := Kd.R_slice HO_3.out
        (first | subst eo40 | (injection eo40 with f1_ f2_ f3_; have f4_ := f1_.symm; have f5_ := f3_.symm; clear f1_ f2_ f3_; subst f4_; subst f5_))
        obtain ⟨Ao41, co41, eo41⟩ := Kd.R_slice HO211.out
        (first | subst eo41 | (injection eo41 with f1_ f2_ f3_; have f4_ := f1_.symm; have f5_ := f3_.symm; clear f1_ f2_ f3_; subst f4_; subst f5_))
        obtain ⟨Ao42, co42, eo42⟩ := Kd.R_slice HO214.out
        (first | subst eo42 | (injection eo42 with f1_ f2_ f3_; have f4_ := f1_.symm; have f5_ := f3_.symm; clear f1_ f2_ f3_; subst f4_; subst f5_))
        obtain ⟨Ao43, co43, eo43⟩ := Kd.R_slice HO217.out
        (first | subst eo43 | (injection eo43 with f1_ f2_ f3_; have f4_ := f1_.symm; have f5_ := f3_.symm; clear f1_ f2_ f3_; subst f4_; subst f5_))
        refine hK.out _ _ ⟨(blk_cell BK208.out 0).trans rfl, (blk_cell BK208.out 1).trans rfl, (blk_cell BK208.out 2).trans rfl, (blk_cell BK208.out 3).trans rfl⟩ (fun hHeld => ?_)
        clear hK K
        refine norm_ (a' := ?_) ?_ ?_
        rotate_left
        ·show Act.put _ (some 39) _ = _
         simp only [Act.put, List.setIfInBounds_toArray, List.set_cons_zero, List.set_cons_succ, i64_w, i32_w]
         rfl
        refine one_ (i := 10) (N := some 40) #[true, true, true, true, true, true, true, true, true, true, true, false, true, true, false, false, false, false] rfl rfl (one_of HT_.out (by kernel_rfl)) (by decide) (fun K hK => ?_)
        refine Kd.N_lit_step (Kd.slice 5 (Kd.int .u8)) _ 33 ?hg (N' := 40) ?hd (xs := ([x3_1, t209, t212, t215] : List (List Int))) (inner := [.slice Ao40 x3_1.length co40, .slice Ao41 t209.length co41, .slice Ao42 t212.length co42, .slice Ao43 t215.length co43]) (ok := (fun k_ => k_ ≠ gb190 ∧ k_ ≠ gb208)) (okp := (fun k_ => k_ ≠ gb190 ∧ k_ ≠ gb208)) ?hr ?hp (fun _ hk => hk) ((show ∀ k_, w39.heap.size ≤ k_ → (fun k_ => k_ ≠ gb190 ∧ k_ ≠ gb208) k_ from fun k_ hk => ⟨Kd.freshB (g := gb190) (o := .cells #[.int .i64 a0_0, .int .i64 a0_1, .slice (some ad207) l0_2.length c0_2, .slice A0_3 l0_3.length c0_3] 30 (0, 0)) (by (with_reducible repeat (first | refine kn_ ?_ _ | refine kd_ ?_ | refine ka_ ?_ _)); exact BK190.out) k_ hk, Kd.freshB (g := gb208) (o := .cells #[.string ((rd_T24 l0_2 x26_1).f0), .int .i64 ((rd_T24 l0_2 x26_1).f1), .string ((rd_T24 l0_2 x26_1).f2), .bool ((rd_T24 l0_2 x26_1).f3)] 24 (0, 0)) (by (with_reducible repeat (first | refine kn_ ?_ _ | refine kd_ ?_ | refine ka_ ?_ _)); exact BK208.out) k_ hk⟩) _ (Nat.le_refl _)) (Below.refl _ _) (Nat.le_refl _) (by simp) ?_; (case hd => rfl); (case hg => rfl); (case hr => first | (go_simp; done) | (go_simp; rfl)); (case hp => exact (Reps.one (show Kd.FK (Kd.slice 5 (Kd.int .u8)) _ _ x3_1 [.slice Ao40 x3_1.length co40] from (Kd.FK_slice_mk (Kd.R_reads' (Kd.R_mono (ok' := (fun k_ => k_ ≠ gb190 ∧ k_ ≠ gb208)) (Kd.R_types (Kd.R_types (HO_3.out) BK190.out (by decide)) BK208.out (by decide)) (fun k_ hk => ⟨hk.1.2, hk.2⟩))).2.1 (Kd.R_F (Kd.R_mono (ok' := (fun k_ => k_ ≠ gb190 ∧ k_ ≠ gb208)) (Kd.R_types (Kd.R_types (HO_3.out) BK190.out (by decide)) BK208.out (by decide)) (fun k_ hk => ⟨hk.1.2, hk.2⟩))))) (Reps.one (show Kd.FK (Kd.slice 5 (Kd.int .u8)) _ _ t209 [.slice Ao41 t209.length co41] from (Kd.FK_slice_mk (Kd.R_reads' (Kd.R_mono (ok' := (fun k_ => k_ ≠ gb190 ∧ k_ ≠ gb208)) (Kd.R_types (Kd.R_types (HO211.out) BK190.out (by decide)) BK208.out (by decide)) (fun k_ hk => ⟨hk.1.2, hk.2⟩))).2.1 (Kd.R_F (Kd.R_mono (ok' := (fun k_ => k_ ≠ gb190 ∧ k_ ≠ gb208)) (Kd.R_types (Kd.R_types (HO211.out) BK190.out (by decide)) BK208.out (by decide)) (fun k_ hk => ⟨hk.1.2, hk.2⟩))))) (Reps.one (show Kd.FK (Kd.slice 5 (Kd.int .u8)) _ _ t212 [.slice Ao42 t212.length co42] from (Kd.FK_slice_mk (Kd.R_reads' (Kd.R_mono (ok' := (fun k_ => k_ ≠ gb190 ∧ k_ ≠ gb208)) (Kd.R_types (Kd.R_types (HO214.out) BK190.out (by decide)) BK208.out (by decide)) (fun k_ hk => ⟨hk.1.2, hk.2⟩))).2.1 (Kd.R_F (Kd.R_mono (ok' := (fun k_ => k_ ≠ gb190 ∧ k_ ≠ gb208)) (Kd.R_types (Kd.R_types (HO214.out) BK190.out (by decide)) BK208.out (by decide)) (fun k_ hk => ⟨hk.1.2, hk.2⟩))))) (Reps.one (show Kd.FK (Kd.slice 5 (Kd.int .u8)) _ _ t215 [.slice Ao43 t215.length co43] from (Kd.FK_slice_mk (Kd.R_reads' (Kd.R_mono (ok' := (fun k_ => k_ ≠ gb190 ∧ k_ ≠ gb208)) (Kd.R_types (Kd.R_types (HO217.out) BK190.out (by decide)) BK208.out (by decide)) (fun k_ hk => ⟨hk.1.2, hk.2⟩))).2.1 (Kd.R_F (Kd.R_mono (ok' := (fun k_ => k_ ≠ gb190 ∧ k_ ≠ gb208)) (Kd.R_types (Kd.R_types (HO217.out) BK190.out (by decide)) BK208.out (by decide)) (fun k_ hk => ⟨hk.1.2, hk.2⟩))))) (Reps.none _ _))))))
        intro v219 w44 ho45 hb hg_ hnew_
        clear hg_ hnew_
        (first | rw [← Ny218.out] at ho45 | (simp only [Int.reduceToNat] at ho45; rw [← Ny218.out] at ho45))
        have n0_ := Aside0.mk (Kd.N_lower ho45 (below_size (by repeat (with_reducible first | exact HB.out | apply ba_ | apply bn_ | apply bd_ | refine bs_ ?_ GE190.out | refine bs_ ?_ GE208.out))))
        have n1_ := Aside0.mk (blk_below (g := gb190) (o := .cells #[.int .i64 a0_0, .int .i64 a0_1, .slice (some ad207) l0_2.length c0_2, .slice A0_3 l0_3.length c0_3] 30 (0, 0)) (by (with_reducible repeat (first | refine kn_ ?_ _ | refine kd_ ?_ | refine ka_ ?_ _)); exact BK190.out) hb)
        have n2_ := Aside0.mk (blk_below (g := gb208) (o := .cells #[.string ((rd_T24 l0_2 x26_1).f0), .int .i64 ((rd_T24 l0_2 x26_1).f1), .string ((rd_T24 l0_2 x26_1).f2), .bool ((rd_T24 l0_2 x26_1).f3)] 24 (0, 0)) (by (with_reducible repeat (first | refine kn_ ?_ _ | refine kd_ ?_ | refine ka_ ?_ _)); exact BK208.out) hb)
        have n3_ := Aside0.mk (below_step (by repeat (with_reducible first | exact HB.out | apply ba_ | apply bn_ | apply bd_ | refine bs_ ?_ GE190.out | refine bs_ ?_ GE208.out)) hb)
        clear BK190
        clear BK208
        clear HB
        clear HO211
        clear HO214
        clear HO217
        clear HO_3
        have HO220 := n0_
        have BK190 := n1_
        have BK208 := n2_
        have HB := n3_
        clear n0_ n1_ n2_ n3_
        clear hb ho45
        obtain ⟨Ao46, co46, eo46⟩ := Kd.N_slice HO220.out
        (first | subst eo46 | (injection eo46 with f1_ f2_ f3_; have f4_ := f1_.symm; have f5_ := f3_.symm; clear f1_ f2_ f3_; subst f4_; subst f5_))
        refine hK.out _ _ ⟨(blk_cell BK208.out 0).trans rfl, (blk_cell BK208.out 1).trans rfl, (blk_cell BK208.out 2).trans rfl, (blk_cell BK208.out 3).trans rfl⟩ (fun hHeld => ?_)
        clear hK K
        refine norm_ (a' := ?_) ?_ ?_
        rotate_left
        ·show Act.put _ (some 40) _ = _
         simp only [Act.put, List.setIfInBounds_toArray, List.set_cons_zero, List.set_cons_succ, i64_w, i32_w]
         rfl
        refine one_ (i := 11) (N := some 41) #[true, true, true, true, true, true, true, true, true, true, true, true, true, true, false, false, false, false] rfl rfl (one_of HT_.out (by kernel_rfl)) (by decide) (fun K hK => ?_)
        refine goesV_ Try.func72 (by kernel_rfl) rfl #[.slice Ao46 y218.length co46] (by rfl) rfl rfl (by (try simp only [List.map_toArray, List.map_cons, List.map_nil]); first | done | rfl | (simp only [List.length_drop, List.length_take]; rfl)) ?_
        with_reducible refine (slices_Concat_Lbyte_byte.calls k1 _ _ y218 t221 _ ?side1 ?side2 A29.out).mono ?_
        (case side1 => repeat (first | exact (Kd.N_reads' HO220.out).2.2 | (with_reducible refine ca_ ?_ _) | (with_reducible refine cn_ ?_ _) | (with_reducible refine cd_ ?_)))
        (case side2 => exact (Kd.N_reads' HO220.out).2.1)
        rintro e w47 ⟨v222, rfl, ho0, hb⟩
        refine ⟨_, rfl, ?_⟩
        have n0_ := Aside0.mk (Kd.N_elder' (by (with_reducible repeat (first | apply Kd.N_alloc | apply Kd.N_drewN | apply Kd.N_drew)); exact HO220.out) (Kd.R_base ho0) hb)
        have n1_ := Aside0.mk (Kd.R_lower ho0 (below_size (by repeat (with_reducible first | exact HB.out | apply ba_ | apply bn_ | apply bd_ | refine bs_ ?_ GE190.out | refine bs_ ?_ GE208.out))))
        have n2_ := Aside0.mk (blk_below (g := gb190) (o := .cells #[.int .i64 a0_0, .int .i64 a0_1, .slice (some ad207) l0_2.length c0_2, .slice A0_3 l0_3.length c0_3] 30 (0, 0)) (by (with_reducible repeat (first | refine kn_ ?_ _ | refine kd_ ?_ | refine ka_ ?_ _)); exact BK190.out) hb)
        have n3_ := Aside0.mk (blk_below (g := gb208) (o := .cells #[.string ((rd_T24 l0_2 x26_1).f0), .int .i64 ((rd_T24 l0_2 x26_1).f1), .string ((rd_T24 l0_2 x26_1).f2), .bool ((rd_T24 l0_2 x26_1).f3)] 24 (0, 0)) (by (with_reducible repeat (first | refine kn_ ?_ _ | refine kd_ ?_ | refine ka_ ?_ _)); exact BK208.out) hb)
        have n4_ := Aside0.mk (below_step (by repeat (with_reducible first | exact HB.out | apply ba_ | apply bn_ | apply bd_ | refine bs_ ?_ GE190.out | refine bs_ ?_ GE208.out)) hb)
        clear HO220
        clear BK190
        clear BK208
        clear HB
        have HO220 := n0_
        have HO223 := n1_
        have BK190 := n2_
        have BK208 := n3_
        have HB := n4_
        clear n0_ n1_ n2_ n3_ n4_
        clear hb ho0
        refine hK.out _ _ ⟨(blk_cell BK208.out 0).trans rfl, (blk_cell BK208.out 1).trans rfl, (blk_cell BK208.out 2).trans rfl, (blk_cell BK208.out 3).trans rfl⟩ (fun hHeld => ?_)
        clear hK K
        refine norm_ (a' := ?_) ?_ ?_
        rotate_left
        ·show Act.put _ (some 41) _ = _
         simp only [Act.put, List.setIfInBounds_toArray, List.set_cons_zero, List.set_cons_succ, i64_w, i32_w]
         rfl
        refine one_ (i := 14) (N := some 44) #[true, true, true, true, true, true, true, true, true, true, true, true, true, true, true, false, false, false] rfl rfl (one_of HT_.out (by kernel_rfl)) (by decide) (fun K hK => ?_)
        refine goesV_ Try.func75 (by kernel_rfl) rfl #[.bool ((rd_T24 l0_2 x26_1).f3)] (by rfl) rfl rfl (by (try simp only [List.map_toArray, List.map_cons, List.map_nil]); first | done | rfl | (simp only [List.length_drop, List.length_take]; rfl)) ?_
        with_reducible refine (txn_flag.calls ((rd_T24 l0_2 x26_1).f3) t224 _ A30.out).mono ?_
        rintro e w' ⟨rfl, ⟨nd, rfl⟩⟩
        refine ⟨_, rfl, ?_⟩
        refine hK.out _ _ ⟨(blk_cell BK208.out 0).trans rfl, (blk_cell BK208.out 1).trans rfl, (blk_cell BK208.out 2).trans rfl, (blk_cell BK208.out 3).trans rfl⟩ (fun hHeld => ?_)
        clear hK K
        refine norm_ (a' := ?_) ?_ ?_
        rotate_left
        ·show Act.put _ (some 44) _ = _
         simp only [Act.put, List.setIfInBounds_toArray, List.set_cons_zero, List.set_cons_succ, i64_w, i32_w]
         rfl
        refine one_ (i := 15) (N := some 45) #[true, true, true, true, true, true, true, true, true, true, true, true, true, true, true, true, false, false] rfl rfl (one_of HT_.out (by kernel_rfl)) (by decide) (fun K hK => ?_)
        refine value_ (w1 := ?_) (v := ?_) (by rfl) rfl ?_ ?_
        rotate_left 2
        ·go_simp
         constructor
         ·rfl
         ·rfl
        refine hK.out _ _ ⟨(blk_cell (blk_alloc BK208.out _) 0).trans rfl, (blk_cell (blk_alloc BK208.out _) 1).trans rfl, (blk_cell (blk_alloc BK208.out _) 2).trans rfl, (blk_cell (blk_alloc BK208.out _) 3).trans rfl⟩ (fun hHeld => ?_)
        clear hK K
        refine norm_ (a' := ?_) ?_ ?_
        rotate_left
        ·show Act.put _ (some 45) _ = _
         simp only [Act.put, List.setIfInBounds_toArray, List.set_cons_zero, List.set_cons_succ, i64_w, i32_w]
         rfl
        refine one_ (i := 16) (N := some 46) #[true, true, true, true, true, true, true, true, true, true, true, true, true, true, true, true, true, false] rfl rfl (one_of HT_.out (by kernel_rfl)) (by decide) (fun K hK => ?_)
        refine Kd.R_append_step (Kd.int .u8) (w0 := w) w.heap.size (by rfl) (.tmp 41) (.tmp 45) 33 5 (.int .u8 0) 1 rfl Try.underlying33 info5 rfl (by decide) (by omega) v222 t221 t224 [.int .u8 t224] (fun _ => True) (fun _ => False) rfl rfl ?aP (fun _ hk => hk.elim) ?aF ?aO ?aB ?aS ?aL ?_
        (case aP => exact rfl)
        (case aB => exact (by repeat (with_reducible first | exact HB.out | apply ba_ | apply bn_ | apply bd_ | refine bs_ ?_ GE190.out | refine bs_ ?_ GE208.out)))
        (case aF => exact (fun _ _ => trivial))
        (case aO => exact (by (with_reducible repeat (first | apply ra_ | apply rn_ | apply rd_)); exact HO223.out))
        (case aS => exact (below_size (by repeat (with_reducible first | exact HB.out | apply ba_ | apply bn_ | apply bd_ | refine bs_ ?_ GE190.out | refine bs_ ?_ GE208.out))))
        (case aL => have := LMc31.out; omega)
        intro v226 w48 ho hb hg hat
        rw [← Ny225.out] at ho
        have n0_ := Aside0.mk (blk_grown (g := gb190) (o := .cells #[.int .i64 a0_0, .int .i64 a0_1, .slice (some ad207) l0_2.length c0_2, .slice A0_3 l0_3.length c0_3] 30 (0, 0)) (by (with_reducible repeat (first | refine kn_ ?_ _ | refine kd_ ?_ | refine ka_ ?_ _)); exact BK190.out) hg (Kd.R_ne HO223.out BK190.out (by decide)))
        have n1_ := Aside0.mk (blk_grown (g := gb208) (o := .cells #[.string ((rd_T24 l0_2 x26_1).f0), .int .i64 ((rd_T24 l0_2 x26_1).f1), .string ((rd_T24 l0_2 x26_1).f2), .bool ((rd_T24 l0_2 x26_1).f3)] 24 (0, 0)) (by (with_reducible repeat (first | refine kn_ ?_ _ | refine kd_ ?_ | refine ka_ ?_ _)); exact BK208.out) hg (Kd.R_ne HO223.out BK208.out (by decide)))
        have n2_ := Aside0.mk (Kd.N_afterv (ok := (fun k_ => k_ ≠ gb190 ∧ k_ ≠ gb208)) (by (with_reducible repeat (first | apply Kd.N_alloc | apply Kd.N_drewN | apply Kd.N_drew)); exact HO220.out) hg hat)
        have n3_ := Aside0.mk (hb)
        have n4_ := Aside0.mk (ho)
        clear BK190
        clear BK208
        clear HO220
        clear HB
        clear HO223
        have BK190 := n0_
        have BK208 := n1_
        have HO220 := n2_
        have HB := n3_
        have HO227 := n4_
        clear n0_ n1_ n2_ n3_ n4_
        clear ho hb hg hat
        refine hK.out _ _ ⟨(blk_cell BK208.out 0).trans rfl, (blk_cell BK208.out 1).trans rfl, (blk_cell BK208.out 2).trans rfl, (blk_cell BK208.out 3).trans rfl⟩ (fun hHeld => ?_)
        clear hK K
        refine norm_ (a' := ?_) ?_ ?_
        rotate_left
        ·show Act.put _ (some 46) _ = _
         simp only [Act.put, List.setIfInBounds_toArray, List.set_cons_zero, List.set_cons_succ, i64_w, i32_w]
         rfl
        refine pure_ (i := 17) (N := some 3) (v := ?_) (a' := ?_) #[true, true, true, true, true, true, true, true, true, true, true, true, true, true, true, true, true, true] rfl rfl (any_of HT_.out (by kernel_rfl)) (fun _ _ _ h => h) (Or.inl ⟨by rfl, ?_⟩) ?_ ?_
        rotate_left
        ·intro w'
         go_simp
         with_reducible rfl
        rotate_left
        ·simp only [Act.put, List.setIfInBounds_toArray, List.set_cons_zero, List.set_cons_succ, i64_w, i32_w]
         rfl
        refine done_ (done_of HT_.out (by kernel_rfl)) ?_
        try go_wp2
        go_roundg k1
        case measure => have := HK1.out; omega
        case rel => exact ⟨(y225), (wrap64 (x26_1 + 1)), (by first | rfl | (simp; done) | (simp [*]; done)), H', ⟨by have := HK1.out; omega⟩, ⟨by (with_reducible repeat (first | apply ra_ | apply rn_ | apply rd_)); exact HO227.out⟩, ⟨by (with_reducible repeat (first | refine kn_ ?_ _ | refine kd_ ?_ | refine ka_ ?_ _)); exact BK190.out⟩, ⟨by repeat (with_reducible first | exact HB.out | apply ba_ | apply bn_ | apply bd_ | refine bs_ ?_ GE190.out | refine bs_ ?_ GE208.out)⟩⟩
       ·rw [if_neg c31] at H
        exact absurd H (by simp)
      ·rw [if_neg c25] at H
       exact absurd H (by simp)
     ·rw [if_neg c24] at H
      exact absurd H (by simp)
    ·rw [if_neg c23] at H
     have c23b0 : decide (x26_1 < (l0_2.length : Int)) = false := decide_eq_false c23
     clear c23
     replace H := Option.bind_eq_some_iff.mp H
     obtain ⟨t228, A490, H⟩ := H
     (try dsimp only at H)
     have A49 := Aside0.mk A490
     clear A490
     by_cases c50 : x3_1.length + t228.length < 140737488355328
     ·rw [if_pos c50] at H
      have LMc50 := Aside0.mk c50
      clear c50
      obtain ⟨y231, hy231⟩ : ∃ y_ : List Int, y_ = (x3_1 ++ t228) := ⟨_, rfl⟩
      replace H : (txn_Put.l1 k1 y231 l0_3 (l0_3.length : Int) 0) = some r := by first | (rw [hy231]; with_reducible exact H) | (have H2_ := (Option.bind_some _ _).symm.trans H; rw [hy231]; with_reducible exact H2_) | (have H2_ := (Option.bind_some _ _).symm.trans H; with_reducible exact H2_) | with_reducible exact H | (rw [hy231]; exact H) | exact H
      have Ny231 := Aside0.mk hy231
      clear hy231
      have H' := Aside0.mk H
      clear H
      have hcz51_0 : wr.cell? ⟨gb190, 0, none⟩ = some (.int .i64 a0_0) := (blk_cell BK190.out 0).trans rfl
      have hcz51_1 : wr.cell? ⟨gb190, 1, none⟩ = some (.int .i64 a0_1) := (blk_cell BK190.out 1).trans rfl
      have hcz51_2 : wr.cell? ⟨gb190, 2, none⟩ = some (.slice A0_2 l0_2.length c0_2) := (blk_cell BK190.out 2).trans rfl
      have hcz51_3 : wr.cell? ⟨gb190, 3, none⟩ = some (.slice A0_3 l0_3.length c0_3) := (blk_cell BK190.out 3).trans rfl
      have hfz51_0 := blk_frozen BK190.out 0
      have hfz51_1 := blk_frozen BK190.out 1
      have hfz51_2 := blk_frozen BK190.out 2
      have hfz51_3 := blk_frozen BK190.out 3
      go_wp2_with (first | ((with_reducible refine gate_callee (f := 73) rfl ?_); refine goesM_ (some 52) Try.func73 #[.int .i64 (l0_3.length : Int)] ?_; (with_reducible refine (num_Put.calls k1 (l0_3.length : Int) t228 _ A49.out).mono ?_); rintro e w52 ⟨v229, rfl, ho0, hb⟩; refine ⟨_, rfl, ?_⟩; have n0_ := Aside0.mk (Kd.R_elder' (by (with_reducible repeat (first | apply ra_ | apply rn_ | apply rd_)); exact HO_3.out) (Kd.R_base ho0) hb); have n1_ := Aside0.mk (Kd.R_lower (Kd.R_new' ho0 (Kd.R_lt (by (with_reducible repeat (first | apply ra_ | apply rn_ | apply rd_)); exact HO_3.out))) (below_size (by repeat (with_reducible first | exact HB.out | apply ba_ | apply bn_ | apply bd_ | refine bs_ ?_ GE190.out)))); have n2_ := Aside0.mk (blk_below (g := gb190) (o := .cells #[.int .i64 a0_0, .int .i64 a0_1, .slice A0_2 l0_2.length c0_2, .slice A0_3 l0_3.length c0_3] 30 (0, 0)) (by (with_reducible repeat (first | refine kn_ ?_ _ | refine kd_ ?_ | refine ka_ ?_ _)); exact BK190.out) hb); have n3_ := Aside0.mk (below_step (by repeat (with_reducible first | exact HB.out | apply ba_ | apply bn_ | apply bd_ | refine bs_ ?_ GE190.out)) hb); clear HO_3; clear BK190; clear HB; have HO_3 := n0_; have HO230 := n1_; have BK190 := n2_; have HB := n3_; clear n0_ n1_ n2_ n3_; clear hb ho0; obtain ⟨Ao54, co54, eo54⟩ := Kd.R_slice HO230.out; subst eo54) | ((with_reducible refine gate_builtin (b := .append) (xs := #[.tmp 48, .tmp 52]) rfl ?_); at_builtin; refine Kd.R_append_rows (Kd.int .u8) (w0 := w) w.heap.size rfl (.tmp 48) (.tmp 52) 33 5 (.int .u8 0) 1 rfl Try.underlying33 info5 rfl (by decide) (by omega) u3 x3_1 t228 _ _ _ (fun k_ => some k_ ≠ (.slice Ao54 t228.length co54 : Value).ownBlock) (fun _ => False) rfl rfl ?aO ?aR (fun _ _ h => h) (fun _ h => h.elim) ?aF ?aB ?aS ?aL ?_; (case aR => repeat (first | exact (Kd.R_reads' HO230.out).2.2 | (with_reducible refine ca_ ?_ _) | (with_reducible refine cn_ ?_ _) | (with_reducible refine cd_ ?_))); (case aB => exact (by repeat (with_reducible first | exact HB.out | apply ba_ | apply bn_ | apply bd_ | refine bs_ ?_ GE190.out))); (case aF => exact (fun k_ hk => Kd.fresh' (Kd.R_lt (by (with_reducible repeat (first | apply ra_ | apply rn_ | apply rd_)); exact HO230.out)) k_ hk)); (case aO => exact (by (with_reducible repeat (first | apply ra_ | apply rn_ | apply rd_)); exact Kd.R_mono HO_3.out (fun _ hk => hk.2))); (case aS => exact (below_size (by repeat (with_reducible first | exact HB.out | apply ba_ | apply bn_ | apply bd_ | refine bs_ ?_ GE190.out)))); (case aL => have := LMc50.out; omega); intro v232 w53 ho hb hg hat; rw [← Ny231.out] at ho; have n0_ := Aside0.mk (blk_grown (g := gb190) (o := .cells #[.int .i64 a0_0, .int .i64 a0_1, .slice A0_2 l0_2.length c0_2, .slice A0_3 l0_3.length c0_3] 30 (0, 0)) (by (with_reducible repeat (first | refine kn_ ?_ _ | refine kd_ ?_ | refine ka_ ?_ _)); exact BK190.out) hg (Kd.R_ne HO_3.out BK190.out (by decide))); have n1_ := Aside0.mk (Kd.R_after (ok := (fun _ => True)) (by (with_reducible repeat (first | apply ra_ | apply rn_ | apply rd_)); exact HO230.out) hg hat); have n2_ := Aside0.mk (hb); have n3_ := Aside0.mk (ho); clear BK190; clear HO230; clear HB; clear HO_3; have BK190 := n0_; have HO230 := n1_; have HB := n2_; have HO233 := n3_; clear n0_ n1_ n2_ n3_; clear ho hb hg hat; have hcz55_0 : w53.cell? ⟨gb190, 0, none⟩ = some (.int .i64 a0_0) := (blk_cell BK190.out 0).trans rfl; have hcz55_1 : w53.cell? ⟨gb190, 1, none⟩ = some (.int .i64 a0_1) := (blk_cell BK190.out 1).trans rfl; have hcz55_2 : w53.cell? ⟨gb190, 2, none⟩ = some (.slice A0_2 l0_2.length c0_2) := (blk_cell BK190.out 2).trans rfl; have hcz55_3 : w53.cell? ⟨gb190, 3, none⟩ = some (.slice A0_3 l0_3.length c0_3) := (blk_cell BK190.out 3).trans rfl; have hfz55_0 := blk_frozen BK190.out 0; have hfz55_1 := blk_frozen BK190.out 1; have hfz55_2 := blk_frozen BK190.out 2; have hfz55_3 := blk_frozen BK190.out 3))
      go_loopg [3, 57] k1 (fun kq v3 v57 w' => ∃ (x3_2 : List Int) (x57_2 : Int), v57 = .int .i64 x57_2 ∧ Aside0 (txn_Put.l1 kq x3_2 l0_3 (l0_3.length : Int) x57_2 = some r) ∧ Aside0 (kq ≤ k1) ∧ Aside0 (Kd.R (Kd.int .u8) 5 w' w.heap.size (fun _ => True) v3 x3_2) ∧ Aside0 (w'.heap[gb190]? = some (.cells #[.int .i64 a0_0, .int .i64 a0_1, (.slice A0_2 l0_2.length c0_2), (.slice A0_3 l0_3.length c0_3)] 30 (0, 0))) ∧ Aside0 (Below w.heap.size w w'))
      case atStart => exact ⟨(y231), (0), (by first | rfl | (simp; done) | (simp [*]; done)), H', ⟨Nat.le_refl _⟩, ⟨by (with_reducible repeat (first | apply ra_ | apply rn_ | apply rd_)); exact Kd.R_mono HO233.out (fun _ hk => trivial)⟩, ⟨by (with_reducible repeat (first | refine kn_ ?_ _ | refine kd_ ?_ | refine ka_ ?_ _)); exact BK190.out⟩, ⟨by repeat (with_reducible first | exact HB.out | apply ba_ | apply bn_ | apply bd_ | refine bs_ ?_ GE190.out)⟩⟩
      case round =>
       clear H'
       try clear c1
       try clear c2
       try clear p2
       try clear q2
       try clear hx2
       try clear c3
       try clear c5
       try clear p6
       try clear c7
       try clear c18
       try clear c19
       try clear p20
       try clear q20
       try clear hx20
       try clear c23
       try clear c23b0
       try clear c24
       try clear c24b0
       try clear c25
       try clear c25b0
       try clear c31
       try clear c33
       try clear c50
       try clear hcz22_0
       try clear hcz22_1
       try clear hcz22_2
       try clear hcz22_3
       try clear hcz34_0
       try clear hcz34_1
       try clear hcz34_2
       try clear hcz34_3
       try clear hcz51_0
       try clear hcz51_1
       try clear hcz51_2
       try clear hcz51_3
       try clear hcz55_0
       try clear hcz55_1
       try clear hcz55_2
       try clear hcz55_3
       try clear hcz9_0
       try clear hcz9_1
       try clear hcz9_2
       try clear hcz9_3
       try clear hfz22_0
       try clear hfz22_1
       try clear hfz22_2
       try clear hfz22_3
       try clear hfz34_0
       try clear hfz34_1
       try clear hfz34_2
       try clear hfz34_3
       try clear hfz51_0
       try clear hfz51_1
       try clear hfz51_2
       try clear hfz51_3
       try clear hfz55_0
       try clear hfz55_1
       try clear hfz55_2
       try clear hfz55_3
       try clear hfz9_0
       try clear hfz9_1
       try clear hfz9_2
       try clear hfz9_3
       try clear hx207_0
       try clear hx207_1
       try clear hx207_2
       try clear hx207_3
       try clear p2
       try clear p207
       try clear q207
       obtain ⟨x3_2, x57_2, rfl, HA, HK2, HO_3, BK190, HB⟩ := hrel
       cases gk with
       | zero => exact absurd HA.out (by simp [txn_Put.l1])
       | succ k2 =>
        have H := HA.out
        clear HA
        simp only [txn_Put.l1] at H
        by_cases c56 : x57_2 < (l0_3.length : Int)
        ·rw [if_pos c56] at H
         have c56b0 : decide (x57_2 < (l0_3.length : Int)) = true := decide_eq_true c56
         clear c56
         by_cases c57 : 0 ≤ x57_2
         ·rw [if_pos c57] at H
          have c57b0 : decide (0 ≤ x57_2) = true := decide_eq_true c57
          clear c57
          by_cases c58 : x57_2 < (l0_3.length : Int)
          ·rw [if_pos c58] at H
           have c58b0 : decide (x57_2 < (l0_3.length : Int)) = true := decide_eq_true c58
           clear c58
           replace H := Option.bind_eq_some_iff.mp H
           obtain ⟨t236, A590, H⟩ := H
           (try dsimp only at H)
           have A59 := Aside0.mk A590
           clear A590
           replace H := Option.bind_eq_some_iff.mp H
           obtain ⟨t239, A600, H⟩ := H
           (try dsimp only at H)
           have A60 := Aside0.mk A600
           clear A600
           obtain ⟨y242, hy242⟩ : ∃ y_ : List (List Int), y_ = (([x3_2, t236, t239] : List (List Int))) := ⟨_, rfl⟩
           replace H : ((slices_Concat_Lbyte_byte.f k2 y242).bind fun t245 => ((txn_flag.f ((rd_T27 l0_3 x57_2).f2)).bind fun t248 => (if t245.length < 140737488355328 then (txn_Put.l1 k2 (t245 ++ [t248]) l0_3 (l0_3.length : Int) (wrap64 (x57_2 + 1))) else (none)))) = some r := by first | (rw [hy242]; with_reducible exact H) | (have H2_ := (Option.bind_some _ _).symm.trans H; rw [hy242]; with_reducible exact H2_) | (have H2_ := (Option.bind_some _ _).symm.trans H; with_reducible exact H2_) | with_reducible exact H | (rw [hy242]; exact H) | exact H
           have Ny242 := Aside0.mk hy242
           clear hy242
           replace H := Option.bind_eq_some_iff.mp H
           obtain ⟨t245, A610, H⟩ := H
           (try dsimp only at H)
           have A61 := Aside0.mk A610
           clear A610
           replace H := Option.bind_eq_some_iff.mp H
           obtain ⟨t248, A620, H⟩ := H
           (try dsimp only at H)
           have A62 := Aside0.mk A620
           clear A620
           by_cases c63 : t245.length < 140737488355328
           ·rw [if_pos c63] at H
            have LMc63 := Aside0.mk c63
            clear c63
            obtain ⟨y249, hy249⟩ : ∃ y_ : List Int, y_ = (t245 ++ [t248]) := ⟨_, rfl⟩
            replace H : (txn_Put.l1 k2 y249 l0_3 (l0_3.length : Int) (wrap64 (x57_2 + 1))) = some r := by first | (rw [hy249]; with_reducible exact H) | (have H2_ := (Option.bind_some _ _).symm.trans H; rw [hy249]; with_reducible exact H2_) | (have H2_ := (Option.bind_some _ _).symm.trans H; with_reducible exact H2_) | with_reducible exact H | (rw [hy249]; exact H) | exact H
            have Ny249 := Aside0.mk hy249
            clear hy249
            have H' := Aside0.mk H
            clear H
            have p234 : 0 ≤ (x57_2 : Int) := of_decide_eq_true (by first | (with_reducible assumption) | assumption)
            have q234 : x57_2 < (l0_3.length : Int) := of_decide_eq_true (by first | (with_reducible assumption) | assumption)
            obtain ⟨ad234, e234, hx234_0, hx234_1, hx234_2⟩ := at_T27 HR0_3.out x57_2 p234 q234
            cases e234
            replace hx234_0 := (HB.out.cell (World.block_lt_of_cell? w _ hx234_0)).trans hx234_0
            replace hx234_1 := (HB.out.cell (World.block_lt_of_cell? w _ hx234_1)).trans hx234_1
            replace hx234_2 := (HB.out.cell (World.block_lt_of_cell? w _ hx234_2)).trans hx234_2
            replace p234 := eq_true p234
            replace q234 := eq_true q234
            try go_wp2_with (first | ((with_reducible refine gate_dst (N := 7) rfl ?_); refine box_event ?hg (N := 7) ?hd (cs := #[.string (⟨#[]⟩ : ByteArray), .string (⟨#[]⟩ : ByteArray), .bool false]) (t := 27) ?hr ?_; (case hd => rfl); (case hg => rfl); (case hr => first | (go_simp; done) | (go_simp; rfl)); intro gb235 hg w64 hbox hb; have n0_ := Aside0.mk (Kd.R_below (by (with_reducible repeat (first | apply ra_ | apply rn_ | apply rd_)); exact HO_3.out) hb); have n1_ := Aside0.mk (blk_below (g := gb190) (o := .cells #[.int .i64 a0_0, .int .i64 a0_1, .slice A0_2 l0_2.length c0_2, .slice (some ad234) l0_3.length c0_3] 30 (0, 0)) (by (with_reducible repeat (first | refine kn_ ?_ _ | refine kd_ ?_ | refine ka_ ?_ _)); exact BK190.out) hb); have n2_ := Aside0.mk (below_step (by repeat (with_reducible first | exact HB.out | apply ba_ | apply bn_ | apply bd_ | refine bs_ ?_ GE190.out)) hb); have n3_ := Aside0.mk (hbox); have n4_ := Aside0.mk ((by rw [hg]; exact (below_size (by repeat (with_reducible first | exact HB.out | apply ba_ | apply bn_ | apply bd_ | refine bs_ ?_ GE190.out))) : w.heap.size ≤ gb235)); have n5_ := Aside0.mk ((by rw [hg]; exact (below_size (by repeat (with_reducible first | exact HB.out | apply ba_ | apply bn_ | apply bd_ | refine bs_ ?_ GE190.out))) : w.heap.size ≤ gb235)); have n6_ := Aside0.mk ((by rw [hg]; exact Nat.ne_of_lt (blk_lt (g := gb190) (o := .cells #[.int .i64 a0_0, .int .i64 a0_1, .slice A0_2 l0_2.length c0_2, .slice (some ad234) l0_3.length c0_3] 30 (0, 0)) (by (with_reducible repeat (first | refine kn_ ?_ _ | refine kd_ ?_ | refine ka_ ?_ _)); exact BK190.out)) : gb190 ≠ gb235)); have n7_ := Aside0.mk ((by rw [hg]; exact Nat.ne_of_gt (blk_lt (g := gb190) (o := .cells #[.int .i64 a0_0, .int .i64 a0_1, .slice A0_2 l0_2.length c0_2, .slice (some ad234) l0_3.length c0_3] 30 (0, 0)) (by (with_reducible repeat (first | refine kn_ ?_ _ | refine kd_ ?_ | refine ka_ ?_ _)); exact BK190.out)) : gb235 ≠ gb190)); clear HO_3; clear BK190; clear HB; have HO_3 := n0_; have BK190 := n1_; have HB := n2_; have BK235 := n3_; have GW235 := n4_; have GE235 := n5_; have NB190_235 := n6_; have NB235_190 := n7_; clear n0_ n1_ n2_ n3_ n4_ n5_ n6_ n7_; clear hb hbox hg; have hnb65 := NB235_190.out; have hnc65 := NB190_235.out; have hcz66_0 : w64.cell? ⟨gb235, 0, none⟩ = some (.string (⟨#[]⟩ : ByteArray)) := (blk_cell BK235.out 0).trans rfl; have hcz66_1 : w64.cell? ⟨gb235, 1, none⟩ = some (.string (⟨#[]⟩ : ByteArray)) := (blk_cell BK235.out 1).trans rfl; have hcz66_2 : w64.cell? ⟨gb235, 2, none⟩ = some (.bool false) := (blk_cell BK235.out 2).trans rfl; have hfz66_0 := blk_frozen BK235.out 0; have hfz66_1 := blk_frozen BK235.out 1; have hfz66_2 := blk_frozen BK235.out 2))
            have n0_ : Aside0 (Kd.R (Kd.int .u8) 5 (((w64.setCell ⟨gb235, 0, none⟩ (.string ((rd_T27 l0_3 x57_2).f0))).setCell ⟨gb235, 1, none⟩ (.string ((rd_T27 l0_3 x57_2).f1))).setCell ⟨gb235, 2, none⟩ (.bool ((rd_T27 l0_3 x57_2).f2))) w.heap.size (fun _ => True) u3 x3_2) := ⟨by (with_reducible repeat (first | apply ra_ | apply rn_ | apply rd_)); exact Kd.R_mono (Kd.R_far (p := ⟨gb235, 2, none⟩) (Kd.R_far (p := ⟨gb235, 1, none⟩) (Kd.R_far (p := ⟨gb235, 0, none⟩) (Kd.R_types HO_3.out BK235.out (by decide)) (fun _ hk => hk.2) (.string ((rd_T27 l0_3 x57_2).f0))) (fun _ hk => hk.2) (.string ((rd_T27 l0_3 x57_2).f1))) (fun _ hk => hk.2) (.bool ((rd_T27 l0_3 x57_2).f2))) (fun _ hk => trivial)⟩
            have n1_ : Aside0 ((((w64.setCell ⟨gb235, 0, none⟩ (.string ((rd_T27 l0_3 x57_2).f0))).setCell ⟨gb235, 1, none⟩ (.string ((rd_T27 l0_3 x57_2).f1))).setCell ⟨gb235, 2, none⟩ (.bool ((rd_T27 l0_3 x57_2).f2))).heap[gb190]? = some (.cells #[.int .i64 a0_0, .int .i64 a0_1, .slice A0_2 l0_2.length c0_2, .slice (some ad234) l0_3.length c0_3] 30 (0, 0))) := ⟨by (with_reducible repeat (first | refine kn_ ?_ _ | refine kd_ ?_ | refine ka_ ?_ _)); refine blk_far ?_ NB190_235.out _; (with_reducible repeat (first | refine kn_ ?_ _ | refine kd_ ?_ | refine ka_ ?_ _)); refine blk_far ?_ NB190_235.out _; (with_reducible repeat (first | refine kn_ ?_ _ | refine kd_ ?_ | refine ka_ ?_ _)); refine blk_far ?_ NB190_235.out _; (with_reducible repeat (first | refine kn_ ?_ _ | refine kd_ ?_ | refine ka_ ?_ _)); exact BK190.out⟩
            have n2_ : Aside0 ((((w64.setCell ⟨gb235, 0, none⟩ (.string ((rd_T27 l0_3 x57_2).f0))).setCell ⟨gb235, 1, none⟩ (.string ((rd_T27 l0_3 x57_2).f1))).setCell ⟨gb235, 2, none⟩ (.bool ((rd_T27 l0_3 x57_2).f2))).heap[gb235]? = some (.cells #[.string ((rd_T27 l0_3 x57_2).f0), .string ((rd_T27 l0_3 x57_2).f1), .bool ((rd_T27 l0_3 x57_2).f2)] 27 (0, 0))) := ⟨by (with_reducible repeat (first | refine kn_ ?_ _ | refine kd_ ?_ | refine ka_ ?_ _)); refine blk_put (cs := #[.string ((rd_T27 l0_3 x57_2).f0), .string ((rd_T27 l0_3 x57_2).f1), .bool false]) ?_ 2 _ rfl; (with_reducible repeat (first | refine kn_ ?_ _ | refine kd_ ?_ | refine ka_ ?_ _)); refine blk_put (cs := #[.string ((rd_T27 l0_3 x57_2).f0), .string (⟨#[]⟩ : ByteArray), .bool false]) ?_ 1 _ rfl; (with_reducible repeat (first | refine kn_ ?_ _ | refine kd_ ?_ | refine ka_ ?_ _)); refine blk_put (cs := #[.string (⟨#[]⟩ : ByteArray), .string (⟨#[]⟩ : ByteArray), .bool false]) ?_ 0 _ rfl; (with_reducible repeat (first | refine kn_ ?_ _ | refine kd_ ?_ | refine ka_ ?_ _)); exact BK235.out⟩
            have n3_ : Aside0 (Below w.heap.size w (((w64.setCell ⟨gb235, 0, none⟩ (.string ((rd_T27 l0_3 x57_2).f0))).setCell ⟨gb235, 1, none⟩ (.string ((rd_T27 l0_3 x57_2).f1))).setCell ⟨gb235, 2, none⟩ (.bool ((rd_T27 l0_3 x57_2).f2)))) := ⟨by repeat (with_reducible first | exact HB.out | apply ba_ | apply bn_ | apply bd_ | refine bs_ ?_ GE190.out | refine bs_ ?_ GE235.out)⟩
            (try clear HO_3)
            (try clear BK190)
            (try clear BK235)
            (try clear HB)
            generalize (((w64.setCell ⟨gb235, 0, none⟩ (.string ((rd_T27 l0_3 x57_2).f0))).setCell ⟨gb235, 1, none⟩ (.string ((rd_T27 l0_3 x57_2).f1))).setCell ⟨gb235, 2, none⟩ (.bool ((rd_T27 l0_3 x57_2).f2))) = w67 at n0_ n1_ n2_ n3_ ⊢
            have HO_3 := n0_
            have BK190 := n1_
            have BK235 := n2_
            have HB := n3_
            clear n0_ n1_ n2_ n3_
            have n0_ := Aside0.mk (Kd.R_drew HO_3.out)
            have n1_ := Aside0.mk (blk_drew BK190.out)
            have n2_ := Aside0.mk (blk_drew BK235.out)
            have n3_ := Aside0.mk (below_drew1 HB.out)
            clear HO_3
            clear BK190
            clear BK235
            clear HB
            have HO_3 := n0_
            have BK190 := n1_
            have BK235 := n2_
            have HB := n3_
            clear n0_ n1_ n2_ n3_
            refine start_ (n := 15) (S := fun w' => w'.cell? ⟨gb235, 0, none⟩ = some (.string ((rd_T27 l0_3 x57_2).f0)) ∧ w'.cell? ⟨gb235, 1, none⟩ = some (.string ((rd_T27 l0_3 x57_2).f1)) ∧ w'.cell? ⟨gb235, 2, none⟩ = some (.bool ((rd_T27 l0_3 x57_2).f2))) (ds := []) #[false, false, false, false, false, false, false, false, false, false, false, false, false, false, false] (by kernel_rfl) rfl rfl ⟨(blk_cell BK235.out 0).trans rfl, (blk_cell BK235.out 1).trans rfl, (blk_cell BK235.out 2).trans rfl⟩ (fun hHeld => ?_); refine with_tabW txn_Put.tab13 txn_Put.bits13 (fun HT_ HW_ => ?_)
            generalize w67.drew = w68 at HO_3 BK190 BK235 HB hHeld ⊢
            refine pure_ (i := 0) (N := some 61) (v := ?_) (a' := ?_) #[true, false, false, false, false, false, false, false, false, false, false, false, false, false, false] rfl rfl (any_of HT_.out (by kernel_rfl)) (fun _ _ _ h => h) (Or.inl ⟨by rfl, ?_⟩) ?_ ?_
            rotate_left
            ·intro w'
             go_simp
             with_reducible rfl
            rotate_left
            ·simp only [Act.put, List.setIfInBounds_toArray, List.set_cons_zero, List.set_cons_succ, i64_w, i32_w]
             rfl
            refine pure_ (i := 1) (N := some 62) (v := ?_) (a' := ?_) #[true, true, false, false, false, false, false, false, false, false, false, false, false, false, false] rfl rfl (any_of HT_.out (by kernel_rfl)) (fun _ _ _ h => h) (Or.inl ⟨by rfl, ?_⟩) ?_ ?_
            rotate_left
            ·intro w'
             go_simp
             with_reducible rfl
            rotate_left
            ·simp only [Act.put, List.setIfInBounds_toArray, List.set_cons_zero, List.set_cons_succ, i64_w, i32_w]
             rfl
            refine pure_ (i := 4) (N := some 65) (v := ?_) (a' := ?_) #[true, true, false, false, true, false, false, false, false, false, false, false, false, false, false] rfl rfl (any_of HT_.out (by kernel_rfl)) (fun _ _ _ h => h) (Or.inl ⟨by rfl, ?_⟩) ?_ ?_
            rotate_left
            ·intro w'
             go_simp
             with_reducible rfl
            rotate_left
            ·simp only [Act.put, List.setIfInBounds_toArray, List.set_cons_zero, List.set_cons_succ, i64_w, i32_w]
             rfl
            refine pure_ (i := 9) (N := some 70) (v := ?_) (a' := ?_) #[true, true, false, false, true, false, false, false, false, true, false, false, false, false, false] rfl rfl (any_of HT_.out (by kernel_rfl)) (fun _ _ _ h => h) (Or.inl ⟨by rfl, ?_⟩) ?_ ?_
            rotate_left
            ·intro w'
             go_simp
             with_reducible rfl
            rotate_left
            ·simp only [Act.put, List.setIfInBounds_toArray, List.set_cons_zero, List.set_cons_succ, i64_w, i32_w]
             rfl
            refine take_ (i := 2) (N := some 63) (v := ?_) (a' := ?_) #[true, true, true, false, true, false, false, false, false, true, false, false, false, false, false] rfl rfl (take_ofW HT_.out HW_.out (by kernel_rfl)) (fun _ _ _ h => h) (Or.inl ⟨by rfl, ?_⟩) hHeld ?_ ?_
            rotate_left
            ·rintro w' ⟨s0, s1, s2⟩
             go_simp
             with_reducible rfl
            rotate_left
            ·simp only [Act.put, List.setIfInBounds_toArray, List.set_cons_zero, List.set_cons_succ, i64_w, i32_w]
             rfl
            refine take_ (i := 5) (N := some 66) (v := ?_) (a' := ?_) #[true, true, true, false, true, true, false, false, false, true, false, false, false, false, false] rfl rfl (take_ofW HT_.out HW_.out (by kernel_rfl)) (fun _ _ _ h => h) (Or.inl ⟨by rfl, ?_⟩) hHeld ?_ ?_
            rotate_left
            ·rintro w' ⟨s0, s1, s2⟩
             go_simp
             with_reducible rfl
            rotate_left
            ·simp only [Act.put, List.setIfInBounds_toArray, List.set_cons_zero, List.set_cons_succ, i64_w, i32_w]
             rfl
            refine take_ (i := 10) (N := some 71) (v := ?_) (a' := ?_) #[true, true, true, false, true, true, false, false, false, true, true, false, false, false, false] rfl rfl (take_ofW HT_.out HW_.out (by kernel_rfl)) (fun _ _ _ h => h) (Or.inl ⟨by rfl, ?_⟩) hHeld ?_ ?_
            rotate_left
            ·rintro w' ⟨s0, s1, s2⟩
             go_simp
             with_reducible rfl
            rotate_left
            ·simp only [Act.put, List.setIfInBounds_toArray, List.set_cons_zero, List.set_cons_succ, i64_w, i32_w]
             rfl
            refine one_ (i := 3) (N := some 64) #[true, true, true, true, true, true, false, false, false, true, true, false, false, false, false] rfl rfl (one_of HT_.out (by kernel_rfl)) (by decide) (fun K hK => ?_)
            refine goesV_ Try.func74 (by kernel_rfl) rfl #[.string ((rd_T27 l0_3 x57_2).f0)] (by rfl) rfl rfl (by (try simp only [List.map_toArray, List.map_cons, List.map_nil]); first | done | rfl | (simp only [List.length_drop, List.length_take]; rfl)) ?_
            with_reducible refine (num_PutText.calls k2 ((rd_T27 l0_3 x57_2).f0) t236 _ A59.out).mono ?_
            rintro e w69 ⟨v237, rfl, ho0, hb⟩
            refine ⟨_, rfl, ?_⟩
            have n0_ := Aside0.mk (Kd.R_elder' (by (with_reducible repeat (first | apply ra_ | apply rn_ | apply rd_)); exact HO_3.out) (Kd.R_base ho0) hb)
            have n1_ := Aside0.mk (Kd.R_lower (Kd.R_new' ho0 (Kd.R_lt (by (with_reducible repeat (first | apply ra_ | apply rn_ | apply rd_)); exact HO_3.out))) (below_size (by repeat (with_reducible first | exact HB.out | apply ba_ | apply bn_ | apply bd_ | refine bs_ ?_ GE190.out | refine bs_ ?_ GE235.out))))
            have n2_ := Aside0.mk (blk_below (g := gb190) (o := .cells #[.int .i64 a0_0, .int .i64 a0_1, .slice A0_2 l0_2.length c0_2, .slice (some ad234) l0_3.length c0_3] 30 (0, 0)) (by (with_reducible repeat (first | refine kn_ ?_ _ | refine kd_ ?_ | refine ka_ ?_ _)); exact BK190.out) hb)
            have n3_ := Aside0.mk (blk_below (g := gb235) (o := .cells #[.string ((rd_T27 l0_3 x57_2).f0), .string ((rd_T27 l0_3 x57_2).f1), .bool ((rd_T27 l0_3 x57_2).f2)] 27 (0, 0)) (by (with_reducible repeat (first | refine kn_ ?_ _ | refine kd_ ?_ | refine ka_ ?_ _)); exact BK235.out) hb)
            have n4_ := Aside0.mk (below_step (by repeat (with_reducible first | exact HB.out | apply ba_ | apply bn_ | apply bd_ | refine bs_ ?_ GE190.out | refine bs_ ?_ GE235.out)) hb)
            clear HO_3
            clear BK190
            clear BK235
            clear HB
            have HO_3 := n0_
            have HO238 := n1_
            have BK190 := n2_
            have BK235 := n3_
            have HB := n4_
            clear n0_ n1_ n2_ n3_ n4_
            clear hb ho0
            refine hK.out _ _ ⟨(blk_cell BK235.out 0).trans rfl, (blk_cell BK235.out 1).trans rfl, (blk_cell BK235.out 2).trans rfl⟩ (fun hHeld => ?_)
            clear hK K
            refine norm_ (a' := ?_) ?_ ?_
            rotate_left
            ·show Act.put _ (some 64) _ = _
             simp only [Act.put, List.setIfInBounds_toArray, List.set_cons_zero, List.set_cons_succ, i64_w, i32_w]
             rfl
            refine one_ (i := 6) (N := some 67) #[true, true, true, true, true, true, true, false, false, true, true, false, false, false, false] rfl rfl (one_of HT_.out (by kernel_rfl)) (by decide) (fun K hK => ?_)
            refine goesV_ Try.func74 (by kernel_rfl) rfl #[.string ((rd_T27 l0_3 x57_2).f1)] (by rfl) rfl rfl (by (try simp only [List.map_toArray, List.map_cons, List.map_nil]); first | done | rfl | (simp only [List.length_drop, List.length_take]; rfl)) ?_
            with_reducible refine (num_PutText.calls k2 ((rd_T27 l0_3 x57_2).f1) t239 _ A60.out).mono ?_
            rintro e w70 ⟨v240, rfl, ho0, hb⟩
            refine ⟨_, rfl, ?_⟩
            have n0_ := Aside0.mk (Kd.R_elder' (by (with_reducible repeat (first | apply ra_ | apply rn_ | apply rd_)); exact HO_3.out) (Kd.R_base ho0) hb)
            have n1_ := Aside0.mk (Kd.R_elder' (by (with_reducible repeat (first | apply ra_ | apply rn_ | apply rd_)); exact HO238.out) (Kd.R_base ho0) hb)
            have n2_ := Aside0.mk (Kd.R_lower (Kd.R_new' (Kd.R_new' ho0 (Kd.R_lt (by (with_reducible repeat (first | apply ra_ | apply rn_ | apply rd_)); exact HO_3.out))) (Kd.R_lt (by (with_reducible repeat (first | apply ra_ | apply rn_ | apply rd_)); exact HO238.out))) (below_size (by repeat (with_reducible first | exact HB.out | apply ba_ | apply bn_ | apply bd_ | refine bs_ ?_ GE190.out | refine bs_ ?_ GE235.out))))
            have n3_ := Aside0.mk (blk_below (g := gb190) (o := .cells #[.int .i64 a0_0, .int .i64 a0_1, .slice A0_2 l0_2.length c0_2, .slice (some ad234) l0_3.length c0_3] 30 (0, 0)) (by (with_reducible repeat (first | refine kn_ ?_ _ | refine kd_ ?_ | refine ka_ ?_ _)); exact BK190.out) hb)
            have n4_ := Aside0.mk (blk_below (g := gb235) (o := .cells #[.string ((rd_T27 l0_3 x57_2).f0), .string ((rd_T27 l0_3 x57_2).f1), .bool ((rd_T27 l0_3 x57_2).f2)] 27 (0, 0)) (by (with_reducible repeat (first | refine kn_ ?_ _ | refine kd_ ?_ | refine ka_ ?_ _)); exact BK235.out) hb)
            have n5_ := Aside0.mk (below_step (by repeat (with_reducible first | exact HB.out | apply ba_ | apply bn_ | apply bd_ | refine bs_ ?_ GE190.out | refine bs_ ?_ GE235.out)) hb)
            clear HO_3
            clear HO238
            clear BK190
            clear BK235
            clear HB
            have HO_3 := n0_
            have HO238 := n1_
            have HO241 := n2_
            have BK190 := n3_
            have BK235 := n4_
            have HB := n5_
            clear n0_ n1_ n2_ n3_ n4_ n5_
            clear hb ho0
            obtain ⟨Ao71, co71, eo71⟩ := Kd.R_slice HO_3.out
            (first | subst eo71 | (injection eo71 with f1_ f2_ f3_; have f4_ := f1_.symm; have f5_ := f3_.symm; clear f1_ f2_ f3_; subst f4_; subst f5_))
            obtain ⟨Ao72, co72, eo72⟩ := Kd.R_slice HO238.out
            (first | subst eo72 | (injection eo72 with f1_ f2_ f3_; have f4_ := f1_.symm; have f5_ := f3_.symm; clear f1_ f2_ f3_; subst f4_; subst f5_))
            obtain ⟨Ao73, co73, eo73⟩ := Kd.R_slice HO241.out
            (first | subst eo73 | (injection eo73 with f1_ f2_ f3_; have f4_ := f1_.symm; have f5_ := f3_.symm; clear f1_ f2_ f3_; subst f4_; subst f5_))
            refine hK.out _ _ ⟨(blk_cell BK235.out 0).trans rfl, (blk_cell BK235.out 1).trans rfl, (blk_cell BK235.out 2).trans rfl⟩ (fun hHeld => ?_)
            clear hK K
            refine norm_ (a' := ?_) ?_ ?_
            rotate_left
            ·show Act.put _ (some 67) _ = _
             simp only [Act.put, List.setIfInBounds_toArray, List.set_cons_zero, List.set_cons_succ, i64_w, i32_w]
             rfl
            refine one_ (i := 7) (N := some 68) #[true, true, true, true, true, true, true, true, false, true, true, false, false, false, false] rfl rfl (one_of HT_.out (by kernel_rfl)) (by decide) (fun K hK => ?_)
            refine Kd.N_lit_step (Kd.slice 5 (Kd.int .u8)) _ 33 ?hg (N' := 68) ?hd (xs := ([x3_2, t236, t239] : List (List Int))) (inner := [.slice Ao71 x3_2.length co71, .slice Ao72 t236.length co72, .slice Ao73 t239.length co73]) (ok := (fun k_ => k_ ≠ gb190 ∧ k_ ≠ gb235)) (okp := (fun k_ => k_ ≠ gb190 ∧ k_ ≠ gb235)) ?hr ?hp (fun _ hk => hk) ((show ∀ k_, w70.heap.size ≤ k_ → (fun k_ => k_ ≠ gb190 ∧ k_ ≠ gb235) k_ from fun k_ hk => ⟨Kd.freshB (g := gb190) (o := .cells #[.int .i64 a0_0, .int .i64 a0_1, .slice A0_2 l0_2.length c0_2, .slice (some ad234) l0_3.length c0_3] 30 (0, 0)) (by (with_reducible repeat (first | refine kn_ ?_ _ | refine kd_ ?_ | refine ka_ ?_ _)); exact BK190.out) k_ hk, Kd.freshB (g := gb235) (o := .cells #[.string ((rd_T27 l0_3 x57_2).f0), .string ((rd_T27 l0_3 x57_2).f1), .bool ((rd_T27 l0_3 x57_2).f2)] 27 (0, 0)) (by (with_reducible repeat (first | refine kn_ ?_ _ | refine kd_ ?_ | refine ka_ ?_ _)); exact BK235.out) k_ hk⟩) _ (Nat.le_refl _)) (Below.refl _ _) (Nat.le_refl _) (by simp) ?_; (case hd => rfl); (case hg => rfl); (case hr => first | (go_simp; done) | (go_simp; rfl)); (case hp => exact (Reps.one (show Kd.FK (Kd.slice 5 (Kd.int .u8)) _ _ x3_2 [.slice Ao71 x3_2.length co71] from (Kd.FK_slice_mk (Kd.R_reads' (Kd.R_mono (ok' := (fun k_ => k_ ≠ gb190 ∧ k_ ≠ gb235)) (Kd.R_types (Kd.R_types (HO_3.out) BK190.out (by decide)) BK235.out (by decide)) (fun k_ hk => ⟨hk.1.2, hk.2⟩))).2.1 (Kd.R_F (Kd.R_mono (ok' := (fun k_ => k_ ≠ gb190 ∧ k_ ≠ gb235)) (Kd.R_types (Kd.R_types (HO_3.out) BK190.out (by decide)) BK235.out (by decide)) (fun k_ hk => ⟨hk.1.2, hk.2⟩))))) (Reps.one (show Kd.FK (Kd.slice 5 (Kd.int .u8)) _ _ t236 [.slice Ao72 t236.length co72] from (Kd.FK_slice_mk (Kd.R_reads' (Kd.R_mono (ok' := (fun k_ => k_ ≠ gb190 ∧ k_ ≠ gb235)) (Kd.R_types (Kd.R_types (HO238.out) BK190.out (by decide)) BK235.out (by decide)) (fun k_ hk => ⟨hk.1.2, hk.2⟩))).2.1 (Kd.R_F (Kd.R_mono (ok' := (fun k_ => k_ ≠ gb190 ∧ k_ ≠ gb235)) (Kd.R_types (Kd.R_types (HO238.out) BK190.out (by decide)) BK235.out (by decide)) (fun k_ hk => ⟨hk.1.2, hk.2⟩))))) (Reps.one (show Kd.FK (Kd.slice 5 (Kd.int .u8)) _ _ t239 [.slice Ao73 t239.length co73] from (Kd.FK_slice_mk (Kd.R_reads' (Kd.R_mono (ok' := (fun k_ => k_ ≠ gb190 ∧ k_ ≠ gb235)) (Kd.R_types (Kd.R_types (HO241.out) BK190.out (by decide)) BK235.out (by decide)) (fun k_ hk => ⟨hk.1.2, hk.2⟩))).2.1 (Kd.R_F (Kd.R_mono (ok' := (fun k_ => k_ ≠ gb190 ∧ k_ ≠ gb235)) (Kd.R_types (Kd.R_types (HO241.out) BK190.out (by decide)) BK235.out (by decide)) (fun k_ hk => ⟨hk.1.2, hk.2⟩))))) (Reps.none _ _)))))
            intro v243 w74 ho75 hb hg_ hnew_
            clear hg_ hnew_
            (first | rw [← Ny242.out] at ho75 | (simp only [Int.reduceToNat] at ho75; rw [← Ny242.out] at ho75))
            have n0_ := Aside0.mk (Kd.N_lower ho75 (below_size (by repeat (with_reducible first | exact HB.out | apply ba_ | apply bn_ | apply bd_ | refine bs_ ?_ GE190.out | refine bs_ ?_ GE235.out))))
            have n1_ := Aside0.mk (blk_below (g := gb190) (o := .cells #[.int .i64 a0_0, .int .i64 a0_1, .slice A0_2 l0_2.length c0_2, .slice (some ad234) l0_3.length c0_3] 30 (0, 0)) (by (with_reducible repeat (first | refine kn_ ?_ _ | refine kd_ ?_ | refine ka_ ?_ _)); exact BK190.out) hb)
            have n2_ := Aside0.mk (blk_below (g := gb235) (o := .cells #[.string ((rd_T27 l0_3 x57_2).f0), .string ((rd_T27 l0_3 x57_2).f1), .bool ((rd_T27 l0_3 x57_2).f2)] 27 (0, 0)) (by (with_reducible repeat (first | refine kn_ ?_ _ | refine kd_ ?_ | refine ka_ ?_ _)); exact BK235.out) hb)
            have n3_ := Aside0.mk (below_step (by repeat (with_reducible first | exact HB.out | apply ba_ | apply bn_ | apply bd_ | refine bs_ ?_ GE190.out | refine bs_ ?_ GE235.out)) hb)
            clear BK190
            clear BK235
            clear HB
            clear HO238
            clear HO241
            clear HO_3
            have HO244 := n0_
            have BK190 := n1_
            have BK235 := n2_
            have HB := n3_
            clear n0_ n1_ n2_ n3_
            clear hb ho75
            obtain ⟨Ao76, co76, eo76⟩ := Kd.N_slice HO244.out
            (first | subst eo76 | (injection eo76 with f1_ f2_ f3_; have f4_ := f1_.symm; have f5_ := f3_.symm; clear f1_ f2_ f3_; subst f4_; subst f5_))
            refine hK.out _ _ ⟨(blk_cell BK235.out 0).trans rfl, (blk_cell BK235.out 1).trans rfl, (blk_cell BK235.out 2).trans rfl⟩ (fun hHeld => ?_)
            clear hK K
            refine norm_ (a' := ?_) ?_ ?_
            rotate_left
            ·show Act.put _ (some 68) _ = _
             simp only [Act.put, List.setIfInBounds_toArray, List.set_cons_zero, List.set_cons_succ, i64_w, i32_w]
             rfl
            refine one_ (i := 8) (N := some 69) #[true, true, true, true, true, true, true, true, true, true, true, false, false, false, false] rfl rfl (one_of HT_.out (by kernel_rfl)) (by decide) (fun K hK => ?_)
            refine goesV_ Try.func72 (by kernel_rfl) rfl #[.slice Ao76 y242.length co76] (by rfl) rfl rfl (by (try simp only [List.map_toArray, List.map_cons, List.map_nil]); first | done | rfl | (simp only [List.length_drop, List.length_take]; rfl)) ?_
            with_reducible refine (slices_Concat_Lbyte_byte.calls k2 _ _ y242 t245 _ ?side1 ?side2 A61.out).mono ?_
            (case side1 => repeat (first | exact (Kd.N_reads' HO244.out).2.2 | (with_reducible refine ca_ ?_ _) | (with_reducible refine cn_ ?_ _) | (with_reducible refine cd_ ?_)))
            (case side2 => exact (Kd.N_reads' HO244.out).2.1)
            rintro e w77 ⟨v246, rfl, ho0, hb⟩
            refine ⟨_, rfl, ?_⟩
            have n0_ := Aside0.mk (Kd.N_elder' (by (with_reducible repeat (first | apply Kd.N_alloc | apply Kd.N_drewN | apply Kd.N_drew)); exact HO244.out) (Kd.R_base ho0) hb)
            have n1_ := Aside0.mk (Kd.R_lower ho0 (below_size (by repeat (with_reducible first | exact HB.out | apply ba_ | apply bn_ | apply bd_ | refine bs_ ?_ GE190.out | refine bs_ ?_ GE235.out))))
            have n2_ := Aside0.mk (blk_below (g := gb190) (o := .cells #[.int .i64 a0_0, .int .i64 a0_1, .slice A0_2 l0_2.length c0_2, .slice (some ad234) l0_3.length c0_3] 30 (0, 0)) (by (with_reducible repeat (first | refine kn_ ?_ _ | refine kd_ ?_ | refine ka_ ?_ _)); exact BK190.out) hb)
            have n3_ := Aside0.mk (blk_below (g := gb235) (o := .cells #[.string ((rd_T27 l0_3 x57_2).f0), .string ((rd_T27 l0_3 x57_2).f1), .bool ((rd_T27 l0_3 x57_2).f2)] 27 (0, 0)) (by (with_reducible repeat (first | refine kn_ ?_ _ | refine kd_ ?_ | refine ka_ ?_ _)); exact BK235.out) hb)
            have n4_ := Aside0.mk (below_step (by repeat (with_reducible first | exact HB.out | apply ba_ | apply bn_ | apply bd_ | refine bs_ ?_ GE190.out | refine bs_ ?_ GE235.out)) hb)
            clear HO244
            clear BK190
            clear BK235
            clear HB
            have HO244 := n0_
            have HO247 := n1_
            have BK190 := n2_
            have BK235 := n3_
            have HB := n4_
            clear n0_ n1_ n2_ n3_ n4_
            clear hb ho0
            refine hK.out _ _ ⟨(blk_cell BK235.out 0).trans rfl, (blk_cell BK235.out 1).trans rfl, (blk_cell BK235.out 2).trans rfl⟩ (fun hHeld => ?_)
            clear hK K
            refine norm_ (a' := ?_) ?_ ?_
            rotate_left
            ·show Act.put _ (some 69) _ = _
             simp only [Act.put, List.setIfInBounds_toArray, List.set_cons_zero, List.set_cons_succ, i64_w, i32_w]
             rfl
            refine one_ (i := 11) (N := some 72) #[true, true, true, true, true, true, true, true, true, true, true, true, false, false, false] rfl rfl (one_of HT_.out (by kernel_rfl)) (by decide) (fun K hK => ?_)
            refine goesV_ Try.func75 (by kernel_rfl) rfl #[.bool ((rd_T27 l0_3 x57_2).f2)] (by rfl) rfl rfl (by (try simp only [List.map_toArray, List.map_cons, List.map_nil]); first | done | rfl | (simp only [List.length_drop, List.length_take]; rfl)) ?_
            with_reducible refine (txn_flag.calls ((rd_T27 l0_3 x57_2).f2) t248 _ A62.out).mono ?_
            rintro e w' ⟨rfl, ⟨nd, rfl⟩⟩
            refine ⟨_, rfl, ?_⟩
            refine hK.out _ _ ⟨(blk_cell BK235.out 0).trans rfl, (blk_cell BK235.out 1).trans rfl, (blk_cell BK235.out 2).trans rfl⟩ (fun hHeld => ?_)
            clear hK K
            refine norm_ (a' := ?_) ?_ ?_
            rotate_left
            ·show Act.put _ (some 72) _ = _
             simp only [Act.put, List.setIfInBounds_toArray, List.set_cons_zero, List.set_cons_succ, i64_w, i32_w]
             rfl
            refine one_ (i := 12) (N := some 73) #[true, true, true, true, true, true, true, true, true, true, true, true, true, false, false] rfl rfl (one_of HT_.out (by kernel_rfl)) (by decide) (fun K hK => ?_)
            refine value_ (w1 := ?_) (v := ?_) (by rfl) rfl ?_ ?_
            rotate_left 2
            ·go_simp
             constructor
             ·rfl
             ·rfl
            refine hK.out _ _ ⟨(blk_cell (blk_alloc BK235.out _) 0).trans rfl, (blk_cell (blk_alloc BK235.out _) 1).trans rfl, (blk_cell (blk_alloc BK235.out _) 2).trans rfl⟩ (fun hHeld => ?_)
            clear hK K
            refine norm_ (a' := ?_) ?_ ?_
            rotate_left
            ·show Act.put _ (some 73) _ = _
             simp only [Act.put, List.setIfInBounds_toArray, List.set_cons_zero, List.set_cons_succ, i64_w, i32_w]
             rfl
            refine one_ (i := 13) (N := some 74) #[true, true, true, true, true, true, true, true, true, true, true, true, true, true, false] rfl rfl (one_of HT_.out (by kernel_rfl)) (by decide) (fun K hK => ?_)
            refine Kd.R_append_step (Kd.int .u8) (w0 := w) w.heap.size (by rfl) (.tmp 69) (.tmp 73) 33 5 (.int .u8 0) 1 rfl Try.underlying33 info5 rfl (by decide) (by omega) v246 t245 t248 [.int .u8 t248] (fun _ => True) (fun _ => False) rfl rfl ?aP (fun _ hk => hk.elim) ?aF ?aO ?aB ?aS ?aL ?_
            (case aP => exact rfl)
            (case aB => exact (by repeat (with_reducible first | exact HB.out | apply ba_ | apply bn_ | apply bd_ | refine bs_ ?_ GE190.out | refine bs_ ?_ GE235.out)))
            (case aF => exact (fun _ _ => trivial))
            (case aO => exact (by (with_reducible repeat (first | apply ra_ | apply rn_ | apply rd_)); exact HO247.out))
            (case aS => exact (below_size (by repeat (with_reducible first | exact HB.out | apply ba_ | apply bn_ | apply bd_ | refine bs_ ?_ GE190.out | refine bs_ ?_ GE235.out))))
            (case aL => have := LMc63.out; omega)
            intro v250 w78 ho hb hg hat
            rw [← Ny249.out] at ho
            have n0_ := Aside0.mk (blk_grown (g := gb190) (o := .cells #[.int .i64 a0_0, .int .i64 a0_1, .slice A0_2 l0_2.length c0_2, .slice (some ad234) l0_3.length c0_3] 30 (0, 0)) (by (with_reducible repeat (first | refine kn_ ?_ _ | refine kd_ ?_ | refine ka_ ?_ _)); exact BK190.out) hg (Kd.R_ne HO247.out BK190.out (by decide)))
            have n1_ := Aside0.mk (blk_grown (g := gb235) (o := .cells #[.string ((rd_T27 l0_3 x57_2).f0), .string ((rd_T27 l0_3 x57_2).f1), .bool ((rd_T27 l0_3 x57_2).f2)] 27 (0, 0)) (by (with_reducible repeat (first | refine kn_ ?_ _ | refine kd_ ?_ | refine ka_ ?_ _)); exact BK235.out) hg (Kd.R_ne HO247.out BK235.out (by decide)))
            have n2_ := Aside0.mk (Kd.N_afterv (ok := (fun k_ => k_ ≠ gb190 ∧ k_ ≠ gb235)) (by (with_reducible repeat (first | apply Kd.N_alloc | apply Kd.N_drewN | apply Kd.N_drew)); exact HO244.out) hg hat)
            have n3_ := Aside0.mk (hb)
            have n4_ := Aside0.mk (ho)
            clear BK190
            clear BK235
            clear HO244
            clear HB
            clear HO247
            have BK190 := n0_
            have BK235 := n1_
            have HO244 := n2_
            have HB := n3_
            have HO251 := n4_
            clear n0_ n1_ n2_ n3_ n4_
            clear ho hb hg hat
            refine hK.out _ _ ⟨(blk_cell BK235.out 0).trans rfl, (blk_cell BK235.out 1).trans rfl, (blk_cell BK235.out 2).trans rfl⟩ (fun hHeld => ?_)
            clear hK K
            refine norm_ (a' := ?_) ?_ ?_
            rotate_left
            ·show Act.put _ (some 74) _ = _
             simp only [Act.put, List.setIfInBounds_toArray, List.set_cons_zero, List.set_cons_succ, i64_w, i32_w]
             rfl
            refine pure_ (i := 14) (N := some 3) (v := ?_) (a' := ?_) #[true, true, true, true, true, true, true, true, true, true, true, true, true, true, true] rfl rfl (any_of HT_.out (by kernel_rfl)) (fun _ _ _ h => h) (Or.inl ⟨by rfl, ?_⟩) ?_ ?_
            rotate_left
            ·intro w'
             go_simp
             with_reducible rfl
            rotate_left
            ·simp only [Act.put, List.setIfInBounds_toArray, List.set_cons_zero, List.set_cons_succ, i64_w, i32_w]
             rfl
            refine done_ (done_of HT_.out (by kernel_rfl)) ?_
            try go_wp2
            go_roundg k2
            case measure => have := HK1.out; have := HK2.out; omega
            case rel => exact ⟨(y249), (wrap64 (x57_2 + 1)), (by first | rfl | (simp; done) | (simp [*]; done)), H', ⟨by have := HK1.out; have := HK2.out; omega⟩, ⟨by (with_reducible repeat (first | apply ra_ | apply rn_ | apply rd_)); exact HO251.out⟩, ⟨by (with_reducible repeat (first | refine kn_ ?_ _ | refine kd_ ?_ | refine ka_ ?_ _)); exact BK190.out⟩, ⟨by repeat (with_reducible first | exact HB.out | apply ba_ | apply bn_ | apply bd_ | refine bs_ ?_ GE190.out | refine bs_ ?_ GE235.out)⟩⟩
           ·rw [if_neg c63] at H
            exact absurd H (by simp)
          ·rw [if_neg c58] at H
           exact absurd H (by simp)
         ·rw [if_neg c57] at H
          exact absurd H (by simp)
        ·rw [if_neg c56] at H
         have c56b0 : decide (x57_2 < (l0_3.length : Int)) = false := decide_eq_false c56
         clear c56
         obtain rfl := Option.some.inj H
         go_wp2
         go_ret
         exact ⟨_, by first | rfl | (simp [errW_none, errW_some] <;> rfl) | (simp [*, errW_none, errW_some] <;> rfl), by (with_reducible repeat (first | apply ra_ | apply rn_ | apply rd_)); exact HO_3.out, by repeat (with_reducible first | exact HB.out | apply ba_ | apply bn_ | apply bd_ | refine bs_ ?_ GE190.out)⟩
     ·rw [if_neg c50] at H
      exact absurd H (by simp)
 ·replace c3 := Bool.eq_false_iff.mpr c3
  subst c3
  have H1 : (some ([] : List Int)) = some r := by rw [if_neg (show ¬ (false = true) by decide)] at H; exact H
  clear H
  have H := H1
  clear H1
  obtain rfl := Option.some.inj H
  go_enter Try.func19, Try.ntmps19
  go_wp2_with (first | ((with_reducible refine gate_dst (N := 1) rfl ?_); refine box_event ?hg (N := 1) ?hd (cs := #[.int .i64 a0_0, .int .i64 a0_1, .slice A0_2 l0_2.length c0_2, .slice A0_3 l0_3.length c0_3]) (t := 30) ?hr ?_; (case hd => rfl); (case hg => rfl); (case hr => first | (go_simp; done) | (go_simp; rfl)); intro gb190 hg w79 hbox hb; have n0_ := Aside0.mk (below_step (by repeat (with_reducible first | exact HB.out | apply ba_ | apply bn_ | apply bd_)) hb); have n1_ := Aside0.mk (hbox); have n2_ := Aside0.mk ((by rw [hg]; exact (below_size (by repeat (with_reducible first | exact HB.out | apply ba_ | apply bn_ | apply bd_))) : w.heap.size ≤ gb190)); have n3_ := Aside0.mk ((by rw [hg]; exact (below_size (by repeat (with_reducible first | exact HB.out | apply ba_ | apply bn_ | apply bd_))) : w.heap.size ≤ gb190)); clear HB; have HB := n0_; have BK190 := n1_; have GW190 := n2_; have GE190 := n3_; clear n0_ n1_ n2_ n3_; clear hb hbox hg; have hcz80_0 : w79.cell? ⟨gb190, 0, none⟩ = some (.int .i64 a0_0) := (blk_cell BK190.out 0).trans rfl; have hcz80_1 : w79.cell? ⟨gb190, 1, none⟩ = some (.int .i64 a0_1) := (blk_cell BK190.out 1).trans rfl; have hcz80_2 : w79.cell? ⟨gb190, 2, none⟩ = some (.slice A0_2 l0_2.length c0_2) := (blk_cell BK190.out 2).trans rfl; have hcz80_3 : w79.cell? ⟨gb190, 3, none⟩ = some (.slice A0_3 l0_3.length c0_3) := (blk_cell BK190.out 3).trans rfl; have hfz80_0 := blk_frozen BK190.out 0; have hfz80_1 := blk_frozen BK190.out 1; have hfz80_2 := blk_frozen BK190.out 2; have hfz80_3 := blk_frozen BK190.out 3) | ((with_reducible refine gate_callee (f := 18) rfl ?_); refine goesM_ (some 9) Try.func18 #[.agg #[.int .i64 a0_0, .int .i64 a0_1, .slice A0_2 l0_2.length c0_2, .slice A0_3 l0_3.length c0_3]] ?_; (with_reducible refine (txn_May.calls k a0_0 a0_1 _ _ l0_2 _ _ l0_3 false _ ?side1 ?side2 ?side3 ?side4 A2.out).mono ?_); (case side1 => repeat (first | exact (Kd.C_below HR0_2.out HB.out) | (with_reducible refine ca_ ?_ _) | (with_reducible refine cn_ ?_ _) | (with_reducible refine cd_ ?_))); (case side2 => exact HC0_2.out); (case side3 => repeat (first | exact (Kd.C_below HR0_3.out HB.out) | (with_reducible refine ca_ ?_ _) | (with_reducible refine cn_ ?_ _) | (with_reducible refine cd_ ?_))); (case side4 => exact HC0_3.out); rintro e w81 ⟨rfl, hb⟩; refine ⟨_, rfl, ?_⟩; have n0_ := Aside0.mk (blk_below (g := gb190) (o := .cells #[.int .i64 a0_0, .int .i64 a0_1, .slice A0_2 l0_2.length c0_2, .slice A0_3 l0_3.length c0_3] 30 (0, 0)) (by (with_reducible repeat (first | refine kn_ ?_ _ | refine kd_ ?_ | refine ka_ ?_ _)); exact BK190.out) hb); have n1_ := Aside0.mk (below_step (by repeat (with_reducible first | exact HB.out | apply ba_ | apply bn_ | apply bd_ | refine bs_ ?_ GE190.out)) hb); clear BK190; clear HB; have BK190 := n0_; have HB := n1_; clear n0_ n1_; clear hb))
  go_ret
  exact ⟨_, by first | rfl | (simp [errW_none, errW_some] <;> rfl) | (simp [*, errW_none, errW_some] <;> rfl), by first | exact Kd.R_nil _ _ _ _ _ | exact Kd.N_nil _ _ _ _ _ | exact Kd.V_nil _ _ _ _ _ | exact Kd.Q_nil _ _ _ _ _ | exact Kd.S_nil _ _ _ _ _, by repeat (with_reducible first | exact HB.out | apply ba_ | apply bn_ | apply bd_ | refine bs_ ?_ GE190.out)⟩
theorem eqA24 (d : Nat) (w : World) (x0 y0 : ByteArray) (x1 y1 : Int) (x2 y2 : ByteArray) (x3 y3 : Bool) :
  (Op.equalIn (d + 2) 24 (.agg #[.string x0, .int .i64 x1, .string x2, .bool x3]) (.agg #[.string y0, .int .i64 y1, .string y2, .bool y3])).run Try.prog w = .ok (x0.toList == y0.toList && (x1 == y1 && (x2.toList == y2.toList && (x3 == y3)))) w := by
 refine eqA_of Try.underlying24 (by kernel_rfl) ?_
 refine eqf_cons (by rfl) (by go_simp; rfl) (by go_simp; rfl) (by go_simp) ?_
 refine eqf_cons (by rfl) (by go_simp; rfl) (by go_simp; rfl) (by go_simp) ?_
 refine eqf_cons (by rfl) (by go_simp; rfl) (by go_simp; rfl) (by go_simp) ?_
 exact eqf_last (by rfl) (by go_simp; rfl) (by go_simp; rfl) (by go_simp)
end Go.Proofs.Ytnlfhbohcgjcbaa.PA
namespace Go.Proofs.Ytnlfhbohcgjcbaa.PA
open Go.RowKit Go.Proofs.YtnlfhbohcgjcbaaW.PrintWords Go.Proofs.YtnlfhbohcgjcbaaW.PrintLast Go.Proofs.YtnlfhbohcgjcbaaW.PrintMore
attribute [local go_sem] max2_int min2_int max_two min_two max_three min_three max_four min_four
set_option linter.unusedVariables false
set_option linter.unusedSimpArgs false
attribute [local go_sem high] eqA24
def slices_Equal_Lapi_Read_api_Read.l0 : Nat → List (S24) → List (S24) → Int → Int → Option (Bool)
 | 0, _, _, _, _ => none
 | k + 1, x0, x1, x12, x13 => if x13 < x12 then (if 0 ≤ x13 then (if x13 < (x0.length : Int) then (if x13 < (x1.length : Int) then (if (!((((rd_T24 x0 x13).f0).toList) == (((rd_T24 x1 x13).f0).toList)) || (!(((rd_T24 x0 x13).f1) == ((rd_T24 x1 x13).f1)) || (!((((rd_T24 x0 x13).f2).toList) == (((rd_T24 x1 x13).f2).toList)) || (!(((rd_T24 x0 x13).f3) == ((rd_T24 x1 x13).f3)))))) = true then (some false) else (slices_Equal_Lapi_Read_api_Read.l0 k x0 x1 x12 (wrap64 (x13 + 1)))) else (none)) else (none)) else (none)) else (some true)
def slices_Equal_Lapi_Read_api_Read.f (k : Nat) (l0 : List (S24)) (l1 : List (S24)) : Option (Bool) := if (l0.length : Int) = (l1.length : Int) then (slices_Equal_Lapi_Read_api_Read.l0 k l0 l1 (l0.length : Int) 0) else (some false)
theorem slices_Equal_Lapi_Read_api_Read.mono_l : ∀ k, (∀ y0 y1 y2 y3, LeO (slices_Equal_Lapi_Read_api_Read.l0 k y0 y1 y2 y3) (slices_Equal_Lapi_Read_api_Read.l0 (k + 1) y0 y1 y2 y3))
 | 0 => fun _ _ _ _ r h => by simp [slices_Equal_Lapi_Read_api_Read.l0] at h
 | k + 1 => by
  have ih0 := slices_Equal_Lapi_Read_api_Read.mono_l k
  ·intro y0 y1 y2 y3
   unfold slices_Equal_Lapi_Read_api_Read.l0
   repeat' first
   | (with_reducible exact ih0 _ _ _ _)
   | (with_reducible exact LeO.refl _)
   | (with_reducible exact LeO.none _)
   | (with_reducible refine LeO.ite ?_ ?_)
   | (with_reducible refine LeO.bind ?_ (fun _ => ?_))
theorem slices_Equal_Lapi_Read_api_Read.mono : ∀ a0 a1 k, LeO (slices_Equal_Lapi_Read_api_Read.f k a0 a1) (slices_Equal_Lapi_Read_api_Read.f (k + 1) a0 a1) := by
 intro a0 a1 k
 have ih0 := slices_Equal_Lapi_Read_api_Read.mono_l k
 unfold slices_Equal_Lapi_Read_api_Read.f
 repeat' first
   | (with_reducible exact ih0 _ _ _ _)
   | (with_reducible exact LeO.refl _)
   | (with_reducible exact LeO.none _)
   | (with_reducible refine LeO.ite ?_ ?_)
   | (with_reducible refine LeO.bind ?_ (fun _ => ?_))
set_option maxHeartbeats 8000000 in
set_option maxRecDepth 100000 in
theorem slices_Equal_Lapi_Read_api_Read.calls (k : Nat) (A0 : Option Addr) (c0 : Nat) (l0 : List (S24)) (A1 : Option Addr) (c1 : Nat) (l1 : List (S24)) (r : Bool) (w : World) (hr0 : Kd.C k24 w A0 l0.length l0) (hc0 : l0.length ≤ c0) (hr1 : Kd.C k24 w A1 l1.length l1) (hc1 : l1.length ≤ c1) (h : slices_Equal_Lapi_Read_api_Read.f k l0 l1 = some r) :
  Calls Try.prog 76 #[.slice A0 l0.length c0, .slice A1 l1.length c1] w fun e w' => e = .returned (.bool r) ∧ Drawn0 w w' := by
 have hu24 := Try.underlying24
 have HR0 := Aside0.mk hr0
 have HC0 := Aside0.mk hc0
 clear hr0 hc0
 have HR1 := Aside0.mk hr1
 have HC1 := Aside0.mk hc1
 clear hr1 hc1
 have H : (if (l0.length : Int) = (l1.length : Int) then (slices_Equal_Lapi_Read_api_Read.l0 k l0 l1 (l0.length : Int) 0) else (some false)) = some r := h
 clear h
 by_cases c3 : (l0.length : Int) = (l1.length : Int)
 ·rw [if_pos c3] at H
  have c3b0 : ((l0.length : Int) == (l1.length : Int)) = true := beq_iff_eq.mpr c3
  have c3b1 : ((l0.length : Int) != (l1.length : Int)) = false := bne_eq_false_iff_eq.mpr c3
  have c3b2 : (l0.length == l1.length) = true := by first | simpa using c3 | (simp at c3 ⊢; omega)
  clear c3
  have H' := Aside0.mk H
  clear H
  go_enter Try.func76, Try.ntmps76
  go_wp2
  repeat (go_quiet (fail); try go_wp2)
  go_loopg [13] k (fun kq v13 w' => ∃ (x13_1 : Int), v13 = .int .i64 x13_1 ∧ Aside0 (slices_Equal_Lapi_Read_api_Read.l0 kq l0 l1 (l0.length : Int) x13_1 = some r) ∧ Aside0 (kq ≤ k) ∧ Drawn0 w w')
  case atStart => exact ⟨(0), (by first | rfl | (simp; done) | (simp [*]; done)), H', ⟨Nat.le_refl _⟩, by repeat (first | exact Drawn0.refl _ | apply Drawn0.step)⟩
  case round =>
   clear H'
   try clear c1
   try clear p2
   try clear c3
   try clear c3b0
   try clear c3b1
   try clear c3b2
   obtain ⟨x13_1, rfl, HA, HK1, ⟨m1, rfl⟩⟩ := hrel
   cases gk with
   | zero => exact absurd HA.out (by simp [slices_Equal_Lapi_Read_api_Read.l0])
   | succ k1 =>
    have H := HA.out
    clear HA
    simp only [slices_Equal_Lapi_Read_api_Read.l0] at H
    by_cases c4 : x13_1 < (l0.length : Int)
    ·rw [if_pos c4] at H
     have c4b0 : decide (x13_1 < (l0.length : Int)) = true := decide_eq_true c4
     clear c4
     by_cases c5 : 0 ≤ x13_1
     ·rw [if_pos c5] at H
      have c5b0 : decide (0 ≤ x13_1) = true := decide_eq_true c5
      clear c5
      by_cases c6 : x13_1 < (l0.length : Int)
      ·rw [if_pos c6] at H
       have c6b0 : decide (x13_1 < (l0.length : Int)) = true := decide_eq_true c6
       clear c6
       by_cases c7 : x13_1 < (l1.length : Int)
       ·rw [if_pos c7] at H
        have c7b0 : decide (x13_1 < (l1.length : Int)) = true := decide_eq_true c7
        clear c7
        by_cases c8 : (!((((rd_T24 l0 x13_1).f0).toList) == (((rd_T24 l1 x13_1).f0).toList)) || (!(((rd_T24 l0 x13_1).f1) == ((rd_T24 l1 x13_1).f1)) || (!((((rd_T24 l0 x13_1).f2).toList) == (((rd_T24 l1 x13_1).f2).toList)) || (!(((rd_T24 l0 x13_1).f3) == ((rd_T24 l1 x13_1).f3)))))) = true
        ·rw [if_pos c8] at H
         have c8b0 : (!((((rd_T24 l0 x13_1).f0).toList) == (((rd_T24 l1 x13_1).f0).toList)) || (!(((rd_T24 l0 x13_1).f1) == ((rd_T24 l1 x13_1).f1)) || (!((((rd_T24 l0 x13_1).f2).toList) == (((rd_T24 l1 x13_1).f2).toList)) || (!(((rd_T24 l0 x13_1).f3) == ((rd_T24 l1 x13_1).f3)))))) = true := c8
         clear c8
         obtain rfl := Option.some.inj H
         have p296 : 0 ≤ (x13_1 : Int) := of_decide_eq_true (by first | (with_reducible assumption) | assumption)
         have q296 : x13_1 < (l0.length : Int) := of_decide_eq_true (by first | (with_reducible assumption) | assumption)
         obtain ⟨ad296, e296, hx296_0, hx296_1, hx296_2, hx296_3⟩ := at_T24 HR0.out x13_1 p296 q296
         cases e296
         replace p296 := eq_true p296
         replace q296 := eq_true q296
         have p297 : 0 ≤ (x13_1 : Int) := of_decide_eq_true (by first | (with_reducible assumption) | assumption)
         have q297 : x13_1 < (l1.length : Int) := of_decide_eq_true (by first | (with_reducible assumption) | assumption)
         obtain ⟨ad297, e297, hx297_0, hx297_1, hx297_2, hx297_3⟩ := at_T24 HR1.out x13_1 p297 q297
         cases e297
         replace p297 := eq_true p297
         replace q297 := eq_true q297
         go_wp2
         repeat (go_quiet (fail); try go_wp2)
         go_ret
         exact ⟨by first | rfl | (simp; done) | (simp [*]; done), by repeat (first | exact Drawn0.refl _ | apply Drawn0.step)⟩
        ·rw [if_neg c8] at H
         have c8b0 : (!((((rd_T24 l0 x13_1).f0).toList) == (((rd_T24 l1 x13_1).f0).toList)) || (!(((rd_T24 l0 x13_1).f1) == ((rd_T24 l1 x13_1).f1)) || (!((((rd_T24 l0 x13_1).f2).toList) == (((rd_T24 l1 x13_1).f2).toList)) || (!(((rd_T24 l0 x13_1).f3) == ((rd_T24 l1 x13_1).f3)))))) = false := by simpa using c8
         clear c8
         have H' := Aside0.mk H
         clear H
         have p296 : 0 ≤ (x13_1 : Int) := of_decide_eq_true (by first | (with_reducible assumption) | assumption)
         have q296 : x13_1 < (l0.length : Int) := of_decide_eq_true (by first | (with_reducible assumption) | assumption)
         obtain ⟨ad296, e296, hx296_0, hx296_1, hx296_2, hx296_3⟩ := at_T24 HR0.out x13_1 p296 q296
         cases e296
         replace p296 := eq_true p296
         replace q296 := eq_true q296
         have p297 : 0 ≤ (x13_1 : Int) := of_decide_eq_true (by first | (with_reducible assumption) | assumption)
         have q297 : x13_1 < (l1.length : Int) := of_decide_eq_true (by first | (with_reducible assumption) | assumption)
         obtain ⟨ad297, e297, hx297_0, hx297_1, hx297_2, hx297_3⟩ := at_T24 HR1.out x13_1 p297 q297
         cases e297
         replace p297 := eq_true p297
         replace q297 := eq_true q297
         go_wp2
         repeat (go_quiet (fail); try go_wp2)
         go_roundg k1
         case measure => have := HK1.out; omega
         case rel => exact ⟨(wrap64 (x13_1 + 1)), (by first | rfl | (simp; done) | (simp [*]; done)), H', ⟨by have := HK1.out; omega⟩, by repeat (first | exact Drawn0.refl _ | apply Drawn0.step)⟩
       ·rw [if_neg c7] at H
        exact absurd H (by simp)
      ·rw [if_neg c6] at H
       exact absurd H (by simp)
     ·rw [if_neg c5] at H
      exact absurd H (by simp)
    ·rw [if_neg c4] at H
     have c4b0 : decide (x13_1 < (l0.length : Int)) = false := decide_eq_false c4
     clear c4
     obtain rfl := Option.some.inj H
     go_wp2
     repeat (go_quiet (fail); try go_wp2)
     go_ret
     exact ⟨by first | rfl | (simp; done) | (simp [*]; done), by repeat (first | exact Drawn0.refl _ | apply Drawn0.step)⟩
 ·rw [if_neg c3] at H
  have c3b0 : ((l0.length : Int) == (l1.length : Int)) = false := beq_eq_false_iff_ne.mpr c3
  have c3b1 : ((l0.length : Int) != (l1.length : Int)) = true := bne_iff_ne.mpr c3
  have c3b2 : (l0.length == l1.length) = false := by first | simpa using c3 | (simp at c3 ⊢; omega)
  obtain rfl := Option.some.inj H
  go_enter Try.func76, Try.ntmps76
  go_wp2
  repeat (go_quiet (fail); try go_wp2)
  go_ret
  exact ⟨by first | rfl | (simp; done) | (simp [*]; done), by repeat (first | exact Drawn0.refl _ | apply Drawn0.step)⟩
end Go.Proofs.Ytnlfhbohcgjcbaa.PA
namespace Go.Proofs.Ytnlfhbohcgjcbaa.PA
open Go.RowKit Go.Proofs.YtnlfhbohcgjcbaaW.PrintWords Go.Proofs.YtnlfhbohcgjcbaaW.PrintLast Go.Proofs.YtnlfhbohcgjcbaaW.PrintMore
attribute [local go_sem] max2_int min2_int max_two min_two max_three min_three max_four min_four
set_option linter.unusedVariables false
set_option linter.unusedSimpArgs false
theorem eqA27 (d : Nat) (w : World) (x0 y0 : ByteArray) (x1 y1 : ByteArray) (x2 y2 : Bool) :
  (Op.equalIn (d + 2) 27 (.agg #[.string x0, .string x1, .bool x2]) (.agg #[.string y0, .string y1, .bool y2])).run Try.prog w = .ok (x0.toList == y0.toList && (x1.toList == y1.toList && (x2 == y2))) w := by
 refine eqA_of Try.underlying27 (by kernel_rfl) ?_
 refine eqf_cons (by rfl) (by go_simp; rfl) (by go_simp; rfl) (by go_simp) ?_
 refine eqf_cons (by rfl) (by go_simp; rfl) (by go_simp; rfl) (by go_simp) ?_
 exact eqf_last (by rfl) (by go_simp; rfl) (by go_simp; rfl) (by go_simp)
end Go.Proofs.Ytnlfhbohcgjcbaa.PA
namespace Go.Proofs.Ytnlfhbohcgjcbaa.PA
open Go.RowKit Go.Proofs.YtnlfhbohcgjcbaaW.PrintWords Go.Proofs.YtnlfhbohcgjcbaaW.PrintLast Go.Proofs.YtnlfhbohcgjcbaaW.PrintMore
attribute [local go_sem] max2_int min2_int max_two min_two max_three min_three max_four min_four
set_option linter.unusedVariables false
set_option linter.unusedSimpArgs false
attribute [local go_sem high] eqA27
def slices_Equal_Lapi_Write_api_Write.l0 : Nat → List (S27) → List (S27) → Int → Int → Option (Bool)
 | 0, _, _, _, _ => none
 | k + 1, x0, x1, x12, x13 => if x13 < x12 then (if 0 ≤ x13 then (if x13 < (x0.length : Int) then (if x13 < (x1.length : Int) then (if (!((((rd_T27 x0 x13).f0).toList) == (((rd_T27 x1 x13).f0).toList)) || (!((((rd_T27 x0 x13).f1).toList) == (((rd_T27 x1 x13).f1).toList)) || (!(((rd_T27 x0 x13).f2) == ((rd_T27 x1 x13).f2))))) = true then (some false) else (slices_Equal_Lapi_Write_api_Write.l0 k x0 x1 x12 (wrap64 (x13 + 1)))) else (none)) else (none)) else (none)) else (some true)
def slices_Equal_Lapi_Write_api_Write.f (k : Nat) (l0 : List (S27)) (l1 : List (S27)) : Option (Bool) := if (l0.length : Int) = (l1.length : Int) then (slices_Equal_Lapi_Write_api_Write.l0 k l0 l1 (l0.length : Int) 0) else (some false)
theorem slices_Equal_Lapi_Write_api_Write.mono_l : ∀ k, (∀ y0 y1 y2 y3, LeO (slices_Equal_Lapi_Write_api_Write.l0 k y0 y1 y2 y3) (slices_Equal_Lapi_Write_api_Write.l0 (k + 1) y0 y1 y2 y3))
 | 0 => fun _ _ _ _ r h => by simp [slices_Equal_Lapi_Write_api_Write.l0] at h
 | k + 1 => by
  have ih0 := slices_Equal_Lapi_Write_api_Write.mono_l k
  ·intro y0 y1 y2 y3
   unfold slices_Equal_Lapi_Write_api_Write.l0
   repeat' first
   | (with_reducible exact ih0 _ _ _ _)
   | (with_reducible exact LeO.refl _)
   | (with_reducible exact LeO.none _)
   | (with_reducible refine LeO.ite ?_ ?_)
   | (with_reducible refine LeO.bind ?_ (fun _ => ?_))
theorem slices_Equal_Lapi_Write_api_Write.mono : ∀ a0 a1 k, LeO (slices_Equal_Lapi_Write_api_Write.f k a0 a1) (slices_Equal_Lapi_Write_api_Write.f (k + 1) a0 a1) := by
 intro a0 a1 k
 have ih0 := slices_Equal_Lapi_Write_api_Write.mono_l k
 unfold slices_Equal_Lapi_Write_api_Write.f
 repeat' first
   | (with_reducible exact ih0 _ _ _ _)
   | (with_reducible exact LeO.refl _)
   | (with_reducible exact LeO.none _)
   | (with_reducible refine LeO.ite ?_ ?_)
   | (with_reducible refine LeO.bind ?_ (fun _ => ?_))
set_option maxHeartbeats 8000000 in
set_option maxRecDepth 100000 in
theorem slices_Equal_Lapi_Write_api_Write.calls (k : Nat) (A0 : Option Addr) (c0 : Nat) (l0 : List (S27)) (A1 : Option Addr) (c1 : Nat) (l1 : List (S27)) (r : Bool) (w : World) (hr0 : Kd.C k27 w A0 l0.length l0) (hc0 : l0.length ≤ c0) (hr1 : Kd.C k27 w A1 l1.length l1) (hc1 : l1.length ≤ c1) (h : slices_Equal_Lapi_Write_api_Write.f k l0 l1 = some r) :
  Calls Try.prog 77 #[.slice A0 l0.length c0, .slice A1 l1.length c1] w fun e w' => e = .returned (.bool r) ∧ Drawn0 w w' := by
 have hu27 := Try.underlying27
 have HR0 := Aside0.mk hr0
 have HC0 := Aside0.mk hc0
 clear hr0 hc0
 have HR1 := Aside0.mk hr1
 have HC1 := Aside0.mk hc1
 clear hr1 hc1
 have H : (if (l0.length : Int) = (l1.length : Int) then (slices_Equal_Lapi_Write_api_Write.l0 k l0 l1 (l0.length : Int) 0) else (some false)) = some r := h
 clear h
 by_cases c3 : (l0.length : Int) = (l1.length : Int)
 ·rw [if_pos c3] at H
  have c3b0 : ((l0.length : Int) == (l1.length : Int)) = true := beq_iff_eq.mpr c3
  have c3b1 : ((l0.length : Int) != (l1.length : Int)) = false := bne_eq_false_iff_eq.mpr c3
  have c3b2 : (l0.length == l1.length) = true := by first | simpa using c3 | (simp at c3 ⊢; omega)
  clear c3
  have H' := Aside0.mk H
  clear H
  go_enter Try.func77, Try.ntmps77
  go_wp2
  repeat (go_quiet (fail); try go_wp2)
  go_loopg [13] k (fun kq v13 w' => ∃ (x13_1 : Int), v13 = .int .i64 x13_1 ∧ Aside0 (slices_Equal_Lapi_Write_api_Write.l0 kq l0 l1 (l0.length : Int) x13_1 = some r) ∧ Aside0 (kq ≤ k) ∧ Drawn0 w w')
  case atStart => exact ⟨(0), (by first | rfl | (simp; done) | (simp [*]; done)), H', ⟨Nat.le_refl _⟩, by repeat (first | exact Drawn0.refl _ | apply Drawn0.step)⟩
  case round =>
   clear H'
   try clear c1
   try clear p2
   try clear c3
   try clear c3b0
   try clear c3b1
   try clear c3b2
   obtain ⟨x13_1, rfl, HA, HK1, ⟨m1, rfl⟩⟩ := hrel
   cases gk with
   | zero => exact absurd HA.out (by simp [slices_Equal_Lapi_Write_api_Write.l0])
   | succ k1 =>
    have H := HA.out
    clear HA
    simp only [slices_Equal_Lapi_Write_api_Write.l0] at H
    by_cases c4 : x13_1 < (l0.length : Int)
    ·rw [if_pos c4] at H
     have c4b0 : decide (x13_1 < (l0.length : Int)) = true := decide_eq_true c4
     clear c4
     by_cases c5 : 0 ≤ x13_1
     ·rw [if_pos c5] at H
      have c5b0 : decide (0 ≤ x13_1) = true := decide_eq_true c5
      clear c5
      by_cases c6 : x13_1 < (l0.length : Int)
      ·rw [if_pos c6] at H
       have c6b0 : decide (x13_1 < (l0.length : Int)) = true := decide_eq_true c6
       clear c6
       by_cases c7 : x13_1 < (l1.length : Int)
       ·rw [if_pos c7] at H
        have c7b0 : decide (x13_1 < (l1.length : Int)) = true := decide_eq_true c7
        clear c7
        by_cases c8 : (!((((rd_T27 l0 x13_1).f0).toList) == (((rd_T27 l1 x13_1).f0).toList)) || (!((((rd_T27 l0 x13_1).f1).toList) == (((rd_T27 l1 x13_1).f1).toList)) || (!(((rd_T27 l0 x13_1).f2) == ((rd_T27 l1 x13_1).f2))))) = true
        ·rw [if_pos c8] at H
         have c8b0 : (!((((rd_T27 l0 x13_1).f0).toList) == (((rd_T27 l1 x13_1).f0).toList)) || (!((((rd_T27 l0 x13_1).f1).toList) == (((rd_T27 l1 x13_1).f1).toList)) || (!(((rd_T27 l0 x13_1).f2) == ((rd_T27 l1 x13_1).f2))))) = true := c8
         clear c8
         obtain rfl := Option.some.inj H
         have p298 : 0 ≤ (x13_1 : Int) := of_decide_eq_true (by first | (with_reducible assumption) | assumption)
         have q298 : x13_1 < (l0.length : Int) := of_decide_eq_true (by first | (with_reducible assumption) | assumption)
         obtain ⟨ad298, e298, hx298_0, hx298_1, hx298_2⟩ := at_T27 HR0.out x13_1 p298 q298
         cases e298
         replace p298 := eq_true p298
         replace q298 := eq_true q298
         have p299 : 0 ≤ (x13_1 : Int) := of_decide_eq_true (by first | (with_reducible assumption) | assumption)
         have q299 : x13_1 < (l1.length : Int) := of_decide_eq_true (by first | (with_reducible assumption) | assumption)
         obtain ⟨ad299, e299, hx299_0, hx299_1, hx299_2⟩ := at_T27 HR1.out x13_1 p299 q299
         cases e299
         replace p299 := eq_true p299
         replace q299 := eq_true q299
         go_wp2
         repeat (go_quiet (fail); try go_wp2)
         go_ret
         exact ⟨by first | rfl | (simp; done) | (simp [*]; done), by repeat (first | exact Drawn0.refl _ | apply Drawn0.step)⟩
        ·rw [if_neg c8] at H
         have c8b0 : (!((((rd_T27 l0 x13_1).f0).toList) == (((rd_T27 l1 x13_1).f0).toList)) || (!((((rd_T27 l0 x13_1).f1).toList) == (((rd_T27 l1 x13_1).f1).toList)) || (!(((rd_T27 l0 x13_1).f2) == ((rd_T27 l1 x13_1).f2))))) = false := by simpa using c8
         clear c8
         have H' := Aside0.mk H
         clear H
         have p298 : 0 ≤ (x13_1 : Int) := of_decide_eq_true (by first | (with_reducible assumption) | assumption)
         have q298 : x13_1 < (l0.length : Int) := of_decide_eq_true (by first | (with_reducible assumption) | assumption)
         obtain ⟨ad298, e298, hx298_0, hx298_1, hx298_2⟩ := at_T27 HR0.out x13_1 p298 q298
         cases e298
         replace p298 := eq_true p298
         replace q298 := eq_true q298
         have p299 : 0 ≤ (x13_1 : Int) := of_decide_eq_true (by first | (with_reducible assumption) | assumption)
         have q299 : x13_1 < (l1.length : Int) := of_decide_eq_true (by first | (with_reducible assumption) | assumption)
         obtain ⟨ad299, e299, hx299_0, hx299_1, hx299_2⟩ := at_T27 HR1.out x13_1 p299 q299
         cases e299
         replace p299 := eq_true p299
         replace q299 := eq_true q299
         go_wp2
         repeat (go_quiet (fail); try go_wp2)
         go_roundg k1
         case measure => have := HK1.out; omega
         case rel => exact ⟨(wrap64 (x13_1 + 1)), (by first | rfl | (simp; done) | (simp [*]; done)), H', ⟨by have := HK1.out; omega⟩, by repeat (first | exact Drawn0.refl _ | apply Drawn0.step)⟩
       ·rw [if_neg c7] at H
        exact absurd H (by simp)
      ·rw [if_neg c6] at H
       exact absurd H (by simp)
     ·rw [if_neg c5] at H
      exact absurd H (by simp)
    ·rw [if_neg c4] at H
     have c4b0 : decide (x13_1 < (l0.length : Int)) = false := decide_eq_false c4
     clear c4
     obtain rfl := Option.some.inj H
     go_wp2
     repeat (go_quiet (fail); try go_wp2)
     go_ret
     exact ⟨by first | rfl | (simp; done) | (simp [*]; done), by repeat (first | exact Drawn0.refl _ | apply Drawn0.step)⟩
 ·rw [if_neg c3] at H
  have c3b0 : ((l0.length : Int) == (l1.length : Int)) = false := beq_eq_false_iff_ne.mpr c3
  have c3b1 : ((l0.length : Int) != (l1.length : Int)) = true := bne_iff_ne.mpr c3
  have c3b2 : (l0.length == l1.length) = false := by first | simpa using c3 | (simp at c3 ⊢; omega)
  obtain rfl := Option.some.inj H
  go_enter Try.func77, Try.ntmps77
  go_wp2
  repeat (go_quiet (fail); try go_wp2)
  go_ret
  exact ⟨by first | rfl | (simp; done) | (simp [*]; done), by repeat (first | exact Drawn0.refl _ | apply Drawn0.step)⟩
end Go.Proofs.Ytnlfhbohcgjcbaa.PA
namespace Go.Proofs.Ytnlfhbohcgjcbaa.PA
open Go.RowKit Go.Proofs.YtnlfhbohcgjcbaaW.PrintWords Go.Proofs.YtnlfhbohcgjcbaaW.PrintLast Go.Proofs.YtnlfhbohcgjcbaaW.PrintMore
attribute [local go_sem] max2_int min2_int max_two min_two max_three min_three max_four min_four
set_option linter.unusedVariables false
set_option linter.unusedSimpArgs false
def txn_Same.f (k : Nat) (a0_0 : Int) (a0_1 : Int) (l0_2 : List (S24)) (l0_3 : List (S27)) (a1_0 : Int) (a1_1 : Int) (l1_2 : List (S24)) (l1_3 : List (S27)) : Option (Bool) := if a0_0 = a1_0 then (if a0_1 = a1_1 then ((slices_Equal_Lapi_Read_api_Read.f k l0_2 l1_2).bind fun t302 => (if t302 = true then ((slices_Equal_Lapi_Write_api_Write.f k l0_3 l1_3).bind fun t303 => (some t303)) else (some false))) else (some false)) else (some false)
theorem txn_Same.mono : ∀ a0 a1 a2 a3 a4 a5 a6 a7 k, LeO (txn_Same.f k a0 a1 a2 a3 a4 a5 a6 a7) (txn_Same.f (k + 1) a0 a1 a2 a3 a4 a5 a6 a7) := by
 intro a0 a1 a2 a3 a4 a5 a6 a7 k
 unfold txn_Same.f
 repeat' first
   | (with_reducible exact slices_Equal_Lapi_Read_api_Read.mono _ _ _)
   | (with_reducible exact slices_Equal_Lapi_Write_api_Write.mono _ _ _)
   | (with_reducible exact LeO.refl _)
   | (with_reducible exact LeO.none _)
   | (with_reducible refine LeO.ite ?_ ?_)
   | (with_reducible refine LeO.bind ?_ (fun _ => ?_))
set_option maxHeartbeats 8000000 in
set_option maxRecDepth 100000 in
theorem txn_Same.calls (k : Nat) (a0_0 : Int) (a0_1 : Int) (A0_2 : Option Addr) (c0_2 : Nat) (l0_2 : List (S24)) (A0_3 : Option Addr) (c0_3 : Nat) (l0_3 : List (S27)) (a1_0 : Int) (a1_1 : Int) (A1_2 : Option Addr) (c1_2 : Nat) (l1_2 : List (S24)) (A1_3 : Option Addr) (c1_3 : Nat) (l1_3 : List (S27)) (r : Bool) (w : World) (hr0_2 : Kd.C k24 w A0_2 l0_2.length l0_2) (hc0_2 : l0_2.length ≤ c0_2) (hr0_3 : Kd.C k27 w A0_3 l0_3.length l0_3) (hc0_3 : l0_3.length ≤ c0_3) (hr1_2 : Kd.C k24 w A1_2 l1_2.length l1_2) (hc1_2 : l1_2.length ≤ c1_2) (hr1_3 : Kd.C k27 w A1_3 l1_3.length l1_3) (hc1_3 : l1_3.length ≤ c1_3) (h : txn_Same.f k a0_0 a0_1 l0_2 l0_3 a1_0 a1_1 l1_2 l1_3 = some r) :
  Calls Try.prog 20 #[.agg #[.int .i64 a0_0, .int .i64 a0_1, .slice A0_2 l0_2.length c0_2, .slice A0_3 l0_3.length c0_3], .agg #[.int .i64 a1_0, .int .i64 a1_1, .slice A1_2 l1_2.length c1_2, .slice A1_3 l1_3.length c1_3]] w fun e w' => e = .returned (.bool r) ∧ Below w.heap.size w w' := by
 have hu30 := Try.underlying30
 have HR0_2 := Aside0.mk hr0_2
 have HC0_2 := Aside0.mk hc0_2
 clear hr0_2 hc0_2
 have HR0_3 := Aside0.mk hr0_3
 have HC0_3 := Aside0.mk hc0_3
 clear hr0_3 hc0_3
 have HR1_2 := Aside0.mk hr1_2
 have HC1_2 := Aside0.mk hc1_2
 clear hr1_2 hc1_2
 have HR1_3 := Aside0.mk hr1_3
 have HC1_3 := Aside0.mk hc1_3
 clear hr1_3 hc1_3
 have HB := Aside0.mk (Below.refl w.heap.size w)
 have H : (if a0_0 = a1_0 then (if a0_1 = a1_1 then ((slices_Equal_Lapi_Read_api_Read.f k l0_2 l1_2).bind fun t302 => (if t302 = true then ((slices_Equal_Lapi_Write_api_Write.f k l0_3 l1_3).bind fun t303 => (some t303)) else (some false))) else (some false)) else (some false)) = some r := h
 clear h
 by_cases c3 : a0_0 = a1_0
 ·rw [if_pos c3] at H
  have c3b0 : (a0_0 == a1_0) = true := beq_iff_eq.mpr c3
  have c3b1 : (a0_0 != a1_0) = false := bne_eq_false_iff_eq.mpr c3
  clear c3
  by_cases c4 : a0_1 = a1_1
  ·rw [if_pos c4] at H
   have c4b0 : (a0_1 == a1_1) = true := beq_iff_eq.mpr c4
   have c4b1 : (a0_1 != a1_1) = false := bne_eq_false_iff_eq.mpr c4
   clear c4
   replace H := Option.bind_eq_some_iff.mp H
   obtain ⟨t302, A50, H⟩ := H
   (try dsimp only at H)
   have A5 := Aside0.mk A50
   clear A50
   by_cases c6 : t302 = true
   ·subst c6
    have H1 : ((slices_Equal_Lapi_Write_api_Write.f k l0_3 l1_3).bind fun t303 => (some t303)) = some r := by rw [if_pos rfl] at H; exact H
    clear H
    have H := H1
    clear H1
    replace H := Option.bind_eq_some_iff.mp H
    obtain ⟨t303, A70, H⟩ := H
    (try dsimp only at H)
    have A7 := Aside0.mk A70
    clear A70
    obtain rfl := Option.some.inj H
    go_enter Try.func20, Try.ntmps20
    go_wp2_with (first | ((with_reducible refine gate_dst (N := 2) rfl ?_); refine box_event ?hg (N := 2) ?hd (cs := #[.int .i64 a0_0, .int .i64 a0_1, .slice A0_2 l0_2.length c0_2, .slice A0_3 l0_3.length c0_3]) (t := 30) ?hr ?_; (case hd => rfl); (case hg => rfl); (case hr => first | (go_simp; done) | (go_simp; rfl)); intro gb300 hg w8 hbox hb; have n0_ := Aside0.mk (below_step (by repeat (with_reducible first | exact HB.out | apply ba_ | apply bn_ | apply bd_)) hb); have n1_ := Aside0.mk (hbox); have n2_ := Aside0.mk ((by rw [hg]; exact (below_size (by repeat (with_reducible first | exact HB.out | apply ba_ | apply bn_ | apply bd_))) : w.heap.size ≤ gb300)); have n3_ := Aside0.mk ((by rw [hg]; exact (below_size (by repeat (with_reducible first | exact HB.out | apply ba_ | apply bn_ | apply bd_))) : w.heap.size ≤ gb300)); clear HB; have HB := n0_; have BK300 := n1_; have GW300 := n2_; have GE300 := n3_; clear n0_ n1_ n2_ n3_; clear hb hbox hg) | ((with_reducible refine gate_dst (N := 3) rfl ?_); refine box_event ?hg (N := 3) ?hd (cs := #[.int .i64 a1_0, .int .i64 a1_1, .slice A1_2 l1_2.length c1_2, .slice A1_3 l1_3.length c1_3]) (t := 30) ?hr ?_; (case hd => rfl); (case hg => rfl); (case hr => first | (go_simp; done) | (go_simp; rfl)); intro gb301 hg w9 hbox hb; have n0_ := Aside0.mk (blk_below (g := gb300) (o := .cells #[.int .i64 a0_0, .int .i64 a0_1, .slice A0_2 l0_2.length c0_2, .slice A0_3 l0_3.length c0_3] 30 (0, 0)) (by (with_reducible repeat (first | refine kn_ ?_ _ | refine kd_ ?_ | refine ka_ ?_ _)); exact BK300.out) hb); have n1_ := Aside0.mk (below_step (by repeat (with_reducible first | exact HB.out | apply ba_ | apply bn_ | apply bd_ | refine bs_ ?_ GE300.out)) hb); have n2_ := Aside0.mk (hbox); have n3_ := Aside0.mk ((by rw [hg]; exact (below_size (by repeat (with_reducible first | exact HB.out | apply ba_ | apply bn_ | apply bd_ | refine bs_ ?_ GE300.out))) : w.heap.size ≤ gb301)); have n4_ := Aside0.mk ((by rw [hg]; exact (below_size (by repeat (with_reducible first | exact HB.out | apply ba_ | apply bn_ | apply bd_ | refine bs_ ?_ GE300.out))) : w.heap.size ≤ gb301)); have n5_ := Aside0.mk ((by rw [hg]; exact Nat.ne_of_lt (blk_lt (g := gb300) (o := .cells #[.int .i64 a0_0, .int .i64 a0_1, .slice A0_2 l0_2.length c0_2, .slice A0_3 l0_3.length c0_3] 30 (0, 0)) (by (with_reducible repeat (first | refine kn_ ?_ _ | refine kd_ ?_ | refine ka_ ?_ _)); exact BK300.out)) : gb300 ≠ gb301)); have n6_ := Aside0.mk ((by rw [hg]; exact Nat.ne_of_gt (blk_lt (g := gb300) (o := .cells #[.int .i64 a0_0, .int .i64 a0_1, .slice A0_2 l0_2.length c0_2, .slice A0_3 l0_3.length c0_3] 30 (0, 0)) (by (with_reducible repeat (first | refine kn_ ?_ _ | refine kd_ ?_ | refine ka_ ?_ _)); exact BK300.out)) : gb301 ≠ gb300)); clear BK300; clear HB; have BK300 := n0_; have HB := n1_; have BK301 := n2_; have GW301 := n3_; have GE301 := n4_; have NB300_301 := n5_; have NB301_300 := n6_; clear n0_ n1_ n2_ n3_ n4_ n5_ n6_; clear hb hbox hg; have hnb10 := NB300_301.out; have hnc10 := NB301_300.out; have hcz11_0 : w9.cell? ⟨gb300, 0, none⟩ = some (.int .i64 a0_0) := (blk_cell BK300.out 0).trans rfl; have hcz11_1 : w9.cell? ⟨gb300, 1, none⟩ = some (.int .i64 a0_1) := (blk_cell BK300.out 1).trans rfl; have hcz11_2 : w9.cell? ⟨gb300, 2, none⟩ = some (.slice A0_2 l0_2.length c0_2) := (blk_cell BK300.out 2).trans rfl; have hcz11_3 : w9.cell? ⟨gb300, 3, none⟩ = some (.slice A0_3 l0_3.length c0_3) := (blk_cell BK300.out 3).trans rfl; have hfz11_0 := blk_frozen BK300.out 0; have hfz11_1 := blk_frozen BK300.out 1; have hfz11_2 := blk_frozen BK300.out 2; have hfz11_3 := blk_frozen BK300.out 3; have hcz12_0 : w9.cell? ⟨gb301, 0, none⟩ = some (.int .i64 a1_0) := (blk_cell BK301.out 0).trans rfl; have hcz12_1 : w9.cell? ⟨gb301, 1, none⟩ = some (.int .i64 a1_1) := (blk_cell BK301.out 1).trans rfl; have hcz12_2 : w9.cell? ⟨gb301, 2, none⟩ = some (.slice A1_2 l1_2.length c1_2) := (blk_cell BK301.out 2).trans rfl; have hcz12_3 : w9.cell? ⟨gb301, 3, none⟩ = some (.slice A1_3 l1_3.length c1_3) := (blk_cell BK301.out 3).trans rfl; have hfz12_0 := blk_frozen BK301.out 0; have hfz12_1 := blk_frozen BK301.out 1; have hfz12_2 := blk_frozen BK301.out 2; have hfz12_3 := blk_frozen BK301.out 3) | (go_at_call 76; (with_reducible refine (slices_Equal_Lapi_Read_api_Read.calls k _ _ l0_2 _ _ l1_2 true _ ?side1 ?side2 ?side3 ?side4 A5.out).mono ?_); (case side1 => repeat (first | exact (Kd.C_below HR0_2.out HB.out) | (with_reducible refine ca_ ?_ _) | (with_reducible refine cn_ ?_ _) | (with_reducible refine cd_ ?_))); (case side2 => exact HC0_2.out); (case side3 => repeat (first | exact (Kd.C_below HR1_2.out HB.out) | (with_reducible refine ca_ ?_ _) | (with_reducible refine cn_ ?_ _) | (with_reducible refine cd_ ?_))); (case side4 => exact HC1_2.out); rintro e w' ⟨rfl, ⟨nd, rfl⟩⟩) | (go_at_call 77; (with_reducible refine (slices_Equal_Lapi_Write_api_Write.calls k _ _ l0_3 _ _ l1_3 t303 _ ?side1 ?side2 ?side3 ?side4 A7.out).mono ?_); (case side1 => repeat (first | exact (Kd.C_below HR0_3.out (by repeat (with_reducible first | exact HB.out | apply ba_ | apply bn_ | apply bd_ | refine bs_ ?_ GE300.out | refine bs_ ?_ GE301.out))) | (with_reducible refine ca_ ?_ _) | (with_reducible refine cn_ ?_ _) | (with_reducible refine cd_ ?_))); (case side2 => exact HC0_3.out); (case side3 => repeat (first | exact (Kd.C_below HR1_3.out (by repeat (with_reducible first | exact HB.out | apply ba_ | apply bn_ | apply bd_ | refine bs_ ?_ GE300.out | refine bs_ ?_ GE301.out))) | (with_reducible refine ca_ ?_ _) | (with_reducible refine cn_ ?_ _) | (with_reducible refine cd_ ?_))); (case side4 => exact HC1_3.out); rintro e w' ⟨rfl, ⟨nd, rfl⟩⟩))
    go_ret
    exact ⟨by first | rfl | (simp [errW_none, errW_some] <;> rfl) | (simp [*, errW_none, errW_some] <;> rfl), by repeat (with_reducible first | exact HB.out | apply ba_ | apply bn_ | apply bd_ | refine bs_ ?_ GE300.out | refine bs_ ?_ GE301.out)⟩
   ·replace c6 := Bool.eq_false_iff.mpr c6
    subst c6
    have H1 : (some false) = some r := by rw [if_neg (show ¬ (false = true) by decide)] at H; exact H
    clear H
    have H := H1
    clear H1
    obtain rfl := Option.some.inj H
    go_enter Try.func20, Try.ntmps20
    go_wp2_with (first | ((with_reducible refine gate_dst (N := 2) rfl ?_); refine box_event ?hg (N := 2) ?hd (cs := #[.int .i64 a0_0, .int .i64 a0_1, .slice A0_2 l0_2.length c0_2, .slice A0_3 l0_3.length c0_3]) (t := 30) ?hr ?_; (case hd => rfl); (case hg => rfl); (case hr => first | (go_simp; done) | (go_simp; rfl)); intro gb300 hg w13 hbox hb; have n0_ := Aside0.mk (below_step (by repeat (with_reducible first | exact HB.out | apply ba_ | apply bn_ | apply bd_)) hb); have n1_ := Aside0.mk (hbox); have n2_ := Aside0.mk ((by rw [hg]; exact (below_size (by repeat (with_reducible first | exact HB.out | apply ba_ | apply bn_ | apply bd_))) : w.heap.size ≤ gb300)); have n3_ := Aside0.mk ((by rw [hg]; exact (below_size (by repeat (with_reducible first | exact HB.out | apply ba_ | apply bn_ | apply bd_))) : w.heap.size ≤ gb300)); clear HB; have HB := n0_; have BK300 := n1_; have GW300 := n2_; have GE300 := n3_; clear n0_ n1_ n2_ n3_; clear hb hbox hg) | ((with_reducible refine gate_dst (N := 3) rfl ?_); refine box_event ?hg (N := 3) ?hd (cs := #[.int .i64 a1_0, .int .i64 a1_1, .slice A1_2 l1_2.length c1_2, .slice A1_3 l1_3.length c1_3]) (t := 30) ?hr ?_; (case hd => rfl); (case hg => rfl); (case hr => first | (go_simp; done) | (go_simp; rfl)); intro gb301 hg w14 hbox hb; have n0_ := Aside0.mk (blk_below (g := gb300) (o := .cells #[.int .i64 a0_0, .int .i64 a0_1, .slice A0_2 l0_2.length c0_2, .slice A0_3 l0_3.length c0_3] 30 (0, 0)) (by (with_reducible repeat (first | refine kn_ ?_ _ | refine kd_ ?_ | refine ka_ ?_ _)); exact BK300.out) hb); have n1_ := Aside0.mk (below_step (by repeat (with_reducible first | exact HB.out | apply ba_ | apply bn_ | apply bd_ | refine bs_ ?_ GE300.out)) hb); have n2_ := Aside0.mk (hbox); have n3_ := Aside0.mk ((by rw [hg]; exact (below_size (by repeat (with_reducible first | exact HB.out | apply ba_ | apply bn_ | apply bd_ | refine bs_ ?_ GE300.out))) : w.heap.size ≤ gb301)); have n4_ := Aside0.mk ((by rw [hg]; exact (below_size (by repeat (with_reducible first | exact HB.out | apply ba_ | apply bn_ | apply bd_ | refine bs_ ?_ GE300.out))) : w.heap.size ≤ gb301)); have n5_ := Aside0.mk ((by rw [hg]; exact Nat.ne_of_lt (blk_lt (g := gb300) (o := .cells #[.int .i64 a0_0, .int .i64 a0_1, .slice A0_2 l0_2.length c0_2, .slice A0_3 l0_3.length c0_3] 30 (0, 0)) (by (with_reducible repeat (first | refine kn_ ?_ _ | refine kd_ ?_ | refine ka_ ?_ _)); exact BK300.out)) : gb300 ≠ gb301)); have n6_ := Aside0.mk ((by rw [hg]; exact Nat.ne_of_gt (blk_lt (g := gb300) (o := .cells #[.int .i64 a0_0, .int .i64 a0_1, .slice A0_2 l0_2.length c0_2, .slice A0_3 l0_3.length c0_3] 30 (0, 0)) (by (with_reducible repeat (first | refine kn_ ?_ _ | refine kd_ ?_ | refine ka_ ?_ _)); exact BK300.out)) : gb301 ≠ gb300)); clear BK300; clear HB; have BK300 := n0_; have HB := n1_; have BK301 := n2_; have GW301 := n3_; have GE301 := n4_; have NB300_301 := n5_; have NB301_300 := n6_; clear n0_ n1_ n2_ n3_ n4_ n5_ n6_; clear hb hbox hg; have hnb15 := NB300_301.out; have hnc15 := NB301_300.out; have hcz16_0 : w14.cell? ⟨gb300, 0, none⟩ = some (.int .i64 a0_0) := (blk_cell BK300.out 0).trans rfl; have hcz16_1 : w14.cell? ⟨gb300, 1, none⟩ = some (.int .i64 a0_1) := (blk_cell BK300.out 1).trans rfl; have hcz16_2 : w14.cell? ⟨gb300, 2, none⟩ = some (.slice A0_2 l0_2.length c0_2) := (blk_cell BK300.out 2).trans rfl; have hcz16_3 : w14.cell? ⟨gb300, 3, none⟩ = some (.slice A0_3 l0_3.length c0_3) := (blk_cell BK300.out 3).trans rfl; have hfz16_0 := blk_frozen BK300.out 0; have hfz16_1 := blk_frozen BK300.out 1; have hfz16_2 := blk_frozen BK300.out 2; have hfz16_3 := blk_frozen BK300.out 3; have hcz17_0 : w14.cell? ⟨gb301, 0, none⟩ = some (.int .i64 a1_0) := (blk_cell BK301.out 0).trans rfl; have hcz17_1 : w14.cell? ⟨gb301, 1, none⟩ = some (.int .i64 a1_1) := (blk_cell BK301.out 1).trans rfl; have hcz17_2 : w14.cell? ⟨gb301, 2, none⟩ = some (.slice A1_2 l1_2.length c1_2) := (blk_cell BK301.out 2).trans rfl; have hcz17_3 : w14.cell? ⟨gb301, 3, none⟩ = some (.slice A1_3 l1_3.length c1_3) := (blk_cell BK301.out 3).trans rfl; have hfz17_0 := blk_frozen BK301.out 0; have hfz17_1 := blk_frozen BK301.out 1; have hfz17_2 := blk_frozen BK301.out 2; have hfz17_3 := blk_frozen BK301.out 3) | (go_at_call 76; (with_reducible refine (slices_Equal_Lapi_Read_api_Read.calls k _ _ l0_2 _ _ l1_2 false _ ?side1 ?side2 ?side3 ?side4 A5.out).mono ?_); (case side1 => repeat (first | exact (Kd.C_below HR0_2.out HB.out) | (with_reducible refine ca_ ?_ _) | (with_reducible refine cn_ ?_ _) | (with_reducible refine cd_ ?_))); (case side2 => exact HC0_2.out); (case side3 => repeat (first | exact (Kd.C_below HR1_2.out HB.out) | (with_reducible refine ca_ ?_ _) | (with_reducible refine cn_ ?_ _) | (with_reducible refine cd_ ?_))); (case side4 => exact HC1_2.out); rintro e w' ⟨rfl, ⟨nd, rfl⟩⟩))
    go_ret
    exact ⟨by first | rfl | (simp [errW_none, errW_some] <;> rfl) | (simp [*, errW_none, errW_some] <;> rfl), by repeat (with_reducible first | exact HB.out | apply ba_ | apply bn_ | apply bd_ | refine bs_ ?_ GE300.out | refine bs_ ?_ GE301.out)⟩
  ·rw [if_neg c4] at H
   have c4b0 : (a0_1 == a1_1) = false := beq_eq_false_iff_ne.mpr c4
   have c4b1 : (a0_1 != a1_1) = true := bne_iff_ne.mpr c4
   obtain rfl := Option.some.inj H
   go_enter Try.func20, Try.ntmps20
   go_wp2_with (first | ((with_reducible refine gate_dst (N := 2) rfl ?_); refine box_event ?hg (N := 2) ?hd (cs := #[.int .i64 a0_0, .int .i64 a0_1, .slice A0_2 l0_2.length c0_2, .slice A0_3 l0_3.length c0_3]) (t := 30) ?hr ?_; (case hd => rfl); (case hg => rfl); (case hr => first | (go_simp; done) | (go_simp; rfl)); intro gb300 hg w18 hbox hb; have n0_ := Aside0.mk (below_step (by repeat (with_reducible first | exact HB.out | apply ba_ | apply bn_ | apply bd_)) hb); have n1_ := Aside0.mk (hbox); have n2_ := Aside0.mk ((by rw [hg]; exact (below_size (by repeat (with_reducible first | exact HB.out | apply ba_ | apply bn_ | apply bd_))) : w.heap.size ≤ gb300)); have n3_ := Aside0.mk ((by rw [hg]; exact (below_size (by repeat (with_reducible first | exact HB.out | apply ba_ | apply bn_ | apply bd_))) : w.heap.size ≤ gb300)); clear HB; have HB := n0_; have BK300 := n1_; have GW300 := n2_; have GE300 := n3_; clear n0_ n1_ n2_ n3_; clear hb hbox hg) | ((with_reducible refine gate_dst (N := 3) rfl ?_); refine box_event ?hg (N := 3) ?hd (cs := #[.int .i64 a1_0, .int .i64 a1_1, .slice A1_2 l1_2.length c1_2, .slice A1_3 l1_3.length c1_3]) (t := 30) ?hr ?_; (case hd => rfl); (case hg => rfl); (case hr => first | (go_simp; done) | (go_simp; rfl)); intro gb301 hg w19 hbox hb; have n0_ := Aside0.mk (blk_below (g := gb300) (o := .cells #[.int .i64 a0_0, .int .i64 a0_1, .slice A0_2 l0_2.length c0_2, .slice A0_3 l0_3.length c0_3] 30 (0, 0)) (by (with_reducible repeat (first | refine kn_ ?_ _ | refine kd_ ?_ | refine ka_ ?_ _)); exact BK300.out) hb); have n1_ := Aside0.mk (below_step (by repeat (with_reducible first | exact HB.out | apply ba_ | apply bn_ | apply bd_ | refine bs_ ?_ GE300.out)) hb); have n2_ := Aside0.mk (hbox); have n3_ := Aside0.mk ((by rw [hg]; exact (below_size (by repeat (with_reducible first | exact HB.out | apply ba_ | apply bn_ | apply bd_ | refine bs_ ?_ GE300.out))) : w.heap.size ≤ gb301)); have n4_ := Aside0.mk ((by rw [hg]; exact (below_size (by repeat (with_reducible first | exact HB.out | apply ba_ | apply bn_ | apply bd_ | refine bs_ ?_ GE300.out))) : w.heap.size ≤ gb301)); have n5_ := Aside0.mk ((by rw [hg]; exact Nat.ne_of_lt (blk_lt (g := gb300) (o := .cells #[.int .i64 a0_0, .int .i64 a0_1, .slice A0_2 l0_2.length c0_2, .slice A0_3 l0_3.length c0_3] 30 (0, 0)) (by (with_reducible repeat (first | refine kn_ ?_ _ | refine kd_ ?_ | refine ka_ ?_ _)); exact BK300.out)) : gb300 ≠ gb301)); have n6_ := Aside0.mk ((by rw [hg]; exact Nat.ne_of_gt (blk_lt (g := gb300) (o := .cells #[.int .i64 a0_0, .int .i64 a0_1, .slice A0_2 l0_2.length c0_2, .slice A0_3 l0_3.length c0_3] 30 (0, 0)) (by (with_reducible repeat (first | refine kn_ ?_ _ | refine kd_ ?_ | refine ka_ ?_ _)); exact BK300.out)) : gb301 ≠ gb300)); clear BK300; clear HB; have BK300 := n0_; have HB := n1_; have BK301 := n2_; have GW301 := n3_; have GE301 := n4_; have NB300_301 := n5_; have NB301_300 := n6_; clear n0_ n1_ n2_ n3_ n4_ n5_ n6_; clear hb hbox hg; have hnb20 := NB300_301.out; have hnc20 := NB301_300.out; have hcz21_0 : w19.cell? ⟨gb300, 0, none⟩ = some (.int .i64 a0_0) := (blk_cell BK300.out 0).trans rfl; have hcz21_1 : w19.cell? ⟨gb300, 1, none⟩ = some (.int .i64 a0_1) := (blk_cell BK300.out 1).trans rfl; have hcz21_2 : w19.cell? ⟨gb300, 2, none⟩ = some (.slice A0_2 l0_2.length c0_2) := (blk_cell BK300.out 2).trans rfl; have hcz21_3 : w19.cell? ⟨gb300, 3, none⟩ = some (.slice A0_3 l0_3.length c0_3) := (blk_cell BK300.out 3).trans rfl; have hfz21_0 := blk_frozen BK300.out 0; have hfz21_1 := blk_frozen BK300.out 1; have hfz21_2 := blk_frozen BK300.out 2; have hfz21_3 := blk_frozen BK300.out 3; have hcz22_0 : w19.cell? ⟨gb301, 0, none⟩ = some (.int .i64 a1_0) := (blk_cell BK301.out 0).trans rfl; have hcz22_1 : w19.cell? ⟨gb301, 1, none⟩ = some (.int .i64 a1_1) := (blk_cell BK301.out 1).trans rfl; have hcz22_2 : w19.cell? ⟨gb301, 2, none⟩ = some (.slice A1_2 l1_2.length c1_2) := (blk_cell BK301.out 2).trans rfl; have hcz22_3 : w19.cell? ⟨gb301, 3, none⟩ = some (.slice A1_3 l1_3.length c1_3) := (blk_cell BK301.out 3).trans rfl; have hfz22_0 := blk_frozen BK301.out 0; have hfz22_1 := blk_frozen BK301.out 1; have hfz22_2 := blk_frozen BK301.out 2; have hfz22_3 := blk_frozen BK301.out 3))
   go_ret
   exact ⟨by first | rfl | (simp [errW_none, errW_some] <;> rfl) | (simp [*, errW_none, errW_some] <;> rfl), by repeat (with_reducible first | exact HB.out | apply ba_ | apply bn_ | apply bd_ | refine bs_ ?_ GE300.out | refine bs_ ?_ GE301.out)⟩
 ·rw [if_neg c3] at H
  have c3b0 : (a0_0 == a1_0) = false := beq_eq_false_iff_ne.mpr c3
  have c3b1 : (a0_0 != a1_0) = true := bne_iff_ne.mpr c3
  obtain rfl := Option.some.inj H
  go_enter Try.func20, Try.ntmps20
  go_wp2_with (first | ((with_reducible refine gate_dst (N := 2) rfl ?_); refine box_event ?hg (N := 2) ?hd (cs := #[.int .i64 a0_0, .int .i64 a0_1, .slice A0_2 l0_2.length c0_2, .slice A0_3 l0_3.length c0_3]) (t := 30) ?hr ?_; (case hd => rfl); (case hg => rfl); (case hr => first | (go_simp; done) | (go_simp; rfl)); intro gb300 hg w23 hbox hb; have n0_ := Aside0.mk (below_step (by repeat (with_reducible first | exact HB.out | apply ba_ | apply bn_ | apply bd_)) hb); have n1_ := Aside0.mk (hbox); have n2_ := Aside0.mk ((by rw [hg]; exact (below_size (by repeat (with_reducible first | exact HB.out | apply ba_ | apply bn_ | apply bd_))) : w.heap.size ≤ gb300)); have n3_ := Aside0.mk ((by rw [hg]; exact (below_size (by repeat (with_reducible first | exact HB.out | apply ba_ | apply bn_ | apply bd_))) : w.heap.size ≤ gb300)); clear HB; have HB := n0_; have BK300 := n1_; have GW300 := n2_; have GE300 := n3_; clear n0_ n1_ n2_ n3_; clear hb hbox hg) | ((with_reducible refine gate_dst (N := 3) rfl ?_); refine box_event ?hg (N := 3) ?hd (cs := #[.int .i64 a1_0, .int .i64 a1_1, .slice A1_2 l1_2.length c1_2, .slice A1_3 l1_3.length c1_3]) (t := 30) ?hr ?_; (case hd => rfl); (case hg => rfl); (case hr => first | (go_simp; done) | (go_simp; rfl)); intro gb301 hg w24 hbox hb; have n0_ := Aside0.mk (blk_below (g := gb300) (o := .cells #[.int .i64 a0_0, .int .i64 a0_1, .slice A0_2 l0_2.length c0_2, .slice A0_3 l0_3.length c0_3] 30 (0, 0)) (by (with_reducible repeat (first | refine kn_ ?_ _ | refine kd_ ?_ | refine ka_ ?_ _)); exact BK300.out) hb); have n1_ := Aside0.mk (below_step (by repeat (with_reducible first | exact HB.out | apply ba_ | apply bn_ | apply bd_ | refine bs_ ?_ GE300.out)) hb); have n2_ := Aside0.mk (hbox); have n3_ := Aside0.mk ((by rw [hg]; exact (below_size (by repeat (with_reducible first | exact HB.out | apply ba_ | apply bn_ | apply bd_ | refine bs_ ?_ GE300.out))) : w.heap.size ≤ gb301)); have n4_ := Aside0.mk ((by rw [hg]; exact (below_size (by repeat (with_reducible first | exact HB.out | apply ba_ | apply bn_ | apply bd_ | refine bs_ ?_ GE300.out))) : w.heap.size ≤ gb301)); have n5_ := Aside0.mk ((by rw [hg]; exact Nat.ne_of_lt (blk_lt (g := gb300) (o := .cells #[.int .i64 a0_0, .int .i64 a0_1, .slice A0_2 l0_2.length c0_2, .slice A0_3 l0_3.length c0_3] 30 (0, 0)) (by (with_reducible repeat (first | refine kn_ ?_ _ | refine kd_ ?_ | refine ka_ ?_ _)); exact BK300.out)) : gb300 ≠ gb301)); have n6_ := Aside0.mk ((by rw [hg]; exact Nat.ne_of_gt (blk_lt (g := gb300) (o := .cells #[.int .i64 a0_0, .int .i64 a0_1, .slice A0_2 l0_2.length c0_2, .slice A0_3 l0_3.length c0_3] 30 (0, 0)) (by (with_reducible repeat (first | refine kn_ ?_ _ | refine kd_ ?_ | refine ka_ ?_ _)); exact BK300.out)) : gb301 ≠ gb300)); clear BK300; clear HB; have BK300 := n0_; have HB := n1_; have BK301 := n2_; have GW301 := n3_; have GE301 := n4_; have NB300_301 := n5_; have NB301_300 := n6_; clear n0_ n1_ n2_ n3_ n4_ n5_ n6_; clear hb hbox hg; have hnb25 := NB300_301.out; have hnc25 := NB301_300.out; have hcz26_0 : w24.cell? ⟨gb300, 0, none⟩ = some (.int .i64 a0_0) := (blk_cell BK300.out 0).trans rfl; have hcz26_1 : w24.cell? ⟨gb300, 1, none⟩ = some (.int .i64 a0_1) := (blk_cell BK300.out 1).trans rfl; have hcz26_2 : w24.cell? ⟨gb300, 2, none⟩ = some (.slice A0_2 l0_2.length c0_2) := (blk_cell BK300.out 2).trans rfl; have hcz26_3 : w24.cell? ⟨gb300, 3, none⟩ = some (.slice A0_3 l0_3.length c0_3) := (blk_cell BK300.out 3).trans rfl; have hfz26_0 := blk_frozen BK300.out 0; have hfz26_1 := blk_frozen BK300.out 1; have hfz26_2 := blk_frozen BK300.out 2; have hfz26_3 := blk_frozen BK300.out 3; have hcz27_0 : w24.cell? ⟨gb301, 0, none⟩ = some (.int .i64 a1_0) := (blk_cell BK301.out 0).trans rfl; have hcz27_1 : w24.cell? ⟨gb301, 1, none⟩ = some (.int .i64 a1_1) := (blk_cell BK301.out 1).trans rfl; have hcz27_2 : w24.cell? ⟨gb301, 2, none⟩ = some (.slice A1_2 l1_2.length c1_2) := (blk_cell BK301.out 2).trans rfl; have hcz27_3 : w24.cell? ⟨gb301, 3, none⟩ = some (.slice A1_3 l1_3.length c1_3) := (blk_cell BK301.out 3).trans rfl; have hfz27_0 := blk_frozen BK301.out 0; have hfz27_1 := blk_frozen BK301.out 1; have hfz27_2 := blk_frozen BK301.out 2; have hfz27_3 := blk_frozen BK301.out 3))
  go_ret
  exact ⟨by first | rfl | (simp [errW_none, errW_some] <;> rfl) | (simp [*, errW_none, errW_some] <;> rfl), by repeat (with_reducible first | exact HB.out | apply ba_ | apply bn_ | apply bd_ | refine bs_ ?_ GE300.out | refine bs_ ?_ GE301.out)⟩
def key_Shard.l0 : Nat → ByteArray → Int → Int → Int → Int → Option (Int)
 | 0, _, _, _, _, _ => none
 | k + 1, x0, x1, x5, x10, x11 => if x11 < x10 then (if 0 ≤ x11 then (if x11 < (x0.size : Int) then (if x1 = 0 then (none) else (key_Shard.l0 k x0 x1 (Int.tmod (wrap64 (x5 + (Int.tmod (wrap64 (bt x0 x11)) x1))) x1) x10 (wrap64 (x11 + 1)))) else (none)) else (none)) else (some x5)
def key_Shard.f (k : Nat) (a0 : ByteArray) (a1 : Int) : Option (Int) := if a1 < 1 then (some 0) else (key_Shard.l0 k a0 a1 0 (a0.size : Int) 0)
theorem key_Shard.mono_l : ∀ k, (∀ y0 y1 y2 y3 y4, LeO (key_Shard.l0 k y0 y1 y2 y3 y4) (key_Shard.l0 (k + 1) y0 y1 y2 y3 y4))
 | 0 => fun _ _ _ _ _ r h => by simp [key_Shard.l0] at h
 | k + 1 => by
  have ih0 := key_Shard.mono_l k
  ·intro y0 y1 y2 y3 y4
   unfold key_Shard.l0
   repeat' first
   | (with_reducible exact ih0 _ _ _ _ _)
   | (with_reducible exact LeO.refl _)
   | (with_reducible exact LeO.none _)
   | (with_reducible refine LeO.ite ?_ ?_)
   | (with_reducible refine LeO.bind ?_ (fun _ => ?_))
theorem key_Shard.mono : ∀ a0 a1 k, LeO (key_Shard.f k a0 a1) (key_Shard.f (k + 1) a0 a1) := by
 intro a0 a1 k
 have ih0 := key_Shard.mono_l k
 unfold key_Shard.f
 repeat' first
   | (with_reducible exact ih0 _ _ _ _ _)
   | (with_reducible exact LeO.refl _)
   | (with_reducible exact LeO.none _)
   | (with_reducible refine LeO.ite ?_ ?_)
   | (with_reducible refine LeO.bind ?_ (fun _ => ?_))
set_option maxHeartbeats 8000000 in
set_option maxRecDepth 100000 in
theorem key_Shard.calls (k : Nat) (a0 : ByteArray) (a1 : Int) (r : Int) (w : World) (h : key_Shard.f k a0 a1 = some r) :
  Calls Try.prog 81 #[.string a0, .int .i64 a1] w fun e w' => e = .returned (.int .i64 r) ∧ Drawn0 w w' := by
 have H : (if a1 < 1 then (some 0) else (key_Shard.l0 k a0 a1 0 (a0.size : Int) 0)) = some r := h
 clear h
 by_cases c3 : a1 < 1
 ·rw [if_pos c3] at H
  have c3b0 : decide (a1 < 1) = true := decide_eq_true c3
  clear c3
  obtain rfl := Option.some.inj H
  go_enter Try.func81, Try.ntmps81
  go_wp2
  go_ret
  exact ⟨by first | rfl | (simp; done) | (simp [*]; done), by repeat (first | exact Drawn0.refl _ | apply Drawn0.step)⟩
 ·rw [if_neg c3] at H
  have c3b0 : decide (a1 < 1) = false := decide_eq_false c3
  clear c3
  have H' := Aside0.mk H
  clear H
  go_enter Try.func81, Try.ntmps81
  go_wp2
  go_loopg [5, 11] k (fun kq v5 v11 w' => ∃ (x5_1 : Int) (x11_1 : Int), v5 = .int .i64 x5_1 ∧ v11 = .int .i64 x11_1 ∧ Aside0 (key_Shard.l0 kq a0 a1 x5_1 (a0.size : Int) x11_1 = some r) ∧ Aside0 (kq ≤ k) ∧ Drawn0 w w')
  case atStart => exact ⟨(0), (0), (by first | rfl | (simp; done) | (simp [*]; done)), (by first | rfl | (simp; done) | (simp [*]; done)), H', ⟨Nat.le_refl _⟩, by repeat (first | exact Drawn0.refl _ | apply Drawn0.step)⟩
  case round =>
   clear H'
   try clear p2
   try clear c3
   try clear c3b0
   obtain ⟨x5_1, x11_1, rfl, rfl, HA, HK1, ⟨m1, rfl⟩⟩ := hrel
   cases gk with
   | zero => exact absurd HA.out (by simp [key_Shard.l0])
   | succ k1 =>
    have H := HA.out
    clear HA
    simp only [key_Shard.l0] at H
    by_cases c4 : x11_1 < (a0.size : Int)
    ·rw [if_pos c4] at H
     have c4b0 : decide (x11_1 < (a0.size : Int)) = true := decide_eq_true c4
     clear c4
     by_cases c5 : 0 ≤ x11_1
     ·rw [if_pos c5] at H
      have c5b0 : decide (0 ≤ x11_1) = true := decide_eq_true c5
      clear c5
      by_cases c6 : x11_1 < (a0.size : Int)
      ·rw [if_pos c6] at H
       have c6b0 : decide (x11_1 < (a0.size : Int)) = true := decide_eq_true c6
       clear c6
       by_cases c8 : a1 = 0
       ·rw [if_pos c8] at H
        exact absurd H (by simp)
       ·rw [if_neg c8] at H
        have c8b0 : (a1 == 0) = false := beq_eq_false_iff_ne.mpr c8
        have c8b1 : (a1 != 0) = true := bne_iff_ne.mpr c8
        have H' := Aside0.mk H
        clear H
        have p7 : 0 ≤ (x11_1 : Int) := of_decide_eq_true (by first | (with_reducible assumption) | assumption)
        have q7 : x11_1 < (a0.size : Int) := of_decide_eq_true (by first | (with_reducible assumption) | assumption)
        have hx7 := bt_at a0 x11_1
        replace p7 := eq_true p7
        replace q7 := eq_true q7
        go_wp2
        go_roundg k1
        case measure => have := HK1.out; omega
        case rel => exact ⟨(Int.tmod (wrap64 (x5_1 + (Int.tmod (wrap64 (bt a0 x11_1)) a1))) a1), (wrap64 (x11_1 + 1)), (by first | rfl | (simp; done) | (simp [*]; done)), (by first | rfl | (simp; done) | (simp [*]; done)), H', ⟨by have := HK1.out; omega⟩, by repeat (first | exact Drawn0.refl _ | apply Drawn0.step)⟩
      ·rw [if_neg c6] at H
       exact absurd H (by simp)
     ·rw [if_neg c5] at H
      exact absurd H (by simp)
    ·rw [if_neg c4] at H
     have c4b0 : decide (x11_1 < (a0.size : Int)) = false := decide_eq_false c4
     clear c4
     obtain rfl := Option.some.inj H
     go_wp2
     go_ret
     exact ⟨by first | rfl | (simp; done) | (simp [*]; done), by repeat (first | exact Drawn0.refl _ | apply Drawn0.step)⟩
end Go.Proofs.Ytnlfhbohcgjcbaa.PA
namespace Go.Proofs
open Go.Shelf
open Go.RowKit in
open Go.RowKit in
def Try.lays189_ren : Go.Shelf.Ren := ⟨fun | 189 => 82 | 125 => 128 | 257 => 127 | 128 => 168 | 129 => 169 | 294 => 159 | 295 => 160 | 296 => 161 | 297 => 162 | 298 => 163 | 299 => 164 | 216 => 165 | 300 => 166 | 301 => 167 | 328 => 176 | 329 => 177 | 330 => 178 | 331 => 179 | 332 => 180 | 215 => 170 | 343 => 186 | n => n, fun | 28 => 41 | 3 => 3 | 46 => 184 | 0 => 0 | 51 => 236 | 53 => 238 | 4 => 4 | 183 => 229 | 182 => 228 | 131 => 140 | 5 => 5 | 9 => 9 | 218 => 242 | 222 => 246 | 228 => 253 | 229 => 254 | n => n, fun | n => n⟩
theorem Try.lays189 : Go.Proofs.Lays.n189 Try.prog Try.lays189_ren := {
 mixed := by kernel_rfl
 f125 := Try.func128.trans (congrArg some (by kernel_rfl))
 f128 := Try.func168.trans (congrArg some (by kernel_rfl))
 f129 := Try.func169.trans (congrArg some (by kernel_rfl))
 f189 := Try.func82.trans (congrArg some (by kernel_rfl))
 f215 := Try.func170.trans (congrArg some (by kernel_rfl))
 f216 := Try.func165.trans (congrArg some (by kernel_rfl))
 f257 := Try.func127.trans (congrArg some (by kernel_rfl))
 f294 := Try.func159.trans (congrArg some (by kernel_rfl))
 f295 := Try.func160.trans (congrArg some (by kernel_rfl))
 f296 := Try.func161.trans (congrArg some (by kernel_rfl))
 f297 := Try.func162.trans (congrArg some (by kernel_rfl))
 f298 := Try.func163.trans (congrArg some (by kernel_rfl))
 f299 := Try.func164.trans (congrArg some (by kernel_rfl))
 f300 := Try.func166.trans (congrArg some (by kernel_rfl))
 f301 := Try.func167.trans (congrArg some (by kernel_rfl))
 f328 := Try.func176.trans (congrArg some (by kernel_rfl))
 f329 := Try.func177.trans (congrArg some (by kernel_rfl))
 f330 := Try.func178.trans (congrArg some (by kernel_rfl))
 f331 := Try.func179.trans (congrArg some (by kernel_rfl))
 f332 := Try.func180.trans (congrArg some (by kernel_rfl))
 f343 := Try.func186.trans (congrArg some (by kernel_rfl))
 t0 := Try.underlying0
 a0 := Try.isAgg0
 z0 := Try.sizeOf0
 v0 := Try.zeroValue0
 t3 := Try.underlying3
 a3 := Try.isAgg3
 z3 := Try.sizeOf3
 v3 := Try.zeroValue3
 t4 := Try.underlying4
 a4 := Try.isAgg4
 z4 := Try.sizeOf4
 v4 := Try.zeroValue4
 t5 := Try.underlying5
 a5 := Try.isAgg5
 z5 := Try.sizeOf5
 v5 := Try.zeroValue5
 t9 := Try.underlying9
 a9 := Try.isAgg9
 z9 := Try.sizeOf9
 v9 := Try.zeroValue9
 t28 := Try.underlying41
 a28 := Try.isAgg41
 z28 := Try.sizeOf41
 v28 := Try.zeroValue41
 t46 := Try.underlying184
 a46 := Try.isAgg184
 z46 := Try.sizeOf184
 v46 := Try.zeroValue184
 t51 := Try.underlying236
 a51 := Try.isAgg236
 z51 := Try.sizeOf236
 v51 := Try.zeroValue236
 t53 := Try.underlying238
 a53 := Try.isAgg238
 z53 := Try.sizeOf238
 v53 := Try.zeroValue238
 t131 := Try.underlying140
 a131 := Try.isAgg140
 z131 := Try.sizeOf140
 v131 := Try.zeroValue140
 t182 := Try.underlying228
 a182 := Try.isAgg228
 z182 := Try.sizeOf228
 v182 := Try.zeroValue228
 t183 := Try.underlying229
 a183 := Try.isAgg229
 z183 := Try.sizeOf229
 v183 := Try.zeroValue229
 t218 := Try.underlying242
 a218 := Try.isAgg242
 z218 := Try.sizeOf242
 v218 := Try.zeroValue242
 t222 := Try.underlying246
 a222 := Try.isAgg246
 z222 := Try.sizeOf246
 v222 := Try.zeroValue246
 t228 := Try.underlying253
 a228 := Try.isAgg253
 z228 := Try.sizeOf253
 v228 := Try.zeroValue253
 t229 := Try.underlying254
 a229 := Try.isAgg254
 z229 := Try.sizeOf254
 v229 := Try.zeroValue254 }
open Go.Sort Go.RowKit in
theorem Try.slices_Sort_int (blk off cap : Nat) (zs : List Int) (w : World) (hH : Holds (Value.int .i64) w blk off zs.toArray) (hblk : blk < w.heap.size) (hsz : zs.length < 4611686018427387904) :
  Calls Try.prog 82 #[.slice (some ⟨blk, off, none⟩) zs.length cap] w fun e w' =>
   e = .returned (.tuple #[]) ∧ ∃ n os, w' = grow (putRow (Value.int .i64) (Sort.ahead w n) blk off (zs.mergeSort fun x y => decide (x ≤ y)).toArray) os := Any.slices_Sort_int Try.lays189 blk off cap zs w hH hblk hsz
open Go.Lib in
open Go.Lib in
open Go.Lib in
open Go.Lib in
def Try.laysNm220_ren : Go.Shelf.Ren := ⟨fun | 20 => 83 | n => n, fun | 22 => 41 | 3 => 3 | 4 => 4 | 0 => 0 | n => n, fun | n => n⟩
theorem Try.laysNm220 : Go.Proofs.Lays2.n20 Try.prog Try.laysNm220_ren := {
 mixed := by kernel_rfl
 f20 := Try.func83.trans (congrArg some (by kernel_rfl))
 t0 := Try.underlying0
 a0 := Try.isAgg0
 z0 := Try.sizeOf0
 v0 := Try.zeroValue0
 t3 := Try.underlying3
 a3 := Try.isAgg3
 z3 := Try.sizeOf3
 v3 := Try.zeroValue3
 t4 := Try.underlying4
 a4 := Try.isAgg4
 z4 := Try.sizeOf4
 v4 := Try.zeroValue4
 t22 := Try.underlying41
 a22 := Try.isAgg41
 z22 := Try.sizeOf41
 v22 := Try.zeroValue41
 i3 := by kernel_rfl }
open Go.RowKit Go.Lib Go.Sort in
open Go.RowKit Go.Lib Go.Sort in
/-- slices.Compact at []int: "Compact replaces consecutive runs of equal elements with a single copy. This is like the uniq command found on Unix. Compact modifies the contents of the slice s and returns the modified slice, which may have a smaller length. Compact zeroes the elements between the new length and the original length. The result preserves the nilness of s.": IT RETURNS THE SLICE CUT TO 'Lib.compact zs'; ITS CELLS HOLD 'Lib.compact zs', THEN ZERO VALUES up to the old length; all else is as it was, but for the count of draws. IN THE WORDS OF slices.Sort's CONTRACT ('Holds', 'putRow'): so the everyday 'slices.Sort(xs); xs = slices.Compact(xs)' goes from the one contract to the other. It asks 'zs.length ≤ cap' (every slice's: the reslicing 's[:k]' looks at it). Length 0, nil: '.._empty'. (LAID: no walk: one application.) -/
theorem Try.slices_Compact_int (blk off cap : Nat) (zs : List Int) (w : World) (hH : Holds (Value.int .i64) w blk off zs.toArray) (hsz : zs.length ≤ 9223372036854775807) (hcap : zs.length ≤ cap) :
  Calls Try.prog 83 #[.slice (some ⟨blk, off, none⟩) zs.length cap] w fun e w' => e = .returned (.slice (some ⟨blk, off, none⟩) (Lib.compact zs).length cap) ∧ ∃ q, w' = putRow (Value.int .i64) (Sort.ahead w q) blk off (Lib.compact zs ++ List.replicate (zs.length - (Lib.compact zs).length) 0).toArray := Any.slices_Compact_int Try.laysNm220 blk off cap zs w hH hsz hcap
open Go.RowKit Go.Lib Go.Sort in
/-- The same at a slice of length 0, a nil one too: it comes back as it is. (LAID: no walk: one application.) -/
theorem Try.slices_Compact_int_empty (a : Option Addr) (cap : Nat) (w : World) :
  Calls Try.prog 83 #[.slice a 0 cap] w fun e w' => e = .returned (.slice a 0 cap) ∧ w' = w := Any.slices_Compact_int_empty Try.laysNm220 a cap w
open Go.RowKit Go.Lib Go.Sort in
open Go.RowKit Go.Sort in
/-- .. and plain. (LAID: no walk: one application.) -/
theorem Try.slices_Sort_int_none (p : Option Addr) (cap : Nat) (w : World) :
  Calls Try.prog 82 #[.slice p 0 cap] w fun e w' => e = .returned (.tuple #[]) ∧ w' = w := Any.slices_Sort_int_none Try.lays189 p cap w
def Try.laysnb116_ren : Go.Shelf.Ren := ⟨fun | 116 => 121 | 115 => 157 | n => n, fun | 37 => 33 | 4 => 4 | 3 => 3 | 9 => 9 | 5 => 5 | n => n, fun | n => n⟩
theorem Try.laysnb116 : Go.Proofs.Lays.nb116 Try.prog Try.laysnb116_ren := {
 mixed := by kernel_rfl
 f115 := Try.func157.trans (congrArg some (by kernel_rfl))
 f116 := Try.func121.trans (congrArg some (by kernel_rfl))
 t3 := Try.underlying3
 a3 := Try.isAgg3
 z3 := Try.sizeOf3
 v3 := Try.zeroValue3
 t4 := Try.underlying4
 a4 := Try.isAgg4
 z4 := Try.sizeOf4
 v4 := Try.zeroValue4
 t9 := Try.underlying9
 a9 := Try.isAgg9
 z9 := Try.sizeOf9
 v9 := Try.zeroValue9
 t37 := Try.underlying33
 a37 := Try.isAgg33
 z37 := Try.sizeOf33
 v37 := Try.zeroValue33
 t5 := Try.underlying5
 a5 := Try.isAgg5
 z5 := Try.sizeOf5
 v5 := Try.zeroValue5 }
def Try.lays115_ren : Go.Shelf.Ren := ⟨fun | 115 => 157 | n => n, fun | 37 => 33 | 4 => 4 | 9 => 9 | 5 => 5 | n => n, fun | n => n⟩
theorem Try.lays115 : Go.Proofs.Lays.n115 Try.prog Try.lays115_ren := {
 mixed := by kernel_rfl
 f115 := Try.func157.trans (congrArg some (by kernel_rfl))
 t4 := Try.underlying4
 a4 := Try.isAgg4
 z4 := Try.sizeOf4
 v4 := Try.zeroValue4
 t9 := Try.underlying9
 a9 := Try.isAgg9
 z9 := Try.sizeOf9
 v9 := Try.zeroValue9
 t37 := Try.underlying33
 a37 := Try.isAgg33
 z37 := Try.sizeOf33
 v37 := Try.zeroValue33 }
/-- bytes.Equal: "Equal reports whether a and b are the same length and contain the same bytes. A nil argument is equivalent to an empty slice.": IT RETURNS 'the bytes of the one == the bytes of the other'; the world is as it was. THE TWO ARGUMENTS COME AS WHATEVER VALUES, each with the one fact that the walk wants of it: what 'string(..)' of it gives: for a slice whose cells you know: 'run_convert_bytes_arg' (Derived/Laws/BytesArg.lean) hands that fact; for a nil one: 'run_convert_bytes_nil' (with xs := []). (LAID: no walk: one application.) -/
theorem Try.bytes_Equal (v1 v2 : Value) (xs ys : List Int) (w : World) (h1 : (convert 33 9 v1).run Try.prog w = .ok (.string (strOfNums xs)) w) (h2 : (convert 33 9 v2).run Try.prog w = .ok (.string (strOfNums ys)) w) :
  Calls Try.prog 157 #[v1, v2] w fun e w' => e = .returned (.bool (Lib.bytesOf xs == Lib.bytesOf ys)) ∧ w' = w := Any.bytes_Equal Try.lays115 v1 v2 xs ys w h1 h2
/-- bytes.HasPrefix: "HasPrefix reports whether the byte slice s begins with prefix.": IT RETURNS 'Lib.hasPrefix (the bytes of s) (the bytes of prefix)'; the world is as it was. ITS CALLEE bytes.Equal IS MET BY ITS OWN CONTRACT OFF THE SHELF (lay that first). 'xs', 'ys': the numbers that the two slices' cells hold. (LAID: no walk: one application.) -/
theorem Try.bytes_HasPrefix (b1 o1 n c b2 o2 m d : Nat) (xs ys : List Int) (w : World) (hx : xs.length = n) (hy : ys.length = m) (hnc : n ≤ c) (hc1 : ∀ i, i < n → w.cell? ⟨b1, o1 + i, none⟩ = some (.int .u8 (xs.getD i 0))) (hc2 : ∀ i, i < m → w.cell? ⟨b2, o2 + i, none⟩ = some (.int .u8 (ys.getD i 0))) :
  Calls Try.prog 121 #[.slice (some ⟨b1, o1, none⟩) n c, .slice (some ⟨b2, o2, none⟩) m d] w fun e w' => e = .returned (.bool (Lib.hasPrefix (Lib.bytesOf xs) (Lib.bytesOf ys))) ∧ w' = w := Any.bytes_HasPrefix Try.laysnb116 b1 o1 n c b2 o2 m d xs ys w hx hy hnc hc1 hc2
end Go.Proofs
namespace Go.Proofs.Ytnlfhbohcgjcbaa.PA
open Go.RowKit Go.Sort Go.Proofs.YtnlfhbohcgjcbaaW.PrintWords Go.Proofs.YtnlfhbohcgjcbaaW.PrintLast Go.Proofs.YtnlfhbohcgjcbaaW.PrintMore
set_option linter.unusedVariables false
set_option linter.unusedSimpArgs false
def ins (x : Int) : List Int → List Int
 | [] => [x]
 | y :: ys => if x ≤ y then x :: y :: ys else y :: ins x ys
def isort : List Int → List Int
 | [] => []
 | x :: xs => ins x (isort xs)
theorem ins_perm (x : Int) (l : List Int) : (ins x l).Perm (x :: l) := by
 induction l with
 | nil => exact .refl _
 | cons y ys ih =>
  simp only [ins]
  split
  ·exact .refl _
  ·exact (List.Perm.cons y ih).trans (List.Perm.swap x y ys)
theorem isort_perm (l : List Int) : (isort l).Perm l := by
 induction l with
 | nil => exact .refl _
 | cons x xs ih => exact (ins_perm x _).trans (List.Perm.cons x ih)
theorem ins_sorted (x : Int) (l : List Int) (h : l.Pairwise (· ≤ ·)) : (ins x l).Pairwise (· ≤ ·) := by
 induction l with
 | nil => simp [ins]
 | cons y ys ih =>
  simp only [ins]
  split
  ·rename_i hxy
   refine List.Pairwise.cons (fun z hz => ?_) h
   rcases List.mem_cons.1 hz with rfl | hz
   ·exact hxy
   ·exact Int.le_trans hxy ((List.pairwise_cons.1 h).1 z hz)
  ·rename_i hxy
   refine List.Pairwise.cons (fun z hz => ?_) (ih (List.pairwise_cons.1 h).2)
   rcases List.mem_cons.1 ((ins_perm x ys).mem_iff.1 hz) with rfl | hz
   ·omega
   ·exact (List.pairwise_cons.1 h).1 z hz
theorem isort_sorted (l : List Int) : (isort l).Pairwise (· ≤ ·) := by
 induction l with
 | nil => exact .nil
 | cons x xs ih => exact ins_sorted x _ ih
theorem isort_length (l : List Int) : (isort l).length = l.length := (isort_perm l).length_eq
theorem mergeSort_isort (l : List Int) : (l.mergeSort fun x y => decide (x ≤ y)) = isort l := by
 refine List.Perm.eq_of_pairwise (le := fun a b : Int => a ≤ b) (fun a b _ _ h1 h2 => Int.le_antisymm h1 h2) ?_ (isort_sorted l) ((List.mergeSort_perm l _).trans (isort_perm l).symm)
 have h := List.pairwise_mergeSort (le := fun x y : Int => decide (x ≤ y)) (fun a b c h1 h2 => by simp at *; omega) (fun a b => by simp; omega) l
 exact h.imp (fun h => by simpa using h)
def runs (l : List Int) : List Int := l.foldl (fun acc x => if acc.getLast? = some x then acc else acc ++ [x]) []
theorem runs_snoc (l : List Int) (x : Int) : runs (l ++ [x]) = if (runs l).getLast? = some x then runs l else runs l ++ [x] := by
 unfold runs
 rw [List.foldl_append]
 rfl
theorem runs_last (l : List Int) : (runs l).getLast? = l.getLast? := by
 refine HW.snoc_ind (p := fun l => (runs l).getLast? = l.getLast?) rfl (fun l x ih => ?_) l
 rw [runs_snoc]
 split
 ·rename_i h; rw [h]; simp
 ·simp
theorem runs_length (l : List Int) : (runs l).length ≤ l.length := by
 refine HW.snoc_ind (p := fun l => (runs l).length ≤ l.length) (by simp [runs]) (fun l x ih => ?_) l
 rw [runs_snoc]
 split <;> simp <;> omega
theorem compact_runs (l : List Int) : Lib.compact l = runs l := by
 unfold Lib.compact
 have key : ∀ m, m ≤ l.length → Lib.compactUpTo l.toArray m = runs (l.take m) := by
  intro m
  induction m with
  | zero => intro _; simp [Lib.compactUpTo, runs]
  | succ m ih =>
   intro hm
   have hlt : m < l.length := by omega
   rw [Lib.compactUpTo_succ, ih (by omega), List.take_succ_eq_append_getElem hlt, runs_snoc, HW.getElem!_map l m hlt]
   rcases Nat.eq_zero_or_pos m with h0 | h0
   ·subst h0
    simp [Lib.keeps, runs]
   ·have hl : (runs (l.take m)).getLast? = some l[m - 1] := by
     rw [runs_last, List.getLast?_take, if_neg (by omega), List.getElem?_eq_getElem (by omega)]
     rfl
    rw [hl]
    have e1 := HW.getElem!_map l m hlt
    have e2 := HW.getElem!_map l (m - 1) (by omega)
    by_cases h : l[m] = l[m - 1]
    ·have hk : Lib.keeps l.toArray m = false := Lib.keeps_neg h0 (by rw [e1, e2]; exact h)
     rw [hk, if_neg (by simp), List.append_nil, if_pos (by rw [h])]
    ·have hk : Lib.keeps l.toArray m = true := Lib.keeps_pos (by rw [e1, e2]; exact h)
     rw [hk, if_pos rfl, if_neg (fun e => h (Option.some.inj e).symm)]
 have := key l.length (Nat.le_refl _)
 rwa [List.take_length] at this
def slices_Sort_Lint_int.f (l0 : List Int) : Option (List Int) := if l0.length < 4611686018427387904 then some (isort l0) else none
theorem slices_Sort_Lint_int.calls (P0_ : Nat → Prop) (u9000_ : Value) (l0 : List Int) (r : List Int) (w0 w : World) (hB : Below w0.heap.size w0 w) (ho0 : Kd.R (Kd.int .i64) 3 w w0.heap.size P0_ u9000_ l0) (h : slices_Sort_Lint_int.f l0 = some r) :
  Calls Try.prog 82 #[u9000_] w fun e w' => e = .returned (.tuple #[]) ∧ Kd.R (Kd.int .i64) 3 w' w0.heap.size (fun k_ => (P0_ k_ ∨ w.heap.size ≤ k_)) u9000_ r ∧ Below w0.heap.size w0 w' ∧ Kept w w' (fun k_ => P0_ k_) := by
 unfold slices_Sort_Lint_int.f at h
 split at h
 rotate_left
 ·cases h
 rename_i hmax
 obtain rfl : isort l0 = r := Option.some.inj h
 have hown := Kd.own_of_R ho0
 rcases Nat.eq_zero_or_pos l0.length with h0 | h0
 ·obtain rfl : l0 = [] := List.eq_nil_of_length_eq_zero h0
  obtain ⟨A, c, rfl⟩ := Kd.R_slice ho0
  refine (Try.slices_Sort_int_none A c w).mono ?_
  rintro e w' ⟨rfl, rfl⟩
  exact ⟨rfl, Kd.R_mono ho0 (fun k hk => .inl hk), hB, Kept.refl _ _⟩
 ·obtain ⟨g, cap, rfl, hg, hlt, _⟩ := Kd.R_form ho0 h0
  refine (Try.slices_Sort_int g 0 cap l0 w (HW.holds_of_own hown) hlt hmax).mono ?_
  rintro e w' ⟨rfl, n, os, rfl⟩
  rw [mergeSort_isort]
  have hown2 := HW.own_putRow (n := n) (ys := isort l0) (zs := []) os hown (by simp [isort_length])
  rw [List.append_nil] at hown2
  refine ⟨rfl, ?_, HW.below_putRow os hB hg, HW.kept_putRow os (ho0.1 g rfl)⟩
  have hr := Kd.R_of_own (h1 := fun _ => rfl) hown2 (ok := fun k_ => (P0_ k_ ∨ w.heap.size ≤ k_)) (fun k hk => .inl (ho0.1 k hk))
  rwa [isort_length] at hr
def slices_Compact_Lint_int.f (l0 : List Int) : Option (List Int) := some (runs l0)
theorem slices_Compact_Lint_int.calls (P0_ : Nat → Prop) (u9000_ : Value) (l0 : List Int) (r : List Int) (w0 w : World) (hB : Below w0.heap.size w0 w) (ho0 : Kd.R (Kd.int .i64) 3 w w0.heap.size P0_ u9000_ l0) (h : slices_Compact_Lint_int.f l0 = some r) :
  Calls Try.prog 83 #[u9000_] w fun e w' => ∃ v0_ : Value, e = .returned (v0_) ∧ Kd.R (Kd.int .i64) 3 w' w0.heap.size (fun k_ => (P0_ k_ ∨ w.heap.size ≤ k_)) v0_ r ∧ Below w0.heap.size w0 w' ∧ Kept w w' (fun k_ => P0_ k_) := by
 obtain rfl : runs l0 = r := Option.some.inj h
 have hown := Kd.own_of_R ho0
 rcases Nat.eq_zero_or_pos l0.length with h0 | h0
 ·obtain rfl : l0 = [] := List.eq_nil_of_length_eq_zero h0
  obtain ⟨A, c, rfl⟩ := Kd.R_slice ho0
  refine (Try.slices_Compact_int_empty A c w).mono ?_
  rintro e w' ⟨rfl, rfl⟩
  exact ⟨_, rfl, Kd.R_mono ho0 (fun k hk => .inl hk), hB, Kept.refl _ _⟩
 ·obtain ⟨g, cap, rfl, hg, hlt, _⟩ := Kd.R_form ho0 h0
  have hcap := own_le hown
  have hmax : l0.length ≤ 9223372036854775807 := by
   rcases hown.2 with ⟨h', _⟩ | ⟨g', cap', cur, h', _, hh, hn, hm, hs, _⟩
   ·cases h'
   ·simp only [maxLen] at hm; omega
  refine (Try.slices_Compact_int g 0 cap l0 w (HW.holds_of_own hown) hmax hcap).mono ?_
  rintro e w' ⟨rfl, q, rfl⟩
  rw [compact_runs]
  have hl := runs_length l0
  have hown2 := HW.own_putRow (n := q) (ys := runs l0) (zs := List.replicate (l0.length - (runs l0).length) 0) #[] hown (by simp; omega)
  rw [HW.grow_none] at hown2
  have hbel := HW.below_putRow (enc := Value.int .i64) (n := q) (d := (runs l0 ++ List.replicate (l0.length - (runs l0).length) 0).toArray) #[] hB hg
  have hkep := HW.kept_putRow (enc := Value.int .i64) (w := w) (n := q) (d := (runs l0 ++ List.replicate (l0.length - (runs l0).length) 0).toArray) (S := P0_) #[] (ho0.1 g rfl)
  rw [HW.grow_none] at hbel hkep
  exact ⟨_, rfl, Kd.R_of_own (h1 := fun _ => rfl) hown2 (fun k hk => .inl (ho0.1 k hk)), hbel, hkep⟩
end Go.Proofs.Ytnlfhbohcgjcbaa.PA
namespace Go.Proofs.Ytnlfhbohcgjcbaa.PA
open Go.RowKit Go.Proofs.YtnlfhbohcgjcbaaW.PrintWords Go.Proofs.YtnlfhbohcgjcbaaW.PrintLast Go.Proofs.YtnlfhbohcgjcbaaW.PrintMore
attribute [local go_sem] max2_int min2_int max_two min_two max_three min_three max_four min_four
set_option linter.unusedVariables false
set_option linter.unusedSimpArgs false
def txn_Reads.l0 : Nat → Int → List Int → List ByteArray → Int → Int → Option (List Int)
 | 0, _, _, _, _, _ => none
 | k + 1, x1, x4, x14, x15, x16 => if x16 < x15 then (if 0 ≤ x16 then (if x16 < (x14.length : Int) then ((key_Shard.f k (rdOf ByteArray.empty x14 x16) x1).bind fun t260 => (if x4.length < 17592186044416 then (txn_Reads.l0 k x1 (x4 ++ [t260]) x14 x15 (wrap64 (x16 + 1))) else (none))) else (none)) else (none)) else ((slices_Sort_Lint_int.f x4).bind fun t264 => ((slices_Compact_Lint_int.f t264).bind fun t265 => (some t265)))
def txn_Reads.f (k : Nat) (a0_0 : Int) (a0_1 : Int) (l0_2 : List (S24)) (l0_3 : List (S27)) (a1 : Int) : Option (List Int) := (txn_keys.f k a0_0 a0_1 l0_2 l0_3).bind fun bt253 => (txn_Reads.l0 k a1 ([] : List Int) bt253.1 (bt253.1.length : Int) 0)
theorem txn_Reads.mono_l : ∀ k, (∀ y0 y1 y2 y3 y4, LeO (txn_Reads.l0 k y0 y1 y2 y3 y4) (txn_Reads.l0 (k + 1) y0 y1 y2 y3 y4))
 | 0 => fun _ _ _ _ _ r h => by simp [txn_Reads.l0] at h
 | k + 1 => by
  have ih0 := txn_Reads.mono_l k
  ·intro y0 y1 y2 y3 y4
   unfold txn_Reads.l0
   repeat' first
   | (with_reducible exact ih0 _ _ _ _ _)
   | (with_reducible exact key_Shard.mono _ _ _)
   | (with_reducible exact txn_keys.mono _ _ _ _ _)
   | (with_reducible exact LeO.refl _)
   | (with_reducible exact LeO.none _)
   | (with_reducible refine LeO.ite ?_ ?_)
   | (with_reducible refine LeO.bind ?_ (fun _ => ?_))
theorem txn_Reads.mono : ∀ a0 a1 a2 a3 a4 k, LeO (txn_Reads.f k a0 a1 a2 a3 a4) (txn_Reads.f (k + 1) a0 a1 a2 a3 a4) := by
 intro a0 a1 a2 a3 a4 k
 have ih0 := txn_Reads.mono_l k
 unfold txn_Reads.f
 repeat' first
   | (with_reducible exact ih0 _ _ _ _ _)
   | (with_reducible exact key_Shard.mono _ _ _)
   | (with_reducible exact txn_keys.mono _ _ _ _ _)
   | (with_reducible exact LeO.refl _)
   | (with_reducible exact LeO.none _)
   | (with_reducible refine LeO.ite ?_ ?_)
   | (with_reducible refine LeO.bind ?_ (fun _ => ?_))
set_option maxHeartbeats 8000000 in
set_option maxRecDepth 100000 in
theorem txn_Reads.calls (k : Nat) (a0_0 : Int) (a0_1 : Int) (A0_2 : Option Addr) (c0_2 : Nat) (l0_2 : List (S24)) (A0_3 : Option Addr) (c0_3 : Nat) (l0_3 : List (S27)) (a1 : Int) (r : List Int) (w : World) (hr0_2 : Kd.C k24 w A0_2 l0_2.length l0_2) (hc0_2 : l0_2.length ≤ c0_2) (hr0_3 : Kd.C k27 w A0_3 l0_3.length l0_3) (hc0_3 : l0_3.length ≤ c0_3) (h : txn_Reads.f k a0_0 a0_1 l0_2 l0_3 a1 = some r) :
  Calls Try.prog 24 #[.agg #[.int .i64 a0_0, .int .i64 a0_1, .slice A0_2 l0_2.length c0_2, .slice A0_3 l0_3.length c0_3], .int .i64 a1] w fun e w' => ∃ v0_ : Value, e = .returned (v0_) ∧ Kd.R (Kd.int .i64) 3 w' w.heap.size (fun _ => True) v0_ r ∧ Below w.heap.size w w' := by
 have hu30 := Try.underlying30
 have HR0_2 := Aside0.mk hr0_2
 have HC0_2 := Aside0.mk hc0_2
 clear hr0_2 hc0_2
 have HR0_3 := Aside0.mk hr0_3
 have HC0_3 := Aside0.mk hc0_3
 clear hr0_3 hc0_3
 have HB := Aside0.mk (Below.refl w.heap.size w)
 have H : ((txn_keys.f k a0_0 a0_1 l0_2 l0_3).bind fun bt253 => (txn_Reads.l0 k a1 ([] : List Int) bt253.1 (bt253.1.length : Int) 0)) = some r := h
 clear h
 replace H := Option.bind_eq_some_iff.mp H
 obtain ⟨⟨t253, t256⟩, A30, H⟩ := H
 (try dsimp only at H)
 have A3 := Aside0.mk A30
 clear A30
 have H' := Aside0.mk H
 clear H
 go_enter Try.func24, Try.ntmps24
 go_wp2_with (first | ((with_reducible refine gate_dst (N := 2) rfl ?_); refine box_event ?hg (N := 2) ?hd (cs := #[.int .i64 a0_0, .int .i64 a0_1, .slice A0_2 l0_2.length c0_2, .slice A0_3 l0_3.length c0_3]) (t := 30) ?hr ?_; (case hd => rfl); (case hg => rfl); (case hr => first | (go_simp; done) | (go_simp; rfl)); intro gb252 hg w4 hbox hb; have n0_ := Aside0.mk (below_step (by repeat (with_reducible first | exact HB.out | apply ba_ | apply bn_ | apply bd_)) hb); have n1_ := Aside0.mk (hbox); have n2_ := Aside0.mk ((by rw [hg]; exact (below_size (by repeat (with_reducible first | exact HB.out | apply ba_ | apply bn_ | apply bd_))) : w.heap.size ≤ gb252)); have n3_ := Aside0.mk ((by rw [hg]; exact (below_size (by repeat (with_reducible first | exact HB.out | apply ba_ | apply bn_ | apply bd_))) : w.heap.size ≤ gb252)); clear HB; have HB := n0_; have BK252 := n1_; have GW252 := n2_; have GE252 := n3_; clear n0_ n1_ n2_ n3_; clear hb hbox hg; have hcz5_0 : w4.cell? ⟨gb252, 0, none⟩ = some (.int .i64 a0_0) := (blk_cell BK252.out 0).trans rfl; have hcz5_1 : w4.cell? ⟨gb252, 1, none⟩ = some (.int .i64 a0_1) := (blk_cell BK252.out 1).trans rfl; have hcz5_2 : w4.cell? ⟨gb252, 2, none⟩ = some (.slice A0_2 l0_2.length c0_2) := (blk_cell BK252.out 2).trans rfl; have hcz5_3 : w4.cell? ⟨gb252, 3, none⟩ = some (.slice A0_3 l0_3.length c0_3) := (blk_cell BK252.out 3).trans rfl; have hfz5_0 := blk_frozen BK252.out 0; have hfz5_1 := blk_frozen BK252.out 1; have hfz5_2 := blk_frozen BK252.out 2; have hfz5_3 := blk_frozen BK252.out 3) | ((with_reducible refine gate_callee (f := 64) rfl ?_); refine goesM_ (some 11) Try.func64 #[.agg #[.int .i64 a0_0, .int .i64 a0_1, .slice A0_2 l0_2.length c0_2, .slice A0_3 l0_3.length c0_3]] ?_; (with_reducible refine (txn_keys.calls k a0_0 a0_1 _ _ l0_2 _ _ l0_3 t253 t256 _ ?side1 ?side2 ?side3 ?side4 A3.out).mono ?_); (case side1 => repeat (first | exact (Kd.C_below HR0_2.out HB.out) | (with_reducible refine ca_ ?_ _) | (with_reducible refine cn_ ?_ _) | (with_reducible refine cd_ ?_))); (case side2 => exact HC0_2.out); (case side3 => repeat (first | exact (Kd.C_below HR0_3.out HB.out) | (with_reducible refine ca_ ?_ _) | (with_reducible refine cn_ ?_ _) | (with_reducible refine cd_ ?_))); (case side4 => exact HC0_3.out); rintro e w6 ⟨v254, v257, rfl, ho0, ho1, hb⟩; refine ⟨_, rfl, ?_⟩; have n0_ := Aside0.mk (Kd.R_lower ho0 (below_size (by repeat (with_reducible first | exact HB.out | apply ba_ | apply bn_ | apply bd_ | refine bs_ ?_ GE252.out)))); have n1_ := Aside0.mk (Kd.R_lower ho1 (below_size (by repeat (with_reducible first | exact HB.out | apply ba_ | apply bn_ | apply bd_ | refine bs_ ?_ GE252.out)))); have n2_ := Aside0.mk (blk_below (g := gb252) (o := .cells #[.int .i64 a0_0, .int .i64 a0_1, .slice A0_2 l0_2.length c0_2, .slice A0_3 l0_3.length c0_3] 30 (0, 0)) (by (with_reducible repeat (first | refine kn_ ?_ _ | refine kd_ ?_ | refine ka_ ?_ _)); exact BK252.out) hb); have n3_ := Aside0.mk (below_step (by repeat (with_reducible first | exact HB.out | apply ba_ | apply bn_ | apply bd_ | refine bs_ ?_ GE252.out)) hb); clear BK252; clear HB; have HO255 := n0_; have HO258 := n1_; have BK252 := n2_; have HB := n3_; clear n0_ n1_ n2_ n3_; clear hb ho0 ho1; obtain ⟨Ao7, co7, eo7⟩ := Kd.R_slice HO255.out; subst eo7))
 go_loopg [4, 16] k (fun kq v4 v16 w' => ∃ (x4_1 : List Int) (x16_1 : Int), v16 = .int .i64 x16_1 ∧ Aside0 (txn_Reads.l0 kq a1 x4_1 t253 (t253.length : Int) x16_1 = some r) ∧ Aside0 (kq ≤ k) ∧ Aside0 (Kd.R (Kd.int .i64) 3 w' w.heap.size (fun _ => True) v4 x4_1) ∧ Aside0 (Kd.R Kd.string 9 w' w.heap.size (fun _ => True) (.slice Ao7 t253.length co7) t253) ∧ Aside0 (w'.heap[gb252]? = some (.cells #[.int .i64 a0_0, .int .i64 a0_1, (.slice A0_2 l0_2.length c0_2), (.slice A0_3 l0_3.length c0_3)] 30 (0, 0))) ∧ Aside0 (Below w.heap.size w w'))
 case atStart => exact ⟨(([] : List Int)), (0), (by first | rfl | (simp; done) | (simp [*]; done)), H', ⟨Nat.le_refl _⟩, ⟨by first | exact Kd.R_nil _ _ _ _ _ | exact Kd.N_nil _ _ _ _ _ | exact Kd.V_nil _ _ _ _ _ | exact Kd.Q_nil _ _ _ _ _ | exact Kd.S_nil _ _ _ _ _⟩, ⟨by (with_reducible repeat (first | apply ra_ | apply rn_ | apply rd_)); exact Kd.R_mono HO255.out (fun _ hk => trivial)⟩, ⟨by (with_reducible repeat (first | refine kn_ ?_ _ | refine kd_ ?_ | refine ka_ ?_ _)); exact BK252.out⟩, ⟨by repeat (with_reducible first | exact HB.out | apply ba_ | apply bn_ | apply bd_ | refine bs_ ?_ GE252.out)⟩⟩
 case round =>
  clear H'
  try clear c2
  try clear p2
  try clear c6
  try clear hcz5_0
  try clear hcz5_1
  try clear hcz5_2
  try clear hcz5_3
  try clear hfz5_0
  try clear hfz5_1
  try clear hfz5_2
  try clear hfz5_3
  obtain ⟨x4_1, x16_1, rfl, HA, HK1, HO_4, HO_14, BK252, HB⟩ := hrel
  cases gk with
  | zero => exact absurd HA.out (by simp [txn_Reads.l0])
  | succ k1 =>
   have H := HA.out
   clear HA
   simp only [txn_Reads.l0] at H
   by_cases c8 : x16_1 < (t253.length : Int)
   ·rw [if_pos c8] at H
    have c8b0 : decide (x16_1 < (t253.length : Int)) = true := decide_eq_true c8
    clear c8
    by_cases c9 : 0 ≤ x16_1
    ·rw [if_pos c9] at H
     have c9b0 : decide (0 ≤ x16_1) = true := decide_eq_true c9
     clear c9
     by_cases c10 : x16_1 < (t253.length : Int)
     ·rw [if_pos c10] at H
      have c10b0 : decide (x16_1 < (t253.length : Int)) = true := decide_eq_true c10
      clear c10
      replace H := Option.bind_eq_some_iff.mp H
      obtain ⟨t260, A110, H⟩ := H
      (try dsimp only at H)
      have A11 := Aside0.mk A110
      clear A110
      by_cases c12 : x4_1.length < 17592186044416
      ·rw [if_pos c12] at H
       have LMc12 := Aside0.mk c12
       clear c12
       obtain ⟨y261, hy261⟩ : ∃ y_ : List Int, y_ = (x4_1 ++ [t260]) := ⟨_, rfl⟩
       replace H : (txn_Reads.l0 k1 a1 y261 t253 (t253.length : Int) (wrap64 (x16_1 + 1))) = some r := by first | (rw [hy261]; with_reducible exact H) | (have H2_ := (Option.bind_some _ _).symm.trans H; rw [hy261]; with_reducible exact H2_) | (have H2_ := (Option.bind_some _ _).symm.trans H; with_reducible exact H2_) | with_reducible exact H | (rw [hy261]; exact H) | exact H
       have Ny261 := Aside0.mk hy261
       clear hy261
       have H' := Aside0.mk H
       clear H
       have p259 : 0 ≤ (x16_1 : Int) := of_decide_eq_true (by first | (with_reducible assumption) | assumption)
       have q259 : x16_1 < (t253.length : Int) := of_decide_eq_true (by first | (with_reducible assumption) | assumption)
       obtain ⟨ad259, e259, hx259_0⟩ := Kd.at_string (Kd.R_reads' HO_14.out).2.2 x16_1 p259 q259
       cases e259
       replace p259 := eq_true p259
       replace q259 := eq_true q259
       go_wp2_with (first | ((with_reducible refine gate_callee (f := 81) rfl ?_); refine goesM_ (some 23) Try.func81 #[.string (rdOf ByteArray.empty t253 x16_1), .int .i64 a1] ?_; (with_reducible refine (key_Shard.calls k1 (rdOf ByteArray.empty t253 x16_1) a1 t260 _ A11.out).mono ?_); rintro e w' ⟨rfl, ⟨nd, rfl⟩⟩; refine ⟨_, rfl, ?_⟩) | ((with_reducible refine gate_builtin (b := .append) (xs := #[.tmp 20, .tmp 24]) rfl ?_); at_builtin; refine Kd.R_append (Kd.int .i64) (w0 := w) w.heap.size rfl (.tmp 20) (.tmp 24) 41 3 (.int .i64 0) 8 rfl Try.underlying41 info3 rfl (by decide) (by omega) u4 x4_1 t260 [.int .i64 t260] (fun _ => True) (fun _ => False) rfl rfl ?aP (fun _ hk => hk.elim) ?aF ?aO ?aB ?aS ?aL ?_; (case aP => exact rfl); (case aB => exact (by repeat (with_reducible first | exact HB.out | apply ba_ | apply bn_ | apply bd_ | refine bs_ ?_ GE252.out))); (case aF => exact (fun _ _ => trivial)); (case aO => exact (by (with_reducible repeat (first | apply ra_ | apply rn_ | apply rd_)); exact HO_4.out)); (case aS => exact (below_size (by repeat (with_reducible first | exact HB.out | apply ba_ | apply bn_ | apply bd_ | refine bs_ ?_ GE252.out)))); (case aL => have := LMc12.out; omega); intro v262 w13 ho hb hg hat; rw [← Ny261.out] at ho; have n0_ := Aside0.mk (Kd.R_over' (by (with_reducible repeat (first | apply ra_ | apply rn_ | apply rd_)); exact HO_14.out) (Kd.R_typed (by (with_reducible repeat (first | apply ra_ | apply rn_ | apply rd_)); exact HO_4.out)) (by decide) hg); have n1_ := Aside0.mk (blk_grown (g := gb252) (o := .cells #[.int .i64 a0_0, .int .i64 a0_1, .slice A0_2 l0_2.length c0_2, .slice A0_3 l0_3.length c0_3] 30 (0, 0)) (by (with_reducible repeat (first | refine kn_ ?_ _ | refine kd_ ?_ | refine ka_ ?_ _)); exact BK252.out) hg (Kd.R_ne HO_4.out BK252.out (by decide))); have n2_ := Aside0.mk (hb); have n3_ := Aside0.mk (ho); clear HO_14; clear BK252; clear HB; clear HO_4; have HO_14 := n0_; have BK252 := n1_; have HB := n2_; have HO263 := n3_; clear n0_ n1_ n2_ n3_; clear ho hb hg hat))
       go_roundg k1
       case measure => have := HK1.out; omega
       case rel => exact ⟨(y261), (wrap64 (x16_1 + 1)), (by first | rfl | (simp; done) | (simp [*]; done)), H', ⟨by have := HK1.out; omega⟩, ⟨by (with_reducible repeat (first | apply ra_ | apply rn_ | apply rd_)); exact HO263.out⟩, ⟨by (with_reducible repeat (first | apply ra_ | apply rn_ | apply rd_)); exact HO_14.out⟩, ⟨by (with_reducible repeat (first | refine kn_ ?_ _ | refine kd_ ?_ | refine ka_ ?_ _)); exact BK252.out⟩, ⟨by repeat (with_reducible first | exact HB.out | apply ba_ | apply bn_ | apply bd_ | refine bs_ ?_ GE252.out)⟩⟩
      ·rw [if_neg c12] at H
       exact absurd H (by simp)
     ·rw [if_neg c10] at H
      exact absurd H (by simp)
    ·rw [if_neg c9] at H
     exact absurd H (by simp)
   ·rw [if_neg c8] at H
    have c8b0 : decide (x16_1 < (t253.length : Int)) = false := decide_eq_false c8
    clear c8
    replace H := Option.bind_eq_some_iff.mp H
    obtain ⟨t264, A140, H⟩ := H
    (try dsimp only at H)
    have A14 := Aside0.mk A140
    clear A140
    replace H := Option.bind_eq_some_iff.mp H
    obtain ⟨t265, A150, H⟩ := H
    (try dsimp only at H)
    have A15 := Aside0.mk A150
    clear A150
    obtain rfl := Option.some.inj H
    obtain ⟨Ao16, co16, eo16⟩ := Kd.R_slice HO_4.out
    subst eo16
    go_wp2_with (first | ((with_reducible refine gate_callee (f := 82) rfl ?_); refine goesM_ (some 28) Try.func82 #[.slice Ao16 x4_1.length co16] ?_; (with_reducible refine (slices_Sort_Lint_int.calls (fun k_ => some k_ = (.slice Ao16 x4_1.length co16 : Value).ownBlock) (.slice Ao16 x4_1.length co16) x4_1 t264 w _ ?side1 ?side2 A14.out).mono ?_); (case side1 => repeat (with_reducible first | exact HB.out | apply ba_ | apply bn_ | apply bd_ | refine bs_ ?_ GE252.out)); (case side2 => exact Kd.R_tight rfl HO_4.out); rintro e w17 ⟨rfl, hy0, hb, hkp⟩; refine ⟨_, rfl, ?_⟩; have n0_ := Aside0.mk (Kd.R_reok rfl hy0 (fun k_ e_ => HO_4.out.1 k_ e_)); have n1_ := Aside0.mk (Kd.R_mono (ok' := fun k_ => True) (Kd.R_keptB ((Kd.R_apart' HO_14.out (Kd.R_typed HO_4.out) (by decide))) hkp (fun k_ hk_ hs_ => (hk_.2) hs_)) (fun k_ hk_ => trivial)); have n2_ := Aside0.mk (blk_kept (by (with_reducible repeat (first | refine kn_ ?_ _ | refine kd_ ?_ | refine ka_ ?_ _)); exact BK252.out) hkp (fun hs_ => (fun e_ => (Kd.R_ne HO_4.out BK252.out (by decide)) e_) hs_)); have n3_ := Aside0.mk (hb); clear HO_4; clear HO_14; clear BK252; clear HB; have HO_4 := n0_; have HO_14 := n1_; have BK252 := n2_; have HB := n3_; clear n0_ n1_ n2_ n3_; clear hb hkp hy0) | ((with_reducible refine gate_callee (f := 83) rfl ?_); refine goesM_ (some 30) Try.func83 #[.slice Ao16 x4_1.length co16] ?_; (with_reducible refine (slices_Compact_Lint_int.calls (fun k_ => some k_ = (.slice Ao16 x4_1.length co16 : Value).ownBlock) (.slice Ao16 x4_1.length co16) t264 t265 w _ ?side1 ?side2 A15.out).mono ?_); (case side1 => repeat (with_reducible first | exact HB.out | apply ba_ | apply bn_ | apply bd_ | refine bs_ ?_ GE252.out)); (case side2 => exact Kd.R_tight rfl HO_4.out); rintro e w18 ⟨v266, rfl, ho0, hb, hkp⟩; refine ⟨_, rfl, ?_⟩; have n0_ := Aside0.mk (Kd.R_mono (ok' := fun k_ => True) (Kd.R_keptB ((Kd.R_apart' HO_14.out (Kd.R_typed HO_4.out) (by decide))) hkp (fun k_ hk_ hs_ => (hk_.2) hs_)) (fun k_ hk_ => trivial)); have n1_ := Aside0.mk (blk_kept (by (with_reducible repeat (first | refine kn_ ?_ _ | refine kd_ ?_ | refine ka_ ?_ _)); exact BK252.out) hkp (fun hs_ => (fun e_ => (Kd.R_ne HO_4.out BK252.out (by decide)) e_) hs_)); have n2_ := Aside0.mk (Kd.R_mono (ok' := fun k_ => True) ho0 (fun k_ hk_ => trivial)); have n3_ := Aside0.mk (hb); clear HO_14; clear BK252; clear HB; clear HO_4; have HO_14 := n0_; have BK252 := n1_; have HO267 := n2_; have HB := n3_; clear n0_ n1_ n2_ n3_; clear hb hkp ho0))
    go_ret
    exact ⟨_, by first | rfl | (simp [errW_none, errW_some] <;> rfl) | (simp [*, errW_none, errW_some] <;> rfl), by (with_reducible repeat (first | apply ra_ | apply rn_ | apply rd_)); exact HO267.out, by repeat (with_reducible first | exact HB.out | apply ba_ | apply bn_ | apply bd_ | refine bs_ ?_ GE252.out)⟩
def num_result.f (a0 : Int) (a1 : Int) (a2 : Bool) : Option (Int × Int × Bool) := if a2 = true then (some (a0, a1, true)) else (some (0, 0, false))
set_option maxHeartbeats 8000000 in
set_option maxRecDepth 100000 in
theorem num_result.calls (a0 : Int) (a1 : Int) (a2 : Bool) (r1 : Int) (r2 : Int) (r3 : Bool) (w : World) (h : num_result.f a0 a1 a2 = some (r1, r2, r3)) :
  Calls Try.prog 175 #[.int .i64 a0, .int .i64 a1, .bool a2] w fun e w' => e = .returned (.tuple #[.int .i64 r1, .int .i64 r2, .bool r3]) ∧ Drawn0 w w' := by
 have H : (if a2 = true then (some (a0, a1, true)) else (some (0, 0, false))) = some (r1, r2, r3) := h
 clear h
 by_cases c4 : a2 = true
 ·subst c4
  have H1 : (some (a0, a1, true)) = some (r1, r2, r3) := by rw [if_pos rfl] at H; exact H
  clear H
  have H := H1
  clear H1
  simp only [Option.some.injEq, Prod.mk.injEq] at H
  obtain ⟨rfl, rfl, rfl⟩ := H
  go_enter Try.func175, Try.ntmps175
  go_wp2
  go_ret3
  exact ⟨by first | rfl | (simp; done) | (simp [*]; done), by repeat (first | exact Drawn0.refl _ | apply Drawn0.step)⟩
 ·replace c4 := Bool.eq_false_iff.mpr c4
  subst c4
  have H1 : (some (0, 0, false)) = some (r1, r2, r3) := by rw [if_neg (show ¬ (false = true) by decide)] at H; exact H
  clear H
  have H := H1
  clear H1
  simp only [Option.some.injEq, Prod.mk.injEq] at H
  obtain ⟨rfl, rfl, rfl⟩ := H
  go_enter Try.func175, Try.ntmps175
  go_wp2
  go_ret3
  exact ⟨by first | rfl | (simp; done) | (simp [*]; done), by repeat (first | exact Drawn0.refl _ | apply Drawn0.step)⟩
def num_Take.l0 : Nat → Int → List Int → Int → Int → Option (Int × Int × Bool)
 | 0, _, _, _, _ => none
 | k + 1, x2, x11, x12, x13 => if x13 < x12 then (if 0 ≤ x13 then (if x13 < (x11.length : Int) then (if 0 ≤ (wrap64 (7 * x13)) then (if (Go.bits .and .u8 (rd x11 x13) 128) = 0 then (if x13 = 0 then ((num_result.f (Go.bits .or .i64 x2 (shl .i64 (wrap64 (Go.bits .and .u8 (rd x11 x13) 127)) (wrap64 (7 * x13)))) (wrap64 (x13 + 1)) true).bind fun bt106 => (some (bt106.1, bt106.2.1, bt106.2.2))) else ((num_result.f (Go.bits .or .i64 x2 (shl .i64 (wrap64 (Go.bits .and .u8 (rd x11 x13) 127)) (wrap64 (7 * x13)))) (wrap64 (x13 + 1)) (decide ((rd x11 x13) > 0))).bind fun bt109 => (some (bt109.1, bt109.2.1, bt109.2.2)))) else (num_Take.l0 k (Go.bits .or .i64 x2 (shl .i64 (wrap64 (Go.bits .and .u8 (rd x11 x13) 127)) (wrap64 (7 * x13)))) x11 x12 (wrap64 (x13 + 1)))) else (none)) else (none)) else (none)) else (some (0, 0, false))
def num_Take.f (k : Nat) (l0 : List Int) : Option (Int × Int × Bool) := if 0 ≤ (mn (l0.length : Int) 9) then (if (mn (l0.length : Int) 9) ≤ (l0.length : Int) then ((some (l0.take ((mn (l0.length : Int) 9) : Int).toNat : List Int)).bind fun y101 => (num_Take.l0 k 0 y101 (y101.length : Int) 0)) else (none)) else (none)
theorem num_Take.mono_l : ∀ k, (∀ y0 y1 y2 y3, LeO (num_Take.l0 k y0 y1 y2 y3) (num_Take.l0 (k + 1) y0 y1 y2 y3))
 | 0 => fun _ _ _ _ r h => by simp [num_Take.l0] at h
 | k + 1 => by
  have ih0 := num_Take.mono_l k
  ·intro y0 y1 y2 y3
   unfold num_Take.l0
   repeat' first
   | (with_reducible exact ih0 _ _ _ _)
   | (with_reducible exact LeO.refl _)
   | (with_reducible exact LeO.none _)
   | (with_reducible refine LeO.ite ?_ ?_)
   | (with_reducible refine LeO.bind ?_ (fun _ => ?_))
theorem num_Take.mono : ∀ a0 k, LeO (num_Take.f k a0) (num_Take.f (k + 1) a0) := by
 intro a0 k
 have ih0 := num_Take.mono_l k
 unfold num_Take.f
 repeat' first
   | (with_reducible exact ih0 _ _ _ _)
   | (with_reducible exact LeO.refl _)
   | (with_reducible exact LeO.none _)
   | (with_reducible refine LeO.ite ?_ ?_)
   | (with_reducible refine LeO.bind ?_ (fun _ => ?_))
set_option maxHeartbeats 8000000 in
set_option maxRecDepth 100000 in
theorem num_Take.calls (k : Nat) (A0 : Option Addr) (c0 : Nat) (l0 : List Int) (r1 : Int) (r2 : Int) (r3 : Bool) (w : World) (hr0 : Kd.C (Kd.int .u8) w A0 l0.length l0) (hc0 : l0.length ≤ c0) (h : num_Take.f k l0 = some (r1, r2, r3)) :
  Calls Try.prog 154 #[.slice A0 l0.length c0] w fun e w' => e = .returned (.tuple #[.int .i64 r1, .int .i64 r2, .bool r3]) ∧ Below w.heap.size w w' := by
 have HR0 := Aside0.mk hr0
 have HC0 := Aside0.mk hc0
 clear hr0 hc0
 have HB := Aside0.mk (Below.refl w.heap.size w)
 have H : (if 0 ≤ (mn (l0.length : Int) 9) then (if (mn (l0.length : Int) 9) ≤ (l0.length : Int) then ((some (l0.take ((mn (l0.length : Int) 9) : Int).toNat : List Int)).bind fun y101 => (num_Take.l0 k 0 y101 (y101.length : Int) 0)) else (none)) else (none)) = some (r1, r2, r3) := h
 clear h
 obtain ⟨ji2, hji2⟩ : ∃ j_ : Int, (mn (l0.length : Int) 9) = j_ := ⟨_, rfl⟩
 replace H : (if 0 ≤ (ji2) then (if (ji2) ≤ (l0.length : Int) then ((some (l0.take ((ji2) : Int).toNat : List Int)).bind fun y101 => (num_Take.l0 k 0 y101 (y101.length : Int) 0)) else (none)) else (none)) = some (r1, r2, r3) := by first | (rw [hji2] at H; exact H) | (simp only [hji2] at H ⊢; exact H)
 (try (have hji2h : ji2 ≤ 9 := by (rw [← hji2]; unfold mn; (repeat' split) <;> omega)))
 (try (have hji2g : ji2 ≤ 64 := by omega))
 (try (have hji2l : 0 ≤ ji2 := by (rw [← hji2]; unfold mn; (repeat' split) <;> omega)))
 (try (have hji2m : 0 ≤ ji2 := by omega))
 have hji2_ : (if 9 < (l0.length : Int) then 9 else (l0.length : Int)) = ji2 := hji2
 by_cases c3 : 0 ≤ (ji2)
 ·rw [if_pos c3] at H
  have c3b0 := eq_true c3
  have c3b1 : decide (0 ≤ (ji2)) = true := decide_eq_true c3
  clear c3
  by_cases c4 : (ji2) ≤ (l0.length : Int)
  ·rw [if_pos c4] at H
   have c4b0 := eq_true c4
   have c4b1 : decide ((ji2) ≤ (l0.length : Int)) = true := decide_eq_true c4
   clear c4
   obtain ⟨y101, hy101⟩ : ∃ y_ : List Int, y_ = (l0.take ((ji2) : Int).toNat) := ⟨_, rfl⟩
   replace H : (num_Take.l0 k 0 y101 (y101.length : Int) 0) = some (r1, r2, r3) := by first | (rw [hy101]; with_reducible exact H) | (have H2_ := (Option.bind_some _ _).symm.trans H; rw [hy101]; with_reducible exact H2_) | (have H2_ := (Option.bind_some _ _).symm.trans H; with_reducible exact H2_) | with_reducible exact H | (rw [hy101]; exact H) | exact H
   have Ny101 := Aside0.mk hy101
   clear hy101
   have H' := Aside0.mk H
   clear H
   have q5 : ((ji2) : Int) ≤ ((l0.length : Int) : Int) := of_decide_eq_true (by first | (with_reducible assumption) | assumption)
   obtain ⟨i05, hi05, _, hsz5, _⟩ := info_parts info5
   have hroom5 : l0.length ≤ c0 := HC0.out
   have hC5 : Kd.C (Kd.int .u8) _ A0 l0.length l0 := HR0.out
   have hcut5 := cut_to (P := Try.prog) 33 5 .i64 Try.underlying33 hi05 A0 l0.length c0 (ji2) (of_decide_eq_true (by first | (with_reducible assumption) | assumption)) q5 hroom5
   have hr5 := Kd.C_take (m := ((ji2) : Int).toNat) hC5 (by omega)
   have hy5 : y101.length = ((ji2) : Int).toNat := (by rw [Ny101.out, List.length_take]; omega)
   rw [← Ny101.out] at hr5
   rw [← hy5] at hcut5
   have HR104 := Aside0.mk hr5
   have HC104 := Aside0.mk (show y101.length ≤ c0 from by omega)
   clear hr5 hC5 hroom5 hi05 hsz5
   have KY5 := Aside0.mk hy5
   clear hy5
   replace q5 := eq_true q5
   go_enter Try.func154, Try.ntmps154
   go_wp2
   go_loopg [2, 13] k (fun kq v2 v13 w' => ∃ (x2_1 : Int) (x13_1 : Int), v2 = .int .i64 x2_1 ∧ v13 = .int .i64 x13_1 ∧ Aside0 (num_Take.l0 kq x2_1 y101 (y101.length : Int) x13_1 = some (r1, r2, r3)) ∧ Aside0 (kq ≤ k) ∧ Aside0 (Below w.heap.size w w'))
   case atStart => exact ⟨(0), (0), (by first | rfl | (simp; done) | (simp [*]; done)), (by first | rfl | (simp; done) | (simp [*]; done)), H', ⟨Nat.le_refl _⟩, ⟨by repeat (with_reducible first | exact HB.out | apply ba_ | apply bn_ | apply bd_)⟩⟩
   case round =>
    clear H'
    try clear c1
    try clear p2
    try clear c3
    try clear c3b0
    try clear c3b1
    try clear c4
    try clear c4b0
    try clear c4b1
    try clear q5
    try clear q5
    obtain ⟨x2_1, x13_1, rfl, rfl, HA, HK1, HB⟩ := hrel
    cases gk with
    | zero => exact absurd HA.out (by simp [num_Take.l0])
    | succ k1 =>
     have H := HA.out
     clear HA
     simp only [num_Take.l0] at H
     by_cases c6 : x13_1 < (y101.length : Int)
     ·rw [if_pos c6] at H
      have c6b0 : decide (x13_1 < (y101.length : Int)) = true := decide_eq_true c6
      clear c6
      by_cases c7 : 0 ≤ x13_1
      ·rw [if_pos c7] at H
       have c7b0 : decide (0 ≤ x13_1) = true := decide_eq_true c7
       clear c7
       by_cases c8 : x13_1 < (y101.length : Int)
       ·rw [if_pos c8] at H
        have c8b0 : decide (x13_1 < (y101.length : Int)) = true := decide_eq_true c8
        clear c8
        obtain ⟨ji9, hji9⟩ : ∃ j_ : Int, (wrap64 (7 * x13_1)) = j_ := ⟨_, rfl⟩
        replace H : (if 0 ≤ (ji9) then (if (Go.bits .and .u8 (rd y101 x13_1) 128) = 0 then (if x13_1 = 0 then ((num_result.f (Go.bits .or .i64 x2_1 (shl .i64 (wrap64 (Go.bits .and .u8 (rd y101 x13_1) 127)) (ji9))) (wrap64 (x13_1 + 1)) true).bind fun bt106 => (some (bt106.1, bt106.2.1, bt106.2.2))) else ((num_result.f (Go.bits .or .i64 x2_1 (shl .i64 (wrap64 (Go.bits .and .u8 (rd y101 x13_1) 127)) (ji9))) (wrap64 (x13_1 + 1)) (decide ((rd y101 x13_1) > 0))).bind fun bt109 => (some (bt109.1, bt109.2.1, bt109.2.2)))) else (num_Take.l0 k1 (Go.bits .or .i64 x2_1 (shl .i64 (wrap64 (Go.bits .and .u8 (rd y101 x13_1) 127)) (ji9))) y101 (y101.length : Int) (wrap64 (x13_1 + 1)))) else (none)) = some (r1, r2, r3) := by first | (rw [hji9] at H; exact H) | (simp only [hji9] at H ⊢; exact H)
        have hji9w : (IntKind.i64.wrap (7 * x13_1)) = ji9 := (i64_w _).trans hji9
        by_cases c10 : 0 ≤ (ji9)
        ·rw [if_pos c10] at H
         have c10b0 := eq_true c10
         have c10b1 : decide (0 ≤ (ji9)) = true := decide_eq_true c10
         clear c10
         obtain ⟨ji11, hji11⟩ : ∃ j_ : Int, (shl .i64 (wrap64 (Go.bits .and .u8 (rd y101 x13_1) 127)) (ji9)) = j_ := ⟨_, rfl⟩
         replace H : (if (Go.bits .and .u8 (rd y101 x13_1) 128) = 0 then (if x13_1 = 0 then ((num_result.f (Go.bits .or .i64 x2_1 (ji11)) (wrap64 (x13_1 + 1)) true).bind fun bt106 => (some (bt106.1, bt106.2.1, bt106.2.2))) else ((num_result.f (Go.bits .or .i64 x2_1 (ji11)) (wrap64 (x13_1 + 1)) (decide ((rd y101 x13_1) > 0))).bind fun bt109 => (some (bt109.1, bt109.2.1, bt109.2.2)))) else (num_Take.l0 k1 (Go.bits .or .i64 x2_1 (ji11)) y101 (y101.length : Int) (wrap64 (x13_1 + 1)))) = some (r1, r2, r3) := by first | (rw [hji11] at H; exact H) | (simp only [hji11] at H ⊢; exact H)
         have hji11_ : (IntKind.i64.wrap ((wrap64 (Go.bits .and .u8 (rd y101 x13_1) 127)) * 2 ^ min (ji9).toNat 64)) = ji11 := hji11
         have hji11z : (ji9) ≤ 64 → (IntKind.i64.wrap ((wrap64 (Go.bits .and .u8 (rd y101 x13_1) 127)) * 2 ^ (ji9).toNat)) = ji11 := shl_small hji11
         have hji11y : (wrap64 ((wrap64 (Go.bits .and .u8 (rd y101 x13_1) 127)) * 2 ^ min (ji9).toNat 64)) = ji11 := (i64_w _).symm.trans hji11_
         have hji11x : (ji9) ≤ 64 → (wrap64 ((wrap64 (Go.bits .and .u8 (rd y101 x13_1) 127)) * 2 ^ (ji9).toNat)) = ji11 := fun h_ => (i64_w _).symm.trans (hji11z h_)
         by_cases c12 : (Go.bits .and .u8 (rd y101 x13_1) 128) = 0
         ·rw [if_pos c12] at H
          have c12b0 : ((Go.bits .and .u8 (rd y101 x13_1) 128) == 0) = true := beq_iff_eq.mpr c12
          have c12b1 : ((Go.bits .and .u8 (rd y101 x13_1) 128) != 0) = false := bne_eq_false_iff_eq.mpr c12
          clear c12
          by_cases c13 : x13_1 = 0
          ·rw [if_pos c13] at H
           have c13b0 : (x13_1 == 0) = true := beq_iff_eq.mpr c13
           have c13b1 : (x13_1 != 0) = false := bne_eq_false_iff_eq.mpr c13
           clear c13
           replace H := Option.bind_eq_some_iff.mp H
           obtain ⟨⟨t106, t107, t108⟩, A140, H⟩ := H
           (try dsimp only at H)
           have A14 := Aside0.mk A140
           clear A140
           simp only [Option.some.injEq, Prod.mk.injEq] at H
           obtain ⟨rfl, rfl, rfl⟩ := H
           have p105 : 0 ≤ (x13_1 : Int) := of_decide_eq_true (by first | (with_reducible assumption) | assumption)
           have q105 : x13_1 < (y101.length : Int) := of_decide_eq_true (by first | (with_reducible assumption) | assumption)
           obtain ⟨ad105, e105, hx105_0⟩ := Kd.at_int HR104.out x13_1 p105 q105
           cases e105
           replace hx105_0 := (HB.out.cell (World.block_lt_of_cell? w _ hx105_0)).trans hx105_0
           replace p105 := eq_true p105
           replace q105 := eq_true q105
           go_wp2_with (first | ((with_reducible refine gate_callee (f := 175) rfl ?_); refine goesL_ (some 38) rfl rfl Try.func175 (by kernel_rfl) rfl #[.int .i64 (Go.bits .or .i64 x2_1 (ji11)), .int .i64 (wrap64 (x13_1 + 1)), .bool true] rfl (by (try simp only [List.map_toArray, List.map_cons, List.map_nil]); first | done | (simp only [hji11]; rfl) | rfl | (simp only [List.length_drop, List.length_take]; rfl)) ?_; (with_reducible refine (num_result.calls (Go.bits .or .i64 x2_1 (ji11)) (wrap64 (x13_1 + 1)) true t106 t107 t108 _ A14.out).mono ?_); rintro e w' ⟨rfl, ⟨nd, rfl⟩⟩; refine ⟨_, rfl, ?_⟩))
           go_ret3
           exact ⟨by first | rfl | (simp [errW_none, errW_some] <;> rfl) | (simp only [← hji2, ← hji9, ← hji11]; first | rfl | (simp [errW_none, errW_some] <;> rfl)) | (simp [*, errW_none, errW_some] <;> rfl), by repeat (with_reducible first | exact HB.out | apply ba_ | apply bn_ | apply bd_)⟩
          ·rw [if_neg c13] at H
           have c13b0 : (x13_1 == 0) = false := beq_eq_false_iff_ne.mpr c13
           have c13b1 : (x13_1 != 0) = true := bne_iff_ne.mpr c13
           replace H := Option.bind_eq_some_iff.mp H
           obtain ⟨⟨t109, t110, t111⟩, A150, H⟩ := H
           (try dsimp only at H)
           have A15 := Aside0.mk A150
           clear A150
           simp only [Option.some.injEq, Prod.mk.injEq] at H
           obtain ⟨rfl, rfl, rfl⟩ := H
           have p105 : 0 ≤ (x13_1 : Int) := of_decide_eq_true (by first | (with_reducible assumption) | assumption)
           have q105 : x13_1 < (y101.length : Int) := of_decide_eq_true (by first | (with_reducible assumption) | assumption)
           obtain ⟨ad105, e105, hx105_0⟩ := Kd.at_int HR104.out x13_1 p105 q105
           cases e105
           replace hx105_0 := (HB.out.cell (World.block_lt_of_cell? w _ hx105_0)).trans hx105_0
           replace p105 := eq_true p105
           replace q105 := eq_true q105
           go_wp2_with (first | ((with_reducible refine gate_callee (f := 175) rfl ?_); refine goesL_ (some 38) rfl rfl Try.func175 (by kernel_rfl) rfl #[.int .i64 (Go.bits .or .i64 x2_1 (ji11)), .int .i64 (wrap64 (x13_1 + 1)), .bool (decide ((rd y101 x13_1) > 0))] rfl (by (try simp only [List.map_toArray, List.map_cons, List.map_nil]); first | done | (simp only [hji11]; rfl) | rfl | (simp only [List.length_drop, List.length_take]; rfl)) ?_; (with_reducible refine (num_result.calls (Go.bits .or .i64 x2_1 (ji11)) (wrap64 (x13_1 + 1)) (decide ((rd y101 x13_1) > 0)) t109 t110 t111 _ A15.out).mono ?_); rintro e w' ⟨rfl, ⟨nd, rfl⟩⟩; refine ⟨_, rfl, ?_⟩))
           go_ret3
           exact ⟨by first | rfl | (simp [errW_none, errW_some] <;> rfl) | (simp only [← hji2, ← hji9, ← hji11]; first | rfl | (simp [errW_none, errW_some] <;> rfl)) | (simp [*, errW_none, errW_some] <;> rfl), by repeat (with_reducible first | exact HB.out | apply ba_ | apply bn_ | apply bd_)⟩
         ·rw [if_neg c12] at H
          have c12b0 : ((Go.bits .and .u8 (rd y101 x13_1) 128) == 0) = false := beq_eq_false_iff_ne.mpr c12
          have c12b1 : ((Go.bits .and .u8 (rd y101 x13_1) 128) != 0) = true := bne_iff_ne.mpr c12
          have H' := Aside0.mk H
          clear H
          have p105 : 0 ≤ (x13_1 : Int) := of_decide_eq_true (by first | (with_reducible assumption) | assumption)
          have q105 : x13_1 < (y101.length : Int) := of_decide_eq_true (by first | (with_reducible assumption) | assumption)
          obtain ⟨ad105, e105, hx105_0⟩ := Kd.at_int HR104.out x13_1 p105 q105
          cases e105
          replace hx105_0 := (HB.out.cell (World.block_lt_of_cell? w _ hx105_0)).trans hx105_0
          replace p105 := eq_true p105
          replace q105 := eq_true q105
          go_wp2
          go_roundg k1
          case measure => have := HK1.out; omega
          case rel => exact ⟨(Go.bits .or .i64 x2_1 (ji11)), (wrap64 (x13_1 + 1)), (by first | rfl | (simp; done) | (simp only [← hji11] <;> (first | rfl | simp)) | (simp [*]; done)), (by first | rfl | (simp; done) | (simp [*]; done)), H', ⟨by have := HK1.out; omega⟩, ⟨by repeat (with_reducible first | exact HB.out | apply ba_ | apply bn_ | apply bd_)⟩⟩
        ·rw [if_neg c10] at H
         exact absurd H (by simp)
       ·rw [if_neg c8] at H
        exact absurd H (by simp)
      ·rw [if_neg c7] at H
       exact absurd H (by simp)
     ·rw [if_neg c6] at H
      have c6b0 : decide (x13_1 < (y101.length : Int)) = false := decide_eq_false c6
      clear c6
      simp only [Option.some.injEq, Prod.mk.injEq] at H
      obtain ⟨rfl, rfl, rfl⟩ := H
      go_wp2
      go_ret3
      exact ⟨by first | rfl | (simp [errW_none, errW_some] <;> rfl) | (simp only [← hji2]; first | rfl | (simp [errW_none, errW_some] <;> rfl)) | (simp [*, errW_none, errW_some] <;> rfl), by repeat (with_reducible first | exact HB.out | apply ba_ | apply bn_ | apply bd_)⟩
  ·rw [if_neg c4] at H
   exact absurd H (by simp)
 ·rw [if_neg c3] at H
  exact absurd H (by simp)
def num_TakeText.f (k : Nat) (l0 : List Int) : Option (ByteArray × Int × Bool) := (num_Take.f k l0).bind fun bt112 => (if bt112.2.2 = true then (if bt112.1 > 255 then (some ((⟨#[]⟩ : ByteArray), 0, false)) else (if bt112.1 > (wrap64 ((l0.length : Int) - bt112.2.1)) then (some ((⟨#[]⟩ : ByteArray), 0, false)) else (if 0 ≤ bt112.2.1 then (if bt112.2.1 ≤ (wrap64 (bt112.2.1 + bt112.1)) then (if (wrap64 (bt112.2.1 + bt112.1)) ≤ (l0.length : Int) then (some (strOfNums ((l0.take ((wrap64 (bt112.2.1 + bt112.1)) : Int).toNat).drop (bt112.2.1 : Int).toNat), wrap64 (bt112.2.1 + bt112.1), true)) else (none)) else (none)) else (none)))) else (some ((⟨#[]⟩ : ByteArray), 0, false)))
theorem num_TakeText.mono : ∀ a0 k, LeO (num_TakeText.f k a0) (num_TakeText.f (k + 1) a0) := by
 intro a0 k
 unfold num_TakeText.f
 repeat' first
   | (with_reducible exact num_Take.mono _ _)
   | (with_reducible exact LeO.refl _)
   | (with_reducible exact LeO.none _)
   | (with_reducible refine LeO.ite ?_ ?_)
   | (with_reducible refine LeO.bind ?_ (fun _ => ?_))
set_option maxHeartbeats 8000000 in
set_option maxRecDepth 100000 in
theorem num_TakeText.calls (k : Nat) (A0 : Option Addr) (c0 : Nat) (l0 : List Int) (r1 : ByteArray) (r2 : Int) (r3 : Bool) (w : World) (hr0 : Kd.C (Kd.int .u8) w A0 l0.length l0) (hc0 : l0.length ≤ c0) (h : num_TakeText.f k l0 = some (r1, r2, r3)) :
  Calls Try.prog 156 #[.slice A0 l0.length c0] w fun e w' => e = .returned (.tuple #[.string r1, .int .i64 r2, .bool r3]) ∧ Below w.heap.size w w' := by
 have HR0 := Aside0.mk hr0
 have HC0 := Aside0.mk hc0
 clear hr0 hc0
 have HB := Aside0.mk (Below.refl w.heap.size w)
 have H : ((num_Take.f k l0).bind fun bt112 => (if bt112.2.2 = true then (if bt112.1 > 255 then (some ((⟨#[]⟩ : ByteArray), 0, false)) else (if bt112.1 > (wrap64 ((l0.length : Int) - bt112.2.1)) then (some ((⟨#[]⟩ : ByteArray), 0, false)) else (if 0 ≤ bt112.2.1 then (if bt112.2.1 ≤ (wrap64 (bt112.2.1 + bt112.1)) then (if (wrap64 (bt112.2.1 + bt112.1)) ≤ (l0.length : Int) then (some (strOfNums ((l0.take ((wrap64 (bt112.2.1 + bt112.1)) : Int).toNat).drop (bt112.2.1 : Int).toNat), wrap64 (bt112.2.1 + bt112.1), true)) else (none)) else (none)) else (none)))) else (some ((⟨#[]⟩ : ByteArray), 0, false)))) = some (r1, r2, r3) := h
 clear h
 replace H := Option.bind_eq_some_iff.mp H
 obtain ⟨⟨t112, t113, t114⟩, A20, H⟩ := H
 (try dsimp only at H)
 have A2 := Aside0.mk A20
 clear A20
 by_cases c3 : t114 = true
 ·subst c3
  have H1 : (if t112 > 255 then (some ((⟨#[]⟩ : ByteArray), 0, false)) else (if t112 > (wrap64 ((l0.length : Int) - t113)) then (some ((⟨#[]⟩ : ByteArray), 0, false)) else (if 0 ≤ t113 then (if t113 ≤ (wrap64 (t113 + t112)) then (if (wrap64 (t113 + t112)) ≤ (l0.length : Int) then (some (strOfNums ((l0.take ((wrap64 (t113 + t112)) : Int).toNat).drop (t113 : Int).toNat), wrap64 (t113 + t112), true)) else (none)) else (none)) else (none)))) = some (r1, r2, r3) := by rw [if_pos rfl] at H; exact H
  clear H
  have H := H1
  clear H1
  by_cases c4 : t112 > 255
  ·rw [if_pos c4] at H
   have c4b0 : decide (255 < t112) = true := decide_eq_true c4
   clear c4
   simp only [Option.some.injEq, Prod.mk.injEq] at H
   obtain ⟨rfl, rfl, rfl⟩ := H
   go_enter Try.func156, Try.ntmps156
   go_wp2_with (first | ((with_reducible refine gate_callee (f := 154) rfl ?_); refine goesM_ (some 8) Try.func154 #[.slice A0 l0.length c0] ?_; (with_reducible refine (num_Take.calls k _ _ l0 t112 t113 true _ ?side1 ?side2 A2.out).mono ?_); (case side1 => repeat (first | exact HR0.out | (with_reducible refine ca_ ?_ _) | (with_reducible refine cn_ ?_ _) | (with_reducible refine cd_ ?_))); (case side2 => exact HC0.out); rintro e w5 ⟨rfl, hb⟩; refine ⟨_, rfl, ?_⟩; have n0_ := Aside0.mk (below_step (by repeat (with_reducible first | exact HB.out | apply ba_ | apply bn_ | apply bd_)) hb); clear HB; have HB := n0_; clear n0_; clear hb))
   go_ret3
   exact ⟨by first | rfl | (simp [errW_none, errW_some] <;> rfl) | (simp [*, errW_none, errW_some] <;> rfl), by repeat (with_reducible first | exact HB.out | apply ba_ | apply bn_ | apply bd_)⟩
  ·rw [if_neg c4] at H
   have c4b0 : decide (255 < t112) = false := decide_eq_false c4
   clear c4
   by_cases c6 : t112 > (wrap64 ((l0.length : Int) - t113))
   ·rw [if_pos c6] at H
    have c6b0 : decide ((wrap64 ((l0.length : Int) - t113)) < t112) = true := decide_eq_true c6
    clear c6
    simp only [Option.some.injEq, Prod.mk.injEq] at H
    obtain ⟨rfl, rfl, rfl⟩ := H
    go_enter Try.func156, Try.ntmps156
    go_wp2_with (first | ((with_reducible refine gate_callee (f := 154) rfl ?_); refine goesM_ (some 8) Try.func154 #[.slice A0 l0.length c0] ?_; (with_reducible refine (num_Take.calls k _ _ l0 t112 t113 true _ ?side1 ?side2 A2.out).mono ?_); (case side1 => repeat (first | exact HR0.out | (with_reducible refine ca_ ?_ _) | (with_reducible refine cn_ ?_ _) | (with_reducible refine cd_ ?_))); (case side2 => exact HC0.out); rintro e w7 ⟨rfl, hb⟩; refine ⟨_, rfl, ?_⟩; have n0_ := Aside0.mk (below_step (by repeat (with_reducible first | exact HB.out | apply ba_ | apply bn_ | apply bd_)) hb); clear HB; have HB := n0_; clear n0_; clear hb))
    go_ret3
    exact ⟨by first | rfl | (simp [errW_none, errW_some] <;> rfl) | (simp [*, errW_none, errW_some] <;> rfl), by repeat (with_reducible first | exact HB.out | apply ba_ | apply bn_ | apply bd_)⟩
   ·rw [if_neg c6] at H
    have c6b0 : decide ((wrap64 ((l0.length : Int) - t113)) < t112) = false := decide_eq_false c6
    clear c6
    by_cases c8 : 0 ≤ t113
    ·rw [if_pos c8] at H
     have c8b0 := eq_true c8
     have c8b1 : decide (0 ≤ t113) = true := decide_eq_true c8
     clear c8
     by_cases c9 : t113 ≤ (wrap64 (t113 + t112))
     ·rw [if_pos c9] at H
      have c9b0 := eq_true c9
      have c9b1 : decide (t113 ≤ (wrap64 (t113 + t112))) = true := decide_eq_true c9
      by_cases c10 : (wrap64 (t113 + t112)) ≤ (l0.length : Int)
      ·rw [if_pos c10] at H
       have c10b0 := eq_true c10
       have c10b1 : decide ((wrap64 (t113 + t112)) ≤ (l0.length : Int)) = true := decide_eq_true c10
       obtain ⟨y115, hy115⟩ : ∃ y_ : List Int, y_ = ((l0.take ((wrap64 (t113 + t112)) : Int).toNat).drop (t113 : Int).toNat) := ⟨_, rfl⟩
       replace H : (some (strOfNums y115, wrap64 (t113 + t112), true)) = some (r1, r2, r3) := by first | (rw [hy115]; with_reducible exact H) | (have H2_ := (Option.bind_some _ _).symm.trans H; rw [hy115]; with_reducible exact H2_) | (have H2_ := (Option.bind_some _ _).symm.trans H; with_reducible exact H2_) | with_reducible exact H | (rw [hy115]; exact H) | exact H
       have Ny115 := Aside0.mk hy115
       clear hy115
       simp only [Option.some.injEq, Prod.mk.injEq] at H
       obtain ⟨rfl, rfl, rfl⟩ := H
       go_enter Try.func156, Try.ntmps156
       go_wp2_with (first | ((with_reducible refine gate_callee (f := 154) rfl ?_); refine goesM_ (some 8) Try.func154 #[.slice A0 l0.length c0] ?_; (with_reducible refine (num_Take.calls k _ _ l0 t112 t113 true _ ?side1 ?side2 A2.out).mono ?_); (case side1 => repeat (first | exact HR0.out | (with_reducible refine ca_ ?_ _) | (with_reducible refine cn_ ?_ _) | (with_reducible refine cd_ ?_))); (case side2 => exact HC0.out); rintro e w11 ⟨rfl, hb⟩; refine ⟨_, rfl, ?_⟩; have n0_ := Aside0.mk (below_step (by repeat (with_reducible first | exact HB.out | apply ba_ | apply bn_ | apply bd_)) hb); clear HB; have HB := n0_; clear n0_; clear hb; have q12 : ((wrap64 (t113 + t112)) : Int) ≤ ((l0.length : Int) : Int) := of_decide_eq_true (by first | (with_reducible assumption) | assumption); obtain ⟨i012, hi012, _, hsz12, _⟩ := info_parts info5; have hroom12 : l0.length ≤ c0 := HC0.out; have hC12 : Kd.C (Kd.int .u8) _ A0 l0.length l0 := HR0.out; have ql12 : (t113 : Int) ≤ ((wrap64 (t113 + t112)) : Int) := of_decide_eq_true (by first | (with_reducible assumption) | assumption); have q012 : (0 : Int) ≤ (t113 : Int) := of_decide_eq_true (by first | (with_reducible assumption) | assumption); have hcut12 := cut_mid (P := Try.prog) 33 5 .i64 .i64 Try.underlying33 hi012 1 hsz12 A0 l0.length c0 t113 (wrap64 (t113 + t112)) q012 ql12 q12 hroom12; have hr12 := Kd.C_mid (lo := (t113 : Int).toNat) (hi := ((wrap64 (t113 + t112)) : Int).toNat) (c := c0) hC12 (by omega) (by omega) hroom12; obtain ⟨A12, hA12⟩ : ∃ A1, A1 = (if c0 = (t113 : Int).toNat then A0 else (A0 : Option Addr).map (·.add ((t113 : Int).toNat * 1))) := ⟨_, rfl⟩; obtain ⟨c12, hc12⟩ : ∃ c1, c1 = c0 - (t113 : Int).toNat := ⟨_, rfl⟩; have hy12 : y115.length = ((wrap64 (t113 + t112)) : Int).toNat - (t113 : Int).toNat := (by rw [Ny115.out, List.length_drop, List.length_take] <;> omega); rw [show ((l0).take ((wrap64 (t113 + t112)) : Int).toNat).drop (t113 : Int).toNat = y115 from Ny115.out.symm] at hr12; replace hr12 : Kd.C (Kd.int .u8) _ A12 y115.length y115 := (by rw [hA12]; exact hr12); rw [← hy12, ← hA12, ← hc12] at hcut12; have HR118 := Aside0.mk hr12; have HC118 := Aside0.mk (show y115.length ≤ c12 from by rw [hy12, hc12]; exact Nat.sub_le_sub_right (Nat.le_trans (by omega) hroom12) _); clear hr12 hC12 hroom12 hi012 hsz12 hc12; have KY12 := Aside0.mk hy12; have KA12 := Aside0.mk hA12; clear hy12 hA12; replace q12 := eq_true q12; have hcv13 := Kd.C_string (P := Try.prog) (A := A12) (c := c12) Try.underlying33 Try.underlying5 Try.underlying9 (Kd.C_below HR118.out HB.out)))
       go_ret3
       exact ⟨by first | rfl | (simp [errW_none, errW_some] <;> rfl) | (simp [*, errW_none, errW_some] <;> rfl), by repeat (with_reducible first | exact HB.out | apply ba_ | apply bn_ | apply bd_)⟩
      ·rw [if_neg c10] at H
       exact absurd H (by simp)
     ·rw [if_neg c9] at H
      exact absurd H (by simp)
    ·rw [if_neg c8] at H
     exact absurd H (by simp)
 ·replace c3 := Bool.eq_false_iff.mpr c3
  subst c3
  have H1 : (some ((⟨#[]⟩ : ByteArray), 0, false)) = some (r1, r2, r3) := by rw [if_neg (show ¬ (false = true) by decide)] at H; exact H
  clear H
  have H := H1
  clear H1
  simp only [Option.some.injEq, Prod.mk.injEq] at H
  obtain ⟨rfl, rfl, rfl⟩ := H
  go_enter Try.func156, Try.ntmps156
  go_wp2_with (first | ((with_reducible refine gate_callee (f := 154) rfl ?_); refine goesM_ (some 8) Try.func154 #[.slice A0 l0.length c0] ?_; (with_reducible refine (num_Take.calls k _ _ l0 t112 t113 false _ ?side1 ?side2 A2.out).mono ?_); (case side1 => repeat (first | exact HR0.out | (with_reducible refine ca_ ?_ _) | (with_reducible refine cn_ ?_ _) | (with_reducible refine cd_ ?_))); (case side2 => exact HC0.out); rintro e w14 ⟨rfl, hb⟩; refine ⟨_, rfl, ?_⟩; have n0_ := Aside0.mk (below_step (by repeat (with_reducible first | exact HB.out | apply ba_ | apply bn_ | apply bd_)) hb); clear HB; have HB := n0_; clear n0_; clear hb))
  go_ret3
  exact ⟨by first | rfl | (simp [errW_none, errW_some] <;> rfl) | (simp [*, errW_none, errW_some] <;> rfl), by repeat (with_reducible first | exact HB.out | apply ba_ | apply bn_ | apply bd_)⟩
end Go.Proofs.Ytnlfhbohcgjcbaa.PA
namespace Go.Proofs.Ytnlfhbohcgjcbaa.PA
open Go.RowKit Go.Proofs.YtnlfhbohcgjcbaaW.PrintWords Go.Proofs.YtnlfhbohcgjcbaaW.PrintLast Go.Proofs.YtnlfhbohcgjcbaaW.PrintMore
set_option linter.unusedVariables false
set_option linter.unusedSimpArgs false
/-- The reader at block g: bytes, how far, whether there was too little. -/
def Rd (W : World) (g : Nat) (A0 : Option Addr) (c0 : Nat) (f0 : List Int) (f1 : Int) (f2 : Bool) : Prop := W.heap[g]? = some (.cells #[.slice A0 f0.length c0, .int .i64 f1, .bool f2] 177 (0, 0))
theorem Rd.c0 {W : World} {g : Nat} {A0 : Option Addr} {c0 : Nat} {f0 : List Int} {f1 : Int} {f2 : Bool} (h : Rd W g A0 c0 f0 f1 f2) : W.cell? ⟨g, 0, none⟩ = some (.slice A0 f0.length c0) := (blk_cell h 0).trans rfl
theorem Rd.c1 {W : World} {g : Nat} {A0 : Option Addr} {c0 : Nat} {f0 : List Int} {f1 : Int} {f2 : Bool} (h : Rd W g A0 c0 f0 f1 f2) : W.cell? ⟨g, 1, none⟩ = some (.int .i64 f1) := (blk_cell h 1).trans rfl
theorem Rd.c2 {W : World} {g : Nat} {A0 : Option Addr} {c0 : Nat} {f0 : List Int} {f1 : Int} {f2 : Bool} (h : Rd W g A0 c0 f0 f1 f2) : W.cell? ⟨g, 2, none⟩ = some (.bool f2) := (blk_cell h 2).trans rfl
theorem Rd.set_1 {W : World} {g : Nat} {A0 : Option Addr} {c0 : Nat} {f0 : List Int} {f1 : Int} {f2 : Bool} (h : Rd W g A0 c0 f0 f1 f2) (x : Int) : Rd (W.setCell ⟨g, 1, none⟩ (.int .i64 x)) g A0 c0 f0 x f2 := by
 unfold Rd at h ⊢
 simpa using blk_set h 1 (.int .i64 x)
theorem Rd.set_2 {W : World} {g : Nat} {A0 : Option Addr} {c0 : Nat} {f0 : List Int} {f1 : Int} {f2 : Bool} (h : Rd W g A0 c0 f0 f1 f2) (x : Bool) : Rd (W.setCell ⟨g, 2, none⟩ (.bool x)) g A0 c0 f0 f1 x := by
 unfold Rd at h ⊢
 simpa using blk_set h 2 (.bool x)
theorem Rd.below {W W1 : World} {g : Nat} {A0 : Option Addr} {c0 : Nat} {f0 : List Int} {f1 : Int} {f2 : Bool} (h : Rd W g A0 c0 f0 f1 f2) (hw : Below W.heap.size W W1) : Rd W1 g A0 c0 f0 f1 f2 := blk_grown h (grown_of_below hw none) (by simp)
theorem Rd.drew {W : World} {g : Nat} {A0 : Option Addr} {c0 : Nat} {f0 : List Int} {f1 : Int} {f2 : Bool} (h : Rd W g A0 c0 f0 f1 f2) : Rd W.drew g A0 c0 f0 f1 f2 := h
theorem Rd.drewN {W : World} {g : Nat} {A0 : Option Addr} {c0 : Nat} {f0 : List Int} {f1 : Int} {f2 : Bool} (h : Rd W g A0 c0 f0 f1 f2) (m : Nat) : Rd (W.drewN m) g A0 c0 f0 f1 f2 := h
set_option maxHeartbeats 2000000 in
set_option maxRecDepth 100000 in
theorem goes_calls (g : Nat) (A0 : Option Addr) (c0 : Nat) (l : List Int) (n : Int) (bad : Bool) (a1 : Int) (a2 : Bool) (w0 w : World) (hI : Rd w g A0 c0 l n bad) (hg : w0.heap.size ≤ g) (hB : Below w0.heap.size w0 w) :
  Calls Try.prog 155 #[.pointer (some ⟨g, 0, none⟩), .int .i64 a1, .bool a2] w fun e w' => e = .returned (.tuple #[]) ∧ Rd w' g A0 c0 l (wrap64 (n + a1)) (bad || !a2) ∧ Below w0.heap.size w0 w' ∧ KeepBut w w' g none := by
 have HI0 := Aside0.mk hI
 have HK := Aside0.mk (KeepBut.refl w g none)
 have HB := Aside0.mk hB
 have hc1 := hI.c1
 have hc2 := hI.c2
 have hf1 := blk_frozen hI 1
 have hf2 := blk_frozen hI 2
 clear hB hI
 cases bad
 all_goals
  go_enter Try.func155, Try.ntmps155
  go_wp2
  first | go_end0 | ((try simp only [Exit.inBlock, Exit.then]); refine bodyPost_ret (results_none rfl _ _ _) rfl ?_)
  exact ⟨rfl, by first | exact (HI0.out.set_2 (!a2)).set_1 _ | exact (HI0.out.set_2 true).set_1 _, by repeat (first | (with_reducible first | exact HB.out | apply below_alloc | apply pw_below_drewN | apply below_drew1 | refine below_set ?_ hg) | exact HB.out), by repeat (first | (with_reducible first | exact HK.out | apply KeepBut.set_ | apply keep_drewN | apply keep_drew | apply keep_alloc) | exact HK.out)⟩
def reader_num.f (k : Nat) (l : List Int) (n : Int) (bad : Bool) : Option (Int × Int × Bool) :=
 if 0 ≤ n ∧ n ≤ (l.length : Int) then (num_Take.f k (l.drop n.toNat)).bind fun p => some (p.1, wrap64 (n + p.2.1), bad || !p.2.2) else none
def reader_text.f (k : Nat) (l : List Int) (n : Int) (bad : Bool) : Option (ByteArray × Int × Bool) :=
 if 0 ≤ n ∧ n ≤ (l.length : Int) then (num_TakeText.f k (l.drop n.toNat)).bind fun p => some (p.1, wrap64 (n + p.2.1), bad || !p.2.2) else none
set_option maxHeartbeats 4000000 in
set_option maxRecDepth 100000 in
theorem reader_num.calls (k : Nat) (g : Nat) (A0 : Option Addr) (c0 : Nat) (l : List Int) (n : Int) (bad : Bool) (r1 r2 : Int) (r3 : Bool) (w0 w : World) (hI : Rd w g A0 c0 l n bad) (hr0 : Kd.C (Kd.int .u8) w0 A0 l.length l) (hc0 : l.length ≤ c0) (hg : w0.heap.size ≤ g) (hB : Below w0.heap.size w0 w) (h : reader_num.f k l n bad = some (r1, r2, r3)) :
  Calls Try.prog 119 #[.pointer (some ⟨g, 0, none⟩)] w fun e w' => e = .returned (.int .i64 r1) ∧ Rd w' g A0 c0 l r2 r3 ∧ Below w0.heap.size w0 w' ∧ KeepBut w w' g none := by
 unfold reader_num.f at h
 by_cases hn : 0 ≤ n ∧ n ≤ (l.length : Int)
 ·rw [if_pos hn] at h
  obtain ⟨hn0, hn1⟩ := hn
  obtain ⟨⟨v, m, ok⟩, ht, h2⟩ := Option.bind_eq_some_iff.1 h
  simp only [Option.some.injEq, Prod.mk.injEq] at h2
  obtain ⟨rfl, rfl, rfl⟩ := h2
  clear h
  have hc1 := hI.c1
  have hc0' := hI.c0
  have HC := Aside0.mk (Kd.C_below hr0 hB)
  obtain ⟨i0, hi0, _, hsz, _⟩ := info_parts info5
  obtain ⟨A', hcut, hA, hcc⟩ := print_drop_of (P := Try.prog) (Value.int .u8) 0 33 5 .i64 Try.underlying33 hi0 hsz A0 c0 l n hn0 hn1 hc0
  have HR := Aside0.mk (Kd.C_of_reads (h1 := fun _ => rfl) (hA _ (Kd.reads_of_C HC.out)))
  obtain ⟨y, hy⟩ : ∃ y : List Int, l.drop n.toNat = y := ⟨_, rfl⟩
  rw [hy] at hcut HR ht hcc
  have HCC := Aside0.mk hcc
  have HR : Aside0 (Kd.C (Kd.int .u8) w A' y.length y) := ⟨HR.out⟩
  have HT := Aside0.mk (num_Take.calls k A' _ y v m ok w.drew (Kd.C_drew HR.out) hcc ht)
  have HB := Aside0.mk hB
  have HI := Aside0.mk hI
  clear hA hcc hi0 hsz hB hI ht hr0 hy hc0 HC
  go_enter Try.func119, Try.ntmps119
  go_wp2_with fail
  go_region_held3 (fun w' => w'.cell? ⟨g, 0, none⟩ = some (.slice A0 l.length c0) ∧ w'.cell? ⟨g, 1, none⟩ = some (.int .i64 n))
   (first | exact ⟨hc0', hc1⟩ | exact ⟨hc0'', hc1'⟩) (first | (go_at_call 154; (with_reducible refine HT.out.mono ?_); rintro e w1 ⟨rfl, hb⟩; have hc0'' := pw_cell_below hb hc0'; have hc1' := pw_cell_below hb hc1))
  have hb0 : Below w.heap.size w w1 := below_step (below_drew1 (Below.refl _ _)) hb
  have HG := Aside0.mk (goes_calls g A0 c0 l n bad m ok w0 w1 (HI.out.below hb0) hg (below_step HB.out hb0))
  clear HT hcut HI HR HCC hc0' hc1
  go_wp2_with fail
  refine HG.out.mono ?_
  rintro e w2 ⟨rfl, h1, h2, h3⟩
  go_wp2_with fail
  go_ret
  exact ⟨rfl, h1, h2, KeepBut.trans (KeepBut.of_below hb0 g none) h3 (.inl rfl)⟩
 ·rw [if_neg hn] at h
  cases h
set_option maxHeartbeats 4000000 in
set_option maxRecDepth 100000 in
theorem reader_text.calls (k : Nat) (g : Nat) (A0 : Option Addr) (c0 : Nat) (l : List Int) (n : Int) (bad : Bool) (r1 : ByteArray) (r2 : Int) (r3 : Bool) (w0 w : World) (hI : Rd w g A0 c0 l n bad) (hr0 : Kd.C (Kd.int .u8) w0 A0 l.length l) (hc0 : l.length ≤ c0) (hg : w0.heap.size ≤ g) (hB : Below w0.heap.size w0 w) (h : reader_text.f k l n bad = some (r1, r2, r3)) :
  Calls Try.prog 120 #[.pointer (some ⟨g, 0, none⟩)] w fun e w' => e = .returned (.string r1) ∧ Rd w' g A0 c0 l r2 r3 ∧ Below w0.heap.size w0 w' ∧ KeepBut w w' g none := by
 unfold reader_text.f at h
 by_cases hn : 0 ≤ n ∧ n ≤ (l.length : Int)
 ·rw [if_pos hn] at h
  obtain ⟨hn0, hn1⟩ := hn
  obtain ⟨⟨v, m, ok⟩, ht, h2⟩ := Option.bind_eq_some_iff.1 h
  simp only [Option.some.injEq, Prod.mk.injEq] at h2
  obtain ⟨rfl, rfl, rfl⟩ := h2
  clear h
  have hc1 := hI.c1
  have hc0' := hI.c0
  have HC := Aside0.mk (Kd.C_below hr0 hB)
  obtain ⟨i0, hi0, _, hsz, _⟩ := info_parts info5
  obtain ⟨A', hcut, hA, hcc⟩ := print_drop_of (P := Try.prog) (Value.int .u8) 0 33 5 .i64 Try.underlying33 hi0 hsz A0 c0 l n hn0 hn1 hc0
  have HR := Aside0.mk (Kd.C_of_reads (h1 := fun _ => rfl) (hA _ (Kd.reads_of_C HC.out)))
  obtain ⟨y, hy⟩ : ∃ y : List Int, l.drop n.toNat = y := ⟨_, rfl⟩
  rw [hy] at hcut HR ht hcc
  have HCC := Aside0.mk hcc
  have HR : Aside0 (Kd.C (Kd.int .u8) w A' y.length y) := ⟨HR.out⟩
  have HT := Aside0.mk (num_TakeText.calls k A' _ y v m ok w.drew (Kd.C_drew HR.out) hcc ht)
  have HB := Aside0.mk hB
  have HI := Aside0.mk hI
  clear hA hcc hi0 hsz hB hI ht hr0 hy hc0 HC
  go_enter Try.func120, Try.ntmps120
  go_wp2_with fail
  go_region_held3 (fun w' => w'.cell? ⟨g, 0, none⟩ = some (.slice A0 l.length c0) ∧ w'.cell? ⟨g, 1, none⟩ = some (.int .i64 n))
   (first | exact ⟨hc0', hc1⟩ | exact ⟨hc0'', hc1'⟩) (first | (go_at_call 156; (with_reducible refine HT.out.mono ?_); rintro e w1 ⟨rfl, hb⟩; have hc0'' := pw_cell_below hb hc0'; have hc1' := pw_cell_below hb hc1))
  have hb0 : Below w.heap.size w w1 := below_step (below_drew1 (Below.refl _ _)) hb
  have HG := Aside0.mk (goes_calls g A0 c0 l n bad m ok w0 w1 (HI.out.below hb0) hg (below_step HB.out hb0))
  clear HT hcut HI HR HCC hc0' hc1
  go_wp2_with fail
  refine HG.out.mono ?_
  rintro e w2 ⟨rfl, h1, h2, h3⟩
  go_wp2_with fail
  go_ret
  exact ⟨rfl, h1, h2, KeepBut.trans (KeepBut.of_below hb0 g none) h3 (.inl rfl)⟩
 ·rw [if_neg hn] at h
  cases h
end Go.Proofs.Ytnlfhbohcgjcbaa.PA
namespace Go.Proofs.Ytnlfhbohcgjcbaa.PA
open Go.RowKit Go.Proofs.YtnlfhbohcgjcbaaW.PrintWords Go.Proofs.YtnlfhbohcgjcbaaW.PrintLast Go.Proofs.YtnlfhbohcgjcbaaW.PrintMore
attribute [local go_sem] max2_int min2_int max_two min_two max_three min_three max_four min_four
set_option linter.unusedVariables false
set_option linter.unusedSimpArgs false
def bytes_Equal.f (l0 : List Int) (l1 : List Int) : Option (Bool) := some ((strOfNums l0).toList == (strOfNums l1).toList)
set_option maxHeartbeats 8000000 in
set_option maxRecDepth 100000 in
theorem bytes_Equal.calls (A0 : Option Addr) (c0 : Nat) (l0 : List Int) (A1 : Option Addr) (c1 : Nat) (l1 : List Int) (r : Bool) (w : World) (hr0 : Kd.C (Kd.int .u8) w A0 l0.length l0) (hc0 : l0.length ≤ c0) (hr1 : Kd.C (Kd.int .u8) w A1 l1.length l1) (hc1 : l1.length ≤ c1) (h : bytes_Equal.f l0 l1 = some r) :
  Calls Try.prog 157 #[.slice A0 l0.length c0, .slice A1 l1.length c1] w fun e w' => e = .returned (.bool r) ∧ Drawn0 w w' := by
 have HR0 := Aside0.mk hr0
 have HC0 := Aside0.mk hc0
 clear hr0 hc0
 have HR1 := Aside0.mk hr1
 have HC1 := Aside0.mk hc1
 clear hr1 hc1
 have H : (some ((strOfNums l0).toList == (strOfNums l1).toList)) = some r := h
 clear h
 obtain rfl := Option.some.inj H
 have hcv3 := Kd.C_string (P := Try.prog) (A := A0) (c := c0) Try.underlying33 Try.underlying5 Try.underlying9 HR0.out
 have hcv4 := Kd.C_string (P := Try.prog) (A := A1) (c := c1) Try.underlying33 Try.underlying5 Try.underlying9 HR1.out
 go_enter Try.func157, Try.ntmps157
 go_wp2
 go_ret
 exact ⟨by first | rfl | (simp; done) | (simp [*]; done), by repeat (first | exact Drawn0.refl _ | apply Drawn0.step)⟩
def bytes_HasPrefix.f (l0 : List Int) (l1 : List Int) : Option (Bool) := if (l0.length : Int) ≥ (l1.length : Int) then (if 0 ≤ (l1.length : Int) then (if (l1.length : Int) ≤ (l0.length : Int) then ((bytes_Equal.f (l0.take ((l1.length : Int) : Int).toNat) l1).bind fun t123 => (some t123)) else (none)) else (none)) else (some false)
set_option maxHeartbeats 8000000 in
set_option maxRecDepth 100000 in
theorem bytes_HasPrefix.calls (A0 : Option Addr) (c0 : Nat) (l0 : List Int) (A1 : Option Addr) (c1 : Nat) (l1 : List Int) (r : Bool) (w : World) (hr0 : Kd.C (Kd.int .u8) w A0 l0.length l0) (hc0 : l0.length ≤ c0) (hr1 : Kd.C (Kd.int .u8) w A1 l1.length l1) (hc1 : l1.length ≤ c1) (h : bytes_HasPrefix.f l0 l1 = some r) :
  Calls Try.prog 121 #[.slice A0 l0.length c0, .slice A1 l1.length c1] w fun e w' => e = .returned (.bool r) ∧ Drawn0 w w' := by
 have HR0 := Aside0.mk hr0
 have HC0 := Aside0.mk hc0
 clear hr0 hc0
 have HR1 := Aside0.mk hr1
 have HC1 := Aside0.mk hc1
 clear hr1 hc1
 have H : (if (l0.length : Int) ≥ (l1.length : Int) then (if 0 ≤ (l1.length : Int) then (if (l1.length : Int) ≤ (l0.length : Int) then ((bytes_Equal.f (l0.take ((l1.length : Int) : Int).toNat) l1).bind fun t123 => (some t123)) else (none)) else (none)) else (some false)) = some r := h
 clear h
 by_cases c3 : (l0.length : Int) ≥ (l1.length : Int)
 ·rw [if_pos c3] at H
  have c3b0 : decide ((l1.length : Int) ≤ (l0.length : Int)) = true := decide_eq_true c3
  have c3b1 : decide (l1.length ≤ l0.length) = true := decide_eq_true (Int.ofNat_le.mp c3)
  clear c3
  by_cases c4 : 0 ≤ (l1.length : Int)
  ·rw [if_pos c4] at H
   have c4b0 := eq_true c4
   have c4b1 : decide (0 ≤ (l1.length : Int)) = true := decide_eq_true c4
   clear c4
   by_cases c5 : (l1.length : Int) ≤ (l0.length : Int)
   ·rw [if_pos c5] at H
    have c5b0 := eq_true c5
    have c5b1 : decide ((l1.length : Int) ≤ (l0.length : Int)) = true := decide_eq_true c5
    clear c5
    obtain ⟨y119, hy119⟩ : ∃ y_ : List Int, y_ = (l0.take ((l1.length : Int) : Int).toNat) := ⟨_, rfl⟩
    replace H : ((bytes_Equal.f y119 l1).bind fun t123 => (some t123)) = some r := by first | (rw [hy119]; with_reducible exact H) | (have H2_ := (Option.bind_some _ _).symm.trans H; rw [hy119]; with_reducible exact H2_) | (have H2_ := (Option.bind_some _ _).symm.trans H; with_reducible exact H2_) | with_reducible exact H | (rw [hy119]; exact H) | exact H
    have Ny119 := Aside0.mk hy119
    clear hy119
    replace H := Option.bind_eq_some_iff.mp H
    obtain ⟨t123, A60, H⟩ := H
    (try dsimp only at H)
    have A6 := Aside0.mk A60
    clear A60
    obtain rfl := Option.some.inj H
    have q7 : ((l1.length : Int) : Int) ≤ ((l0.length : Int) : Int) := of_decide_eq_true (by first | (with_reducible assumption) | assumption)
    obtain ⟨i07, hi07, _, hsz7, _⟩ := info_parts info5
    have hroom7 : l0.length ≤ c0 := HC0.out
    have hC7 : Kd.C (Kd.int .u8) _ A0 l0.length l0 := HR0.out
    have hcut7 := cut_to (P := Try.prog) 33 5 .i64 Try.underlying33 hi07 A0 l0.length c0 (l1.length : Int) (of_decide_eq_true (by first | (with_reducible assumption) | assumption)) q7 hroom7
    have hr7 := Kd.C_take (m := ((l1.length : Int) : Int).toNat) hC7 (by omega)
    have hy7 : y119.length = ((l1.length : Int) : Int).toNat := (by rw [Ny119.out, List.length_take]; omega)
    rw [← Ny119.out] at hr7
    rw [← hy7] at hcut7
    have HR122 := Aside0.mk hr7
    have HC122 := Aside0.mk (show y119.length ≤ c0 from by omega)
    clear hr7 hC7 hroom7 hi07 hsz7
    have KY7 := Aside0.mk hy7
    clear hy7
    replace q7 := eq_true q7
    go_enter Try.func121, Try.ntmps121
    go_wp2_with (first | (go_at_call 157; (with_reducible refine (bytes_Equal.calls _ _ y119 _ _ l1 t123 _ ?side1 ?side2 ?side3 ?side4 A6.out).mono ?_); (case side1 => repeat (first | exact HR122.out | (with_reducible refine ca_ ?_ _) | (with_reducible refine cn_ ?_ _) | (with_reducible refine cd_ ?_))); (case side2 => exact HC122.out); (case side3 => repeat (first | exact HR1.out | (with_reducible refine ca_ ?_ _) | (with_reducible refine cn_ ?_ _) | (with_reducible refine cd_ ?_))); (case side4 => exact HC1.out); rintro e w' ⟨rfl, ⟨nd, rfl⟩⟩))
    go_ret
    exact ⟨by first | rfl | (simp; done) | (simp [*]; done), by repeat (first | exact Drawn0.refl _ | apply Drawn0.step)⟩
   ·rw [if_neg c5] at H
    exact absurd H (by simp)
  ·rw [if_neg c4] at H
   exact absurd H (by simp)
 ·rw [if_neg c3] at H
  have c3b0 : decide ((l1.length : Int) ≤ (l0.length : Int)) = false := decide_eq_false c3
  have c3b1 : decide (l1.length ≤ l0.length) = false := decide_eq_false (fun h => c3 (Int.ofNat_le.mpr h))
  clear c3
  obtain rfl := Option.some.inj H
  go_enter Try.func121, Try.ntmps121
  go_wp2
  go_ret
  exact ⟨by first | rfl | (simp; done) | (simp [*]; done), by repeat (first | exact Drawn0.refl _ | apply Drawn0.step)⟩
end Go.Proofs.Ytnlfhbohcgjcbaa.PA
namespace Go.Proofs.Ytnlfhbohcgjcbaa.PA
open Go.RowKit Go.Proofs.YtnlfhbohcgjcbaaW.PrintWords Go.Proofs.YtnlfhbohcgjcbaaW.PrintLast Go.Proofs.YtnlfhbohcgjcbaaW.PrintMore
set_option linter.unusedVariables false
set_option linter.unusedSimpArgs false
theorem reader_num.mono (l : List Int) (n : Int) (bad : Bool) (k : Nat) : LeO (reader_num.f k l n bad) (reader_num.f (k + 1) l n bad) := by
 unfold reader_num.f
 exact LeO.ite (LeO.bind (num_Take.mono _ _) (fun _ => LeO.refl _)) (LeO.refl _)
theorem reader_text.mono (l : List Int) (n : Int) (bad : Bool) (k : Nat) : LeO (reader_text.f k l n bad) (reader_text.f (k + 1) l n bad) := by
 unfold reader_text.f
 exact LeO.ite (LeO.bind (num_TakeText.mono _ _) (fun _ => LeO.refl _)) (LeO.refl _)
/-- The reads: how many there are still, how far, whether there was too little; those that there are. -/
def takeR : Nat → List Int → Int → Int → Bool → List (S24) → Option (List (S24) × Int × Bool)
 | 0, _, _, _, _, _ => none
 | k + 1, l, i, n, bad, rs => if 0 < i ∧ bad = false then (reader_text.f k l n bad).bind fun p => (reader_num.f k l p.2.1 p.2.2).bind fun q => (reader_text.f k l q.2.1 q.2.2).bind fun v => (reader_num.f k l v.2.1 v.2.2).bind fun g => if rs.length < 1000000 then takeR k l (wrap64 (i - 1)) g.2.1 g.2.2 (rs ++ [⟨p.1, q.1, v.1, g.1 == 1⟩]) else none
  else some (rs, n, bad)
/-- The writes, likewise. -/
def takeW : Nat → List Int → Int → Int → Bool → List (S27) → Option (List (S27) × Int × Bool)
 | 0, _, _, _, _, _ => none
 | k + 1, l, i, n, bad, ws => if 0 < i ∧ bad = false then (reader_text.f k l n bad).bind fun p => (reader_text.f k l p.2.1 p.2.2).bind fun v => (reader_num.f k l v.2.1 v.2.2).bind fun g => if ws.length < 1000000 then takeW k l (wrap64 (i - 1)) g.2.1 g.2.2 (ws ++ [⟨p.1, v.1, g.1 == 1⟩]) else none
  else some (ws, n, bad)
/-- What Take answers when all has been read. -/
def takeEnd (k : Nat) (l : List Int) (a b : Int) (rs : List (S24)) (ws : List (S27)) (n : Int) (bad : Bool) : Option (Int × Int × (List (S24)) × (List (S27)) × Int × Bool) :=
 (txn_Put.f k a b rs ws).bind fun c => if bad = true then some (0, 0, [], [], 0, false) else if 0 < c.length then (bytes_HasPrefix.f l c).bind fun h => if h = true then (if (c.length : Int) = n then some (a, b, rs, ws, n, true) else some (0, 0, [], [], 0, false)) else some (0, 0, [], [], 0, false) else none
def txn_Take.f (k : Nat) (l0 : List Int) : Option (Int × Int × (List (S24)) × (List (S27)) × Int × Bool) :=
 (reader_num.f k l0 0 false).bind fun a => (reader_num.f k l0 a.2.1 a.2.2).bind fun b => (reader_num.f k l0 b.2.1 b.2.2).bind fun i => (takeR k l0 i.1 i.2.1 i.2.2 []).bind fun r => (reader_num.f k l0 r.2.1 r.2.2).bind fun j => (takeW k l0 j.1 j.2.1 j.2.2 []).bind fun w => takeEnd k l0 a.1 b.1 r.1 w.1 w.2.1 w.2.2
theorem takeR.mono : ∀ k l i n bad rs, LeO (takeR k l i n bad rs) (takeR (k + 1) l i n bad rs)
 | 0, l, i, n, bad, rs => LeO.none _
 | k + 1, l, i, n, bad, rs => by
  unfold takeR
  exact LeO.ite (LeO.bind (reader_text.mono _ _ _ _) (fun _ => LeO.bind (reader_num.mono _ _ _ _) (fun _ => LeO.bind (reader_text.mono _ _ _ _) (fun _ => LeO.bind (reader_num.mono _ _ _ _) (fun _ => LeO.ite (takeR.mono _ _ _ _ _ _) (LeO.refl _)))))) (LeO.refl _)
theorem takeW.mono : ∀ k l i n bad rs, LeO (takeW k l i n bad rs) (takeW (k + 1) l i n bad rs)
 | 0, l, i, n, bad, rs => LeO.none _
 | k + 1, l, i, n, bad, rs => by
  unfold takeW
  exact LeO.ite (LeO.bind (reader_text.mono _ _ _ _) (fun _ => LeO.bind (reader_text.mono _ _ _ _) (fun _ => LeO.bind (reader_num.mono _ _ _ _) (fun _ => LeO.ite (takeW.mono _ _ _ _ _ _) (LeO.refl _))))) (LeO.refl _)
theorem txn_Take.mono : ∀ a0 k, LeO (txn_Take.f k a0) (txn_Take.f (k + 1) a0) := by
 intro l k
 unfold txn_Take.f takeEnd
 exact LeO.bind (reader_num.mono _ _ _ _) (fun _ => LeO.bind (reader_num.mono _ _ _ _) (fun _ => LeO.bind (reader_num.mono _ _ _ _) (fun _ => LeO.bind (takeR.mono _ _ _ _ _ _) (fun _ => LeO.bind (reader_num.mono _ _ _ _) (fun _ => LeO.bind (takeW.mono _ _ _ _ _ _) (fun _ => LeO.bind (txn_Put.mono _ _ _ _ _) (fun _ => LeO.refl _)))))))
/-- What there is while it is read: the reader at g, the transaction at gt. -/
def TkSt (ok : Nat → Prop) (w W : World) (g gt : Nat) (A0 : Option Addr) (c0 : Nat) (l : List Int) (n : Int) (bad : Bool) (a b : Int) (vr : Value) (rs : List (S24)) (vw : Value) (ws : List (S27)) : Prop :=
 (Rd W g A0 c0 l n bad ∧ W.heap[gt]? = some (.cells #[.int .i64 a, .int .i64 b, vr, vw] 30 (0, 0))) ∧ (w.heap.size ≤ g ∧ w.heap.size ≤ gt ∧ g ≠ gt) ∧ Kd.R k24 24 W w.heap.size ok vr rs ∧ Kd.R k27 27 W w.heap.size ok vw ws ∧ Below w.heap.size w W
section
variable {ok ok' : Nat → Prop} {w W W1 : World} {g gt : Nat} {A0 : Option Addr} {c0 : Nat} {l : List Int} {n : Int} {bad : Bool} {a b : Int} {vr : Value} {rs : List (S24)} {vw : Value} {ws : List (S27)}
theorem TkSt.mono (h : TkSt ok w W g gt A0 c0 l n bad a b vr rs vw ws) (hok : ∀ k, ok k → ok' k) : TkSt ok' w W g gt A0 c0 l n bad a b vr rs vw ws :=
 ⟨h.1, h.2.1, Kd.R_mono h.2.2.1 hok, Kd.R_mono h.2.2.2.1 hok, h.2.2.2.2⟩
theorem TkSt.below (h : TkSt ok w W g gt A0 c0 l n bad a b vr rs vw ws) (hb : Below W.heap.size W W1) : TkSt ok w W1 g gt A0 c0 l n bad a b vr rs vw ws :=
 ⟨⟨h.1.1.below hb, blk_grown h.1.2 (grown_of_below hb none) (by simp)⟩, h.2.1, Kd.R_below h.2.2.1 hb, Kd.R_below h.2.2.2.1 hb, below_step h.2.2.2.2 hb⟩
theorem TkSt.alloc (h : TkSt ok w W g gt A0 c0 l n bad a b vr rs vw ws) (o : Obj) : TkSt ok w (W.alloc o) g gt A0 c0 l n bad a b vr rs vw ws := h.below (below_alloc (Below.refl _ _) o)
theorem TkSt.drew (h : TkSt ok w W g gt A0 c0 l n bad a b vr rs vw ws) : TkSt ok w W.drew g gt A0 c0 l n bad a b vr rs vw ws := h.below (below_drew1 (Below.refl _ _))
theorem TkSt.drewN (h : TkSt ok w W g gt A0 c0 l n bad a b vr rs vw ws) (m : Nat) : TkSt ok w (W.drewN m) g gt A0 c0 l n bad a b vr rs vw ws := h.below (pw_below_drewN (Below.refl _ _) m)
theorem TkSt.elder (h : TkSt ok w W g gt A0 c0 l n bad a b vr rs vw ws) : TkSt (fun k => k ≠ W.heap.size) w W g gt A0 c0 l n bad a b vr rs vw ws :=
 ⟨h.1, h.2.1, Kd.R_mono (Kd.R_bound h.2.2.1) (fun k hk => by have := hk.2.2.1; omega), Kd.R_mono (Kd.R_bound h.2.2.2.1) (fun k hk => by have := hk.2.2.1; omega), h.2.2.2.2⟩
theorem TkSt.far {gx : Nat} (h : TkSt (fun k => k ≠ gx) w W g gt A0 c0 l n bad a b vr rs vw ws) (hg : g ≠ gx) (ht : gt ≠ gx) (hx : w.heap.size ≤ gx) (i : Nat) (u : Value) : TkSt (fun k => k ≠ gx) w (W.setCell ⟨gx, i, none⟩ u) g gt A0 c0 l n bad a b vr rs vw ws :=
 ⟨⟨blk_far h.1.1 hg u, blk_far h.1.2 ht u⟩, h.2.1, Kd.R_far h.2.2.1 (fun _ hk => hk) u, Kd.R_far h.2.2.2.1 (fun _ hk => hk) u, below_set h.2.2.2.2 hx⟩
theorem TkSt.keep {n' : Int} {bad' : Bool} (h : TkSt ok w W g gt A0 c0 l n bad a b vr rs vw ws) (hr : Rd W1 g A0 c0 l n' bad') (hb : Below w.heap.size w W1) (hk : KeepBut W W1 g none) : TkSt ok w W1 g gt A0 c0 l n' bad' a b vr rs vw ws :=
 ⟨⟨hr, hk.blk h.1.2 (fun e => h.2.1.2.2 e.symm) (by simp)⟩, h.2.1, Kd.R_mono (Kd.R_keep (Kd.R_types h.2.2.1 h.1.1 (by decide)) hk (fun _ hk => hk.2)) (fun _ hk => hk.1), Kd.R_mono (Kd.R_keep (Kd.R_types h.2.2.2.1 h.1.1 (by decide)) hk (fun _ hk => hk.2)) (fun _ hk => hk.1), hb⟩
theorem TkSt.num {k : Nat} {v n' : Int} {bad' : Bool} (hr0 : Kd.C (Kd.int .u8) w A0 l.length l) (hc0 : l.length ≤ c0) (h : TkSt ok w W g gt A0 c0 l n bad a b vr rs vw ws) (hf : reader_num.f k l n bad = some (v, n', bad')) :
  Calls Try.prog 119 #[.pointer (some ⟨g, 0, none⟩)] W fun e w' => e = .returned (.int .i64 v) ∧ TkSt ok w w' g gt A0 c0 l n' bad' a b vr rs vw ws ∧ KeepBut W w' g none := by
 refine (reader_num.calls k g A0 c0 l n bad v n' bad' w W h.1.1 hr0 hc0 h.2.1.1 h.2.2.2.2 hf).mono ?_
 rintro e w' ⟨rfl, h1, h2, h3⟩
 exact ⟨rfl, h.keep h1 h2 h3, h3⟩
theorem TkSt.text {k : Nat} {v : ByteArray} {n' : Int} {bad' : Bool} (hr0 : Kd.C (Kd.int .u8) w A0 l.length l) (hc0 : l.length ≤ c0) (h : TkSt ok w W g gt A0 c0 l n bad a b vr rs vw ws) (hf : reader_text.f k l n bad = some (v, n', bad')) :
  Calls Try.prog 120 #[.pointer (some ⟨g, 0, none⟩)] W fun e w' => e = .returned (.string v) ∧ TkSt ok w w' g gt A0 c0 l n' bad' a b vr rs vw ws ∧ KeepBut W w' g none := by
 refine (reader_text.calls k g A0 c0 l n bad v n' bad' w W h.1.1 hr0 hc0 h.2.1.1 h.2.2.2.2 hf).mono ?_
 rintro e w' ⟨rfl, h1, h2, h3⟩
 exact ⟨rfl, h.keep h1 h2 h3, h3⟩
theorem TkSt.set_a (h : TkSt ok w W g gt A0 c0 l n bad a b vr rs vw ws) (x : Int) : TkSt ok w (W.setCell ⟨gt, 0, none⟩ (.int .i64 x)) g gt A0 c0 l n bad x b vr rs vw ws :=
 ⟨⟨blk_far h.1.1 h.2.1.2.2 _, by simpa using blk_set h.1.2 0 (.int .i64 x)⟩, h.2.1, Kd.R_mono (Kd.R_far (p := ⟨gt, 0, none⟩) (Kd.R_types h.2.2.1 h.1.2 (by decide)) (fun _ hk => hk.2) _) (fun _ hk => hk.1), Kd.R_mono (Kd.R_far (p := ⟨gt, 0, none⟩) (Kd.R_types h.2.2.2.1 h.1.2 (by decide)) (fun _ hk => hk.2) _) (fun _ hk => hk.1), below_set h.2.2.2.2 h.2.1.2.1⟩
theorem TkSt.set_b (h : TkSt ok w W g gt A0 c0 l n bad a b vr rs vw ws) (x : Int) : TkSt ok w (W.setCell ⟨gt, 1, none⟩ (.int .i64 x)) g gt A0 c0 l n bad a x vr rs vw ws :=
 ⟨⟨blk_far h.1.1 h.2.1.2.2 _, by simpa using blk_set h.1.2 1 (.int .i64 x)⟩, h.2.1, Kd.R_mono (Kd.R_far (p := ⟨gt, 1, none⟩) (Kd.R_types h.2.2.1 h.1.2 (by decide)) (fun _ hk => hk.2) _) (fun _ hk => hk.1), Kd.R_mono (Kd.R_far (p := ⟨gt, 1, none⟩) (Kd.R_types h.2.2.2.1 h.1.2 (by decide)) (fun _ hk => hk.2) _) (fun _ hk => hk.1), below_set h.2.2.2.2 h.2.1.2.1⟩
/-- Reads have been put behind: the row at v1, and the transaction's cell. -/
theorem TkSt.put_r (h : TkSt ok w W g gt A0 c0 l n bad a b vr rs vw ws) {v1 : Value} {rs1 : List (S24)} (ho : Kd.R k24 24 W1 w.heap.size ok v1 rs1) (hb : Below w.heap.size w W1) (hg : W.grownBy W1 vr.ownBlock) : TkSt ok w (W1.setCell ⟨gt, 2, none⟩ v1) g gt A0 c0 l n bad a b v1 rs1 vw ws := by
 have h1 : Rd W1 g A0 c0 l n bad := blk_grown h.1.1 hg (Kd.R_ne h.2.2.1 h.1.1 (by decide))
 have h2 := blk_grown h.1.2 hg (Kd.R_ne h.2.2.1 h.1.2 (by decide))
 have h3 := Kd.R_over h.2.2.2.1 h.2.2.1 (by decide) hg
 exact ⟨⟨blk_far h1 h.2.1.2.2 _, by simpa using blk_set h2 2 v1⟩, h.2.1, Kd.R_mono (Kd.R_far (p := ⟨gt, 2, none⟩) (Kd.R_types ho h2 (by decide)) (fun _ hk => hk.2) _) (fun _ hk => hk.1), Kd.R_mono (Kd.R_far (p := ⟨gt, 2, none⟩) (Kd.R_types h3 h2 (by decide)) (fun _ hk => hk.2) _) (fun _ hk => hk.1), below_set hb h.2.1.2.1⟩
theorem TkSt.put_w (h : TkSt ok w W g gt A0 c0 l n bad a b vr rs vw ws) {v1 : Value} {ws1 : List (S27)} (ho : Kd.R k27 27 W1 w.heap.size ok v1 ws1) (hb : Below w.heap.size w W1) (hg : W.grownBy W1 vw.ownBlock) : TkSt ok w (W1.setCell ⟨gt, 3, none⟩ v1) g gt A0 c0 l n bad a b vr rs v1 ws1 := by
 have h1 : Rd W1 g A0 c0 l n bad := blk_grown h.1.1 hg (Kd.R_ne h.2.2.2.1 h.1.1 (by decide))
 have h2 := blk_grown h.1.2 hg (Kd.R_ne h.2.2.2.1 h.1.2 (by decide))
 have h3 := Kd.R_over h.2.2.1 h.2.2.2.1 (by decide) hg
 exact ⟨⟨blk_far h1 h.2.1.2.2 _, by simpa using blk_set h2 3 v1⟩, h.2.1, Kd.R_mono (Kd.R_far (p := ⟨gt, 3, none⟩) (Kd.R_types h3 h2 (by decide)) (fun _ hk => hk.2) _) (fun _ hk => hk.1), Kd.R_mono (Kd.R_far (p := ⟨gt, 3, none⟩) (Kd.R_types ho h2 (by decide)) (fun _ hk => hk.2) _) (fun _ hk => hk.1), below_set hb h.2.1.2.1⟩
theorem TkSt.cells (h : TkSt ok w W g gt A0 c0 l n bad a b vr rs vw ws) : W.cell? ⟨gt, 0, none⟩ = some (.int .i64 a) ∧ W.cell? ⟨gt, 1, none⟩ = some (.int .i64 b) ∧ W.cell? ⟨gt, 2, none⟩ = some vr ∧ W.cell? ⟨gt, 3, none⟩ = some vw ∧ W.cell? ⟨g, 1, none⟩ = some (.int .i64 n) :=
 ⟨(blk_cell h.1.2 0).trans rfl, (blk_cell h.1.2 1).trans rfl, (blk_cell h.1.2 2).trans rfl, (blk_cell h.1.2 3).trans rfl, h.1.1.c1⟩
/-- The transaction's cells have been written anew, as they were. -/
theorem TkSt.same (h : TkSt ok w W g gt A0 c0 l n bad a b vr rs vw ws) : TkSt ok w ((((W.setCell ⟨gt, 0, none⟩ (.int .i64 a)).setCell ⟨gt, 1, none⟩ (.int .i64 b)).setCell ⟨gt, 2, none⟩ vr).setCell ⟨gt, 3, none⟩ vw) g gt A0 c0 l n bad a b vr rs vw ws := by
 have h1 := (h.set_a a).set_b b
 have h2 := h1.put_r h1.2.2.1 h1.2.2.2.2 (grown_of_below (Below.refl _ _) _)
 exact h2.put_w h2.2.2.2.1 h2.2.2.2.2 (grown_of_below (Below.refl _ _) _)
theorem TkSt.bad_cell (h : TkSt ok w W g gt A0 c0 l n bad a b vr rs vw ws) : W.cell? ⟨g, 2, none⟩ = some (.bool bad) := h.1.1.c2
theorem TkSt.new (w : World) (A0 : Option Addr) (c0 : Nat) (l : List Int) : TkSt (fun _ => True) w ((w.alloc (.cells #[.int .i64 0, .int .i64 0, .slice none 0 0, .slice none 0 0] 30)).alloc (.cells #[.slice A0 l.length c0, .int .i64 0, .bool false] 177)) (w.heap.size + 1) w.heap.size A0 c0 l 0 false 0 0 (.slice none 0 0) [] (.slice none 0 0) [] :=
 ⟨⟨by have := heap_alloc_new (w.alloc (.cells #[.int .i64 0, .int .i64 0, .slice none 0 0, .slice none 0 0] 30)) (.cells #[.slice A0 l.length c0, .int .i64 0, .bool false] 177); simpa [Rd] using this, blk_grown (by simpa using heap_alloc_new w _) (grown_of_below (below_alloc (Below.refl _ _) _) none) (by simp)⟩, ⟨by omega, by omega, by omega⟩, Kd.R_nil _ _ _ _ _, Kd.R_nil _ _ _ _ _, below_alloc (below_alloc (Below.refl _ _) _) _⟩
end
end Go.Proofs.Ytnlfhbohcgjcbaa.PA
namespace Go.Proofs.Ytnlfhbohcgjcbaa.PA
open Go.RowKit Go.Proofs.YtnlfhbohcgjcbaaW.PrintWords Go.Proofs.YtnlfhbohcgjcbaaW.PrintLast Go.Proofs.YtnlfhbohcgjcbaaW.PrintMore
set_option linter.unusedVariables false
set_option linter.unusedSimpArgs false
set_option maxHeartbeats 4000000 in
set_option maxRecDepth 100000 in
theorem txn_Take.calls (k : Nat) (A0 : Option Addr) (c0 : Nat) (l0 : List Int) (r1 : Int) (r2 : Int) (r3 : List (S24)) (r4 : List (S27)) (r5 : Int) (r6 : Bool) (w : World) (hr0 : Kd.C (Kd.int .u8) w A0 l0.length l0) (hc0 : l0.length ≤ c0) (h : txn_Take.f k l0 = some (r1, r2, r3, r4, r5, r6)) :
  Calls Try.prog 63 #[.slice A0 l0.length c0] w fun e w' => ∃ v2_ v3_ : Value, e = .returned (.tuple #[.agg #[.int .i64 r1, .int .i64 r2, v2_, v3_], .int .i64 r5, .bool r6]) ∧ Kd.R k24 24 w' w.heap.size (fun _ => True) v2_ r3 ∧ Kd.R k27 27 w' w.heap.size (fun _ => True) v3_ r4 ∧ Below w.heap.size w w' := by
 unfold txn_Take.f at h
 obtain ⟨⟨a, n1, b1⟩, h1, h⟩ := Option.bind_eq_some_iff.1 h
 obtain ⟨⟨b, n2, b2⟩, h2, h⟩ := Option.bind_eq_some_iff.1 h
 obtain ⟨⟨i, n3, b3⟩, h3, h⟩ := Option.bind_eq_some_iff.1 h
 obtain ⟨⟨rs, n4, b4⟩, h4, h⟩ := Option.bind_eq_some_iff.1 h
 obtain ⟨⟨j, n5, b5⟩, h5, h⟩ := Option.bind_eq_some_iff.1 h
 obtain ⟨⟨ws, n6, b6⟩, h6, h⟩ := Option.bind_eq_some_iff.1 h
 have H1 := Aside0.mk h1
 have H2 := Aside0.mk h2
 have H3 := Aside0.mk h3
 have H4 := Aside0.mk h4
 have H5 := Aside0.mk h5
 have H6 := Aside0.mk h6
 have H := Aside0.mk h
 have HR := Aside0.mk hr0
 have HC := Aside0.mk hc0
 clear h1 h2 h3 h4 h5 h6 h hr0 hc0
 repeat clear h
 go_enter Try.func63, Try.ntmps63
 go_wp2_with fail
 refine (TkSt.num HR.out HC.out (TkSt.new w A0 c0 l0) H1.out).mono ?_
 rintro e w1 ⟨rfl, hS, _⟩
 have HS := Aside0.mk hS
 clear hS
 go_wp2_with fail
 refine (TkSt.num HR.out HC.out HS.out H2.out).mono ?_
 rintro e w2 ⟨rfl, hS, _⟩
 have hf0 := blk_frozen hS.1.2 0
 have hf1 := blk_frozen hS.1.2 1
 have hc0 := (blk_cell hS.1.2 0).trans rfl
 have hc1 := (blk_cell hS.1.2 1).trans rfl
 have HS := Aside0.mk ((hS.set_a a).set_b b)
 clear hS
 go_wp2_with fail
 clear hf0 hf1 hc0 hc1
 refine (TkSt.num HR.out HC.out HS.out H3.out).mono ?_
 rintro e w3 ⟨rfl, hS, _⟩
 have HS := Aside0.mk hS
 clear hS
 go_wp2_with fail
 go_loopg [8] k (fun kq v8 w' => ∃ (i' n' : Int) (bad' : Bool) (vr : Value) (rs' : List (S24)), v8 = .int .i64 i' ∧ Aside0 (takeR kq l0 i' n' bad' rs' = some (rs, n4, b4)) ∧ Aside0 (kq ≤ k) ∧ Aside0 (TkSt (fun _ => True) w w' (w.heap.size + 1) w.heap.size A0 c0 l0 n' bad' a b vr rs' (.slice none 0 0) []))
 case atStart => exact ⟨i, n3, b3, _, [], rfl, H4, ⟨Nat.le_refl _⟩, HS⟩
 case round =>
  clear H1 H2 H3 H4 HS
  obtain ⟨i', n', bad', vr, rs', rfl, HA, HK1, HS⟩ := hrel
  have HSb := HS.out.bad_cell
  cases gk with
  | zero => exact absurd HA.out (by simp [takeR])
  | succ k1 =>
   by_cases hc : 0 < i' ∧ bad' = false
   ·have hA := HA.out
    unfold takeR at hA
    rw [if_pos hc] at hA
    obtain ⟨h0, rfl⟩ := hc
    obtain ⟨⟨p, n7, b7⟩, h7, hA⟩ := Option.bind_eq_some_iff.1 hA
    obtain ⟨⟨q, n8, b8⟩, h8, hA⟩ := Option.bind_eq_some_iff.1 hA
    obtain ⟨⟨v, n9, b9⟩, h9, hA⟩ := Option.bind_eq_some_iff.1 hA
    obtain ⟨⟨f, n10, b10⟩, h10, hA⟩ := Option.bind_eq_some_iff.1 hA
    have H7 := Aside0.mk h7
    have H8 := Aside0.mk h8
    have H9 := Aside0.mk h9
    have H10 := Aside0.mk h10
    dsimp only at hA
    have hlen : rs'.length < 1000000 := Decidable.byContradiction fun hn => by rw [if_neg hn] at hA; cases hA
    rw [if_pos hlen] at hA
    have HA2 := Aside0.mk hA
    have HLen := Aside0.mk hlen
    clear h7 h8 h9 h10 hA HA hlen
    repeat clear hA
    have hd : decide (0 < i') = true := decide_eq_true h0
    clear h0
    go_wp2_with fail
    refine (TkSt.text HR.out HC.out HS.out H7.out).mono ?_
    rintro e w5 ⟨rfl, hS5, _⟩
    have HS5 := Aside0.mk hS5
    clear hS5
    go_wp2_with fail
    refine (TkSt.num HR.out HC.out HS5.out H8.out).mono ?_
    rintro e w6 ⟨rfl, hS6, _⟩
    have HS6 := Aside0.mk hS6
    clear hS6
    go_wp2_with fail
    refine (TkSt.text HR.out HC.out HS6.out H9.out).mono ?_
    rintro e w7 ⟨rfl, hS7, _⟩
    have HS7 := Aside0.mk hS7.elder
    clear HS5 HS6
    have hgl : w.heap.size + 1 < w7.heap.size := blk_lt hS7.1.1
    have HGL := Aside0.mk hgl
    clear hS7 hgl
    go_wp2_with fail
    refine (TkSt.num HR.out HC.out (HS7.out.alloc _) H10.out).mono ?_
    rintro e w8 ⟨rfl, hS8, hk8⟩
    have hx8 : w8.heap[w7.heap.size]? = some (.cells #[.string p, .int .i64 q, .string v, .bool false] 24 (0, 0)) := hk8.blk (heap_alloc_new w7 _) (by have := HGL.out; omega) (by simp)
    have hfx := blk_frozen hx8 3
    have hcx := (blk_cell hx8 3).trans rfl
    have hx9 : (w8.setCell ⟨w7.heap.size, 3, none⟩ (.bool (f == 1))).heap[w7.heap.size]? = some (.cells #[.string p, .int .i64 q, .string v, .bool (f == 1)] 24 (0, 0)) := by simpa using blk_set hx8 3 (.bool (f == 1))
    have hS9 := hS8.far (by have := HGL.out; omega) (by have := HGL.out; omega) (by have := HGL.out; omega) 3 (.bool (f == 1))
    have hx90 := (blk_cell hx9 0).trans rfl
    have hx91 := (blk_cell hx9 1).trans rfl
    have hx92 := (blk_cell hx9 2).trans rfl
    have hx93 := (blk_cell hx9 3).trans rfl
    have ht2 := (blk_cell hS9.1.2 2).trans rfl
    have HS9 := Aside0.mk hS9
    have HX9 := Aside0.mk hx9
    clear hS9 hS8 hk8 hx8 hx9 HS7
    go_wp2_with (first | ((with_reducible refine gate_builtin (b := .append) (xs := #[.tmp 51, .tmp 53]) rfl ?_); at_builtin; refine Kd.R_append k24 (w0 := w) w.heap.size rfl (.tmp 51) (.tmp 53) 25 24 (.agg #[(.string ⟨#[]⟩), (.int .i64 0), (.string ⟨#[]⟩), (.bool false)]) 48 rfl Try.underlying25 info24 rfl (by decide) (by omega) vr rs' (⟨p, q, v, f == 1⟩ : S24) [.string p, .int .i64 q, .string v, .bool (f == 1)] (fun k_ => k_ ≠ w7.heap.size) (fun _ => False) rfl (by first | (go_simp; done) | (go_simp; rfl)) (k24_mkM _ _ _ (⟨p, q, v, f == 1⟩ : S24)) (fun _ hk => hk.elim) (fun k_ hk => by have := blk_lt HX9.out; omega) HS9.out.2.2.1 HS9.out.2.2.2.2 HS9.out.2.2.2.2.size (by have := HLen.out; omega) ?_; intro v1 w10 ho hb hg hat; obtain ⟨Av, cv, rfl⟩ := Kd.R_slice ho; have HO := Aside0.mk ho; have HB10 := Aside0.mk hb; have HG := Aside0.mk hg; have hf10 := blk_frozen (blk_grown HS9.out.1.2 hg (Kd.R_ne HS9.out.2.2.1 HS9.out.1.2 (by decide))) 2; have hc10 := (blk_cell (blk_grown HS9.out.1.2 hg (Kd.R_ne HS9.out.2.2.1 HS9.out.1.2 (by decide))) 2).trans rfl; clear ho hb hg hat hx90 hx91 hx92 hx93 ht2 hcx hfx))
    have HS11 := Aside0.mk ((HS9.out.put_r HO.out HB10.out HG.out).mono (ok' := fun _ => True) (fun _ _ => trivial))
    clear HS9 HX9 HO HB10 HG hf10 hc10
    go_roundg k1
    case measure => have := HK1.out; omega
    case rel => exact ⟨wrap64 (i' - 1), n10, b10, _, _, (by first | rfl | (simp; done) | (simp [*]; done)), HA2, ⟨by have := HK1.out; omega⟩, ⟨by have h_ := HS11.out; simp only [List.length_append, List.length_singleton] at h_; exact h_⟩⟩
   ·have hA := HA.out
    unfold takeR at hA
    rw [if_neg hc] at hA
    simp only [Option.some.injEq, Prod.mk.injEq] at hA
    obtain ⟨rfl, rfl, rfl⟩ := hA
    have hx : decide (0 < i') = false ∨ (decide (0 < i') = true ∧ bad' = true) := by
     by_cases h0 : 0 < i'
     ·exact .inr ⟨decide_eq_true h0, by cases bad' <;> simp_all⟩
     ·exact .inl (decide_eq_false h0)
    clear hc HA
    rcases hx with hd | ⟨hd, rfl⟩
    all_goals
     go_wp2_with fail
     refine (TkSt.num HR.out HC.out HS.out H5.out).mono ?_
     rintro e w12 ⟨rfl, hS, _⟩
     have HS12 := Aside0.mk hS
     clear hS
     clear HSb HS HK1 hd
     go_wp2_with fail
     go_loopg [10] k (fun kq v10 w' => ∃ (i2 m2 : Int) (bad2 : Bool) (vw : Value) (ws' : List (S27)), v10 = .int .i64 i2 ∧ Aside0 (takeW kq l0 i2 m2 bad2 ws' = some (ws, n6, b6)) ∧ Aside0 (kq ≤ k) ∧ Aside0 (TkSt (fun _ => True) w w' (w.heap.size + 1) w.heap.size A0 c0 l0 m2 bad2 a b vr rs' vw ws'))
     case atStart => exact ⟨j, n5, b5, _, [], rfl, H6, ⟨Nat.le_refl _⟩, HS12⟩
     case round =>
      clear H5 H6 HS12
      obtain ⟨i2, m2, bad2, vw, ws', rfl, HA, HK1, HS⟩ := hrel
      have HSb := HS.out.bad_cell
      cases gk with
      | zero => exact absurd HA.out (by simp [takeW])
      | succ k2 =>
       by_cases hc : 0 < i2 ∧ bad2 = false
       ·have hA := HA.out
        unfold takeW at hA
        rw [if_pos hc] at hA
        obtain ⟨h0, rfl⟩ := hc
        obtain ⟨⟨p, n7, b7⟩, h7, hA⟩ := Option.bind_eq_some_iff.1 hA
        obtain ⟨⟨v, n9, b9⟩, h9, hA⟩ := Option.bind_eq_some_iff.1 hA
        obtain ⟨⟨f, n10, b10⟩, h10, hA⟩ := Option.bind_eq_some_iff.1 hA
        have H7 := Aside0.mk h7
        have H9 := Aside0.mk h9
        have H10 := Aside0.mk h10
        dsimp only at hA
        have hlen : ws'.length < 1000000 := Decidable.byContradiction fun hn => by rw [if_neg hn] at hA; cases hA
        rw [if_pos hlen] at hA
        have HA2 := Aside0.mk hA
        have HLen := Aside0.mk hlen
        clear h7 h9 h10 hA HA hlen
        repeat clear hA
        have hd : decide (0 < i2) = true := decide_eq_true h0
        clear h0
        go_wp2_with fail
        refine (TkSt.text HR.out HC.out HS.out H7.out).mono ?_
        rintro e w5 ⟨rfl, hS5, _⟩
        have HS5 := Aside0.mk hS5
        clear hS5
        go_wp2_with fail
        refine (TkSt.text HR.out HC.out HS5.out H9.out).mono ?_
        rintro e w7 ⟨rfl, hS7, _⟩
        have HS7 := Aside0.mk hS7.elder
        clear HS5
        have hgl : w.heap.size + 1 < w7.heap.size := blk_lt hS7.1.1
        have HGL := Aside0.mk hgl
        clear hS7 hgl
        go_wp2_with fail
        refine (TkSt.num HR.out HC.out (HS7.out.alloc _) H10.out).mono ?_
        rintro e w8 ⟨rfl, hS8, hk8⟩
        have hx8 : w8.heap[w7.heap.size]? = some (.cells #[.string p, .string v, .bool false] 27 (0, 0)) := hk8.blk (heap_alloc_new w7 _) (by have := HGL.out; omega) (by simp)
        have hfx := blk_frozen hx8 2
        have hcx := (blk_cell hx8 2).trans rfl
        have hx9 : (w8.setCell ⟨w7.heap.size, 2, none⟩ (.bool (f == 1))).heap[w7.heap.size]? = some (.cells #[.string p, .string v, .bool (f == 1)] 27 (0, 0)) := by simpa using blk_set hx8 2 (.bool (f == 1))
        have hS9 := hS8.far (by have := HGL.out; omega) (by have := HGL.out; omega) (by have := HGL.out; omega) 2 (.bool (f == 1))
        have hx90 := (blk_cell hx9 0).trans rfl
        have hx91 := (blk_cell hx9 1).trans rfl
        have hx92 := (blk_cell hx9 2).trans rfl
        have ht3 := (blk_cell hS9.1.2 3).trans rfl
        have HS9 := Aside0.mk hS9
        have HX9 := Aside0.mk hx9
        clear hS9 hS8 hk8 hx8 hx9 HS7
        go_wp2_with (first | ((with_reducible refine gate_builtin (b := .append) (xs := #[.tmp 79, .tmp 81]) rfl ?_); at_builtin; refine Kd.R_append k27 (w0 := w) w.heap.size rfl (.tmp 79) (.tmp 81) 28 27 (.agg #[(.string ⟨#[]⟩), (.string ⟨#[]⟩), (.bool false)]) 40 rfl Try.underlying28 info27 rfl (by decide) (by omega) vw ws' (⟨p, v, f == 1⟩ : S27) [.string p, .string v, .bool (f == 1)] (fun k_ => k_ ≠ w7.heap.size) (fun _ => False) rfl (by first | (go_simp; done) | (go_simp; rfl)) (k27_mkM _ _ _ (⟨p, v, f == 1⟩ : S27)) (fun _ hk => hk.elim) (fun k_ hk => by have := blk_lt HX9.out; omega) HS9.out.2.2.2.1 HS9.out.2.2.2.2 HS9.out.2.2.2.2.size (by have := HLen.out; omega) ?_; intro v1 w10 ho hb hg hat; obtain ⟨Av, cv, rfl⟩ := Kd.R_slice ho; have HO := Aside0.mk ho; have HB10 := Aside0.mk hb; have HG := Aside0.mk hg; have hf10 := blk_frozen (blk_grown HS9.out.1.2 hg (Kd.R_ne HS9.out.2.2.2.1 HS9.out.1.2 (by decide))) 3; have hc10 := (blk_cell (blk_grown HS9.out.1.2 hg (Kd.R_ne HS9.out.2.2.2.1 HS9.out.1.2 (by decide))) 3).trans rfl; clear ho hb hg hat hx90 hx91 hx92 ht3 hcx hfx))
        have HS11 := Aside0.mk ((HS9.out.put_w HO.out HB10.out HG.out).mono (ok' := fun _ => True) (fun _ _ => trivial))
        clear HS9 HX9 HO HB10 HG hf10 hc10
        go_roundg k2
        case measure => have := HK1.out; omega
        case rel => exact ⟨wrap64 (i2 - 1), n10, b10, _, _, (by first | rfl | (simp; done) | (simp [*]; done)), HA2, ⟨by have := HK1.out; omega⟩, ⟨by have h_ := HS11.out; simp only [List.length_append, List.length_singleton] at h_; exact h_⟩⟩
       ·have hA := HA.out
        unfold takeW at hA
        rw [if_neg hc] at hA
        simp only [Option.some.injEq, Prod.mk.injEq] at hA
        obtain ⟨rfl, rfl, rfl⟩ := hA
        have hx : decide (0 < i2) = false ∨ (decide (0 < i2) = true ∧ bad2 = true) := by
         by_cases h0 : 0 < i2
         ·exact .inr ⟨decide_eq_true h0, by cases bad2 <;> simp_all⟩
         ·exact .inl (decide_eq_false h0)
        have hS := HS.out
        obtain ⟨A1, c1, rfl⟩ := Kd.R_slice hS.2.2.1
        obtain ⟨A2, c2, rfl⟩ := Kd.R_slice hS.2.2.2.1
        have ht0 := (blk_cell hS.1.2 0).trans rfl
        have ht1 := (blk_cell hS.1.2 1).trans rfl
        have ht2 := (blk_cell hS.1.2 2).trans rfl
        have ht3 := (blk_cell hS.1.2 3).trans rfl
        clear hc HA hS
        rcases hx with hd | ⟨hd, hbt⟩
        all_goals
         (try rw [hbt] at HSb)
         go_wp2_with fail
         clear ht0 ht1 ht2 ht3 HSb
         have hP := H.out
         unfold takeEnd at hP
         obtain ⟨c, hc, hP⟩ := Option.bind_eq_some_iff.1 hP
         refine (txn_Put.calls k a b A1 c1 rs' A2 c2 ws' c _ (Kd.R_reads' HS.out.2.2.1).2.2 (Kd.R_reads' HS.out.2.2.1).2.1 (Kd.R_reads' HS.out.2.2.2.1).2.2 (Kd.R_reads' HS.out.2.2.2.1).2.1 hc).mono ?_
         rintro e w13 ⟨v0, rfl, ho, hb⟩
         obtain ⟨Ac, cc, rfl⟩ := Kd.R_slice ho
         have HRc := Aside0.mk (Kd.R_reads' ho).2.2
         have HCc := Aside0.mk (Kd.R_reads' ho).2.1
         have hS13 := HS.out.below hb
         have HS13 := Aside0.mk hS13
         have hb2 := hS13.bad_cell
         have hn1 := hS13.1.1.c1
         have hg0 := blk_frozen hS13.1.2 0
         have hg1 := blk_frozen hS13.1.2 1
         have hg2 := blk_frozen hS13.1.2 2
         have hg3 := blk_frozen hS13.1.2 3
         have ht0 := (blk_cell hS13.1.2 0).trans rfl
         have ht1 := (blk_cell hS13.1.2 1).trans rfl
         have ht2 := (blk_cell hS13.1.2 2).trans rfl
         have ht3 := (blk_cell hS13.1.2 3).trans rfl
         clear hS13 ho hb hc HS
         by_cases hbd : bad2 = true
         ·rw [if_pos hbd] at hP
          simp only [Option.some.injEq, Prod.mk.injEq] at hP
          obtain ⟨rfl, rfl, rfl, rfl, rfl, rfl⟩ := hP
          rw [hbd] at hb2
          go_wp2_with fail
          have hz : ((((w13.setCell ⟨w.heap.size, 0, none⟩ (.int .i64 0)).setCell ⟨w.heap.size, 1, none⟩ (.int .i64 0)).setCell ⟨w.heap.size, 2, none⟩ (.slice none 0 0)).setCell ⟨w.heap.size, 3, none⟩ (.slice none 0 0)).heap[w.heap.size]? = some (.cells #[.int .i64 0, .int .i64 0, .slice none 0 0, .slice none 0 0] 30 (0, 0)) := by
           have h_ := blk_set (blk_set (blk_set (blk_set HS13.out.1.2 0 (.int .i64 0)) 1 (.int .i64 0)) 2 (.slice none 0 0)) 3 (.slice none 0 0)
           simpa using h_
          (try simp only [Exit.inBlock, Exit.then])
          refine bodyPost_ret (results_ctt rfl _ _ w.heap.size 30 _ _ _ rfl hz Try.underlying30 rfl rfl) rfl ?_
          exact ⟨_, _, rfl, Kd.R_nil _ _ _ _ _, Kd.R_nil _ _ _ _ _, below_set (below_set (below_set (below_set HS13.out.2.2.2.2 (Nat.le_refl _)) (Nat.le_refl _)) (Nat.le_refl _)) (Nat.le_refl _)⟩
         ·have hbf : bad2 = false := by simpa using hbd
          rw [if_neg hbd] at hP
          rw [hbf] at hb2
          by_cases hcl : 0 < c.length
          ·rw [if_pos hcl] at hP
           obtain ⟨hh, hhp, hP⟩ := Option.bind_eq_some_iff.1 hP
           have hnn : Ac.isNone = false := HW.nonnil HRc.out hcl
           have heq := fun W => Lib.run_eql_slice_nil (P := Try.prog) W 33 5 Ac c.length cc 0 0 Try.underlying33
           have HPre := Aside0.mk (bytes_HasPrefix.calls A0 c0 l0 Ac cc c hh w13 (Kd.C_below HR.out HS13.out.2.2.2.2) HC.out HRc.out HCc.out hhp)
           clear hhp hcl hbd hbf
           have HP := Aside0.mk hP
           clear hP
           cases hh
           ·go_wp2_with fail
            (with_reducible refine HPre.out.mono ?_)
            rintro e w14 ⟨rfl, ⟨nd, rfl⟩⟩
            go_wp2_with fail
            have hP := HP.out
            rw [if_neg (by decide)] at hP
            simp only [Option.some.injEq, Prod.mk.injEq] at hP
            obtain ⟨rfl, rfl, rfl, rfl, rfl, rfl⟩ := hP
            have hz : (((((w13.drewN nd).setCell ⟨w.heap.size, 0, none⟩ (.int .i64 0)).setCell ⟨w.heap.size, 1, none⟩ (.int .i64 0)).setCell ⟨w.heap.size, 2, none⟩ (.slice none 0 0)).setCell ⟨w.heap.size, 3, none⟩ (.slice none 0 0)).heap[w.heap.size]? = some (.cells #[.int .i64 0, .int .i64 0, .slice none 0 0, .slice none 0 0] 30 (0, 0)) := by
             have h_ := blk_set (blk_set (blk_set (blk_set (HS13.out.drewN nd).1.2 0 (.int .i64 0)) 1 (.int .i64 0)) 2 (.slice none 0 0)) 3 (.slice none 0 0)
             simpa using h_
            (try simp only [Exit.inBlock, Exit.then])
            refine bodyPost_ret (results_ctt rfl _ _ w.heap.size 30 _ _ _ rfl hz Try.underlying30 rfl rfl) rfl ?_
            exact ⟨_, _, rfl, Kd.R_nil _ _ _ _ _, Kd.R_nil _ _ _ _ _, below_set (below_set (below_set (below_set (HS13.out.drewN nd).2.2.2.2 (Nat.le_refl _)) (Nat.le_refl _)) (Nat.le_refl _)) (Nat.le_refl _)⟩
           ·have hP := HP.out
            rw [if_pos rfl] at hP
            by_cases hn : (c.length : Int) = m2
            ·rw [if_pos hn] at hP
             simp only [Option.some.injEq, Prod.mk.injEq] at hP
             obtain ⟨rfl, rfl, rfl, rfl, rfl, rfl⟩ := hP
             have hne : ((c.length : Int) != m2) = false := by simp [hn]
             go_wp2_with fail
             (with_reducible refine HPre.out.mono ?_)
             rintro e w14 ⟨rfl, ⟨nd, rfl⟩⟩
             go_wp2_with fail
             have hS14 := HS13.out.drewN nd
             have HC14 := Aside0.mk hS14.cells
             have HCz := Aside0.mk hS14.drew.same.cells
             have HS14 := Aside0.mk hS14
             have hf0 := blk_frozen hS14.1.2 0
             have hf1 := blk_frozen hS14.1.2 1
             have hf2 := blk_frozen hS14.1.2 2
             have hf3 := blk_frozen hS14.1.2 3
             clear hS14
             go_region_held3 (fun w' => w'.cell? ⟨w.heap.size, 0, none⟩ = some (.int .i64 a) ∧ w'.cell? ⟨w.heap.size, 1, none⟩ = some (.int .i64 b) ∧ w'.cell? ⟨w.heap.size, 2, none⟩ = some (.slice A1 rs'.length c1) ∧ w'.cell? ⟨w.heap.size, 3, none⟩ = some (.slice A2 ws'.length c2) ∧ w'.cell? ⟨w.heap.size + 1, 1, none⟩ = some (.int .i64 m2)) (first | exact HC14.out | exact HCz.out) (fail)
             have hSz := (HS13.out.drewN (nd + 1)).same
             (try go_wp2_with fail)
             (try simp only [Exit.inBlock, Exit.then])
             refine bodyPost_ret (results_ctt rfl _ _ w.heap.size 30 _ _ _ rfl hSz.1.2 Try.underlying30 rfl rfl) rfl ?_
             exact ⟨_, _, rfl, hSz.2.2.1, hSz.2.2.2.1, hSz.2.2.2.2⟩
            ·rw [if_neg hn] at hP
             simp only [Option.some.injEq, Prod.mk.injEq] at hP
             obtain ⟨rfl, rfl, rfl, rfl, rfl, rfl⟩ := hP
             have hne : ((c.length : Int) != m2) = true := by simp [hn]
             go_wp2_with fail
             (with_reducible refine HPre.out.mono ?_)
             rintro e w14 ⟨rfl, ⟨nd, rfl⟩⟩
             go_wp2_with fail
             have hz : (((((w13.drewN nd).setCell ⟨w.heap.size, 0, none⟩ (.int .i64 0)).setCell ⟨w.heap.size, 1, none⟩ (.int .i64 0)).setCell ⟨w.heap.size, 2, none⟩ (.slice none 0 0)).setCell ⟨w.heap.size, 3, none⟩ (.slice none 0 0)).heap[w.heap.size]? = some (.cells #[.int .i64 0, .int .i64 0, .slice none 0 0, .slice none 0 0] 30 (0, 0)) := by
              have h_ := blk_set (blk_set (blk_set (blk_set (HS13.out.drewN nd).1.2 0 (.int .i64 0)) 1 (.int .i64 0)) 2 (.slice none 0 0)) 3 (.slice none 0 0)
              simpa using h_
             (try simp only [Exit.inBlock, Exit.then])
             refine bodyPost_ret (results_ctt rfl _ _ w.heap.size 30 _ _ _ rfl hz Try.underlying30 rfl rfl) rfl ?_
             exact ⟨_, _, rfl, Kd.R_nil _ _ _ _ _, Kd.R_nil _ _ _ _ _, below_set (below_set (below_set (below_set (HS13.out.drewN nd).2.2.2.2 (Nat.le_refl _)) (Nat.le_refl _)) (Nat.le_refl _)) (Nat.le_refl _)⟩
          ·rw [if_neg hcl] at hP
           cases hP
end Go.Proofs.Ytnlfhbohcgjcbaa.PA
namespace Go.Proofs.Ytnlfhbohcgjcbaa.PA
open Go.RowKit Go.Proofs.YtnlfhbohcgjcbaaW.PrintWords Go.Proofs.YtnlfhbohcgjcbaaW.PrintLast Go.Proofs.YtnlfhbohcgjcbaaW.PrintMore
set_option linter.unusedVariables false
set_option linter.unusedSimpArgs false
theorem infoGrow9 : (Try.prog.info? 9).map (fun i => (i.zero, i.size, i.bytes)) = some (some (.string ⟨#[]⟩), (Kd.string).sz, 16) := by kernel_rfl
def slices_Grow_Lstring_string_nil.f (a1 : Int) : Option (List (ByteArray)) := if 0 ≤ a1 then if a1 < 8796093022208 then some [] else none else none
set_option maxHeartbeats 2000000 in
set_option maxRecDepth 100000 in
theorem slices_Grow_Lstring_string_nil.calls (a1 : Int) (r : List (ByteArray)) (w : World) (h : slices_Grow_Lstring_string_nil.f a1 = some r) :
  Calls Try.prog 130 #[.slice none 0 0, .int .i64 a1] w fun e w' => ∃ v0_ : Value, e = .returned (v0_) ∧ Kd.R Kd.string 9 w' w.heap.size (fun _ => True) v0_ r ∧ Below w.heap.size w w' := by
 unfold slices_Grow_Lstring_string_nil.f at h
 split at h
 rotate_left
 ·cases h
 rename_i h0
 split at h
 rotate_left
 ·cases h
 rename_i h1
 obtain rfl := Option.some.inj h
 clear h
 by_cases hz : a1 = 0
 ·subst hz
  go_enter Try.func130, Try.ntmps130
  go_wp2
  go_ret
  exact ⟨_, rfl, Kd.R_nil _ _ _ _ _, Below.refl _ _⟩
 ·have hp : 0 < a1 := by omega
  have hd1 : decide (a1 < 0) = false := decide_eq_false (by omega)
  have hd2 : decide (0 < a1) = true := decide_eq_true hp
  have HL := Aside0.mk h1
  clear hz
  go_enter Try.func130, Try.ntmps130
  go_wp2_with ((with_reducible refine gate_builtin (b := .append) (xs := #[.tmp 20, .tmp 21]) rfl ?_); at_builtin; refine Kd.R_append_zeros Kd.string (w0 := w) w.heap.size rfl (.tmp 20) (.tmp 21) 68 3 9 (.string ⟨#[]⟩) 16 rfl Try.underlying68 Try.underlying3 infoGrow9 rfl (by decide) (by omega) (.slice none 0 0) [] (⟨#[]⟩ : ByteArray) a1 (fun _ => True) rfl rfl (show Kd.M Kd.string _ _ _ (⟨#[]⟩ : ByteArray) [.string ⟨#[]⟩] from rfl) (fun _ _ => trivial) (Kd.R_nil _ _ _ _ _) (by omega) (Below.refl _ _) (Nat.le_refl _) (by have := HL.out; simp; omega) ?_; intro v22 w22 ho22 hb22 hg22 hat22; clear hg22 hat22; obtain ⟨A22, c22, rfl⟩ := Kd.R_slice ho22; have HO22 := Aside0.mk ho22; have HB22 := Aside0.mk hb22; clear ho22 hb22)
  go_ret
  refine ⟨_, rfl, ?_, HB22.out⟩
  have ht := Kd.R_take HO22.out (m := 0) (by simp)
  simpa using ht
end Go.Proofs.Ytnlfhbohcgjcbaa.PA
