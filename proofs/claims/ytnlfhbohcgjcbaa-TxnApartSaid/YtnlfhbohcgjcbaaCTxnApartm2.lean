/- Part 3 of a claim of several texts. The statement TxnApart is proved: of any two lots of numbers the transactions made of them are the same for the program just where they are the same for the document, just where their bytes are equal, and just where the one's bytes begin with the other one's. For every input, without a condition. -/
import Derived.Test.YtnlfhbohcgjcbaaCTxnApartm0
import Derived.Test.YtnlfhbohcgjcbaaCTxnApartm1
namespace Go.Proofs.Ytnlfhbohcgjcbaa.PA
open Go.RowKit Go.Proofs.YtnlfhbohcgjcbaaW.PrintWords Go.Proofs.YtnlfhbohcgjcbaaW.PrintLast Go.Proofs.YtnlfhbohcgjcbaaW.PrintMore
attribute [local go_sem] max2_int min2_int max_two min_two max_three min_three max_four min_four
set_option linter.unusedVariables false
set_option linter.unusedSimpArgs false
mutual
def slices_Concat_Lstring_string.l0 : Nat → List (List ByteArray) → Int → List (List ByteArray) → Int → Int → Option (List ByteArray)
 | 0, _, _, _, _, _ => none
 | k + 1, x0, x3, x9, x10, x11 => if x11 < x10 then (if 0 ≤ x11 then (if x11 < (x9.length : Int) then (if (wrap64 (x3 + ((rd_L2 x9 x11).length : Int))) < 0 then (none) else (slices_Concat_Lstring_string.l0 k x0 (wrap64 (x3 + ((rd_L2 x9 x11).length : Int))) x9 x10 (wrap64 (x11 + 1)))) else (none)) else (none)) else ((slices_Grow_Lstring_string_nil.f x3).bind fun t125 => (slices_Concat_Lstring_string.l1 k t125 x0 (x0.length : Int) 0))
def slices_Concat_Lstring_string.l1 : Nat → List ByteArray → List (List ByteArray) → Int → Int → Option (List ByteArray)
 | 0, _, _, _, _ => none
 | k + 1, x6, x25, x26, x27 => if x27 < x26 then (if 0 ≤ x27 then (if x27 < (x25.length : Int) then (if x6.length + (rd_L2 x25 x27).length < 8796093022208 then (slices_Concat_Lstring_string.l1 k (x6 ++ (rd_L2 x25 x27)) x25 x26 (wrap64 (x27 + 1))) else (none)) else (none)) else (none)) else (some x6)
end
def slices_Concat_Lstring_string.f (k : Nat) (l0 : List (List ByteArray)) : Option (List ByteArray) := slices_Concat_Lstring_string.l0 k l0 0 l0 (l0.length : Int) 0
theorem slices_Concat_Lstring_string.mono_l : ∀ k, (∀ y0 y1 y2 y3 y4, LeO (slices_Concat_Lstring_string.l0 k y0 y1 y2 y3 y4) (slices_Concat_Lstring_string.l0 (k + 1) y0 y1 y2 y3 y4)) ∧ (∀ y0 y1 y2 y3, LeO (slices_Concat_Lstring_string.l1 k y0 y1 y2 y3) (slices_Concat_Lstring_string.l1 (k + 1) y0 y1 y2 y3))
 | 0 => ⟨fun _ _ _ _ _ r h => by simp [slices_Concat_Lstring_string.l0] at h, fun _ _ _ _ r h => by simp [slices_Concat_Lstring_string.l1] at h⟩
 | k + 1 => by
  obtain ⟨ih0, ih1⟩ := slices_Concat_Lstring_string.mono_l k
  refine ⟨?_, ?_⟩
  ·intro y0 y1 y2 y3 y4
   unfold slices_Concat_Lstring_string.l0
   repeat' first
   | (with_reducible exact ih0 _ _ _ _ _)
   | (with_reducible exact ih1 _ _ _ _)
   | (with_reducible exact LeO.refl _)
   | (with_reducible exact LeO.none _)
   | (with_reducible refine LeO.ite ?_ ?_)
   | (with_reducible refine LeO.bind ?_ (fun _ => ?_))
  ·intro y0 y1 y2 y3
   unfold slices_Concat_Lstring_string.l1
   repeat' first
   | (with_reducible exact ih0 _ _ _ _ _)
   | (with_reducible exact ih1 _ _ _ _)
   | (with_reducible exact LeO.refl _)
   | (with_reducible exact LeO.none _)
   | (with_reducible refine LeO.ite ?_ ?_)
   | (with_reducible refine LeO.bind ?_ (fun _ => ?_))
theorem slices_Concat_Lstring_string.mono : ∀ a0 k, LeO (slices_Concat_Lstring_string.f k a0) (slices_Concat_Lstring_string.f (k + 1) a0) := by
 intro a0 k
 obtain ⟨ih0, ih1⟩ := slices_Concat_Lstring_string.mono_l k
 unfold slices_Concat_Lstring_string.f
 repeat' first
   | (with_reducible exact ih0 _ _ _ _ _)
   | (with_reducible exact ih1 _ _ _ _)
   | (with_reducible exact LeO.refl _)
   | (with_reducible exact LeO.none _)
   | (with_reducible refine LeO.ite ?_ ?_)
   | (with_reducible refine LeO.bind ?_ (fun _ => ?_))
set_option maxHeartbeats 8000000 in
set_option maxRecDepth 100000 in
theorem slices_Concat_Lstring_string.calls (k : Nat) (A0 : Option Addr) (c0 : Nat) (l0 : List (List ByteArray)) (r : List ByteArray) (w : World) (hr0 : Kd.C (Kd.slice 9 Kd.string) w A0 l0.length l0) (hc0 : l0.length ≤ c0) (h : slices_Concat_Lstring_string.f k l0 = some r) :
  Calls Try.prog 85 #[.slice A0 l0.length c0] w fun e w' => ∃ v0_ : Value, e = .returned (v0_) ∧ Kd.R Kd.string 9 w' w.heap.size (fun _ => True) v0_ r ∧ Below w.heap.size w w' := by
 have HR0 := Aside0.mk hr0
 have HC0 := Aside0.mk hc0
 clear hr0 hc0
 have HB := Aside0.mk (Below.refl w.heap.size w)
 have H : (slices_Concat_Lstring_string.l0 k l0 0 l0 (l0.length : Int) 0) = some r := h
 clear h
 have H' := Aside0.mk H
 clear H
 go_enter Try.func85, Try.ntmps85
 go_wp2
 go_loopg [3, 11] k (fun kq v3 v11 w' => ∃ (x3_1 : Int) (x11_1 : Int), v3 = .int .i64 x3_1 ∧ v11 = .int .i64 x11_1 ∧ Aside0 (slices_Concat_Lstring_string.l0 kq l0 x3_1 l0 (l0.length : Int) x11_1 = some r) ∧ Aside0 (kq ≤ k) ∧ Aside0 (Below w.heap.size w w'))
 case atStart => exact ⟨(0), (0), (by first | rfl | (simp; done) | (simp [*]; done)), (by first | rfl | (simp; done) | (simp [*]; done)), H', ⟨Nat.le_refl _⟩, ⟨by repeat (with_reducible first | exact HB.out | apply ba_ | apply bn_ | apply bd_)⟩⟩
 case round =>
  clear H'
  obtain ⟨x3_1, x11_1, rfl, rfl, HA, HK1, HB⟩ := hrel
  cases gk with
  | zero => exact absurd HA.out (by simp [slices_Concat_Lstring_string.l0])
  | succ k1 =>
   have H := HA.out
   clear HA
   simp only [slices_Concat_Lstring_string.l0] at H
   by_cases c2 : x11_1 < (l0.length : Int)
   ·rw [if_pos c2] at H
    have c2b0 : decide (x11_1 < (l0.length : Int)) = true := decide_eq_true c2
    clear c2
    by_cases c3 : 0 ≤ x11_1
    ·rw [if_pos c3] at H
     have c3b0 : decide (0 ≤ x11_1) = true := decide_eq_true c3
     clear c3
     by_cases c4 : x11_1 < (l0.length : Int)
     ·rw [if_pos c4] at H
      have c4b0 : decide (x11_1 < (l0.length : Int)) = true := decide_eq_true c4
      clear c4
      by_cases c5 : (wrap64 (x3_1 + ((rd_L2 l0 x11_1).length : Int))) < 0
      ·rw [if_pos c5] at H
       exact absurd H (by simp)
      ·rw [if_neg c5] at H
       have c5b0 : decide ((wrap64 (x3_1 + ((rd_L2 l0 x11_1).length : Int))) < 0) = false := decide_eq_false c5
       clear c5
       have H' := Aside0.mk H
       clear H
       have p124 : 0 ≤ (x11_1 : Int) := of_decide_eq_true (by first | (with_reducible assumption) | assumption)
       have q124 : x11_1 < (l0.length : Int) := of_decide_eq_true (by first | (with_reducible assumption) | assumption)
       obtain ⟨ad124, A124_0, c124_0, e124, hx124_0, hl124_0, hi124_0⟩ := at_L2 HR0.out x11_1 p124 q124
       cases e124
       replace hx124_0 := (HB.out.cell (World.block_lt_of_cell? w _ hx124_0)).trans hx124_0
       have HR124_0 := Aside0.mk hi124_0
       have HC124_0 := Aside0.mk hl124_0
       clear hi124_0 hl124_0
       replace p124 := eq_true p124
       replace q124 := eq_true q124
       go_wp2
       go_roundg k1
       case measure => have := HK1.out; omega
       case rel => exact ⟨(wrap64 (x3_1 + ((rd_L2 l0 x11_1).length : Int))), (wrap64 (x11_1 + 1)), (by first | rfl | (simp; done) | (simp [*]; done)), (by first | rfl | (simp; done) | (simp [*]; done)), H', ⟨by have := HK1.out; omega⟩, ⟨by repeat (with_reducible first | exact HB.out | apply ba_ | apply bn_ | apply bd_)⟩⟩
     ·rw [if_neg c4] at H
      exact absurd H (by simp)
    ·rw [if_neg c3] at H
     exact absurd H (by simp)
   ·rw [if_neg c2] at H
    have c2b0 : decide (x11_1 < (l0.length : Int)) = false := decide_eq_false c2
    clear c2
    replace H := Option.bind_eq_some_iff.mp H
    obtain ⟨t125, A60, H⟩ := H
    (try dsimp only at H)
    have A6 := Aside0.mk A60
    clear A60
    have H' := Aside0.mk H
    clear H
    go_wp2_with (first | ((with_reducible refine gate_callee (f := 130) rfl ?_); refine goesM_ (some 24) Try.func130 #[.slice none 0 0, .int .i64 x3_1] ?_; (with_reducible refine (slices_Grow_Lstring_string_nil.calls  x3_1 t125 _ A6.out).mono ?_); rintro e w7 ⟨v126, rfl, ho0, hb⟩; refine ⟨_, rfl, ?_⟩; have n0_ := Aside0.mk (Kd.R_lower ho0 (below_size (by repeat (with_reducible first | exact HB.out | apply ba_ | apply bn_ | apply bd_)))); have n1_ := Aside0.mk (below_step (by repeat (with_reducible first | exact HB.out | apply ba_ | apply bn_ | apply bd_)) hb); clear HB; have HO127 := n0_; have HB := n1_; clear n0_ n1_; clear hb ho0))
    go_loopg [6, 27] k1 (fun kq v6 v27 w' => ∃ (x6_2 : List ByteArray) (x27_2 : Int), v27 = .int .i64 x27_2 ∧ Aside0 (slices_Concat_Lstring_string.l1 kq x6_2 l0 (l0.length : Int) x27_2 = some r) ∧ Aside0 (kq ≤ k1) ∧ Aside0 (Kd.R Kd.string 9 w' w.heap.size (fun _ => True) v6 x6_2) ∧ Aside0 (Below w.heap.size w w'))
    case atStart => exact ⟨(t125), (0), (by first | rfl | (simp; done) | (simp [*]; done)), H', ⟨Nat.le_refl _⟩, ⟨by (with_reducible repeat (first | apply ra_ | apply rn_ | apply rd_)); exact HO127.out⟩, ⟨by repeat (with_reducible first | exact HB.out | apply ba_ | apply bn_ | apply bd_)⟩⟩
    case round =>
     clear H'
     try clear c1
     try clear p1
     try clear q1
     try clear hx1
     try clear c2
     try clear c2b0
     try clear p2
     try clear c3
     try clear c3b0
     try clear c4
     try clear c4b0
     try clear c5
     try clear c5b0
     try clear p6
     try clear c7
     try clear hx124_0
     try clear p124
     try clear q124
     obtain ⟨x6_2, x27_2, rfl, HA, HK2, HO_6, HB⟩ := hrel
     cases gk with
     | zero => exact absurd HA.out (by simp [slices_Concat_Lstring_string.l1])
     | succ k2 =>
      have H := HA.out
      clear HA
      simp only [slices_Concat_Lstring_string.l1] at H
      by_cases c8 : x27_2 < (l0.length : Int)
      ·rw [if_pos c8] at H
       have c8b0 : decide (x27_2 < (l0.length : Int)) = true := decide_eq_true c8
       clear c8
       by_cases c9 : 0 ≤ x27_2
       ·rw [if_pos c9] at H
        have c9b0 : decide (0 ≤ x27_2) = true := decide_eq_true c9
        clear c9
        by_cases c10 : x27_2 < (l0.length : Int)
        ·rw [if_pos c10] at H
         have c10b0 : decide (x27_2 < (l0.length : Int)) = true := decide_eq_true c10
         clear c10
         by_cases c11 : x6_2.length + (rd_L2 l0 x27_2).length < 8796093022208
         ·rw [if_pos c11] at H
          have LMc11 := Aside0.mk c11
          clear c11
          obtain ⟨y129, hy129⟩ : ∃ y_ : List ByteArray, y_ = (x6_2 ++ (rd_L2 l0 x27_2)) := ⟨_, rfl⟩
          replace H : (slices_Concat_Lstring_string.l1 k2 y129 l0 (l0.length : Int) (wrap64 (x27_2 + 1))) = some r := by first | (rw [hy129]; with_reducible exact H) | (have H2_ := (Option.bind_some _ _).symm.trans H; rw [hy129]; with_reducible exact H2_) | (have H2_ := (Option.bind_some _ _).symm.trans H; with_reducible exact H2_) | with_reducible exact H | (rw [hy129]; exact H) | exact H
          have Ny129 := Aside0.mk hy129
          clear hy129
          have H' := Aside0.mk H
          clear H
          have p128 : 0 ≤ (x27_2 : Int) := of_decide_eq_true (by first | (with_reducible assumption) | assumption)
          have q128 : x27_2 < (l0.length : Int) := of_decide_eq_true (by first | (with_reducible assumption) | assumption)
          obtain ⟨ad128, A128_0, c128_0, e128, hx128_0, hl128_0, hi128_0⟩ := at_L2 HR0.out x27_2 p128 q128
          cases e128
          replace hx128_0 := (HB.out.cell (World.block_lt_of_cell? w _ hx128_0)).trans hx128_0
          have HR128_0 := Aside0.mk hi128_0
          have HC128_0 := Aside0.mk hl128_0
          clear hi128_0 hl128_0
          replace p128 := eq_true p128
          replace q128 := eq_true q128
          go_wp2_with (first | ((with_reducible refine gate_builtin (b := .append) (xs := #[.tmp 31, .tmp 32]) rfl ?_); at_builtin; refine Kd.R_append_rows Kd.string (w0 := w) w.heap.size rfl (.tmp 31) (.tmp 32) 68 9 (.string ⟨#[]⟩) 16 rfl Try.underlying68 info9 rfl (by decide) (by omega) u6 x6_2 (rd_L2 l0 x27_2) _ _ _ (fun _ => True) (fun _ => False) rfl rfl ?aO ?aR (fun _ _ h => h) (fun _ h => h.elim) ?aF ?aB ?aS ?aL ?_; (case aR => repeat (first | exact (Kd.C_below HR128_0.out HB.out) | (with_reducible refine ca_ ?_ _) | (with_reducible refine cn_ ?_ _) | (with_reducible refine cd_ ?_))); (case aB => exact (by repeat (with_reducible first | exact HB.out | apply ba_ | apply bn_ | apply bd_))); (case aF => exact (fun _ _ => trivial)); (case aO => exact (by (with_reducible repeat (first | apply ra_ | apply rn_ | apply rd_)); exact HO_6.out)); (case aS => exact (below_size (by repeat (with_reducible first | exact HB.out | apply ba_ | apply bn_ | apply bd_)))); (case aL => have := LMc11.out; omega); intro v130 w12 ho hb hg hat; rw [← Ny129.out] at ho; have n0_ := Aside0.mk (hb); have n1_ := Aside0.mk (ho); clear HB; clear HO_6; have HB := n0_; have HO131 := n1_; clear n0_ n1_; clear ho hb hg hat))
          go_roundg k2
          case measure => have := HK1.out; have := HK2.out; omega
          case rel => exact ⟨(y129), (wrap64 (x27_2 + 1)), (by first | rfl | (simp; done) | (simp [*]; done)), H', ⟨by have := HK1.out; have := HK2.out; omega⟩, ⟨by (with_reducible repeat (first | apply ra_ | apply rn_ | apply rd_)); exact HO131.out⟩, ⟨by repeat (with_reducible first | exact HB.out | apply ba_ | apply bn_ | apply bd_)⟩⟩
         ·rw [if_neg c11] at H
          exact absurd H (by simp)
        ·rw [if_neg c10] at H
         exact absurd H (by simp)
       ·rw [if_neg c9] at H
        exact absurd H (by simp)
      ·rw [if_neg c8] at H
       have c8b0 : decide (x27_2 < (l0.length : Int)) = false := decide_eq_false c8
       clear c8
       obtain rfl := Option.some.inj H
       go_wp2
       go_ret
       exact ⟨_, by first | rfl | (simp [errW_none, errW_some] <;> rfl) | (simp [*, errW_none, errW_some] <;> rfl), by (with_reducible repeat (first | apply ra_ | apply rn_ | apply rd_)); exact HO_6.out, by repeat (with_reducible first | exact HB.out | apply ba_ | apply bn_ | apply bd_)⟩
end Go.Proofs.Ytnlfhbohcgjcbaa.PA
namespace Go.Proofs.Ytnlfhbohcgjcbaa.PA
open Go.RowKit Go.Proofs.YtnlfhbohcgjcbaaW.PrintWords Go.Proofs.YtnlfhbohcgjcbaaW.PrintLast Go.Proofs.YtnlfhbohcgjcbaaW.PrintMore
set_option linter.unusedVariables false
set_option linter.unusedSimpArgs false
set_option maxHeartbeats 2000000 in
set_option maxRecDepth 100000 in
/-- The literal, called. -/
theorem touches1_calls (k : Nat) (x : ByteArray) (n sh r : Int) (b1 b2 : Nat) (w : World) (hc1 : w.cell? ⟨b1, 0, none⟩ = some (.int .i64 n)) (hc2 : w.cell? ⟨b2, 0, none⟩ = some (.int .i64 sh)) (h : key_Shard.f k x n = some r) :
  Calls Try.prog 86 #[.string x, .pointer (some ⟨b1, 0, none⟩), .pointer (some ⟨b2, 0, none⟩)] w fun e w' => e = .returned (.bool (r == sh)) ∧ Drawn0 w w' := by
 have H := Aside0.mk h
 clear h
 go_enter Try.func86, Try.ntmps86
 go_wp2
 repeat (go_quiet (first | (go_at_call 81; (with_reducible refine (key_Shard.calls k x n r _ H.out).mono ?_); rintro e w' ⟨rfl, ⟨nd, rfl⟩⟩; (try first | exact ⟨rfl, _, World.drewN_drewN _ _ _⟩ | exact ⟨rfl, _, Eq.trans (World.drewN_drewN _ _ _) (congrArg (World.drewN _) (Nat.add_assoc _ _ _))⟩))); try go_wp2)
 go_ret
 exact ⟨rfl, by repeat (first | exact Drawn0.refl _ | apply Drawn0.step)⟩
/-- The first key of shard sh, from place i on. -/
def idxShard (k : Nat) (n sh : Int) : List ByteArray → Int → Option Int
 | [], _ => some (-1)
 | x :: xs, i => (key_Shard.f k x n).bind fun r => if r = sh then some i else idxShard k n sh xs (i + 1)
theorem idxShard.mono (n sh : Int) (l : List ByteArray) : ∀ (i : Int) (k : Nat), LeO (idxShard k n sh l i) (idxShard (k + 1) n sh l i) := by
 induction l with
 | nil => intro i k; exact LeO.refl _
 | cons x xs ih =>
  intro i k
  unfold idxShard
  exact LeO.bind (key_Shard.mono _ _ _) (fun _ => LeO.ite (LeO.refl _) (ih _ _))
set_option maxHeartbeats 4000000 in
set_option maxRecDepth 100000 in
theorem idxStr_calls (k : Nat) (A0 : Option Addr) (c0 : Nat) (l0 : List ByteArray) (n sh r : Int) (b1 b2 : Nat) (w : World) (hr0 : Kd.C Kd.string w A0 l0.length l0) (hc1 : w.cell? ⟨b1, 0, none⟩ = some (.int .i64 n)) (hc2 : w.cell? ⟨b2, 0, none⟩ = some (.int .i64 sh)) (h : idxShard k n sh l0 0 = some r) :
  Calls Try.prog 129 #[.slice A0 l0.length c0, .func (.func 86) #[] #[.pointer (some ⟨b1, 0, none⟩), .pointer (some ⟨b2, 0, none⟩)]] w fun e w' => e = .returned (.int .i64 r) ∧ Drawn0 w w' := by
 have HR0 := Aside0.mk hr0
 have hm := Kd.C_max hr0
 have HC1 := Aside0.mk hc1
 have HC2 := Aside0.mk hc2
 have H := Aside0.mk h
 clear hr0 h hc1 hc2
 go_enter Try.func129, Try.ntmps129
 go_wp2_with fail
 go_loopw [8] (fun v8 w' => ∃ j : Nat, j ≤ l0.length ∧ v8 = .int .i64 j ∧ Aside0 (idxShard k n sh (l0.drop j) j = some r) ∧ Drawn0 w w') (fun v8 _ => l0.length - (intOf v8).toNat)
 case atStart => exact ⟨0, Nat.zero_le _, rfl, ⟨by simpa using H.out⟩, Drawn0.refl _⟩
 case round =>
  obtain ⟨j, hj, rfl, HI, ⟨m, rfl⟩⟩ := hrel
  by_cases hlt : j < l0.length
  ·have p1 : 0 ≤ ((j : Int)) := by omega
   have q1 : ((j : Int)) < (l0.length : Int) := by omega
   obtain ⟨ad, e1, hx⟩ := Kd.at_string HR0.out (j : Int) p1 q1
   cases e1
   have hd : l0.drop j = rdOf ByteArray.empty l0 (j : Int) :: l0.drop (j + 1) := by
    rw [List.drop_eq_getElem_cons hlt]
    simp [rdOf, List.getD_eq_getElem?_getD, List.getElem?_eq_getElem hlt]
   have HI2 := HI.out
   rw [hd] at HI2
   simp only [idxShard] at HI2
   obtain ⟨s, hs, h2⟩ := Option.bind_eq_some_iff.1 HI2
   clear HI2 hd HI
   have HS := Aside0.mk hs
   clear hs
   have hx' : w.cell? (ad.add j) = some (.string (rdOf ByteArray.empty l0 (j : Int))) := by simpa using hx
   clear hx p1 q1
   obtain ⟨x, hxe⟩ : ∃ x, rdOf ByteArray.empty l0 (j : Int) = x := ⟨_, rfl⟩
   rw [hxe] at hx' HS
   clear hxe
   have HT := Aside0.mk (touches1_calls k x n sh s b1 b2 (w.drewN m) HC1.out HC2.out HS.out)
   by_cases he : s = sh
   ·have hb : (s == sh) = true := beq_iff_eq.2 he
    rw [if_pos he] at h2
    obtain rfl := Option.some.inj h2
    clear h2 he
    go_wp2_with (go_at_call 86; (with_reducible refine HT.out.mono ?_); rintro e w' ⟨rfl, ⟨nd, rfl⟩⟩)
    go_ret
    exact ⟨rfl, by repeat (first | exact Drawn0.refl _ | apply Drawn0.step)⟩
   ·have hb : (s == sh) = false := beq_eq_false_iff_ne.2 he
    rw [if_neg he] at h2
    have HI3 := Aside0.mk h2
    clear h2 he
    go_wp2_with (go_at_call 86; (with_reducible refine HT.out.mono ?_); rintro e w' ⟨rfl, ⟨nd, rfl⟩⟩)
    go_roundw
    case rel => exact ⟨j + 1, by omega, by go_num, ⟨by simpa using HI3.out⟩, by repeat (first | exact Drawn0.refl _ | apply Drawn0.step)⟩
    case measure => simp [intOf]; omega
  ·have hjl : j = l0.length := by omega
   have HI2 := HI.out
   rw [hjl, List.drop_length] at HI2
   obtain rfl := Option.some.inj HI2
   have hd1 : decide (j < l0.length) = false := decide_eq_false hlt
   clear HI2 hjl HI
   go_wp2_with fail
   go_ret
   exact ⟨rfl, by repeat (first | exact Drawn0.refl _ | apply Drawn0.step)⟩
set_option maxHeartbeats 2000000 in
set_option maxRecDepth 100000 in
theorem hasStr_calls (k : Nat) (A0 : Option Addr) (c0 : Nat) (l0 : List ByteArray) (n sh r : Int) (b1 b2 : Nat) (w : World) (hr0 : Kd.C Kd.string w A0 l0.length l0) (hc1 : w.cell? ⟨b1, 0, none⟩ = some (.int .i64 n)) (hc2 : w.cell? ⟨b2, 0, none⟩ = some (.int .i64 sh)) (h : idxShard k n sh l0 0 = some r) :
  Calls Try.prog 84 #[.slice A0 l0.length c0, .func (.func 86) #[] #[.pointer (some ⟨b1, 0, none⟩), .pointer (some ⟨b2, 0, none⟩)]] w fun e w' => e = .returned (.bool (decide (0 ≤ r))) ∧ Drawn0 w w' := by
 have HT := Aside0.mk (idxStr_calls k A0 c0 l0 n sh r b1 b2 w hr0 hc1 hc2 h)
 clear hr0 hc1 hc2 h
 go_enter Try.func84, Try.ntmps84
 go_wp2_with (go_at_call 129; (with_reducible refine HT.out.mono ?_); rintro e w' ⟨rfl, ⟨nd, rfl⟩⟩)
 go_ret
 exact ⟨rfl, by repeat (first | exact Drawn0.refl _ | apply Drawn0.step)⟩
def txn_Touches.f (k : Nat) (a0_0 : Int) (a0_1 : Int) (l0_2 : List (S24)) (l0_3 : List (S27)) (a1 : Int) (a2 : Int) : Option (Bool) :=
 (txn_keys.f k a0_0 a0_1 l0_2 l0_3).bind fun p => (slices_Concat_Lstring_string.f k [p.1, p.2]).bind fun l => (idxShard k a2 a1 l 0).bind fun r => some (decide (0 ≤ r))
theorem txn_Touches.mono : ∀ a0 a1 a2 a3 a4 a5 k, LeO (txn_Touches.f k a0 a1 a2 a3 a4 a5) (txn_Touches.f (k + 1) a0 a1 a2 a3 a4 a5) := by
 intro a0 a1 a2 a3 a4 a5 k
 unfold txn_Touches.f
 exact LeO.bind (txn_keys.mono _ _ _ _ _) (fun _ => LeO.bind (slices_Concat_Lstring_string.mono _ _) (fun _ => LeO.bind (idxShard.mono _ _ _ _ _) (fun _ => LeO.refl _)))
set_option maxHeartbeats 4000000 in
set_option maxRecDepth 100000 in
theorem txn_Touches.calls (k : Nat) (a0_0 : Int) (a0_1 : Int) (A0_2 : Option Addr) (c0_2 : Nat) (l0_2 : List (S24)) (A0_3 : Option Addr) (c0_3 : Nat) (l0_3 : List (S27)) (a1 : Int) (a2 : Int) (r : Bool) (w : World) (hr0_2 : Kd.C k24 w A0_2 l0_2.length l0_2) (hc0_2 : l0_2.length ≤ c0_2) (hr0_3 : Kd.C k27 w A0_3 l0_3.length l0_3) (hc0_3 : l0_3.length ≤ c0_3) (h : txn_Touches.f k a0_0 a0_1 l0_2 l0_3 a1 a2 = some r) :
  Calls Try.prog 25 #[.agg #[.int .i64 a0_0, .int .i64 a0_1, .slice A0_2 l0_2.length c0_2, .slice A0_3 l0_3.length c0_3], .int .i64 a1, .int .i64 a2] w fun e w' => e = .returned (.bool r) ∧ Below w.heap.size w w' := by
 have hu := Try.underlying30
 have HR2 := Aside0.mk hr0_2
 have HR3 := Aside0.mk hr0_3
 have HC2 := Aside0.mk hc0_2
 have HC3 := Aside0.mk hc0_3
 unfold txn_Touches.f at h
 obtain ⟨⟨rs, ws⟩, hk, h2⟩ := Option.bind_eq_some_iff.1 h
 clear h
 obtain ⟨l, hl, h3⟩ := Option.bind_eq_some_iff.1 h2
 clear h2
 obtain ⟨i, hi, h4⟩ := Option.bind_eq_some_iff.1 h3
 clear h3
 obtain rfl := Option.some.inj h4
 have HK := Aside0.mk hk
 have HL := Aside0.mk hl
 have HI := Aside0.mk hi
 clear hk hl hi h4 hr0_2 hr0_3 hc0_2 hc0_3
 go_enter Try.func25, Try.ntmps25
 go_wp2_with fail
 refine (txn_keys.calls k a0_0 a0_1 _ _ l0_2 _ _ l0_3 rs ws _ (by repeat (first | exact HR2.out | (with_reducible refine Kd.C_alloc ?_ _))) HC2.out (by repeat (first | exact HR3.out | (with_reducible refine Kd.C_alloc ?_ _))) HC3.out HK.out).mono ?_
 rintro e w1 ⟨v0, v1, rfl, ho0, ho1, hb⟩
 have HB := Aside0.mk (Below.trans (by repeat (first | exact Below.refl _ _ | apply below_alloc) : Below w.heap.size w _) (hb.mono (by simp; omega)))
 have hp1 : w1.cell? ⟨w.heap.size + 1, 0, none⟩ = some (.int .i64 a1) := pw_cell_below hb (HW.cell_next _ (HW.cell_one _ _ _ _ (by simp)))
 have hp2 : w1.cell? ⟨w.heap.size + 1 + 1, 0, none⟩ = some (.int .i64 a2) := pw_cell_below hb (HW.cell_one _ _ _ _ (by simp))
 have HP1 := Aside0.mk hp1
 have HP2 := Aside0.mk hp2
 obtain ⟨A1, c1, rfl⟩ := Kd.R_slice ho0
 obtain ⟨A2, c2, rfl⟩ := Kd.R_slice ho1
 have HK0 := Aside0.mk (HW.K_of_R (e' := 9) ho0)
 have HK1 := Aside0.mk (HW.K_of_R (e' := 9) ho1)
 clear ho0 ho1 hb hp1 hp2
 go_wp2_with fail
 refine calls_of_args (args' := #[.slice (some ⟨w1.heap.size, 0, none⟩) [rs, ws].length 2]) (by rfl) ?_
 refine (slices_Concat_Lstring_string.calls k _ 2 [rs, ws] l _ (HW.C_lit 9 68 w1 [.slice A1 rs.length c1, .slice A2 ws.length c2] [rs, ws] rfl (by simp) (fun j v xs hv hx => ?_)) (by simp) HL.out).mono ?_
 ·match j, hv, hx with
  | 0, hv, hx => simp at hv hx; subst hv hx; exact HK0.out
  | 1, hv, hx => simp at hv hx; subst hv hx; exact HK1.out
  | j + 2, hv, hx => simp at hv
 rintro e w2 ⟨v2, rfl, ho2, hb2⟩
 have HB2 := Aside0.mk (below_step (below_alloc HB.out _) hb2)
 have HQ1 := Aside0.mk (pw_cell_below hb2 (pw_cell_below (below_alloc (Below.refl _ _) _) HP1.out))
 have HQ2 := Aside0.mk (pw_cell_below hb2 (pw_cell_below (below_alloc (Below.refl _ _) _) HP2.out))
 obtain ⟨A3, c3, rfl⟩ := Kd.R_slice ho2
 have HR := Aside0.mk (Kd.R_reads' ho2).2.2
 clear ho2 hb2
 go_wp2_with fail
 refine (hasStr_calls k A3 c3 l a2 a1 i _ _ _ HR.out HQ2.out HQ1.out HI.out).mono ?_
 rintro e w3 ⟨rfl, ⟨nd, rfl⟩⟩
 go_wp2_with fail
 go_ret
 exact ⟨rfl, pw_below_drewN HB2.out _⟩
end Go.Proofs.Ytnlfhbohcgjcbaa.PA
namespace Go.Proofs.Ytnlfhbohcgjcbaa.PA
open Go.RowKit Go.Proofs.YtnlfhbohcgjcbaaW.PrintWords Go.Proofs.YtnlfhbohcgjcbaaW.PrintLast Go.Proofs.YtnlfhbohcgjcbaaW.PrintMore
attribute [local go_sem] max2_int min2_int max_two min_two max_three min_three max_four min_four
set_option linter.unusedVariables false
set_option linter.unusedSimpArgs false
def diwanlaw5_begun.f (k : Nat)  : Option (Bool) := (some (([(⟨(⟨#[97]⟩ : ByteArray), (⟨#[118]⟩ : ByteArray), false⟩ : S27)] : List (S27)) : List (S27))).bind fun y304 => ((txn_Put.f k 1 1 ([] : List (S24)) y304).bind fun t308 => ((txn_Take.f k t308).bind fun bt311 => ((txn_Take.f k ([] : List Int)).bind fun bt322 => ((txn_May.f k 1 1 ([] : List (S24)) y304).bind fun t333 => (if t333 = true then (if (strOfNums t308).toList = ([1, 1, 0, 1, 1, 97, 1, 118, 0] : List UInt8) then (if bt311.2.2.2.2.2 = true then (if bt311.2.2.2.2.1 = (t308.length : Int) then ((txn_Same.f k bt311.1 bt311.2.1 bt311.2.2.1 bt311.2.2.2.1 1 1 ([] : List (S24)) y304).bind fun t334 => (if t334 = true then (if bt322.2.2.2.2.2 = true then (none) else ((txn_Touches.f k 1 1 ([] : List (S24)) y304 1 3).bind fun t335 => (if t335 = true then ((txn_Reads.f k 1 1 ([] : List (S24)) y304 3).bind fun t336 => (some ((t336.length : Int) == 0))) else (none)))) else (none))) else (none)) else (none)) else (none)) else (none))))))
theorem diwanlaw5_begun.mono : ∀ k, LeO (diwanlaw5_begun.f k ) (diwanlaw5_begun.f (k + 1) ) := by
 intro  k
 unfold diwanlaw5_begun.f
 repeat' first
   | (with_reducible exact txn_May.mono _ _ _ _ _)
   | (with_reducible exact txn_Put.mono _ _ _ _ _)
   | (with_reducible exact txn_Reads.mono _ _ _ _ _ _)
   | (with_reducible exact txn_Same.mono _ _ _ _ _ _ _ _ _)
   | (with_reducible exact txn_Take.mono _ _)
   | (with_reducible exact txn_Touches.mono _ _ _ _ _ _ _)
   | (with_reducible exact LeO.refl _)
   | (with_reducible exact LeO.none _)
   | (with_reducible refine LeO.ite ?_ ?_)
   | (with_reducible refine LeO.bind ?_ (fun _ => ?_))
set_option maxHeartbeats 8000000 in
set_option maxRecDepth 100000 in
theorem diwanlaw5_begun.calls (k : Nat)  (r : Bool) (w : World) (h : diwanlaw5_begun.f k  = some r) :
  Calls Try.prog 17 #[] w fun e w' => e = .returned (.bool r) ∧ Below w.heap.size w w' := by
 have hu27 := Try.underlying27
 have hu30 := Try.underlying30
 have HB := Aside0.mk (Below.refl w.heap.size w)
 have H : ((some (([(⟨(⟨#[97]⟩ : ByteArray), (⟨#[118]⟩ : ByteArray), false⟩ : S27)] : List (S27)) : List (S27))).bind fun y304 => ((txn_Put.f k 1 1 ([] : List (S24)) y304).bind fun t308 => ((txn_Take.f k t308).bind fun bt311 => ((txn_Take.f k ([] : List Int)).bind fun bt322 => ((txn_May.f k 1 1 ([] : List (S24)) y304).bind fun t333 => (if t333 = true then (if (strOfNums t308).toList = ([1, 1, 0, 1, 1, 97, 1, 118, 0] : List UInt8) then (if bt311.2.2.2.2.2 = true then (if bt311.2.2.2.2.1 = (t308.length : Int) then ((txn_Same.f k bt311.1 bt311.2.1 bt311.2.2.1 bt311.2.2.2.1 1 1 ([] : List (S24)) y304).bind fun t334 => (if t334 = true then (if bt322.2.2.2.2.2 = true then (none) else ((txn_Touches.f k 1 1 ([] : List (S24)) y304 1 3).bind fun t335 => (if t335 = true then ((txn_Reads.f k 1 1 ([] : List (S24)) y304 3).bind fun t336 => (some ((t336.length : Int) == 0))) else (none)))) else (none))) else (none)) else (none)) else (none)) else (none))))))) = some r := h
 clear h
 obtain ⟨y304, hy304⟩ : ∃ y_ : List (S27), y_ = (([(⟨(⟨#[97]⟩ : ByteArray), (⟨#[118]⟩ : ByteArray), false⟩ : S27)] : List (S27))) := ⟨_, rfl⟩
 replace H : ((txn_Put.f k 1 1 ([] : List (S24)) y304).bind fun t308 => ((txn_Take.f k t308).bind fun bt311 => ((txn_Take.f k ([] : List Int)).bind fun bt322 => ((txn_May.f k 1 1 ([] : List (S24)) y304).bind fun t333 => (if t333 = true then (if (strOfNums t308).toList = ([1, 1, 0, 1, 1, 97, 1, 118, 0] : List UInt8) then (if bt311.2.2.2.2.2 = true then (if bt311.2.2.2.2.1 = (t308.length : Int) then ((txn_Same.f k bt311.1 bt311.2.1 bt311.2.2.1 bt311.2.2.2.1 1 1 ([] : List (S24)) y304).bind fun t334 => (if t334 = true then (if bt322.2.2.2.2.2 = true then (none) else ((txn_Touches.f k 1 1 ([] : List (S24)) y304 1 3).bind fun t335 => (if t335 = true then ((txn_Reads.f k 1 1 ([] : List (S24)) y304 3).bind fun t336 => (some ((t336.length : Int) == 0))) else (none)))) else (none))) else (none)) else (none)) else (none)) else (none)))))) = some r := by first | (rw [hy304]; with_reducible exact H) | (have H2_ := (Option.bind_some _ _).symm.trans H; rw [hy304]; with_reducible exact H2_) | (have H2_ := (Option.bind_some _ _).symm.trans H; with_reducible exact H2_) | with_reducible exact H | (rw [hy304]; exact H) | exact H
 have Ny304 := Aside0.mk hy304
 clear hy304
 replace H := Option.bind_eq_some_iff.mp H
 obtain ⟨t308, A10, H⟩ := H
 (try dsimp only at H)
 have A1 := Aside0.mk A10
 clear A10
 replace H := Option.bind_eq_some_iff.mp H
 obtain ⟨⟨t311, t312, t313, t316, t319, t320⟩, A20, H⟩ := H
 (try dsimp only at H)
 have A2 := Aside0.mk A20
 clear A20
 replace H := Option.bind_eq_some_iff.mp H
 obtain ⟨⟨t322, t323, t324, t327, t330, t331⟩, A30, H⟩ := H
 (try dsimp only at H)
 have A3 := Aside0.mk A30
 clear A30
 replace H := Option.bind_eq_some_iff.mp H
 obtain ⟨t333, A40, H⟩ := H
 (try dsimp only at H)
 have A4 := Aside0.mk A40
 clear A40
 by_cases c5 : t333 = true
 ·subst c5
  have H1 : (if (strOfNums t308).toList = ([1, 1, 0, 1, 1, 97, 1, 118, 0] : List UInt8) then (if t320 = true then (if t319 = (t308.length : Int) then ((txn_Same.f k t311 t312 t313 t316 1 1 ([] : List (S24)) y304).bind fun t334 => (if t334 = true then (if t331 = true then (none) else ((txn_Touches.f k 1 1 ([] : List (S24)) y304 1 3).bind fun t335 => (if t335 = true then ((txn_Reads.f k 1 1 ([] : List (S24)) y304 3).bind fun t336 => (some ((t336.length : Int) == 0))) else (none)))) else (none))) else (none)) else (none)) else (none)) = some r := by rw [if_pos rfl] at H; exact H
  clear H
  have H := H1
  clear H1
  by_cases c6 : (strOfNums t308).toList = ([1, 1, 0, 1, 1, 97, 1, 118, 0] : List UInt8)
  ·rw [if_pos c6] at H
   have c6b0 : ((strOfNums t308).toList == ([1, 1, 0, 1, 1, 97, 1, 118, 0] : List UInt8)) = true := beq_iff_eq.mpr c6
   have c6b1 : ((strOfNums t308).toList != ([1, 1, 0, 1, 1, 97, 1, 118, 0] : List UInt8)) = false := bne_eq_false_iff_eq.mpr c6
   clear c6
   by_cases c7 : t320 = true
   ·subst c7
    have H1 : (if t319 = (t308.length : Int) then ((txn_Same.f k t311 t312 t313 t316 1 1 ([] : List (S24)) y304).bind fun t334 => (if t334 = true then (if t331 = true then (none) else ((txn_Touches.f k 1 1 ([] : List (S24)) y304 1 3).bind fun t335 => (if t335 = true then ((txn_Reads.f k 1 1 ([] : List (S24)) y304 3).bind fun t336 => (some ((t336.length : Int) == 0))) else (none)))) else (none))) else (none)) = some r := by rw [if_pos rfl] at H; exact H
    clear H
    have H := H1
    clear H1
    by_cases c8 : t319 = (t308.length : Int)
    ·rw [if_pos c8] at H
     have c8b0 : (t319 == (t308.length : Int)) = true := beq_iff_eq.mpr c8
     have c8b1 : (t319 != (t308.length : Int)) = false := bne_eq_false_iff_eq.mpr c8
     clear c8
     replace H := Option.bind_eq_some_iff.mp H
     obtain ⟨t334, A90, H⟩ := H
     (try dsimp only at H)
     have A9 := Aside0.mk A90
     clear A90
     by_cases c10 : t334 = true
     ·subst c10
      have H1 : (if t331 = true then (none) else ((txn_Touches.f k 1 1 ([] : List (S24)) y304 1 3).bind fun t335 => (if t335 = true then ((txn_Reads.f k 1 1 ([] : List (S24)) y304 3).bind fun t336 => (some ((t336.length : Int) == 0))) else (none)))) = some r := by rw [if_pos rfl] at H; exact H
      clear H
      have H := H1
      clear H1
      by_cases c11 : t331 = true
      ·subst c11
       have H1 : (none) = some r := by rw [if_pos rfl] at H; exact H
       clear H
       have H := H1
       clear H1
       exact absurd H (by simp)
      ·replace c11 := Bool.eq_false_iff.mpr c11
       subst c11
       have H1 : ((txn_Touches.f k 1 1 ([] : List (S24)) y304 1 3).bind fun t335 => (if t335 = true then ((txn_Reads.f k 1 1 ([] : List (S24)) y304 3).bind fun t336 => (some ((t336.length : Int) == 0))) else (none))) = some r := by rw [if_neg (show ¬ (false = true) by decide)] at H; exact H
       clear H
       have H := H1
       clear H1
       replace H := Option.bind_eq_some_iff.mp H
       obtain ⟨t335, A120, H⟩ := H
       (try dsimp only at H)
       have A12 := Aside0.mk A120
       clear A120
       by_cases c13 : t335 = true
       ·subst c13
        have H1 : ((txn_Reads.f k 1 1 ([] : List (S24)) y304 3).bind fun t336 => (some ((t336.length : Int) == 0))) = some r := by rw [if_pos rfl] at H; exact H
        clear H
        have H := H1
        clear H1
        replace H := Option.bind_eq_some_iff.mp H
        obtain ⟨t336, A140, H⟩ := H
        (try dsimp only at H)
        have A14 := Aside0.mk A140
        clear A140
        obtain rfl := Option.some.inj H
        go_enter Try.func17, Try.ntmps17
        go_wp2_with (first | ((with_reducible refine gate_dst (N := 10) rfl ?_); (try (refine gate_guard (by rfl) ?_; dsimp only)); refine Kd.R_lit k27 _ 27 ?hg (N := 10) ?hd (xs := ([(⟨(⟨#[97]⟩ : ByteArray), (⟨#[118]⟩ : ByteArray), false⟩ : S27)] : List (S27))) (inner := [.string (⟨#[97]⟩ : ByteArray), .string (⟨#[118]⟩ : ByteArray), .bool false]) (ok := fun _ => True) (okp := fun _ => True) ?hr ?hp (fun _ hk => hk) trivial (Below.refl _ _) (Nat.le_refl _) (by simp) ?_; (case hd => rfl); (case hg => rfl); (case hr => first | (go_simp; done) | (go_simp; rfl)); (case hp => exact (Reps.c3 (show Kd.M k27 _ _ _ (⟨(⟨#[97]⟩ : ByteArray), (⟨#[118]⟩ : ByteArray), false⟩ : S27) [.string (⟨#[97]⟩ : ByteArray), .string (⟨#[118]⟩ : ByteArray), .bool false] from (k27_mkM _ _ _ (⟨(⟨#[97]⟩ : ByteArray), (⟨#[118]⟩ : ByteArray), false⟩ : S27) )) (Reps.none _ _))); intro v305 w15 ho16 hb hg_ hnew_; clear hg_ hnew_; (first | rw [← Ny304.out] at ho16 | (simp only [Int.reduceToNat] at ho16; rw [← Ny304.out] at ho16)); have n0_ := Aside0.mk (Kd.R_lower ho16 (below_size (by repeat (with_reducible first | exact HB.out | apply ba_ | apply bn_ | apply bd_)))); have n1_ := Aside0.mk (below_step (by repeat (with_reducible first | exact HB.out | apply ba_ | apply bn_ | apply bd_)) hb); clear HB; have HO306 := n0_; have HB := n1_; clear n0_ n1_; clear hb ho16; obtain ⟨Ao17, co17, eo17⟩ := Kd.R_slice HO306.out; subst eo17) | ((with_reducible refine gate_dst (N := 1) rfl ?_); (try (refine gate_guard (by rfl) ?_; dsimp only)); refine box_event ?hg (N := 1) ?hd (cs := #[.int .i64 0, .int .i64 0, .slice none 0 0, .slice none 0 0]) (t := 30) ?hr ?_; (case hd => rfl); (case hg => rfl); (case hr => first | (go_simp; done) | (go_simp; rfl)); intro gb307 hg w18 hbox hb; have n0_ := Aside0.mk (Kd.R_below (by (with_reducible repeat (first | apply ra_ | apply rn_ | apply rd_)); exact HO306.out) hb); have n1_ := Aside0.mk (below_step (by repeat (with_reducible first | exact HB.out | apply ba_ | apply bn_ | apply bd_)) hb); have n2_ := Aside0.mk (hbox); have n3_ := Aside0.mk ((by rw [hg]; exact (below_size (by repeat (with_reducible first | exact HB.out | apply ba_ | apply bn_ | apply bd_))) : w.heap.size ≤ gb307)); have n4_ := Aside0.mk ((by rw [hg]; exact (below_size (by repeat (with_reducible first | exact HB.out | apply ba_ | apply bn_ | apply bd_))) : w.heap.size ≤ gb307)); clear HO306; clear HB; have HO306 := n0_; have HB := n1_; have BK307 := n2_; have GW307 := n3_; have GE307 := n4_; clear n0_ n1_ n2_ n3_ n4_; clear hb hbox hg; have hcz19_0 : w18.cell? ⟨gb307, 0, none⟩ = some (.int .i64 0) := (blk_cell BK307.out 0).trans rfl; have hcz19_1 : w18.cell? ⟨gb307, 1, none⟩ = some (.int .i64 0) := (blk_cell BK307.out 1).trans rfl; have hcz19_2 : w18.cell? ⟨gb307, 2, none⟩ = some (.slice none 0 0) := (blk_cell BK307.out 2).trans rfl; have hcz19_3 : w18.cell? ⟨gb307, 3, none⟩ = some (.slice none 0 0) := (blk_cell BK307.out 3).trans rfl; have hfz19_0 := blk_frozen BK307.out 0; have hfz19_1 := blk_frozen BK307.out 1; have hfz19_2 := blk_frozen BK307.out 2; have hfz19_3 := blk_frozen BK307.out 3) | ((with_reducible refine gate_callee (f := 19) rfl ?_); refine goesM_ (some 13) Try.func19 #[.agg #[.int .i64 1, .int .i64 1, .slice none 0 0, .slice Ao17 y304.length co17]] ?_; (refine (txn_Put.calls k 1 1 _ _ ([] : List (S24)) _ _ y304 t308 _ ?side1 ?side2 ?side3 ?side4 A1.out).mono ?_); (case side1 => exact Kd.C_nil _ _); (case side2 => exact Nat.le_refl _); (case side3 => refine (Kd.R_reads' (e := 27) (base := w.heap.size) (ok := fun k_ => True) (n := y304.length) (c := co17) ?_).2.2; exact (by (with_reducible repeat (first | apply ra_ | apply rn_ | apply rd_)); exact (Kd.R_mono (Kd.R_far (p := ⟨gb307, 3, none⟩) (Kd.R_far (p := ⟨gb307, 2, none⟩) (Kd.R_far (p := ⟨gb307, 1, none⟩) (Kd.R_far (p := ⟨gb307, 0, none⟩) (Kd.R_types HO306.out BK307.out (by decide)) (fun _ hk => hk.2) (.int .i64 1)) (fun _ hk => hk.2) (.int .i64 1)) (fun _ hk => hk.2) (.slice none 0 0)) (fun _ hk => hk.2) (.slice Ao17 y304.length co17)) (fun _ h_ => h_.1)))); (case side4 => exact (Kd.R_reads' HO306.out).2.1); rintro e w20 ⟨v309, rfl, ho0, hb⟩; refine ⟨_, rfl, ?_⟩; have n0_ := Aside0.mk (Kd.R_below (by (with_reducible repeat (first | apply ra_ | apply rn_ | apply rd_)); exact (Kd.R_mono (Kd.R_far (p := ⟨gb307, 3, none⟩) (Kd.R_far (p := ⟨gb307, 2, none⟩) (Kd.R_far (p := ⟨gb307, 1, none⟩) (Kd.R_far (p := ⟨gb307, 0, none⟩) (Kd.R_types HO306.out BK307.out (by decide)) (fun _ hk => hk.2) (.int .i64 1)) (fun _ hk => hk.2) (.int .i64 1)) (fun _ hk => hk.2) (.slice none 0 0)) (fun _ hk => hk.2) (.slice Ao17 y304.length co17)) (fun _ h_ => h_.1))) hb); have n1_ := Aside0.mk (Kd.R_lower ho0 (below_size (by repeat (with_reducible first | exact HB.out | apply ba_ | apply bn_ | apply bd_ | refine bs_ ?_ GE307.out)))); have n2_ := Aside0.mk (blk_below (g := gb307) (o := .cells #[.int .i64 1, .int .i64 1, .slice none 0 0, .slice Ao17 y304.length co17] 30 (0, 0)) (by (with_reducible repeat (first | refine kn_ ?_ _ | refine kd_ ?_ | refine ka_ ?_ _)); refine blk_put (cs := #[.int .i64 1, .int .i64 1, .slice none 0 0, .slice none 0 0]) ?_ 3 _ rfl; (with_reducible repeat (first | refine kn_ ?_ _ | refine kd_ ?_ | refine ka_ ?_ _)); refine blk_put (cs := #[.int .i64 1, .int .i64 1, .slice none 0 0, .slice none 0 0]) ?_ 2 _ rfl; (with_reducible repeat (first | refine kn_ ?_ _ | refine kd_ ?_ | refine ka_ ?_ _)); refine blk_put (cs := #[.int .i64 1, .int .i64 0, .slice none 0 0, .slice none 0 0]) ?_ 1 _ rfl; (with_reducible repeat (first | refine kn_ ?_ _ | refine kd_ ?_ | refine ka_ ?_ _)); refine blk_put (cs := #[.int .i64 0, .int .i64 0, .slice none 0 0, .slice none 0 0]) ?_ 0 _ rfl; (with_reducible repeat (first | refine kn_ ?_ _ | refine kd_ ?_ | refine ka_ ?_ _)); exact BK307.out) hb); have n3_ := Aside0.mk (below_step (by repeat (with_reducible first | exact HB.out | apply ba_ | apply bn_ | apply bd_ | refine bs_ ?_ GE307.out)) hb); clear HO306; clear BK307; clear HB; have HO306 := n0_; have HO310 := n1_; have BK307 := n2_; have HB := n3_; clear n0_ n1_ n2_ n3_; clear hb ho0; obtain ⟨Ao21, co21, eo21⟩ := Kd.R_slice HO310.out; subst eo21) | ((with_reducible refine gate_callee (f := 63) rfl ?_); refine goesM_ (some 16) Try.func63 #[.slice Ao21 t308.length co21] ?_; (with_reducible refine (txn_Take.calls k _ _ t308 t311 t312 t313 t316 t319 true _ ?side1 ?side2 A2.out).mono ?_); (case side1 => repeat (first | exact (Kd.R_reads' HO310.out).2.2 | (with_reducible refine ca_ ?_ _) | (with_reducible refine cn_ ?_ _) | (with_reducible refine cd_ ?_))); (case side2 => exact (Kd.R_reads' HO310.out).2.1); rintro e w22 ⟨v314, v317, rfl, ho0, ho1, hb⟩; refine ⟨_, rfl, ?_⟩; have n0_ := Aside0.mk (Kd.R_elder' (by (with_reducible repeat (first | apply ra_ | apply rn_ | apply rd_)); exact HO306.out) (Kd.R_base ho1) hb); have n1_ := Aside0.mk (Kd.R_below (by (with_reducible repeat (first | apply ra_ | apply rn_ | apply rd_)); exact HO310.out) hb); have n2_ := Aside0.mk (Kd.R_lower ho0 (below_size (by repeat (with_reducible first | exact HB.out | apply ba_ | apply bn_ | apply bd_ | refine bs_ ?_ GE307.out)))); have n3_ := Aside0.mk (Kd.R_lower (Kd.R_new' ho1 (Kd.R_lt (by (with_reducible repeat (first | apply ra_ | apply rn_ | apply rd_)); exact HO306.out))) (below_size (by repeat (with_reducible first | exact HB.out | apply ba_ | apply bn_ | apply bd_ | refine bs_ ?_ GE307.out)))); have n4_ := Aside0.mk (blk_below (g := gb307) (o := .cells #[.int .i64 1, .int .i64 1, .slice none 0 0, .slice Ao17 y304.length co17] 30 (0, 0)) (by (with_reducible repeat (first | refine kn_ ?_ _ | refine kd_ ?_ | refine ka_ ?_ _)); exact BK307.out) hb); have n5_ := Aside0.mk (below_step (by repeat (with_reducible first | exact HB.out | apply ba_ | apply bn_ | apply bd_ | refine bs_ ?_ GE307.out)) hb); clear HO306; clear HO310; clear BK307; clear HB; have HO306 := n0_; have HO310 := n1_; have HO315 := n2_; have HO318 := n3_; have BK307 := n4_; have HB := n5_; clear n0_ n1_ n2_ n3_ n4_ n5_; clear hb ho0 ho1) | ((with_reducible refine gate_dst (N := 3) rfl ?_); (try (refine gate_guard (by rfl) ?_; dsimp only)); refine box_event ?hg (N := 3) ?hd (cs := #[.int .i64 0, .int .i64 0, .slice none 0 0, .slice none 0 0]) (t := 30) ?hr ?_; (case hd => rfl); (case hg => rfl); (case hr => first | (go_simp; done) | (go_simp; rfl)); intro gb321 hg w23 hbox hb; have n0_ := Aside0.mk (Kd.R_below (by (with_reducible repeat (first | apply ra_ | apply rn_ | apply rd_)); exact HO306.out) hb); have n1_ := Aside0.mk (Kd.R_below (by (with_reducible repeat (first | apply ra_ | apply rn_ | apply rd_)); exact HO310.out) hb); have n2_ := Aside0.mk (Kd.R_below (by (with_reducible repeat (first | apply ra_ | apply rn_ | apply rd_)); exact HO315.out) hb); have n3_ := Aside0.mk (Kd.R_below (by (with_reducible repeat (first | apply ra_ | apply rn_ | apply rd_)); exact HO318.out) hb); have n4_ := Aside0.mk (blk_below (g := gb307) (o := .cells #[.int .i64 1, .int .i64 1, .slice none 0 0, .slice Ao17 y304.length co17] 30 (0, 0)) (by (with_reducible repeat (first | refine kn_ ?_ _ | refine kd_ ?_ | refine ka_ ?_ _)); exact BK307.out) hb); have n5_ := Aside0.mk (below_step (by repeat (with_reducible first | exact HB.out | apply ba_ | apply bn_ | apply bd_ | refine bs_ ?_ GE307.out)) hb); have n6_ := Aside0.mk (hbox); have n7_ := Aside0.mk ((by rw [hg]; exact (below_size (by repeat (with_reducible first | exact HB.out | apply ba_ | apply bn_ | apply bd_ | refine bs_ ?_ GE307.out))) : w.heap.size ≤ gb321)); have n8_ := Aside0.mk ((by rw [hg]; exact (below_size (by repeat (with_reducible first | exact HB.out | apply ba_ | apply bn_ | apply bd_ | refine bs_ ?_ GE307.out))) : w.heap.size ≤ gb321)); have n9_ := Aside0.mk ((by rw [hg]; exact Nat.ne_of_lt (blk_lt (g := gb307) (o := .cells #[.int .i64 1, .int .i64 1, .slice none 0 0, .slice Ao17 y304.length co17] 30 (0, 0)) (by (with_reducible repeat (first | refine kn_ ?_ _ | refine kd_ ?_ | refine ka_ ?_ _)); exact BK307.out)) : gb307 ≠ gb321)); have n10_ := Aside0.mk ((by rw [hg]; exact Nat.ne_of_gt (blk_lt (g := gb307) (o := .cells #[.int .i64 1, .int .i64 1, .slice none 0 0, .slice Ao17 y304.length co17] 30 (0, 0)) (by (with_reducible repeat (first | refine kn_ ?_ _ | refine kd_ ?_ | refine ka_ ?_ _)); exact BK307.out)) : gb321 ≠ gb307)); clear HO306; clear HO310; clear HO315; clear HO318; clear BK307; clear HB; have HO306 := n0_; have HO310 := n1_; have HO315 := n2_; have HO318 := n3_; have BK307 := n4_; have HB := n5_; have BK321 := n6_; have GW321 := n7_; have GE321 := n8_; have NB307_321 := n9_; have NB321_307 := n10_; clear n0_ n1_ n2_ n3_ n4_ n5_ n6_ n7_ n8_ n9_ n10_; clear hb hbox hg; have hnb24 := NB321_307.out; have hnc24 := NB307_321.out; have hcz25_0 : w23.cell? ⟨gb321, 0, none⟩ = some (.int .i64 0) := (blk_cell BK321.out 0).trans rfl; have hcz25_1 : w23.cell? ⟨gb321, 1, none⟩ = some (.int .i64 0) := (blk_cell BK321.out 1).trans rfl; have hcz25_2 : w23.cell? ⟨gb321, 2, none⟩ = some (.slice none 0 0) := (blk_cell BK321.out 2).trans rfl; have hcz25_3 : w23.cell? ⟨gb321, 3, none⟩ = some (.slice none 0 0) := (blk_cell BK321.out 3).trans rfl; have hfz25_0 := blk_frozen BK321.out 0; have hfz25_1 := blk_frozen BK321.out 1; have hfz25_2 := blk_frozen BK321.out 2; have hfz25_3 := blk_frozen BK321.out 3; obtain ⟨Ao26, co26, eo26⟩ := Kd.R_slice HO315.out; subst eo26; obtain ⟨Ao27, co27, eo27⟩ := Kd.R_slice HO318.out; subst eo27) | ((with_reducible refine gate_callee (f := 63) rfl ?_); refine goesM_ (some 21) Try.func63 #[.slice none 0 0] ?_; (refine (txn_Take.calls k _ _ ([] : List Int) t322 t323 t324 t327 t330 false _ ?side1 ?side2 A3.out).mono ?_); (case side1 => exact Kd.C_nil _ _); (case side2 => exact Nat.le_refl _); rintro e w28 ⟨v325, v328, rfl, ho0, ho1, hb⟩; refine ⟨_, rfl, ?_⟩; have n0_ := Aside0.mk (Kd.R_elder' (by (with_reducible repeat (first | apply ra_ | apply rn_ | apply rd_)); exact (Kd.R_mono (Kd.R_far (p := ⟨gb321, 3, none⟩) (Kd.R_far (p := ⟨gb321, 2, none⟩) (Kd.R_far (p := ⟨gb321, 1, none⟩) (Kd.R_far (p := ⟨gb321, 0, none⟩) (Kd.R_types HO306.out BK321.out (by decide)) (fun _ hk => hk.2) (.int .i64 t311)) (fun _ hk => hk.2) (.int .i64 t312)) (fun _ hk => hk.2) (.slice Ao26 t313.length co26)) (fun _ hk => hk.2) (.slice Ao27 t316.length co27)) (fun _ h_ => h_.1))) (Kd.R_base ho1) hb); have n1_ := Aside0.mk (Kd.R_below (by (with_reducible repeat (first | apply ra_ | apply rn_ | apply rd_)); exact (Kd.R_mono (Kd.R_far (p := ⟨gb321, 3, none⟩) (Kd.R_far (p := ⟨gb321, 2, none⟩) (Kd.R_far (p := ⟨gb321, 1, none⟩) (Kd.R_far (p := ⟨gb321, 0, none⟩) (Kd.R_types HO310.out BK321.out (by decide)) (fun _ hk => hk.2) (.int .i64 t311)) (fun _ hk => hk.2) (.int .i64 t312)) (fun _ hk => hk.2) (.slice Ao26 t313.length co26)) (fun _ hk => hk.2) (.slice Ao27 t316.length co27)) (fun _ h_ => h_.1))) hb); have n2_ := Aside0.mk (Kd.R_elder' (by (with_reducible repeat (first | apply ra_ | apply rn_ | apply rd_)); exact (Kd.R_mono (Kd.R_far (p := ⟨gb321, 3, none⟩) (Kd.R_far (p := ⟨gb321, 2, none⟩) (Kd.R_far (p := ⟨gb321, 1, none⟩) (Kd.R_far (p := ⟨gb321, 0, none⟩) (Kd.R_types HO315.out BK321.out (by decide)) (fun _ hk => hk.2) (.int .i64 t311)) (fun _ hk => hk.2) (.int .i64 t312)) (fun _ hk => hk.2) (.slice Ao26 t313.length co26)) (fun _ hk => hk.2) (.slice Ao27 t316.length co27)) (fun _ h_ => h_.1))) (Kd.R_base ho0) hb); have n3_ := Aside0.mk (Kd.R_elder' (by (with_reducible repeat (first | apply ra_ | apply rn_ | apply rd_)); exact (Kd.R_mono (Kd.R_far (p := ⟨gb321, 3, none⟩) (Kd.R_far (p := ⟨gb321, 2, none⟩) (Kd.R_far (p := ⟨gb321, 1, none⟩) (Kd.R_far (p := ⟨gb321, 0, none⟩) (Kd.R_types HO318.out BK321.out (by decide)) (fun _ hk => hk.2) (.int .i64 t311)) (fun _ hk => hk.2) (.int .i64 t312)) (fun _ hk => hk.2) (.slice Ao26 t313.length co26)) (fun _ hk => hk.2) (.slice Ao27 t316.length co27)) (fun _ h_ => h_.1))) (Kd.R_base ho1) hb); have n4_ := Aside0.mk (Kd.R_lower (Kd.R_new' ho0 (Kd.R_lt (by (with_reducible repeat (first | apply ra_ | apply rn_ | apply rd_)); exact (Kd.R_mono (Kd.R_far (p := ⟨gb321, 3, none⟩) (Kd.R_far (p := ⟨gb321, 2, none⟩) (Kd.R_far (p := ⟨gb321, 1, none⟩) (Kd.R_far (p := ⟨gb321, 0, none⟩) (Kd.R_types HO315.out BK321.out (by decide)) (fun _ hk => hk.2) (.int .i64 t311)) (fun _ hk => hk.2) (.int .i64 t312)) (fun _ hk => hk.2) (.slice Ao26 t313.length co26)) (fun _ hk => hk.2) (.slice Ao27 t316.length co27)) (fun _ h_ => h_.1))))) (below_size (by repeat (with_reducible first | exact HB.out | apply ba_ | apply bn_ | apply bd_ | refine bs_ ?_ GE307.out | refine bs_ ?_ GE321.out)))); have n5_ := Aside0.mk (Kd.R_lower (Kd.R_new' (Kd.R_new' ho1 (Kd.R_lt (by (with_reducible repeat (first | apply ra_ | apply rn_ | apply rd_)); exact (Kd.R_mono (Kd.R_far (p := ⟨gb321, 3, none⟩) (Kd.R_far (p := ⟨gb321, 2, none⟩) (Kd.R_far (p := ⟨gb321, 1, none⟩) (Kd.R_far (p := ⟨gb321, 0, none⟩) (Kd.R_types HO306.out BK321.out (by decide)) (fun _ hk => hk.2) (.int .i64 t311)) (fun _ hk => hk.2) (.int .i64 t312)) (fun _ hk => hk.2) (.slice Ao26 t313.length co26)) (fun _ hk => hk.2) (.slice Ao27 t316.length co27)) (fun _ h_ => h_.1))))) (Kd.R_lt (by (with_reducible repeat (first | apply ra_ | apply rn_ | apply rd_)); exact (Kd.R_mono (Kd.R_far (p := ⟨gb321, 3, none⟩) (Kd.R_far (p := ⟨gb321, 2, none⟩) (Kd.R_far (p := ⟨gb321, 1, none⟩) (Kd.R_far (p := ⟨gb321, 0, none⟩) (Kd.R_types HO318.out BK321.out (by decide)) (fun _ hk => hk.2) (.int .i64 t311)) (fun _ hk => hk.2) (.int .i64 t312)) (fun _ hk => hk.2) (.slice Ao26 t313.length co26)) (fun _ hk => hk.2) (.slice Ao27 t316.length co27)) (fun _ h_ => h_.1))))) (below_size (by repeat (with_reducible first | exact HB.out | apply ba_ | apply bn_ | apply bd_ | refine bs_ ?_ GE307.out | refine bs_ ?_ GE321.out)))); have n6_ := Aside0.mk (blk_below (g := gb307) (o := .cells #[.int .i64 1, .int .i64 1, .slice none 0 0, .slice Ao17 y304.length co17] 30 (0, 0)) (by (with_reducible repeat (first | refine kn_ ?_ _ | refine kd_ ?_ | refine ka_ ?_ _)); refine blk_far ?_ NB307_321.out _; (with_reducible repeat (first | refine kn_ ?_ _ | refine kd_ ?_ | refine ka_ ?_ _)); refine blk_far ?_ NB307_321.out _; (with_reducible repeat (first | refine kn_ ?_ _ | refine kd_ ?_ | refine ka_ ?_ _)); refine blk_far ?_ NB307_321.out _; (with_reducible repeat (first | refine kn_ ?_ _ | refine kd_ ?_ | refine ka_ ?_ _)); refine blk_far ?_ NB307_321.out _; (with_reducible repeat (first | refine kn_ ?_ _ | refine kd_ ?_ | refine ka_ ?_ _)); exact BK307.out) hb); have n7_ := Aside0.mk (blk_below (g := gb321) (o := .cells #[.int .i64 t311, .int .i64 t312, .slice Ao26 t313.length co26, .slice Ao27 t316.length co27] 30 (0, 0)) (by (with_reducible repeat (first | refine kn_ ?_ _ | refine kd_ ?_ | refine ka_ ?_ _)); refine blk_put (cs := #[.int .i64 t311, .int .i64 t312, .slice Ao26 t313.length co26, .slice none 0 0]) ?_ 3 _ rfl; (with_reducible repeat (first | refine kn_ ?_ _ | refine kd_ ?_ | refine ka_ ?_ _)); refine blk_put (cs := #[.int .i64 t311, .int .i64 t312, .slice none 0 0, .slice none 0 0]) ?_ 2 _ rfl; (with_reducible repeat (first | refine kn_ ?_ _ | refine kd_ ?_ | refine ka_ ?_ _)); refine blk_put (cs := #[.int .i64 t311, .int .i64 0, .slice none 0 0, .slice none 0 0]) ?_ 1 _ rfl; (with_reducible repeat (first | refine kn_ ?_ _ | refine kd_ ?_ | refine ka_ ?_ _)); refine blk_put (cs := #[.int .i64 0, .int .i64 0, .slice none 0 0, .slice none 0 0]) ?_ 0 _ rfl; (with_reducible repeat (first | refine kn_ ?_ _ | refine kd_ ?_ | refine ka_ ?_ _)); exact BK321.out) hb); have n8_ := Aside0.mk (below_step (by repeat (with_reducible first | exact HB.out | apply ba_ | apply bn_ | apply bd_ | refine bs_ ?_ GE307.out | refine bs_ ?_ GE321.out)) hb); clear HO306; clear HO310; clear HO315; clear HO318; clear BK307; clear BK321; clear HB; have HO306 := n0_; have HO310 := n1_; have HO315 := n2_; have HO318 := n3_; have HO326 := n4_; have HO329 := n5_; have BK307 := n6_; have BK321 := n7_; have HB := n8_; clear n0_ n1_ n2_ n3_ n4_ n5_ n6_ n7_ n8_; clear hb ho0 ho1) | ((with_reducible refine gate_dst (N := 6) rfl ?_); (try (refine gate_guard (by rfl) ?_; dsimp only)); refine box_event ?hg (N := 6) ?hd (cs := #[.int .i64 0, .int .i64 0, .slice none 0 0, .slice none 0 0]) (t := 30) ?hr ?_; (case hd => rfl); (case hg => rfl); (case hr => first | (go_simp; done) | (go_simp; rfl)); intro gb332 hg w29 hbox hb; have n0_ := Aside0.mk (Kd.R_below (by (with_reducible repeat (first | apply ra_ | apply rn_ | apply rd_)); exact HO306.out) hb); have n1_ := Aside0.mk (Kd.R_below (by (with_reducible repeat (first | apply ra_ | apply rn_ | apply rd_)); exact HO310.out) hb); have n2_ := Aside0.mk (Kd.R_below (by (with_reducible repeat (first | apply ra_ | apply rn_ | apply rd_)); exact HO315.out) hb); have n3_ := Aside0.mk (Kd.R_below (by (with_reducible repeat (first | apply ra_ | apply rn_ | apply rd_)); exact HO318.out) hb); have n4_ := Aside0.mk (Kd.R_below (by (with_reducible repeat (first | apply ra_ | apply rn_ | apply rd_)); exact HO326.out) hb); have n5_ := Aside0.mk (Kd.R_below (by (with_reducible repeat (first | apply ra_ | apply rn_ | apply rd_)); exact HO329.out) hb); have n6_ := Aside0.mk (blk_below (g := gb307) (o := .cells #[.int .i64 1, .int .i64 1, .slice none 0 0, .slice Ao17 y304.length co17] 30 (0, 0)) (by (with_reducible repeat (first | refine kn_ ?_ _ | refine kd_ ?_ | refine ka_ ?_ _)); exact BK307.out) hb); have n7_ := Aside0.mk (blk_below (g := gb321) (o := .cells #[.int .i64 t311, .int .i64 t312, .slice Ao26 t313.length co26, .slice Ao27 t316.length co27] 30 (0, 0)) (by (with_reducible repeat (first | refine kn_ ?_ _ | refine kd_ ?_ | refine ka_ ?_ _)); exact BK321.out) hb); have n8_ := Aside0.mk (below_step (by repeat (with_reducible first | exact HB.out | apply ba_ | apply bn_ | apply bd_ | refine bs_ ?_ GE307.out | refine bs_ ?_ GE321.out)) hb); have n9_ := Aside0.mk (hbox); have n10_ := Aside0.mk ((by rw [hg]; exact (below_size (by repeat (with_reducible first | exact HB.out | apply ba_ | apply bn_ | apply bd_ | refine bs_ ?_ GE307.out | refine bs_ ?_ GE321.out))) : w.heap.size ≤ gb332)); have n11_ := Aside0.mk ((by rw [hg]; exact (below_size (by repeat (with_reducible first | exact HB.out | apply ba_ | apply bn_ | apply bd_ | refine bs_ ?_ GE307.out | refine bs_ ?_ GE321.out))) : w.heap.size ≤ gb332)); have n12_ := Aside0.mk ((by rw [hg]; exact Nat.ne_of_lt (blk_lt (g := gb307) (o := .cells #[.int .i64 1, .int .i64 1, .slice none 0 0, .slice Ao17 y304.length co17] 30 (0, 0)) (by (with_reducible repeat (first | refine kn_ ?_ _ | refine kd_ ?_ | refine ka_ ?_ _)); exact BK307.out)) : gb307 ≠ gb332)); have n13_ := Aside0.mk ((by rw [hg]; exact Nat.ne_of_gt (blk_lt (g := gb307) (o := .cells #[.int .i64 1, .int .i64 1, .slice none 0 0, .slice Ao17 y304.length co17] 30 (0, 0)) (by (with_reducible repeat (first | refine kn_ ?_ _ | refine kd_ ?_ | refine ka_ ?_ _)); exact BK307.out)) : gb332 ≠ gb307)); have n14_ := Aside0.mk ((by rw [hg]; exact Nat.ne_of_lt (blk_lt (g := gb321) (o := .cells #[.int .i64 t311, .int .i64 t312, .slice Ao26 t313.length co26, .slice Ao27 t316.length co27] 30 (0, 0)) (by (with_reducible repeat (first | refine kn_ ?_ _ | refine kd_ ?_ | refine ka_ ?_ _)); exact BK321.out)) : gb321 ≠ gb332)); have n15_ := Aside0.mk ((by rw [hg]; exact Nat.ne_of_gt (blk_lt (g := gb321) (o := .cells #[.int .i64 t311, .int .i64 t312, .slice Ao26 t313.length co26, .slice Ao27 t316.length co27] 30 (0, 0)) (by (with_reducible repeat (first | refine kn_ ?_ _ | refine kd_ ?_ | refine ka_ ?_ _)); exact BK321.out)) : gb332 ≠ gb321)); clear HO306; clear HO310; clear HO315; clear HO318; clear HO326; clear HO329; clear BK307; clear BK321; clear HB; have HO306 := n0_; have HO310 := n1_; have HO315 := n2_; have HO318 := n3_; have HO326 := n4_; have HO329 := n5_; have BK307 := n6_; have BK321 := n7_; have HB := n8_; have BK332 := n9_; have GW332 := n10_; have GE332 := n11_; have NB307_332 := n12_; have NB332_307 := n13_; have NB321_332 := n14_; have NB332_321 := n15_; clear n0_ n1_ n2_ n3_ n4_ n5_ n6_ n7_ n8_ n9_ n10_ n11_ n12_ n13_ n14_ n15_; clear hb hbox hg; have hnb30 := NB332_307.out; have hnc30 := NB307_332.out; have hnb31 := NB332_321.out; have hnc31 := NB321_332.out; have hcz32_0 : w29.cell? ⟨gb332, 0, none⟩ = some (.int .i64 0) := (blk_cell BK332.out 0).trans rfl; have hcz32_1 : w29.cell? ⟨gb332, 1, none⟩ = some (.int .i64 0) := (blk_cell BK332.out 1).trans rfl; have hcz32_2 : w29.cell? ⟨gb332, 2, none⟩ = some (.slice none 0 0) := (blk_cell BK332.out 2).trans rfl; have hcz32_3 : w29.cell? ⟨gb332, 3, none⟩ = some (.slice none 0 0) := (blk_cell BK332.out 3).trans rfl; have hfz32_0 := blk_frozen BK332.out 0; have hfz32_1 := blk_frozen BK332.out 1; have hfz32_2 := blk_frozen BK332.out 2; have hfz32_3 := blk_frozen BK332.out 3; obtain ⟨Ao33, co33, eo33⟩ := Kd.R_slice HO326.out; subst eo33; obtain ⟨Ao34, co34, eo34⟩ := Kd.R_slice HO329.out; subst eo34; have hcz35_0 : w29.cell? ⟨gb307, 0, none⟩ = some (.int .i64 1) := (blk_cell BK307.out 0).trans rfl; have hcz35_1 : w29.cell? ⟨gb307, 1, none⟩ = some (.int .i64 1) := (blk_cell BK307.out 1).trans rfl; have hcz35_2 : w29.cell? ⟨gb307, 2, none⟩ = some (.slice none 0 0) := (blk_cell BK307.out 2).trans rfl; have hcz35_3 : w29.cell? ⟨gb307, 3, none⟩ = some (.slice Ao17 y304.length co17) := (blk_cell BK307.out 3).trans rfl; have hfz35_0 := blk_frozen BK307.out 0; have hfz35_1 := blk_frozen BK307.out 1; have hfz35_2 := blk_frozen BK307.out 2; have hfz35_3 := blk_frozen BK307.out 3) | ((with_reducible refine gate_callee (f := 18) rfl ?_); refine goesM_ (some 26) Try.func18 #[.agg #[.int .i64 1, .int .i64 1, .slice none 0 0, .slice Ao17 y304.length co17]] ?_; (refine (txn_May.calls k 1 1 _ _ ([] : List (S24)) _ _ y304 true _ ?side1 ?side2 ?side3 ?side4 A4.out).mono ?_); (case side1 => exact Kd.C_nil _ _); (case side2 => exact Nat.le_refl _); (case side3 => refine (Kd.R_reads' (e := 27) (base := w.heap.size) (ok := fun k_ => ((True ∧ some k_ ≠ (.slice Ao27 t316.length co27 : Value).ownBlock) ∧ some k_ ≠ (.slice Ao34 t327.length co34 : Value).ownBlock)) (n := y304.length) (c := co17) ?_).2.2; exact (by (with_reducible repeat (first | apply ra_ | apply rn_ | apply rd_)); exact (Kd.R_mono (Kd.R_far (p := ⟨gb332, 3, none⟩) (Kd.R_far (p := ⟨gb332, 2, none⟩) (Kd.R_far (p := ⟨gb332, 1, none⟩) (Kd.R_far (p := ⟨gb332, 0, none⟩) (Kd.R_types HO306.out BK332.out (by decide)) (fun _ hk => hk.2) (.int .i64 t322)) (fun _ hk => hk.2) (.int .i64 t323)) (fun _ hk => hk.2) (.slice Ao33 t324.length co33)) (fun _ hk => hk.2) (.slice Ao34 t327.length co34)) (fun _ h_ => h_.1)))); (case side4 => exact (Kd.R_reads' HO306.out).2.1); rintro e w36 ⟨rfl, hb⟩; refine ⟨_, rfl, ?_⟩; have n0_ := Aside0.mk (Kd.R_below (by (with_reducible repeat (first | apply ra_ | apply rn_ | apply rd_)); exact (Kd.R_mono (Kd.R_far (p := ⟨gb332, 3, none⟩) (Kd.R_far (p := ⟨gb332, 2, none⟩) (Kd.R_far (p := ⟨gb332, 1, none⟩) (Kd.R_far (p := ⟨gb332, 0, none⟩) (Kd.R_types HO306.out BK332.out (by decide)) (fun _ hk => hk.2) (.int .i64 t322)) (fun _ hk => hk.2) (.int .i64 t323)) (fun _ hk => hk.2) (.slice Ao33 t324.length co33)) (fun _ hk => hk.2) (.slice Ao34 t327.length co34)) (fun _ h_ => h_.1))) hb); have n1_ := Aside0.mk (Kd.R_below (by (with_reducible repeat (first | apply ra_ | apply rn_ | apply rd_)); exact (Kd.R_mono (Kd.R_far (p := ⟨gb332, 3, none⟩) (Kd.R_far (p := ⟨gb332, 2, none⟩) (Kd.R_far (p := ⟨gb332, 1, none⟩) (Kd.R_far (p := ⟨gb332, 0, none⟩) (Kd.R_types HO310.out BK332.out (by decide)) (fun _ hk => hk.2) (.int .i64 t322)) (fun _ hk => hk.2) (.int .i64 t323)) (fun _ hk => hk.2) (.slice Ao33 t324.length co33)) (fun _ hk => hk.2) (.slice Ao34 t327.length co34)) (fun _ h_ => h_.1))) hb); have n2_ := Aside0.mk (Kd.R_below (by (with_reducible repeat (first | apply ra_ | apply rn_ | apply rd_)); exact (Kd.R_mono (Kd.R_far (p := ⟨gb332, 3, none⟩) (Kd.R_far (p := ⟨gb332, 2, none⟩) (Kd.R_far (p := ⟨gb332, 1, none⟩) (Kd.R_far (p := ⟨gb332, 0, none⟩) (Kd.R_types HO315.out BK332.out (by decide)) (fun _ hk => hk.2) (.int .i64 t322)) (fun _ hk => hk.2) (.int .i64 t323)) (fun _ hk => hk.2) (.slice Ao33 t324.length co33)) (fun _ hk => hk.2) (.slice Ao34 t327.length co34)) (fun _ h_ => h_.1))) hb); have n3_ := Aside0.mk (Kd.R_below (by (with_reducible repeat (first | apply ra_ | apply rn_ | apply rd_)); exact (Kd.R_mono (Kd.R_far (p := ⟨gb332, 3, none⟩) (Kd.R_far (p := ⟨gb332, 2, none⟩) (Kd.R_far (p := ⟨gb332, 1, none⟩) (Kd.R_far (p := ⟨gb332, 0, none⟩) (Kd.R_types HO318.out BK332.out (by decide)) (fun _ hk => hk.2) (.int .i64 t322)) (fun _ hk => hk.2) (.int .i64 t323)) (fun _ hk => hk.2) (.slice Ao33 t324.length co33)) (fun _ hk => hk.2) (.slice Ao34 t327.length co34)) (fun _ h_ => h_.1))) hb); have n4_ := Aside0.mk (Kd.R_below (by (with_reducible repeat (first | apply ra_ | apply rn_ | apply rd_)); exact (Kd.R_mono (Kd.R_far (p := ⟨gb332, 3, none⟩) (Kd.R_far (p := ⟨gb332, 2, none⟩) (Kd.R_far (p := ⟨gb332, 1, none⟩) (Kd.R_far (p := ⟨gb332, 0, none⟩) (Kd.R_types HO326.out BK332.out (by decide)) (fun _ hk => hk.2) (.int .i64 t322)) (fun _ hk => hk.2) (.int .i64 t323)) (fun _ hk => hk.2) (.slice Ao33 t324.length co33)) (fun _ hk => hk.2) (.slice Ao34 t327.length co34)) (fun _ h_ => h_.1))) hb); have n5_ := Aside0.mk (Kd.R_below (by (with_reducible repeat (first | apply ra_ | apply rn_ | apply rd_)); exact (Kd.R_mono (Kd.R_far (p := ⟨gb332, 3, none⟩) (Kd.R_far (p := ⟨gb332, 2, none⟩) (Kd.R_far (p := ⟨gb332, 1, none⟩) (Kd.R_far (p := ⟨gb332, 0, none⟩) (Kd.R_types HO329.out BK332.out (by decide)) (fun _ hk => hk.2) (.int .i64 t322)) (fun _ hk => hk.2) (.int .i64 t323)) (fun _ hk => hk.2) (.slice Ao33 t324.length co33)) (fun _ hk => hk.2) (.slice Ao34 t327.length co34)) (fun _ h_ => h_.1))) hb); have n6_ := Aside0.mk (blk_below (g := gb307) (o := .cells #[.int .i64 1, .int .i64 1, .slice none 0 0, .slice Ao17 y304.length co17] 30 (0, 0)) (by (with_reducible repeat (first | refine kn_ ?_ _ | refine kd_ ?_ | refine ka_ ?_ _)); refine blk_far ?_ NB307_332.out _; (with_reducible repeat (first | refine kn_ ?_ _ | refine kd_ ?_ | refine ka_ ?_ _)); refine blk_far ?_ NB307_332.out _; (with_reducible repeat (first | refine kn_ ?_ _ | refine kd_ ?_ | refine ka_ ?_ _)); refine blk_far ?_ NB307_332.out _; (with_reducible repeat (first | refine kn_ ?_ _ | refine kd_ ?_ | refine ka_ ?_ _)); refine blk_far ?_ NB307_332.out _; (with_reducible repeat (first | refine kn_ ?_ _ | refine kd_ ?_ | refine ka_ ?_ _)); exact BK307.out) hb); have n7_ := Aside0.mk (blk_below (g := gb321) (o := .cells #[.int .i64 t311, .int .i64 t312, .slice Ao26 t313.length co26, .slice Ao27 t316.length co27] 30 (0, 0)) (by (with_reducible repeat (first | refine kn_ ?_ _ | refine kd_ ?_ | refine ka_ ?_ _)); refine blk_far ?_ NB321_332.out _; (with_reducible repeat (first | refine kn_ ?_ _ | refine kd_ ?_ | refine ka_ ?_ _)); refine blk_far ?_ NB321_332.out _; (with_reducible repeat (first | refine kn_ ?_ _ | refine kd_ ?_ | refine ka_ ?_ _)); refine blk_far ?_ NB321_332.out _; (with_reducible repeat (first | refine kn_ ?_ _ | refine kd_ ?_ | refine ka_ ?_ _)); refine blk_far ?_ NB321_332.out _; (with_reducible repeat (first | refine kn_ ?_ _ | refine kd_ ?_ | refine ka_ ?_ _)); exact BK321.out) hb); have n8_ := Aside0.mk (blk_below (g := gb332) (o := .cells #[.int .i64 t322, .int .i64 t323, .slice Ao33 t324.length co33, .slice Ao34 t327.length co34] 30 (0, 0)) (by (with_reducible repeat (first | refine kn_ ?_ _ | refine kd_ ?_ | refine ka_ ?_ _)); refine blk_put (cs := #[.int .i64 t322, .int .i64 t323, .slice Ao33 t324.length co33, .slice none 0 0]) ?_ 3 _ rfl; (with_reducible repeat (first | refine kn_ ?_ _ | refine kd_ ?_ | refine ka_ ?_ _)); refine blk_put (cs := #[.int .i64 t322, .int .i64 t323, .slice none 0 0, .slice none 0 0]) ?_ 2 _ rfl; (with_reducible repeat (first | refine kn_ ?_ _ | refine kd_ ?_ | refine ka_ ?_ _)); refine blk_put (cs := #[.int .i64 t322, .int .i64 0, .slice none 0 0, .slice none 0 0]) ?_ 1 _ rfl; (with_reducible repeat (first | refine kn_ ?_ _ | refine kd_ ?_ | refine ka_ ?_ _)); refine blk_put (cs := #[.int .i64 0, .int .i64 0, .slice none 0 0, .slice none 0 0]) ?_ 0 _ rfl; (with_reducible repeat (first | refine kn_ ?_ _ | refine kd_ ?_ | refine ka_ ?_ _)); exact BK332.out) hb); have n9_ := Aside0.mk (below_step (by repeat (with_reducible first | exact HB.out | apply ba_ | apply bn_ | apply bd_ | refine bs_ ?_ GE307.out | refine bs_ ?_ GE321.out | refine bs_ ?_ GE332.out)) hb); clear HO306; clear HO310; clear HO315; clear HO318; clear HO326; clear HO329; clear BK307; clear BK321; clear BK332; clear HB; have HO306 := n0_; have HO310 := n1_; have HO315 := n2_; have HO318 := n3_; have HO326 := n4_; have HO329 := n5_; have BK307 := n6_; have BK321 := n7_; have BK332 := n8_; have HB := n9_; clear n0_ n1_ n2_ n3_ n4_ n5_ n6_ n7_ n8_ n9_; clear hb; have hcv37 := own_string (P := Try.prog) Try.underlying33 Try.underlying5 Try.underlying9 (Kd.own_of_R HO310.out); have hcz38_0 : w36.cell? ⟨gb321, 0, none⟩ = some (.int .i64 t311) := (blk_cell BK321.out 0).trans rfl; have hcz38_1 : w36.cell? ⟨gb321, 1, none⟩ = some (.int .i64 t312) := (blk_cell BK321.out 1).trans rfl; have hcz38_2 : w36.cell? ⟨gb321, 2, none⟩ = some (.slice Ao26 t313.length co26) := (blk_cell BK321.out 2).trans rfl; have hcz38_3 : w36.cell? ⟨gb321, 3, none⟩ = some (.slice Ao27 t316.length co27) := (blk_cell BK321.out 3).trans rfl; have hfz38_0 := blk_frozen BK321.out 0; have hfz38_1 := blk_frozen BK321.out 1; have hfz38_2 := blk_frozen BK321.out 2; have hfz38_3 := blk_frozen BK321.out 3; have hcz39_0 : w36.cell? ⟨gb307, 0, none⟩ = some (.int .i64 1) := (blk_cell BK307.out 0).trans rfl; have hcz39_1 : w36.cell? ⟨gb307, 1, none⟩ = some (.int .i64 1) := (blk_cell BK307.out 1).trans rfl; have hcz39_2 : w36.cell? ⟨gb307, 2, none⟩ = some (.slice none 0 0) := (blk_cell BK307.out 2).trans rfl; have hcz39_3 : w36.cell? ⟨gb307, 3, none⟩ = some (.slice Ao17 y304.length co17) := (blk_cell BK307.out 3).trans rfl; have hfz39_0 := blk_frozen BK307.out 0; have hfz39_1 := blk_frozen BK307.out 1; have hfz39_2 := blk_frozen BK307.out 2; have hfz39_3 := blk_frozen BK307.out 3) | (go_at_call 20; (refine (txn_Same.calls k t311 t312 _ _ t313 _ _ t316 1 1 _ _ ([] : List (S24)) _ _ y304 true _ ?side1 ?side2 ?side3 ?side4 ?side5 ?side6 ?side7 ?side8 A9.out).mono ?_); (case side1 => repeat (first | exact (Kd.R_reads' HO315.out).2.2 | (with_reducible refine ca_ ?_ _) | (with_reducible refine cn_ ?_ _) | (with_reducible refine cd_ ?_))); (case side2 => exact (Kd.R_reads' HO315.out).2.1); (case side3 => repeat (first | exact (Kd.R_reads' HO318.out).2.2 | (with_reducible refine ca_ ?_ _) | (with_reducible refine cn_ ?_ _) | (with_reducible refine cd_ ?_))); (case side4 => exact (Kd.R_reads' HO318.out).2.1); (case side5 => exact Kd.C_nil _ _); (case side6 => exact Nat.le_refl _); (case side7 => repeat (first | exact (Kd.R_reads' HO306.out).2.2 | (with_reducible refine ca_ ?_ _) | (with_reducible refine cn_ ?_ _) | (with_reducible refine cd_ ?_))); (case side8 => exact (Kd.R_reads' HO306.out).2.1); rintro e w40 ⟨rfl, hb⟩; have n0_ := Aside0.mk (Kd.R_below (by (with_reducible repeat (first | apply ra_ | apply rn_ | apply rd_)); exact HO306.out) hb); have n1_ := Aside0.mk (Kd.R_below (by (with_reducible repeat (first | apply ra_ | apply rn_ | apply rd_)); exact HO310.out) hb); have n2_ := Aside0.mk (Kd.R_below (by (with_reducible repeat (first | apply ra_ | apply rn_ | apply rd_)); exact HO315.out) hb); have n3_ := Aside0.mk (Kd.R_below (by (with_reducible repeat (first | apply ra_ | apply rn_ | apply rd_)); exact HO318.out) hb); have n4_ := Aside0.mk (Kd.R_below (by (with_reducible repeat (first | apply ra_ | apply rn_ | apply rd_)); exact HO326.out) hb); have n5_ := Aside0.mk (Kd.R_below (by (with_reducible repeat (first | apply ra_ | apply rn_ | apply rd_)); exact HO329.out) hb); have n6_ := Aside0.mk (blk_below (g := gb307) (o := .cells #[.int .i64 1, .int .i64 1, .slice none 0 0, .slice Ao17 y304.length co17] 30 (0, 0)) (by (with_reducible repeat (first | refine kn_ ?_ _ | refine kd_ ?_ | refine ka_ ?_ _)); exact BK307.out) hb); have n7_ := Aside0.mk (blk_below (g := gb321) (o := .cells #[.int .i64 t311, .int .i64 t312, .slice Ao26 t313.length co26, .slice Ao27 t316.length co27] 30 (0, 0)) (by (with_reducible repeat (first | refine kn_ ?_ _ | refine kd_ ?_ | refine ka_ ?_ _)); exact BK321.out) hb); have n8_ := Aside0.mk (blk_below (g := gb332) (o := .cells #[.int .i64 t322, .int .i64 t323, .slice Ao33 t324.length co33, .slice Ao34 t327.length co34] 30 (0, 0)) (by (with_reducible repeat (first | refine kn_ ?_ _ | refine kd_ ?_ | refine ka_ ?_ _)); exact BK332.out) hb); have n9_ := Aside0.mk (below_step (by repeat (with_reducible first | exact HB.out | apply ba_ | apply bn_ | apply bd_ | refine bs_ ?_ GE307.out | refine bs_ ?_ GE321.out | refine bs_ ?_ GE332.out)) hb); clear HO306; clear HO310; clear HO315; clear HO318; clear HO326; clear HO329; clear BK307; clear BK321; clear BK332; clear HB; have HO306 := n0_; have HO310 := n1_; have HO315 := n2_; have HO318 := n3_; have HO326 := n4_; have HO329 := n5_; have BK307 := n6_; have BK321 := n7_; have BK332 := n8_; have HB := n9_; clear n0_ n1_ n2_ n3_ n4_ n5_ n6_ n7_ n8_ n9_; clear hb; have hcz41_0 : w40.cell? ⟨gb307, 0, none⟩ = some (.int .i64 1) := (blk_cell BK307.out 0).trans rfl; have hcz41_1 : w40.cell? ⟨gb307, 1, none⟩ = some (.int .i64 1) := (blk_cell BK307.out 1).trans rfl; have hcz41_2 : w40.cell? ⟨gb307, 2, none⟩ = some (.slice none 0 0) := (blk_cell BK307.out 2).trans rfl; have hcz41_3 : w40.cell? ⟨gb307, 3, none⟩ = some (.slice Ao17 y304.length co17) := (blk_cell BK307.out 3).trans rfl; have hfz41_0 := blk_frozen BK307.out 0; have hfz41_1 := blk_frozen BK307.out 1; have hfz41_2 := blk_frozen BK307.out 2; have hfz41_3 := blk_frozen BK307.out 3) | (go_at_call 25; (refine (txn_Touches.calls k 1 1 _ _ ([] : List (S24)) _ _ y304 1 3 true _ ?side1 ?side2 ?side3 ?side4 A12.out).mono ?_); (case side1 => exact Kd.C_nil _ _); (case side2 => exact Nat.le_refl _); (case side3 => repeat (first | exact (Kd.R_reads' HO306.out).2.2 | (with_reducible refine ca_ ?_ _) | (with_reducible refine cn_ ?_ _) | (with_reducible refine cd_ ?_))); (case side4 => exact (Kd.R_reads' HO306.out).2.1); rintro e w42 ⟨rfl, hb⟩; have n0_ := Aside0.mk (Kd.R_below (by (with_reducible repeat (first | apply ra_ | apply rn_ | apply rd_)); exact HO306.out) hb); have n1_ := Aside0.mk (Kd.R_below (by (with_reducible repeat (first | apply ra_ | apply rn_ | apply rd_)); exact HO310.out) hb); have n2_ := Aside0.mk (Kd.R_below (by (with_reducible repeat (first | apply ra_ | apply rn_ | apply rd_)); exact HO315.out) hb); have n3_ := Aside0.mk (Kd.R_below (by (with_reducible repeat (first | apply ra_ | apply rn_ | apply rd_)); exact HO318.out) hb); have n4_ := Aside0.mk (Kd.R_below (by (with_reducible repeat (first | apply ra_ | apply rn_ | apply rd_)); exact HO326.out) hb); have n5_ := Aside0.mk (Kd.R_below (by (with_reducible repeat (first | apply ra_ | apply rn_ | apply rd_)); exact HO329.out) hb); have n6_ := Aside0.mk (blk_below (g := gb307) (o := .cells #[.int .i64 1, .int .i64 1, .slice none 0 0, .slice Ao17 y304.length co17] 30 (0, 0)) (by (with_reducible repeat (first | refine kn_ ?_ _ | refine kd_ ?_ | refine ka_ ?_ _)); exact BK307.out) hb); have n7_ := Aside0.mk (blk_below (g := gb321) (o := .cells #[.int .i64 t311, .int .i64 t312, .slice Ao26 t313.length co26, .slice Ao27 t316.length co27] 30 (0, 0)) (by (with_reducible repeat (first | refine kn_ ?_ _ | refine kd_ ?_ | refine ka_ ?_ _)); exact BK321.out) hb); have n8_ := Aside0.mk (blk_below (g := gb332) (o := .cells #[.int .i64 t322, .int .i64 t323, .slice Ao33 t324.length co33, .slice Ao34 t327.length co34] 30 (0, 0)) (by (with_reducible repeat (first | refine kn_ ?_ _ | refine kd_ ?_ | refine ka_ ?_ _)); exact BK332.out) hb); have n9_ := Aside0.mk (below_step (by repeat (with_reducible first | exact HB.out | apply ba_ | apply bn_ | apply bd_ | refine bs_ ?_ GE307.out | refine bs_ ?_ GE321.out | refine bs_ ?_ GE332.out)) hb); clear HO306; clear HO310; clear HO315; clear HO318; clear HO326; clear HO329; clear BK307; clear BK321; clear BK332; clear HB; have HO306 := n0_; have HO310 := n1_; have HO315 := n2_; have HO318 := n3_; have HO326 := n4_; have HO329 := n5_; have BK307 := n6_; have BK321 := n7_; have BK332 := n8_; have HB := n9_; clear n0_ n1_ n2_ n3_ n4_ n5_ n6_ n7_ n8_ n9_; clear hb; have hcz43_0 : w42.cell? ⟨gb307, 0, none⟩ = some (.int .i64 1) := (blk_cell BK307.out 0).trans rfl; have hcz43_1 : w42.cell? ⟨gb307, 1, none⟩ = some (.int .i64 1) := (blk_cell BK307.out 1).trans rfl; have hcz43_2 : w42.cell? ⟨gb307, 2, none⟩ = some (.slice none 0 0) := (blk_cell BK307.out 2).trans rfl; have hcz43_3 : w42.cell? ⟨gb307, 3, none⟩ = some (.slice Ao17 y304.length co17) := (blk_cell BK307.out 3).trans rfl; have hfz43_0 := blk_frozen BK307.out 0; have hfz43_1 := blk_frozen BK307.out 1; have hfz43_2 := blk_frozen BK307.out 2; have hfz43_3 := blk_frozen BK307.out 3) | (go_at_call 24; (refine (txn_Reads.calls k 1 1 _ _ ([] : List (S24)) _ _ y304 3 t336 _ ?side1 ?side2 ?side3 ?side4 A14.out).mono ?_); (case side1 => exact Kd.C_nil _ _); (case side2 => exact Nat.le_refl _); (case side3 => repeat (first | exact (Kd.R_reads' HO306.out).2.2 | (with_reducible refine ca_ ?_ _) | (with_reducible refine cn_ ?_ _) | (with_reducible refine cd_ ?_))); (case side4 => exact (Kd.R_reads' HO306.out).2.1); rintro e w44 ⟨v337, rfl, ho0, hb⟩; have n0_ := Aside0.mk (Kd.R_below (by (with_reducible repeat (first | apply ra_ | apply rn_ | apply rd_)); exact HO306.out) hb); have n1_ := Aside0.mk (Kd.R_below (by (with_reducible repeat (first | apply ra_ | apply rn_ | apply rd_)); exact HO310.out) hb); have n2_ := Aside0.mk (Kd.R_below (by (with_reducible repeat (first | apply ra_ | apply rn_ | apply rd_)); exact HO315.out) hb); have n3_ := Aside0.mk (Kd.R_below (by (with_reducible repeat (first | apply ra_ | apply rn_ | apply rd_)); exact HO318.out) hb); have n4_ := Aside0.mk (Kd.R_below (by (with_reducible repeat (first | apply ra_ | apply rn_ | apply rd_)); exact HO326.out) hb); have n5_ := Aside0.mk (Kd.R_below (by (with_reducible repeat (first | apply ra_ | apply rn_ | apply rd_)); exact HO329.out) hb); have n6_ := Aside0.mk (Kd.R_lower ho0 (below_size (by repeat (with_reducible first | exact HB.out | apply ba_ | apply bn_ | apply bd_ | refine bs_ ?_ GE307.out | refine bs_ ?_ GE321.out | refine bs_ ?_ GE332.out)))); have n7_ := Aside0.mk (blk_below (g := gb307) (o := .cells #[.int .i64 1, .int .i64 1, .slice none 0 0, .slice Ao17 y304.length co17] 30 (0, 0)) (by (with_reducible repeat (first | refine kn_ ?_ _ | refine kd_ ?_ | refine ka_ ?_ _)); exact BK307.out) hb); have n8_ := Aside0.mk (blk_below (g := gb321) (o := .cells #[.int .i64 t311, .int .i64 t312, .slice Ao26 t313.length co26, .slice Ao27 t316.length co27] 30 (0, 0)) (by (with_reducible repeat (first | refine kn_ ?_ _ | refine kd_ ?_ | refine ka_ ?_ _)); exact BK321.out) hb); have n9_ := Aside0.mk (blk_below (g := gb332) (o := .cells #[.int .i64 t322, .int .i64 t323, .slice Ao33 t324.length co33, .slice Ao34 t327.length co34] 30 (0, 0)) (by (with_reducible repeat (first | refine kn_ ?_ _ | refine kd_ ?_ | refine ka_ ?_ _)); exact BK332.out) hb); have n10_ := Aside0.mk (below_step (by repeat (with_reducible first | exact HB.out | apply ba_ | apply bn_ | apply bd_ | refine bs_ ?_ GE307.out | refine bs_ ?_ GE321.out | refine bs_ ?_ GE332.out)) hb); clear HO306; clear HO310; clear HO315; clear HO318; clear HO326; clear HO329; clear BK307; clear BK321; clear BK332; clear HB; have HO306 := n0_; have HO310 := n1_; have HO315 := n2_; have HO318 := n3_; have HO326 := n4_; have HO329 := n5_; have HO338 := n6_; have BK307 := n7_; have BK321 := n8_; have BK332 := n9_; have HB := n10_; clear n0_ n1_ n2_ n3_ n4_ n5_ n6_ n7_ n8_ n9_ n10_; clear hb ho0; obtain ⟨Ao45, co45, eo45⟩ := Kd.R_slice HO338.out; subst eo45))
        go_ret
        exact ⟨by first | rfl | (simp [errW_none, errW_some] <;> rfl) | (simp [*, errW_none, errW_some] <;> rfl), by repeat (with_reducible first | exact HB.out | apply ba_ | apply bn_ | apply bd_ | refine bs_ ?_ GE307.out | refine bs_ ?_ GE321.out | refine bs_ ?_ GE332.out)⟩
       ·replace c13 := Bool.eq_false_iff.mpr c13
        subst c13
        have H1 : (none) = some r := by rw [if_neg (show ¬ (false = true) by decide)] at H; exact H
        clear H
        have H := H1
        clear H1
        exact absurd H (by simp)
     ·replace c10 := Bool.eq_false_iff.mpr c10
      subst c10
      have H1 : (none) = some r := by rw [if_neg (show ¬ (false = true) by decide)] at H; exact H
      clear H
      have H := H1
      clear H1
      exact absurd H (by simp)
    ·rw [if_neg c8] at H
     exact absurd H (by simp)
   ·replace c7 := Bool.eq_false_iff.mpr c7
    subst c7
    have H1 : (none) = some r := by rw [if_neg (show ¬ (false = true) by decide)] at H; exact H
    clear H
    have H := H1
    clear H1
    exact absurd H (by simp)
  ·rw [if_neg c6] at H
   exact absurd H (by simp)
 ·replace c5 := Bool.eq_false_iff.mpr c5
  subst c5
  have H1 : (none) = some r := by rw [if_neg (show ¬ (false = true) by decide)] at H; exact H
  clear H
  have H := H1
  clear H1
  exact absurd H (by simp)
/-- A state of type 128 at block g of W; what its slices lead to came in by w0. -/
def IsS128 (w0 W : World) (g : Nat) (f0 : List Int) (f1 : Int) : Prop := ∃ A0 c0, W.heap[g]? = some (.cells #[.slice A0 f0.length c0, .int .i64 f1] 128 (0, 0)) ∧ w0.heap.size ≤ g ∧ Kd.C (Kd.int .u8) w0 A0 f0.length f0
theorem IsS128.grown {w0 W : World} {g : Nat} {f0 : List Int} {f1 : Int} {W1 : World} {row : Option Nat} (h : IsS128 w0 W g f0 f1) (hw : W.grownBy W1 row) (hne : some g ≠ row) : IsS128 w0 W1 g f0 f1 := by
 obtain ⟨A0, c0, hb, hg, hr0⟩ := h
 exact ⟨A0, c0, blk_grown hb hw hne, hg, hr0⟩
theorem IsS128.below {w0 W : World} {g : Nat} {f0 : List Int} {f1 : Int} {W1 : World} (h : IsS128 w0 W g f0 f1) (hw : Below W.heap.size W W1) : IsS128 w0 W1 g f0 f1 := h.grown (grown_of_below hw none) (by simp)
theorem IsS128.alloc {w0 W : World} {g : Nat} {f0 : List Int} {f1 : Int} (h : IsS128 w0 W g f0 f1) (o : Obj) : IsS128 w0 (W.alloc o) g f0 f1 := h.below (below_alloc (Below.refl _ _) o)
theorem IsS128.drewN {w0 W : World} {g : Nat} {f0 : List Int} {f1 : Int} (h : IsS128 w0 W g f0 f1) (m : Nat) : IsS128 w0 (W.drewN m) g f0 f1 := h
theorem IsS128.drew {w0 W : World} {g : Nat} {f0 : List Int} {f1 : Int} (h : IsS128 w0 W g f0 f1) : IsS128 w0 W.drew g f0 f1 := h
theorem IsS128.apart {w0 W : World} {g : Nat} {f0 : List Int} {f1 : Int} {α : Type} {d : Kd α} {e : Nat} {base : Nat} {ok : Nat → Prop} {v : Value} {xs : List α} (h : IsS128 w0 W g f0 f1) (ho : d.R e W base ok v xs) (ht : ∀ q, q ∈ e :: d.E → q ≠ 128) : d.R e W base (fun k => ok k ∧ k ≠ g) v xs := by
 obtain ⟨A0, c0, hb, hg, hr0⟩ := h
 exact Kd.R_types ho hb ht
theorem IsS128.own_ne {w0 W : World} {g : Nat} {f0 : List Int} {f1 : Int} {α : Type} {d : Kd α} {e : Nat} {base : Nat} {ok : Nat → Prop} {v : Value} {xs : List α} (h : IsS128 w0 W g f0 f1) (ho : d.R e W base ok v xs) (ht : e ≠ 128) : some g ≠ v.ownBlock := by
 obtain ⟨A0, c0, hb, hg, hr0⟩ := h
 exact Kd.R_ne ho hb ht
theorem IsS128.lt {w0 W : World} {g : Nat} {f0 : List Int} {f1 : Int} (h : IsS128 w0 W g f0 f1) : g < W.heap.size := by
 obtain ⟨A0, c0, hb, hg, hr0⟩ := h
 exact blk_lt hb
theorem IsS128.ge {w0 W : World} {g : Nat} {f0 : List Int} {f1 : Int} (h : IsS128 w0 W g f0 f1) : w0.heap.size ≤ g := by
 obtain ⟨A0, c0, hb, hg, hr0⟩ := h
 exact hg
theorem IsS128.far {w0 W : World} {g : Nat} {f0 : List Int} {f1 : Int} {p : Addr} (h : IsS128 w0 W g f0 f1) (hne : g ≠ p.block) (u : Value) : IsS128 w0 (W.setCell p u) g f0 f1 := by
 obtain ⟨A0, c0, hb, hg, hr0⟩ := h
 exact ⟨A0, c0, blk_far hb hne u, hg, hr0⟩
theorem cellS128_0 {W : World} {g : Nat} {A0 : Option Addr} {c0 : Nat} {f0 : List Int} {f1 : Int} (h : W.heap[g]? = some (.cells #[.slice A0 f0.length c0, .int .i64 f1] 128 (0, 0))) : W.cell? ⟨g, 0, none⟩ = some (.slice A0 f0.length c0) := (blk_cell h 0).trans rfl
theorem cellS128_1 {W : World} {g : Nat} {A0 : Option Addr} {c0 : Nat} {f0 : List Int} {f1 : Int} (h : W.heap[g]? = some (.cells #[.slice A0 f0.length c0, .int .i64 f1] 128 (0, 0))) : W.cell? ⟨g, 1, none⟩ = some (.int .i64 f1) := (blk_cell h 1).trans rfl
theorem IsS128.set_1 {w0 W : World} {g : Nat} {f0 : List Int} {f1 : Int} (h : IsS128 w0 W g f0 f1) (x : Int) : IsS128 w0 (W.setCell ⟨g, 1, none⟩ (.int .i64 x)) g f0 x := by
 obtain ⟨A0, c0, hb, hg, hr0⟩ := h
 exact ⟨A0, c0, by simpa using blk_set hb 1 (.int .i64 x), hg, hr0⟩
theorem IsS128.new (w0 W : World) (A0 : Option Addr) (c0 : Nat) (f0 : List Int) (f1 : Int) (hB : Below w0.heap.size w0 W) (hr0 : Kd.C (Kd.int .u8) w0 A0 f0.length f0) : IsS128 w0 (W.alloc (.cells #[.slice A0 f0.length c0, .int .i64 f1] 128)) W.heap.size f0 f1 := ⟨A0, c0, by simpa using heap_alloc_new W _, hB.size, hr0⟩
def diwanplay_Made.f (l0 : List Int) : Option (List Int × Int) := some (l0, 0)
set_option maxHeartbeats 8000000 in
set_option maxRecDepth 100000 in
theorem diwanplay_Made.calls (A0 : Option Addr) (c0 : Nat) (l0 : List Int) (r1 : List Int) (r2 : Int) (w0 w : World) (hB : Below w0.heap.size w0 w) (hr0 : Kd.C (Kd.int .u8) w0 A0 l0.length l0) (hc0 : l0.length ≤ c0) (h : diwanplay_Made.f l0 = some (r1, r2)) :
  Calls Try.prog 21 #[.slice A0 l0.length c0] w fun e w' => ∃ g_ : Nat, e = .returned (.pointer (some ⟨g_, 0, none⟩)) ∧ IsS128 w0 w' g_ r1 r2 ∧ Below w0.heap.size w0 w' ∧ Below w.heap.size w w' := by
 have hu128 := Try.underlying128
 have HR0 := Aside0.mk hr0
 have HC0 := Aside0.mk hc0
 clear hr0 hc0
 have HBW := Aside0.mk (Below.refl w.heap.size w)
 have HW0 := Aside0.mk hB.size
 have HB := Aside0.mk hB
 clear hB
 have H : (some (l0, 0)) = some (r1, r2) := h
 clear h
 simp only [Option.some.injEq, Prod.mk.injEq] at H
 obtain ⟨rfl, rfl⟩ := H
 go_enter Try.func21, Try.ntmps21
 go_wp2_with (first | ((with_reducible refine gate_dst (N := 5) rfl ?_); refine box_event ?hg (N := 5) ?hd (cs := #[.slice A0 l0.length c0, .int .i64 0]) (t := 128) ?hr ?_; (case hd => rfl); (case hg => rfl); (case hr => first | (go_simp; done) | (go_simp; rfl)); intro gb371 hg w2 hbox hb; have n0_ := Aside0.mk (below_step HBW.out hb); have n1_ := Aside0.mk (below_step (by repeat (with_reducible first | exact HB.out | apply ba_ | apply bn_ | apply bd_)) hb); have n2_ := Aside0.mk (hbox); have n3_ := Aside0.mk ((by rw [hg]; exact (below_size (by repeat (with_reducible first | exact HBW.out | apply ba_ | apply bn_ | apply bd_))) : w.heap.size ≤ gb371)); have n4_ := Aside0.mk ((Nat.le_trans HW0.out (by rw [hg]; exact (below_size (by repeat (with_reducible first | exact HBW.out | apply ba_ | apply bn_ | apply bd_))) : w.heap.size ≤ gb371) : w0.heap.size ≤ gb371)); clear HBW; clear HB; have HBW := n0_; have HB := n1_; have BK371 := n2_; have GW371 := n3_; have GE371 := n4_; clear n0_ n1_ n2_ n3_ n4_; clear hb hbox hg))
 go_ret
 exact ⟨_, rfl, (show IsS128 w0 _ gb371 l0 0 from ⟨_, _, by (with_reducible repeat (first | refine kn_ ?_ _ | refine kd_ ?_ | refine ka_ ?_ _)); exact BK371.out, GE371.out, HR0.out⟩), by repeat (with_reducible first | exact HB.out | apply ba_ | apply bn_ | apply bd_ | refine bs_ ?_ GE371.out), by repeat (with_reducible first | exact HBW.out | apply ba_ | apply bn_ | apply bd_ | refine bs_ ?_ GW371.out)⟩
end Go.Proofs.Ytnlfhbohcgjcbaa.PA
namespace Go.Proofs.Ytnlfhbohcgjcbaa.PA
open Go.RowKit Go.Proofs.YtnlfhbohcgjcbaaW.PrintWords Go.Proofs.YtnlfhbohcgjcbaaW.PrintLast Go.Proofs.YtnlfhbohcgjcbaaW.PrintMore
attribute [local go_sem] max2_int min2_int max_two min_two max_three min_three max_four min_four
set_option linter.unusedVariables false
set_option linter.unusedSimpArgs false
attribute [local go_sem high] eqA24
def diwanref1_SameReads.l0 : Nat → List (S24) → List (S24) → Int → Option (Bool)
 | 0, _, _, _ => none
 | k + 1, x0, x1, x5 => if x5 < (x0.length : Int) then (if 0 ≤ x5 then (if x5 < (x1.length : Int) then (if (!((((rd_T24 x0 x5).f0).toList) == (((rd_T24 x1 x5).f0).toList)) || (!(((rd_T24 x0 x5).f1) == ((rd_T24 x1 x5).f1)) || (!((((rd_T24 x0 x5).f2).toList) == (((rd_T24 x1 x5).f2).toList)) || (!(((rd_T24 x0 x5).f3) == ((rd_T24 x1 x5).f3)))))) = true then (some false) else (diwanref1_SameReads.l0 k x0 x1 (wrap64 (x5 + 1)))) else (none)) else (none)) else (some true)
def diwanref1_SameReads.f (k : Nat) (l0 : List (S24)) (l1 : List (S24)) : Option (Bool) := if (l0.length : Int) = (l1.length : Int) then (diwanref1_SameReads.l0 k l0 l1 0) else (some false)
set_option maxHeartbeats 8000000 in
set_option maxRecDepth 100000 in
theorem diwanref1_SameReads.calls (k : Nat) (A0 : Option Addr) (c0 : Nat) (l0 : List (S24)) (A1 : Option Addr) (c1 : Nat) (l1 : List (S24)) (r : Bool) (w : World) (hr0 : Kd.C k24 w A0 l0.length l0) (hc0 : l0.length ≤ c0) (hr1 : Kd.C k24 w A1 l1.length l1) (hc1 : l1.length ≤ c1) (h : diwanref1_SameReads.f k l0 l1 = some r) :
  Calls Try.prog 50 #[.slice A0 l0.length c0, .slice A1 l1.length c1] w fun e w' => e = .returned (.bool r) ∧ Drawn0 w w' := by
 have hu24 := Try.underlying24
 have HR0 := Aside0.mk hr0
 have HC0 := Aside0.mk hc0
 clear hr0 hc0
 have HR1 := Aside0.mk hr1
 have HC1 := Aside0.mk hc1
 clear hr1 hc1
 have H : (if (l0.length : Int) = (l1.length : Int) then (diwanref1_SameReads.l0 k l0 l1 0) else (some false)) = some r := h
 clear h
 by_cases c3 : (l0.length : Int) = (l1.length : Int)
 ·rw [if_pos c3] at H
  have c3b0 : ((l0.length : Int) == (l1.length : Int)) = true := beq_iff_eq.mpr c3
  have c3b1 : ((l0.length : Int) != (l1.length : Int)) = false := bne_eq_false_iff_eq.mpr c3
  have c3b2 : (l0.length == l1.length) = true := by first | simpa using c3 | (simp at c3 ⊢; omega)
  clear c3
  have H' := Aside0.mk H
  clear H
  go_enter Try.func50, Try.ntmps50
  go_wp2
  repeat (go_quiet (fail); try go_wp2)
  go_loopg [5] k (fun kq v5 w' => ∃ (x5_1 : Int), v5 = .int .i64 x5_1 ∧ Aside0 (diwanref1_SameReads.l0 kq l0 l1 x5_1 = some r) ∧ Aside0 (kq ≤ k) ∧ Drawn0 w w')
  case atStart => exact ⟨(0), (by first | rfl | (simp; done) | (simp [*]; done)), H', ⟨Nat.le_refl _⟩, by repeat (first | exact Drawn0.refl _ | apply Drawn0.step)⟩
  case round =>
   clear H'
   try clear c1
   try clear p2
   try clear c3
   try clear c3b0
   try clear c3b1
   try clear c3b2
   obtain ⟨x5_1, rfl, HA, HK1, ⟨m1, rfl⟩⟩ := hrel
   cases gk with
   | zero => exact absurd HA.out (by simp [diwanref1_SameReads.l0])
   | succ k1 =>
    have H := HA.out
    clear HA
    simp only [diwanref1_SameReads.l0] at H
    by_cases c4 : x5_1 < (l0.length : Int)
    ·rw [if_pos c4] at H
     have c4b0 : decide (x5_1 < (l0.length : Int)) = true := decide_eq_true c4
     clear c4
     by_cases c5 : 0 ≤ x5_1
     ·rw [if_pos c5] at H
      have c5b0 : decide (0 ≤ x5_1) = true := decide_eq_true c5
      clear c5
      by_cases c6 : x5_1 < (l1.length : Int)
      ·rw [if_pos c6] at H
       have c6b0 : decide (x5_1 < (l1.length : Int)) = true := decide_eq_true c6
       clear c6
       by_cases c7 : (!((((rd_T24 l0 x5_1).f0).toList) == (((rd_T24 l1 x5_1).f0).toList)) || (!(((rd_T24 l0 x5_1).f1) == ((rd_T24 l1 x5_1).f1)) || (!((((rd_T24 l0 x5_1).f2).toList) == (((rd_T24 l1 x5_1).f2).toList)) || (!(((rd_T24 l0 x5_1).f3) == ((rd_T24 l1 x5_1).f3)))))) = true
       ·rw [if_pos c7] at H
        have c7b0 : (!((((rd_T24 l0 x5_1).f0).toList) == (((rd_T24 l1 x5_1).f0).toList)) || (!(((rd_T24 l0 x5_1).f1) == ((rd_T24 l1 x5_1).f1)) || (!((((rd_T24 l0 x5_1).f2).toList) == (((rd_T24 l1 x5_1).f2).toList)) || (!(((rd_T24 l0 x5_1).f3) == ((rd_T24 l1 x5_1).f3)))))) = true := c7
        clear c7
        obtain rfl := Option.some.inj H
        have p386 : 0 ≤ (x5_1 : Int) := of_decide_eq_true (by first | (with_reducible assumption) | assumption)
        have q386 : x5_1 < (l0.length : Int) := of_decide_eq_true (by first | (with_reducible assumption) | assumption)
        obtain ⟨ad386, e386, hx386_0, hx386_1, hx386_2, hx386_3⟩ := at_T24 HR0.out x5_1 p386 q386
        cases e386
        replace p386 := eq_true p386
        replace q386 := eq_true q386
        have p387 : 0 ≤ (x5_1 : Int) := of_decide_eq_true (by first | (with_reducible assumption) | assumption)
        have q387 : x5_1 < (l1.length : Int) := of_decide_eq_true (by first | (with_reducible assumption) | assumption)
        obtain ⟨ad387, e387, hx387_0, hx387_1, hx387_2, hx387_3⟩ := at_T24 HR1.out x5_1 p387 q387
        cases e387
        replace p387 := eq_true p387
        replace q387 := eq_true q387
        go_wp2
        repeat (go_quiet (fail); try go_wp2)
        go_ret
        exact ⟨by first | rfl | (simp; done) | (simp [*]; done), by repeat (first | exact Drawn0.refl _ | apply Drawn0.step)⟩
       ·rw [if_neg c7] at H
        have c7b0 : (!((((rd_T24 l0 x5_1).f0).toList) == (((rd_T24 l1 x5_1).f0).toList)) || (!(((rd_T24 l0 x5_1).f1) == ((rd_T24 l1 x5_1).f1)) || (!((((rd_T24 l0 x5_1).f2).toList) == (((rd_T24 l1 x5_1).f2).toList)) || (!(((rd_T24 l0 x5_1).f3) == ((rd_T24 l1 x5_1).f3)))))) = false := by simpa using c7
        clear c7
        have H' := Aside0.mk H
        clear H
        have p386 : 0 ≤ (x5_1 : Int) := of_decide_eq_true (by first | (with_reducible assumption) | assumption)
        have q386 : x5_1 < (l0.length : Int) := of_decide_eq_true (by first | (with_reducible assumption) | assumption)
        obtain ⟨ad386, e386, hx386_0, hx386_1, hx386_2, hx386_3⟩ := at_T24 HR0.out x5_1 p386 q386
        cases e386
        replace p386 := eq_true p386
        replace q386 := eq_true q386
        have p387 : 0 ≤ (x5_1 : Int) := of_decide_eq_true (by first | (with_reducible assumption) | assumption)
        have q387 : x5_1 < (l1.length : Int) := of_decide_eq_true (by first | (with_reducible assumption) | assumption)
        obtain ⟨ad387, e387, hx387_0, hx387_1, hx387_2, hx387_3⟩ := at_T24 HR1.out x5_1 p387 q387
        cases e387
        replace p387 := eq_true p387
        replace q387 := eq_true q387
        go_wp2
        repeat (go_quiet (fail); try go_wp2)
        go_roundg k1
        case measure => have := HK1.out; omega
        case rel => exact ⟨(wrap64 (x5_1 + 1)), (by first | rfl | (simp; done) | (simp [*]; done)), H', ⟨by have := HK1.out; omega⟩, by repeat (first | exact Drawn0.refl _ | apply Drawn0.step)⟩
      ·rw [if_neg c6] at H
       exact absurd H (by simp)
     ·rw [if_neg c5] at H
      exact absurd H (by simp)
    ·rw [if_neg c4] at H
     have c4b0 : decide (x5_1 < (l0.length : Int)) = false := decide_eq_false c4
     clear c4
     obtain rfl := Option.some.inj H
     go_wp2
     repeat (go_quiet (fail); try go_wp2)
     go_ret
     exact ⟨by first | rfl | (simp; done) | (simp [*]; done), by repeat (first | exact Drawn0.refl _ | apply Drawn0.step)⟩
 ·rw [if_neg c3] at H
  have c3b0 : ((l0.length : Int) == (l1.length : Int)) = false := beq_eq_false_iff_ne.mpr c3
  have c3b1 : ((l0.length : Int) != (l1.length : Int)) = true := bne_iff_ne.mpr c3
  have c3b2 : (l0.length == l1.length) = false := by first | simpa using c3 | (simp at c3 ⊢; omega)
  obtain rfl := Option.some.inj H
  go_enter Try.func50, Try.ntmps50
  go_wp2
  repeat (go_quiet (fail); try go_wp2)
  go_ret
  exact ⟨by first | rfl | (simp; done) | (simp [*]; done), by repeat (first | exact Drawn0.refl _ | apply Drawn0.step)⟩
end Go.Proofs.Ytnlfhbohcgjcbaa.PA
namespace Go.Proofs.Ytnlfhbohcgjcbaa.PA
open Go.RowKit Go.Proofs.YtnlfhbohcgjcbaaW.PrintWords Go.Proofs.YtnlfhbohcgjcbaaW.PrintLast Go.Proofs.YtnlfhbohcgjcbaaW.PrintMore
attribute [local go_sem] max2_int min2_int max_two min_two max_three min_three max_four min_four
set_option linter.unusedVariables false
set_option linter.unusedSimpArgs false
attribute [local go_sem high] eqA27
mutual
def diwanref1_SameTxn.j0 : Nat → Bool → Int → Int → List (S24) → List (S27) → Int → Int → List (S24) → List (S27) → Option (Bool)
 | 0, _, _, _, _, _, _, _, _, _ => none
 | k + 1, x34, x389000, x389001, x389002, x389003, x390000, x390001, x390002, x390003 => if x34 = true then (some false) else (diwanref1_SameTxn.l0 k 0 x389000 x389001 x389002 x389003 x390000 x390001 x390002 x390003)
def diwanref1_SameTxn.l0 : Nat → Int → Int → Int → List (S24) → List (S27) → Int → Int → List (S24) → List (S27) → Option (Bool)
 | 0, _, _, _, _, _, _, _, _, _ => none
 | k + 1, x5, x389000, x389001, x389002, x389003, x390000, x390001, x390002, x390003 => if x5 < (x389003.length : Int) then (if 0 ≤ x5 then (if x5 < (x390003.length : Int) then (if (!((((rd_T27 x389003 x5).f0).toList) == (((rd_T27 x390003 x5).f0).toList)) || (!((((rd_T27 x389003 x5).f1).toList) == (((rd_T27 x390003 x5).f1).toList)) || (!(((rd_T27 x389003 x5).f2) == ((rd_T27 x390003 x5).f2))))) = true then (some false) else (diwanref1_SameTxn.l0 k (wrap64 (x5 + 1)) x389000 x389001 x389002 x389003 x390000 x390001 x390002 x390003)) else (none)) else (none)) else (some true)
end
def diwanref1_SameTxn.f (k : Nat) (a0_0 : Int) (a0_1 : Int) (l0_2 : List (S24)) (l0_3 : List (S27)) (a1_0 : Int) (a1_1 : Int) (l1_2 : List (S24)) (l1_3 : List (S27)) : Option (Bool) := if a0_0 = a1_0 then (if a0_1 = a1_1 then (if (l0_3.length : Int) = (l1_3.length : Int) then ((diwanref1_SameReads.f k l0_2 l1_2).bind fun t390 => (diwanref1_SameTxn.j0 k (!t390) a0_0 a0_1 l0_2 l0_3 a1_0 a1_1 l1_2 l1_3)) else (diwanref1_SameTxn.j0 k true a0_0 a0_1 l0_2 l0_3 a1_0 a1_1 l1_2 l1_3)) else (diwanref1_SameTxn.j0 k true a0_0 a0_1 l0_2 l0_3 a1_0 a1_1 l1_2 l1_3)) else (diwanref1_SameTxn.j0 k true a0_0 a0_1 l0_2 l0_3 a1_0 a1_1 l1_2 l1_3)
set_option maxHeartbeats 8000000 in
set_option maxRecDepth 100000 in
theorem diwanref1_SameTxn.calls (k : Nat) (a0_0 : Int) (a0_1 : Int) (A0_2 : Option Addr) (c0_2 : Nat) (l0_2 : List (S24)) (A0_3 : Option Addr) (c0_3 : Nat) (l0_3 : List (S27)) (a1_0 : Int) (a1_1 : Int) (A1_2 : Option Addr) (c1_2 : Nat) (l1_2 : List (S24)) (A1_3 : Option Addr) (c1_3 : Nat) (l1_3 : List (S27)) (r : Bool) (w : World) (hr0_2 : Kd.C k24 w A0_2 l0_2.length l0_2) (hc0_2 : l0_2.length ≤ c0_2) (hr0_3 : Kd.C k27 w A0_3 l0_3.length l0_3) (hc0_3 : l0_3.length ≤ c0_3) (hr1_2 : Kd.C k24 w A1_2 l1_2.length l1_2) (hc1_2 : l1_2.length ≤ c1_2) (hr1_3 : Kd.C k27 w A1_3 l1_3.length l1_3) (hc1_3 : l1_3.length ≤ c1_3) (h : diwanref1_SameTxn.f k a0_0 a0_1 l0_2 l0_3 a1_0 a1_1 l1_2 l1_3 = some r) :
  Calls Try.prog 26 #[.agg #[.int .i64 a0_0, .int .i64 a0_1, .slice A0_2 l0_2.length c0_2, .slice A0_3 l0_3.length c0_3], .agg #[.int .i64 a1_0, .int .i64 a1_1, .slice A1_2 l1_2.length c1_2, .slice A1_3 l1_3.length c1_3]] w fun e w' => e = .returned (.bool r) ∧ Below w.heap.size w w' := by
 have hu30 := Try.underlying30
 have hu27 := Try.underlying27
 have HR0_2 := Aside0.mk hr0_2
 have HC0_2 := Aside0.mk hc0_2
 clear hr0_2 hc0_2
 have HR0_3 := Aside0.mk hr0_3
 have HC0_3 := Aside0.mk hc0_3
 clear hr0_3 hc0_3
 have HR1_2 := Aside0.mk hr1_2
 have HC1_2 := Aside0.mk hc1_2
 clear hr1_2 hc1_2
 have HR1_3 := Aside0.mk hr1_3
 have HC1_3 := Aside0.mk hc1_3
 clear hr1_3 hc1_3
 have HB := Aside0.mk (Below.refl w.heap.size w)
 have H : (if a0_0 = a1_0 then (if a0_1 = a1_1 then (if (l0_3.length : Int) = (l1_3.length : Int) then ((diwanref1_SameReads.f k l0_2 l1_2).bind fun t390 => (diwanref1_SameTxn.j0 k (!t390) a0_0 a0_1 l0_2 l0_3 a1_0 a1_1 l1_2 l1_3)) else (diwanref1_SameTxn.j0 k true a0_0 a0_1 l0_2 l0_3 a1_0 a1_1 l1_2 l1_3)) else (diwanref1_SameTxn.j0 k true a0_0 a0_1 l0_2 l0_3 a1_0 a1_1 l1_2 l1_3)) else (diwanref1_SameTxn.j0 k true a0_0 a0_1 l0_2 l0_3 a1_0 a1_1 l1_2 l1_3)) = some r := h
 clear h
 have HC3 := Aside0.mk H
 clear H
 go_enter Try.func26, Try.ntmps26
 go_upto_region 1 with (first | ((with_reducible refine gate_dst (N := 2) rfl ?_); (try (refine gate_guard (by rfl) ?_; dsimp only)); refine box_event ?hg (N := 2) ?hd (cs := #[.int .i64 a0_0, .int .i64 a0_1, .slice A0_2 l0_2.length c0_2, .slice A0_3 l0_3.length c0_3]) (t := 30) ?hr ?_; (case hd => rfl); (case hg => rfl); (case hr => first | (go_simp; done) | (go_simp; rfl)); intro gb388 hg w4 hbox hb; have n0_ := Aside0.mk (below_step (by repeat (with_reducible first | exact HB.out | apply ba_ | apply bn_ | apply bd_)) hb); have n1_ := Aside0.mk (hbox); have n2_ := Aside0.mk ((by rw [hg]; exact (below_size (by repeat (with_reducible first | exact HB.out | apply ba_ | apply bn_ | apply bd_))) : w.heap.size ≤ gb388)); have n3_ := Aside0.mk ((by rw [hg]; exact (below_size (by repeat (with_reducible first | exact HB.out | apply ba_ | apply bn_ | apply bd_))) : w.heap.size ≤ gb388)); clear HB; have HB := n0_; have BK388 := n1_; have GW388 := n2_; have GE388 := n3_; clear n0_ n1_ n2_ n3_; clear hb hbox hg) | ((with_reducible refine gate_dst (N := 3) rfl ?_); (try (refine gate_guard (by rfl) ?_; dsimp only)); refine box_event ?hg (N := 3) ?hd (cs := #[.int .i64 a1_0, .int .i64 a1_1, .slice A1_2 l1_2.length c1_2, .slice A1_3 l1_3.length c1_3]) (t := 30) ?hr ?_; (case hd => rfl); (case hg => rfl); (case hr => first | (go_simp; done) | (go_simp; rfl)); intro gb389 hg w5 hbox hb; have n0_ := Aside0.mk (blk_below (g := gb388) (o := .cells #[.int .i64 a0_0, .int .i64 a0_1, .slice A0_2 l0_2.length c0_2, .slice A0_3 l0_3.length c0_3] 30 (0, 0)) (by (with_reducible repeat (first | refine kn_ ?_ _ | refine kd_ ?_ | refine ka_ ?_ _)); exact BK388.out) hb); have n1_ := Aside0.mk (below_step (by repeat (with_reducible first | exact HB.out | apply ba_ | apply bn_ | apply bd_ | refine bs_ ?_ GE388.out)) hb); have n2_ := Aside0.mk (hbox); have n3_ := Aside0.mk ((by rw [hg]; exact (below_size (by repeat (with_reducible first | exact HB.out | apply ba_ | apply bn_ | apply bd_ | refine bs_ ?_ GE388.out))) : w.heap.size ≤ gb389)); have n4_ := Aside0.mk ((by rw [hg]; exact (below_size (by repeat (with_reducible first | exact HB.out | apply ba_ | apply bn_ | apply bd_ | refine bs_ ?_ GE388.out))) : w.heap.size ≤ gb389)); have n5_ := Aside0.mk ((by rw [hg]; exact Nat.ne_of_lt (blk_lt (g := gb388) (o := .cells #[.int .i64 a0_0, .int .i64 a0_1, .slice A0_2 l0_2.length c0_2, .slice A0_3 l0_3.length c0_3] 30 (0, 0)) (by (with_reducible repeat (first | refine kn_ ?_ _ | refine kd_ ?_ | refine ka_ ?_ _)); exact BK388.out)) : gb388 ≠ gb389)); have n6_ := Aside0.mk ((by rw [hg]; exact Nat.ne_of_gt (blk_lt (g := gb388) (o := .cells #[.int .i64 a0_0, .int .i64 a0_1, .slice A0_2 l0_2.length c0_2, .slice A0_3 l0_3.length c0_3] 30 (0, 0)) (by (with_reducible repeat (first | refine kn_ ?_ _ | refine kd_ ?_ | refine ka_ ?_ _)); exact BK388.out)) : gb389 ≠ gb388)); clear BK388; clear HB; have BK388 := n0_; have HB := n1_; have BK389 := n2_; have GW389 := n3_; have GE389 := n4_; have NB388_389 := n5_; have NB389_388 := n6_; clear n0_ n1_ n2_ n3_ n4_ n5_ n6_; clear hb hbox hg))
 repeat (go_quiet (first | ((with_reducible refine gate_dst (N := 2) rfl ?_); (try (refine gate_guard (by rfl) ?_; dsimp only)); refine box_event ?hg (N := 2) ?hd (cs := #[.int .i64 a0_0, .int .i64 a0_1, .slice A0_2 l0_2.length c0_2, .slice A0_3 l0_3.length c0_3]) (t := 30) ?hr ?_; (case hd => rfl); (case hg => rfl); (case hr => first | (go_simp; done) | (go_simp; rfl)); intro gb388 hg w4 hbox hb; have n0_ := Aside0.mk (below_step (by repeat (with_reducible first | exact HB.out | apply ba_ | apply bn_ | apply bd_)) hb); have n1_ := Aside0.mk (hbox); have n2_ := Aside0.mk ((by rw [hg]; exact (below_size (by repeat (with_reducible first | exact HB.out | apply ba_ | apply bn_ | apply bd_))) : w.heap.size ≤ gb388)); have n3_ := Aside0.mk ((by rw [hg]; exact (below_size (by repeat (with_reducible first | exact HB.out | apply ba_ | apply bn_ | apply bd_))) : w.heap.size ≤ gb388)); clear HB; have HB := n0_; have BK388 := n1_; have GW388 := n2_; have GE388 := n3_; clear n0_ n1_ n2_ n3_; clear hb hbox hg) | ((with_reducible refine gate_dst (N := 3) rfl ?_); (try (refine gate_guard (by rfl) ?_; dsimp only)); refine box_event ?hg (N := 3) ?hd (cs := #[.int .i64 a1_0, .int .i64 a1_1, .slice A1_2 l1_2.length c1_2, .slice A1_3 l1_3.length c1_3]) (t := 30) ?hr ?_; (case hd => rfl); (case hg => rfl); (case hr => first | (go_simp; done) | (go_simp; rfl)); intro gb389 hg w5 hbox hb; have n0_ := Aside0.mk (blk_below (g := gb388) (o := .cells #[.int .i64 a0_0, .int .i64 a0_1, .slice A0_2 l0_2.length c0_2, .slice A0_3 l0_3.length c0_3] 30 (0, 0)) (by (with_reducible repeat (first | refine kn_ ?_ _ | refine kd_ ?_ | refine ka_ ?_ _)); exact BK388.out) hb); have n1_ := Aside0.mk (below_step (by repeat (with_reducible first | exact HB.out | apply ba_ | apply bn_ | apply bd_ | refine bs_ ?_ GE388.out)) hb); have n2_ := Aside0.mk (hbox); have n3_ := Aside0.mk ((by rw [hg]; exact (below_size (by repeat (with_reducible first | exact HB.out | apply ba_ | apply bn_ | apply bd_ | refine bs_ ?_ GE388.out))) : w.heap.size ≤ gb389)); have n4_ := Aside0.mk ((by rw [hg]; exact (below_size (by repeat (with_reducible first | exact HB.out | apply ba_ | apply bn_ | apply bd_ | refine bs_ ?_ GE388.out))) : w.heap.size ≤ gb389)); have n5_ := Aside0.mk ((by rw [hg]; exact Nat.ne_of_lt (blk_lt (g := gb388) (o := .cells #[.int .i64 a0_0, .int .i64 a0_1, .slice A0_2 l0_2.length c0_2, .slice A0_3 l0_3.length c0_3] 30 (0, 0)) (by (with_reducible repeat (first | refine kn_ ?_ _ | refine kd_ ?_ | refine ka_ ?_ _)); exact BK388.out)) : gb388 ≠ gb389)); have n6_ := Aside0.mk ((by rw [hg]; exact Nat.ne_of_gt (blk_lt (g := gb388) (o := .cells #[.int .i64 a0_0, .int .i64 a0_1, .slice A0_2 l0_2.length c0_2, .slice A0_3 l0_3.length c0_3] 30 (0, 0)) (by (with_reducible repeat (first | refine kn_ ?_ _ | refine kd_ ?_ | refine ka_ ?_ _)); exact BK388.out)) : gb389 ≠ gb388)); clear BK388; clear HB; have BK388 := n0_; have HB := n1_; have BK389 := n2_; have GW389 := n3_; have GE389 := n4_; have NB388_389 := n5_; have NB389_388 := n6_; clear n0_ n1_ n2_ n3_ n4_ n5_ n6_; clear hb hbox hg)); go_upto_region 1 with (first | ((with_reducible refine gate_dst (N := 2) rfl ?_); (try (refine gate_guard (by rfl) ?_; dsimp only)); refine box_event ?hg (N := 2) ?hd (cs := #[.int .i64 a0_0, .int .i64 a0_1, .slice A0_2 l0_2.length c0_2, .slice A0_3 l0_3.length c0_3]) (t := 30) ?hr ?_; (case hd => rfl); (case hg => rfl); (case hr => first | (go_simp; done) | (go_simp; rfl)); intro gb388 hg w4 hbox hb; have n0_ := Aside0.mk (below_step (by repeat (with_reducible first | exact HB.out | apply ba_ | apply bn_ | apply bd_)) hb); have n1_ := Aside0.mk (hbox); have n2_ := Aside0.mk ((by rw [hg]; exact (below_size (by repeat (with_reducible first | exact HB.out | apply ba_ | apply bn_ | apply bd_))) : w.heap.size ≤ gb388)); have n3_ := Aside0.mk ((by rw [hg]; exact (below_size (by repeat (with_reducible first | exact HB.out | apply ba_ | apply bn_ | apply bd_))) : w.heap.size ≤ gb388)); clear HB; have HB := n0_; have BK388 := n1_; have GW388 := n2_; have GE388 := n3_; clear n0_ n1_ n2_ n3_; clear hb hbox hg) | ((with_reducible refine gate_dst (N := 3) rfl ?_); (try (refine gate_guard (by rfl) ?_; dsimp only)); refine box_event ?hg (N := 3) ?hd (cs := #[.int .i64 a1_0, .int .i64 a1_1, .slice A1_2 l1_2.length c1_2, .slice A1_3 l1_3.length c1_3]) (t := 30) ?hr ?_; (case hd => rfl); (case hg => rfl); (case hr => first | (go_simp; done) | (go_simp; rfl)); intro gb389 hg w5 hbox hb; have n0_ := Aside0.mk (blk_below (g := gb388) (o := .cells #[.int .i64 a0_0, .int .i64 a0_1, .slice A0_2 l0_2.length c0_2, .slice A0_3 l0_3.length c0_3] 30 (0, 0)) (by (with_reducible repeat (first | refine kn_ ?_ _ | refine kd_ ?_ | refine ka_ ?_ _)); exact BK388.out) hb); have n1_ := Aside0.mk (below_step (by repeat (with_reducible first | exact HB.out | apply ba_ | apply bn_ | apply bd_ | refine bs_ ?_ GE388.out)) hb); have n2_ := Aside0.mk (hbox); have n3_ := Aside0.mk ((by rw [hg]; exact (below_size (by repeat (with_reducible first | exact HB.out | apply ba_ | apply bn_ | apply bd_ | refine bs_ ?_ GE388.out))) : w.heap.size ≤ gb389)); have n4_ := Aside0.mk ((by rw [hg]; exact (below_size (by repeat (with_reducible first | exact HB.out | apply ba_ | apply bn_ | apply bd_ | refine bs_ ?_ GE388.out))) : w.heap.size ≤ gb389)); have n5_ := Aside0.mk ((by rw [hg]; exact Nat.ne_of_lt (blk_lt (g := gb388) (o := .cells #[.int .i64 a0_0, .int .i64 a0_1, .slice A0_2 l0_2.length c0_2, .slice A0_3 l0_3.length c0_3] 30 (0, 0)) (by (with_reducible repeat (first | refine kn_ ?_ _ | refine kd_ ?_ | refine ka_ ?_ _)); exact BK388.out)) : gb388 ≠ gb389)); have n6_ := Aside0.mk ((by rw [hg]; exact Nat.ne_of_gt (blk_lt (g := gb388) (o := .cells #[.int .i64 a0_0, .int .i64 a0_1, .slice A0_2 l0_2.length c0_2, .slice A0_3 l0_3.length c0_3] 30 (0, 0)) (by (with_reducible repeat (first | refine kn_ ?_ _ | refine kd_ ?_ | refine ka_ ?_ _)); exact BK388.out)) : gb389 ≠ gb388)); clear BK388; clear HB; have BK388 := n0_; have HB := n1_; have BK389 := n2_; have GW389 := n3_; have GE389 := n4_; have NB388_389 := n5_; have NB389_388 := n6_; clear n0_ n1_ n2_ n3_ n4_ n5_ n6_; clear hb hbox hg)))
 (try simp only [Act.put, List.setIfInBounds_toArray, List.set_cons_zero, List.set_cons_succ])
 go_cut [34] (fun v34 wc => ∃ (kq : Nat) (x34_2 : Bool), v34 = .bool x34_2 ∧ Aside0 (diwanref1_SameTxn.j0 kq x34_2 a0_0 a0_1 l0_2 l0_3 a1_0 a1_1 l1_2 l1_3 = some r) ∧ Aside0 (kq ≤ k) ∧ Aside0 (wc.heap[gb388]? = some (.cells #[.int .i64 a0_0, .int .i64 a0_1, (.slice A0_2 l0_2.length c0_2), (.slice A0_3 l0_3.length c0_3)] 30 (0, 0))) ∧ Aside0 (wc.heap[gb389]? = some (.cells #[.int .i64 a1_0, .int .i64 a1_1, (.slice A1_2 l1_2.length c1_2), (.slice A1_3 l1_3.length c1_3)] 30 (0, 0))) ∧ Aside0 (Below w.heap.size w wc))
 case first =>
  have H := HC3.out
  clear HC3
  by_cases c6 : a0_0 = a1_0
  ·rw [if_pos c6] at H
   have c6b0 : (a0_0 == a1_0) = true := beq_iff_eq.mpr c6
   have c6b1 : (a0_0 != a1_0) = false := bne_eq_false_iff_eq.mpr c6
   clear c6
   (first | rw [c6b0] | (simp only [i64_w, i32_w]; rw [c6b0]) | skip)
   by_cases c7 : a0_1 = a1_1
   ·rw [if_pos c7] at H
    have c7b0 : (a0_1 == a1_1) = true := beq_iff_eq.mpr c7
    have c7b1 : (a0_1 != a1_1) = false := bne_eq_false_iff_eq.mpr c7
    clear c7
    by_cases c8 : (l0_3.length : Int) = (l1_3.length : Int)
    ·rw [if_pos c8] at H
     have c8b0 : ((l0_3.length : Int) == (l1_3.length : Int)) = true := beq_iff_eq.mpr c8
     have c8b1 : ((l0_3.length : Int) != (l1_3.length : Int)) = false := bne_eq_false_iff_eq.mpr c8
     have c8b2 : (l0_3.length == l1_3.length) = true := by first | simpa using c8 | (simp at c8 ⊢; omega)
     clear c8
     replace H := Option.bind_eq_some_iff.mp H
     obtain ⟨t390, A90, H⟩ := H
     (try dsimp only at H)
     have A9 := Aside0.mk A90
     clear A90
     have H' := Aside0.mk H
     clear H
     have hnb10 := NB388_389.out
     have hnc10 := NB389_388.out
     have hcz11_0 : w5.cell? ⟨gb388, 0, none⟩ = some (.int .i64 a0_0) := (blk_cell BK388.out 0).trans rfl
     have hcz11_1 : w5.cell? ⟨gb388, 1, none⟩ = some (.int .i64 a0_1) := (blk_cell BK388.out 1).trans rfl
     have hcz11_2 : w5.cell? ⟨gb388, 2, none⟩ = some (.slice A0_2 l0_2.length c0_2) := (blk_cell BK388.out 2).trans rfl
     have hcz11_3 : w5.cell? ⟨gb388, 3, none⟩ = some (.slice A0_3 l0_3.length c0_3) := (blk_cell BK388.out 3).trans rfl
     have hfz11_0 := blk_frozen BK388.out 0
     have hfz11_1 := blk_frozen BK388.out 1
     have hfz11_2 := blk_frozen BK388.out 2
     have hfz11_3 := blk_frozen BK388.out 3
     have hcz12_0 : w5.cell? ⟨gb389, 0, none⟩ = some (.int .i64 a1_0) := (blk_cell BK389.out 0).trans rfl
     have hcz12_1 : w5.cell? ⟨gb389, 1, none⟩ = some (.int .i64 a1_1) := (blk_cell BK389.out 1).trans rfl
     have hcz12_2 : w5.cell? ⟨gb389, 2, none⟩ = some (.slice A1_2 l1_2.length c1_2) := (blk_cell BK389.out 2).trans rfl
     have hcz12_3 : w5.cell? ⟨gb389, 3, none⟩ = some (.slice A1_3 l1_3.length c1_3) := (blk_cell BK389.out 3).trans rfl
     have hfz12_0 := blk_frozen BK389.out 0
     have hfz12_1 := blk_frozen BK389.out 1
     have hfz12_2 := blk_frozen BK389.out 2
     have hfz12_3 := blk_frozen BK389.out 3
     go_wp2_with (first | (go_at_call 50; (with_reducible refine (diwanref1_SameReads.calls k _ _ l0_2 _ _ l1_2 t390 _ ?side1 ?side2 ?side3 ?side4 A9.out).mono ?_); (case side1 => repeat (first | exact (Kd.C_below HR0_2.out HB.out) | (with_reducible refine ca_ ?_ _) | (with_reducible refine cn_ ?_ _) | (with_reducible refine cd_ ?_))); (case side2 => exact HC0_2.out); (case side3 => repeat (first | exact (Kd.C_below HR1_2.out HB.out) | (with_reducible refine ca_ ?_ _) | (with_reducible refine cn_ ?_ _) | (with_reducible refine cd_ ?_))); (case side4 => exact HC1_2.out); rintro e w' ⟨rfl, ⟨nd, rfl⟩⟩; (try first | exact ⟨rfl, _, World.drewN_drewN _ _ _⟩ | exact ⟨rfl, _, Eq.trans (World.drewN_drewN _ _ _) (congrArg (World.drewN _) (Nat.add_assoc _ _ _))⟩)))
     repeat (go_quiet (first | (go_at_call 50; (with_reducible refine (diwanref1_SameReads.calls k _ _ l0_2 _ _ l1_2 t390 _ ?side1 ?side2 ?side3 ?side4 A9.out).mono ?_); (case side1 => repeat (first | exact (Kd.C_below HR0_2.out HB.out) | (with_reducible refine ca_ ?_ _) | (with_reducible refine cn_ ?_ _) | (with_reducible refine cd_ ?_))); (case side2 => exact HC0_2.out); (case side3 => repeat (first | exact (Kd.C_below HR1_2.out HB.out) | (with_reducible refine ca_ ?_ _) | (with_reducible refine cn_ ?_ _) | (with_reducible refine cd_ ?_))); (case side4 => exact HC1_2.out); rintro e w' ⟨rfl, ⟨nd, rfl⟩⟩; (try first | exact ⟨rfl, _, World.drewN_drewN _ _ _⟩ | exact ⟨rfl, _, Eq.trans (World.drewN_drewN _ _ _) (congrArg (World.drewN _) (Nat.add_assoc _ _ _))⟩))); try go_wp2_with (first | (go_at_call 50; (with_reducible refine (diwanref1_SameReads.calls k _ _ l0_2 _ _ l1_2 t390 _ ?side1 ?side2 ?side3 ?side4 A9.out).mono ?_); (case side1 => repeat (first | exact (Kd.C_below HR0_2.out HB.out) | (with_reducible refine ca_ ?_ _) | (with_reducible refine cn_ ?_ _) | (with_reducible refine cd_ ?_))); (case side2 => exact HC0_2.out); (case side3 => repeat (first | exact (Kd.C_below HR1_2.out HB.out) | (with_reducible refine ca_ ?_ _) | (with_reducible refine cn_ ?_ _) | (with_reducible refine cd_ ?_))); (case side4 => exact HC1_2.out); rintro e w' ⟨rfl, ⟨nd, rfl⟩⟩; (try first | exact ⟨rfl, _, World.drewN_drewN _ _ _⟩ | exact ⟨rfl, _, Eq.trans (World.drewN_drewN _ _ _) (congrArg (World.drewN _) (Nat.add_assoc _ _ _))⟩))))
     go_meet
     case rel => exact ⟨_, (!t390), (by first | rfl | (simp; done) | (simp [*]; done)), H', ⟨by first | omega | exact Nat.le_refl _⟩, ⟨by (with_reducible repeat (first | refine kn_ ?_ _ | refine kd_ ?_ | refine ka_ ?_ _)); exact BK388.out⟩, ⟨by (with_reducible repeat (first | refine kn_ ?_ _ | refine kd_ ?_ | refine ka_ ?_ _)); exact BK389.out⟩, ⟨by repeat (with_reducible first | exact HB.out | apply ba_ | apply bn_ | apply bd_ | refine bs_ ?_ GE388.out | refine bs_ ?_ GE389.out)⟩⟩
    ·rw [if_neg c8] at H
     have c8b0 : ((l0_3.length : Int) == (l1_3.length : Int)) = false := beq_eq_false_iff_ne.mpr c8
     have c8b1 : ((l0_3.length : Int) != (l1_3.length : Int)) = true := bne_iff_ne.mpr c8
     have c8b2 : (l0_3.length == l1_3.length) = false := by first | simpa using c8 | (simp at c8 ⊢; omega)
     have H' := Aside0.mk H
     clear H
     have hnb13 := NB388_389.out
     have hnc13 := NB389_388.out
     have hcz14_0 : w5.cell? ⟨gb388, 0, none⟩ = some (.int .i64 a0_0) := (blk_cell BK388.out 0).trans rfl
     have hcz14_1 : w5.cell? ⟨gb388, 1, none⟩ = some (.int .i64 a0_1) := (blk_cell BK388.out 1).trans rfl
     have hcz14_2 : w5.cell? ⟨gb388, 2, none⟩ = some (.slice A0_2 l0_2.length c0_2) := (blk_cell BK388.out 2).trans rfl
     have hcz14_3 : w5.cell? ⟨gb388, 3, none⟩ = some (.slice A0_3 l0_3.length c0_3) := (blk_cell BK388.out 3).trans rfl
     have hfz14_0 := blk_frozen BK388.out 0
     have hfz14_1 := blk_frozen BK388.out 1
     have hfz14_2 := blk_frozen BK388.out 2
     have hfz14_3 := blk_frozen BK388.out 3
     have hcz15_0 : w5.cell? ⟨gb389, 0, none⟩ = some (.int .i64 a1_0) := (blk_cell BK389.out 0).trans rfl
     have hcz15_1 : w5.cell? ⟨gb389, 1, none⟩ = some (.int .i64 a1_1) := (blk_cell BK389.out 1).trans rfl
     have hcz15_2 : w5.cell? ⟨gb389, 2, none⟩ = some (.slice A1_2 l1_2.length c1_2) := (blk_cell BK389.out 2).trans rfl
     have hcz15_3 : w5.cell? ⟨gb389, 3, none⟩ = some (.slice A1_3 l1_3.length c1_3) := (blk_cell BK389.out 3).trans rfl
     have hfz15_0 := blk_frozen BK389.out 0
     have hfz15_1 := blk_frozen BK389.out 1
     have hfz15_2 := blk_frozen BK389.out 2
     have hfz15_3 := blk_frozen BK389.out 3
     go_wp2
     repeat (go_quiet (fail); try go_wp2)
     go_meet
     case rel => exact ⟨_, (true), (by first | rfl | (simp; done) | (simp [*]; done)), H', ⟨by first | omega | exact Nat.le_refl _⟩, ⟨by (with_reducible repeat (first | refine kn_ ?_ _ | refine kd_ ?_ | refine ka_ ?_ _)); exact BK388.out⟩, ⟨by (with_reducible repeat (first | refine kn_ ?_ _ | refine kd_ ?_ | refine ka_ ?_ _)); exact BK389.out⟩, ⟨by repeat (with_reducible first | exact HB.out | apply ba_ | apply bn_ | apply bd_ | refine bs_ ?_ GE388.out | refine bs_ ?_ GE389.out)⟩⟩
   ·rw [if_neg c7] at H
    have c7b0 : (a0_1 == a1_1) = false := beq_eq_false_iff_ne.mpr c7
    have c7b1 : (a0_1 != a1_1) = true := bne_iff_ne.mpr c7
    have H' := Aside0.mk H
    clear H
    have hnb16 := NB388_389.out
    have hnc16 := NB389_388.out
    have hcz17_0 : w5.cell? ⟨gb388, 0, none⟩ = some (.int .i64 a0_0) := (blk_cell BK388.out 0).trans rfl
    have hcz17_1 : w5.cell? ⟨gb388, 1, none⟩ = some (.int .i64 a0_1) := (blk_cell BK388.out 1).trans rfl
    have hcz17_2 : w5.cell? ⟨gb388, 2, none⟩ = some (.slice A0_2 l0_2.length c0_2) := (blk_cell BK388.out 2).trans rfl
    have hcz17_3 : w5.cell? ⟨gb388, 3, none⟩ = some (.slice A0_3 l0_3.length c0_3) := (blk_cell BK388.out 3).trans rfl
    have hfz17_0 := blk_frozen BK388.out 0
    have hfz17_1 := blk_frozen BK388.out 1
    have hfz17_2 := blk_frozen BK388.out 2
    have hfz17_3 := blk_frozen BK388.out 3
    have hcz18_0 : w5.cell? ⟨gb389, 0, none⟩ = some (.int .i64 a1_0) := (blk_cell BK389.out 0).trans rfl
    have hcz18_1 : w5.cell? ⟨gb389, 1, none⟩ = some (.int .i64 a1_1) := (blk_cell BK389.out 1).trans rfl
    have hcz18_2 : w5.cell? ⟨gb389, 2, none⟩ = some (.slice A1_2 l1_2.length c1_2) := (blk_cell BK389.out 2).trans rfl
    have hcz18_3 : w5.cell? ⟨gb389, 3, none⟩ = some (.slice A1_3 l1_3.length c1_3) := (blk_cell BK389.out 3).trans rfl
    have hfz18_0 := blk_frozen BK389.out 0
    have hfz18_1 := blk_frozen BK389.out 1
    have hfz18_2 := blk_frozen BK389.out 2
    have hfz18_3 := blk_frozen BK389.out 3
    go_wp2
    repeat (go_quiet (fail); try go_wp2)
    go_meet
    case rel => exact ⟨_, (true), (by first | rfl | (simp; done) | (simp [*]; done)), H', ⟨by first | omega | exact Nat.le_refl _⟩, ⟨by (with_reducible repeat (first | refine kn_ ?_ _ | refine kd_ ?_ | refine ka_ ?_ _)); exact BK388.out⟩, ⟨by (with_reducible repeat (first | refine kn_ ?_ _ | refine kd_ ?_ | refine ka_ ?_ _)); exact BK389.out⟩, ⟨by repeat (with_reducible first | exact HB.out | apply ba_ | apply bn_ | apply bd_ | refine bs_ ?_ GE388.out | refine bs_ ?_ GE389.out)⟩⟩
  ·rw [if_neg c6] at H
   have c6b0 : (a0_0 == a1_0) = false := beq_eq_false_iff_ne.mpr c6
   have c6b1 : (a0_0 != a1_0) = true := bne_iff_ne.mpr c6
   (first | rw [c6b0] | (simp only [i64_w, i32_w]; rw [c6b0]) | skip)
   have H' := Aside0.mk H
   clear H
   have hnb19 := NB388_389.out
   have hnc19 := NB389_388.out
   have hcz20_0 : w5.cell? ⟨gb388, 0, none⟩ = some (.int .i64 a0_0) := (blk_cell BK388.out 0).trans rfl
   have hcz20_1 : w5.cell? ⟨gb388, 1, none⟩ = some (.int .i64 a0_1) := (blk_cell BK388.out 1).trans rfl
   have hcz20_2 : w5.cell? ⟨gb388, 2, none⟩ = some (.slice A0_2 l0_2.length c0_2) := (blk_cell BK388.out 2).trans rfl
   have hcz20_3 : w5.cell? ⟨gb388, 3, none⟩ = some (.slice A0_3 l0_3.length c0_3) := (blk_cell BK388.out 3).trans rfl
   have hfz20_0 := blk_frozen BK388.out 0
   have hfz20_1 := blk_frozen BK388.out 1
   have hfz20_2 := blk_frozen BK388.out 2
   have hfz20_3 := blk_frozen BK388.out 3
   have hcz21_0 : w5.cell? ⟨gb389, 0, none⟩ = some (.int .i64 a1_0) := (blk_cell BK389.out 0).trans rfl
   have hcz21_1 : w5.cell? ⟨gb389, 1, none⟩ = some (.int .i64 a1_1) := (blk_cell BK389.out 1).trans rfl
   have hcz21_2 : w5.cell? ⟨gb389, 2, none⟩ = some (.slice A1_2 l1_2.length c1_2) := (blk_cell BK389.out 2).trans rfl
   have hcz21_3 : w5.cell? ⟨gb389, 3, none⟩ = some (.slice A1_3 l1_3.length c1_3) := (blk_cell BK389.out 3).trans rfl
   have hfz21_0 := blk_frozen BK389.out 0
   have hfz21_1 := blk_frozen BK389.out 1
   have hfz21_2 := blk_frozen BK389.out 2
   have hfz21_3 := blk_frozen BK389.out 3
   go_wp2
   repeat (go_quiet (fail); try go_wp2)
   go_meet
   case rel => exact ⟨_, (true), (by first | rfl | (simp; done) | (simp [*]; done)), H', ⟨by first | omega | exact Nat.le_refl _⟩, ⟨by (with_reducible repeat (first | refine kn_ ?_ _ | refine kd_ ?_ | refine ka_ ?_ _)); exact BK388.out⟩, ⟨by (with_reducible repeat (first | refine kn_ ?_ _ | refine kd_ ?_ | refine ka_ ?_ _)); exact BK389.out⟩, ⟨by repeat (with_reducible first | exact HB.out | apply ba_ | apply bn_ | apply bd_ | refine bs_ ?_ GE388.out | refine bs_ ?_ GE389.out)⟩⟩
 case rest =>
  clear HC3
  try clear c1
  try clear c2
  try clear p2
  try clear c6
  try clear c6b0
  try clear c6b1
  try clear c7
  try clear c7b0
  try clear c7b1
  try clear c8
  try clear c8b0
  try clear c8b1
  try clear c8b2
  try clear c10
  try clear c13
  try clear c16
  try clear c19
  try clear hcz11_0
  try clear hcz11_1
  try clear hcz11_2
  try clear hcz11_3
  try clear hcz12_0
  try clear hcz12_1
  try clear hcz12_2
  try clear hcz12_3
  try clear hcz14_0
  try clear hcz14_1
  try clear hcz14_2
  try clear hcz14_3
  try clear hcz15_0
  try clear hcz15_1
  try clear hcz15_2
  try clear hcz15_3
  try clear hcz17_0
  try clear hcz17_1
  try clear hcz17_2
  try clear hcz17_3
  try clear hcz18_0
  try clear hcz18_1
  try clear hcz18_2
  try clear hcz18_3
  try clear hcz20_0
  try clear hcz20_1
  try clear hcz20_2
  try clear hcz20_3
  try clear hcz21_0
  try clear hcz21_1
  try clear hcz21_2
  try clear hcz21_3
  try clear hfz11_0
  try clear hfz11_1
  try clear hfz11_2
  try clear hfz11_3
  try clear hfz12_0
  try clear hfz12_1
  try clear hfz12_2
  try clear hfz12_3
  try clear hfz14_0
  try clear hfz14_1
  try clear hfz14_2
  try clear hfz14_3
  try clear hfz15_0
  try clear hfz15_1
  try clear hfz15_2
  try clear hfz15_3
  try clear hfz17_0
  try clear hfz17_1
  try clear hfz17_2
  try clear hfz17_3
  try clear hfz18_0
  try clear hfz18_1
  try clear hfz18_2
  try clear hfz18_3
  try clear hfz20_0
  try clear hfz20_1
  try clear hfz20_2
  try clear hfz20_3
  try clear hfz21_0
  try clear hfz21_1
  try clear hfz21_2
  try clear hfz21_3
  obtain ⟨kq, x34_2, rfl, HA, HJ2, BK388, BK389, HB⟩ := hcut
  cases kq with
  | zero => exact absurd HA.out (by simp [diwanref1_SameTxn.j0])
  | succ kj2 =>
   have H := HA.out
   clear HA
   simp only [diwanref1_SameTxn.j0] at H
   by_cases c22 : x34_2 = true
   ·subst c22
    have H1 : (some false) = some r := by rw [if_pos rfl] at H; exact H
    clear H
    have H := H1
    clear H1
    obtain rfl := Option.some.inj H
    go_wp2
    repeat (go_quiet (fail); try go_wp2)
    go_ret
    exact ⟨by first | rfl | (simp [errW_none, errW_some] <;> rfl) | (simp [*, errW_none, errW_some] <;> rfl), by repeat (with_reducible first | exact HB.out | apply ba_ | apply bn_ | apply bd_ | refine bs_ ?_ GE388.out | refine bs_ ?_ GE389.out)⟩
   ·replace c22 := Bool.eq_false_iff.mpr c22
    subst c22
    have H1 : (diwanref1_SameTxn.l0 kj2 0 a0_0 a0_1 l0_2 l0_3 a1_0 a1_1 l1_2 l1_3) = some r := by rw [if_neg (show ¬ (false = true) by decide)] at H; exact H
    clear H
    have H := H1
    clear H1
    have H' := Aside0.mk H
    clear H
    go_wp2
    repeat (go_quiet (fail); try go_wp2)
    go_loopg [5] kj2 (fun kq v5 w' => ∃ (x5_2 : Int), v5 = .int .i64 x5_2 ∧ Aside0 (diwanref1_SameTxn.l0 kq x5_2 a0_0 a0_1 l0_2 l0_3 a1_0 a1_1 l1_2 l1_3 = some r) ∧ Aside0 (kq ≤ kj2) ∧ Aside0 (w'.heap[gb388]? = some (.cells #[.int .i64 a0_0, .int .i64 a0_1, (.slice A0_2 l0_2.length c0_2), (.slice A0_3 l0_3.length c0_3)] 30 (0, 0))) ∧ Aside0 (w'.heap[gb389]? = some (.cells #[.int .i64 a1_0, .int .i64 a1_1, (.slice A1_2 l1_2.length c1_2), (.slice A1_3 l1_3.length c1_3)] 30 (0, 0))) ∧ Aside0 (Below w.heap.size w w'))
    case atStart => exact ⟨(0), (by first | rfl | (simp; done) | (simp [*]; done)), H', ⟨Nat.le_refl _⟩, ⟨by (with_reducible repeat (first | refine kn_ ?_ _ | refine kd_ ?_ | refine ka_ ?_ _)); exact BK388.out⟩, ⟨by (with_reducible repeat (first | refine kn_ ?_ _ | refine kd_ ?_ | refine ka_ ?_ _)); exact BK389.out⟩, ⟨by repeat (with_reducible first | exact HB.out | apply ba_ | apply bn_ | apply bd_ | refine bs_ ?_ GE388.out | refine bs_ ?_ GE389.out)⟩⟩
    case round =>
     clear H'
     try clear c1
     try clear c2
     try clear p2
     try clear c6
     try clear c6b0
     try clear c6b1
     try clear c7
     try clear c7b0
     try clear c7b1
     try clear c8
     try clear c8b0
     try clear c8b1
     try clear c8b2
     try clear c10
     try clear c13
     try clear c16
     try clear c19
     try clear c22
     try clear hcz11_0
     try clear hcz11_1
     try clear hcz11_2
     try clear hcz11_3
     try clear hcz12_0
     try clear hcz12_1
     try clear hcz12_2
     try clear hcz12_3
     try clear hcz14_0
     try clear hcz14_1
     try clear hcz14_2
     try clear hcz14_3
     try clear hcz15_0
     try clear hcz15_1
     try clear hcz15_2
     try clear hcz15_3
     try clear hcz17_0
     try clear hcz17_1
     try clear hcz17_2
     try clear hcz17_3
     try clear hcz18_0
     try clear hcz18_1
     try clear hcz18_2
     try clear hcz18_3
     try clear hcz20_0
     try clear hcz20_1
     try clear hcz20_2
     try clear hcz20_3
     try clear hcz21_0
     try clear hcz21_1
     try clear hcz21_2
     try clear hcz21_3
     try clear hfz11_0
     try clear hfz11_1
     try clear hfz11_2
     try clear hfz11_3
     try clear hfz12_0
     try clear hfz12_1
     try clear hfz12_2
     try clear hfz12_3
     try clear hfz14_0
     try clear hfz14_1
     try clear hfz14_2
     try clear hfz14_3
     try clear hfz15_0
     try clear hfz15_1
     try clear hfz15_2
     try clear hfz15_3
     try clear hfz17_0
     try clear hfz17_1
     try clear hfz17_2
     try clear hfz17_3
     try clear hfz18_0
     try clear hfz18_1
     try clear hfz18_2
     try clear hfz18_3
     try clear hfz20_0
     try clear hfz20_1
     try clear hfz20_2
     try clear hfz20_3
     try clear hfz21_0
     try clear hfz21_1
     try clear hfz21_2
     try clear hfz21_3
     try clear p2
     obtain ⟨x5_2, rfl, HA, HK2, BK388, BK389, HB⟩ := hrel
     cases gk with
     | zero => exact absurd HA.out (by simp [diwanref1_SameTxn.l0])
     | succ k2 =>
      have H := HA.out
      clear HA
      simp only [diwanref1_SameTxn.l0] at H
      by_cases c23 : x5_2 < (l0_3.length : Int)
      ·rw [if_pos c23] at H
       have c23b0 : decide (x5_2 < (l0_3.length : Int)) = true := decide_eq_true c23
       clear c23
       by_cases c24 : 0 ≤ x5_2
       ·rw [if_pos c24] at H
        have c24b0 : decide (0 ≤ x5_2) = true := decide_eq_true c24
        clear c24
        by_cases c25 : x5_2 < (l1_3.length : Int)
        ·rw [if_pos c25] at H
         have c25b0 : decide (x5_2 < (l1_3.length : Int)) = true := decide_eq_true c25
         clear c25
         by_cases c26 : (!((((rd_T27 l0_3 x5_2).f0).toList) == (((rd_T27 l1_3 x5_2).f0).toList)) || (!((((rd_T27 l0_3 x5_2).f1).toList) == (((rd_T27 l1_3 x5_2).f1).toList)) || (!(((rd_T27 l0_3 x5_2).f2) == ((rd_T27 l1_3 x5_2).f2))))) = true
         ·rw [if_pos c26] at H
          have c26b0 : (!((((rd_T27 l0_3 x5_2).f0).toList) == (((rd_T27 l1_3 x5_2).f0).toList)) || (!((((rd_T27 l0_3 x5_2).f1).toList) == (((rd_T27 l1_3 x5_2).f1).toList)) || (!(((rd_T27 l0_3 x5_2).f2) == ((rd_T27 l1_3 x5_2).f2))))) = true := c26
          clear c26
          obtain rfl := Option.some.inj H
          have hnb27 := NB388_389.out
          have hnc27 := NB389_388.out
          have hcz28_0 : wr.cell? ⟨gb388, 0, none⟩ = some (.int .i64 a0_0) := (blk_cell BK388.out 0).trans rfl
          have hcz28_1 : wr.cell? ⟨gb388, 1, none⟩ = some (.int .i64 a0_1) := (blk_cell BK388.out 1).trans rfl
          have hcz28_2 : wr.cell? ⟨gb388, 2, none⟩ = some (.slice A0_2 l0_2.length c0_2) := (blk_cell BK388.out 2).trans rfl
          have hcz28_3 : wr.cell? ⟨gb388, 3, none⟩ = some (.slice A0_3 l0_3.length c0_3) := (blk_cell BK388.out 3).trans rfl
          have hfz28_0 := blk_frozen BK388.out 0
          have hfz28_1 := blk_frozen BK388.out 1
          have hfz28_2 := blk_frozen BK388.out 2
          have hfz28_3 := blk_frozen BK388.out 3
          have p391 : 0 ≤ (x5_2 : Int) := of_decide_eq_true (by first | (with_reducible assumption) | assumption)
          have q391 : x5_2 < (l0_3.length : Int) := of_decide_eq_true (by first | (with_reducible assumption) | assumption)
          obtain ⟨ad391, e391, hx391_0, hx391_1, hx391_2⟩ := at_T27 HR0_3.out x5_2 p391 q391
          cases e391
          replace hx391_0 := (HB.out.cell (World.block_lt_of_cell? w _ hx391_0)).trans hx391_0
          replace hx391_1 := (HB.out.cell (World.block_lt_of_cell? w _ hx391_1)).trans hx391_1
          replace hx391_2 := (HB.out.cell (World.block_lt_of_cell? w _ hx391_2)).trans hx391_2
          replace p391 := eq_true p391
          replace q391 := eq_true q391
          have hcz29_0 : wr.cell? ⟨gb389, 0, none⟩ = some (.int .i64 a1_0) := (blk_cell BK389.out 0).trans rfl
          have hcz29_1 : wr.cell? ⟨gb389, 1, none⟩ = some (.int .i64 a1_1) := (blk_cell BK389.out 1).trans rfl
          have hcz29_2 : wr.cell? ⟨gb389, 2, none⟩ = some (.slice A1_2 l1_2.length c1_2) := (blk_cell BK389.out 2).trans rfl
          have hcz29_3 : wr.cell? ⟨gb389, 3, none⟩ = some (.slice A1_3 l1_3.length c1_3) := (blk_cell BK389.out 3).trans rfl
          have hfz29_0 := blk_frozen BK389.out 0
          have hfz29_1 := blk_frozen BK389.out 1
          have hfz29_2 := blk_frozen BK389.out 2
          have hfz29_3 := blk_frozen BK389.out 3
          have p392 : 0 ≤ (x5_2 : Int) := of_decide_eq_true (by first | (with_reducible assumption) | assumption)
          have q392 : x5_2 < (l1_3.length : Int) := of_decide_eq_true (by first | (with_reducible assumption) | assumption)
          obtain ⟨ad392, e392, hx392_0, hx392_1, hx392_2⟩ := at_T27 HR1_3.out x5_2 p392 q392
          cases e392
          replace hx392_0 := (HB.out.cell (World.block_lt_of_cell? w _ hx392_0)).trans hx392_0
          replace hx392_1 := (HB.out.cell (World.block_lt_of_cell? w _ hx392_1)).trans hx392_1
          replace hx392_2 := (HB.out.cell (World.block_lt_of_cell? w _ hx392_2)).trans hx392_2
          replace p392 := eq_true p392
          replace q392 := eq_true q392
          go_wp2
          repeat (go_quiet (fail); try go_wp2)
          go_ret
          exact ⟨by first | rfl | (simp [errW_none, errW_some] <;> rfl) | (simp [*, errW_none, errW_some] <;> rfl), by repeat (with_reducible first | exact HB.out | apply ba_ | apply bn_ | apply bd_ | refine bs_ ?_ GE388.out | refine bs_ ?_ GE389.out)⟩
         ·rw [if_neg c26] at H
          have c26b0 : (!((((rd_T27 l0_3 x5_2).f0).toList) == (((rd_T27 l1_3 x5_2).f0).toList)) || (!((((rd_T27 l0_3 x5_2).f1).toList) == (((rd_T27 l1_3 x5_2).f1).toList)) || (!(((rd_T27 l0_3 x5_2).f2) == ((rd_T27 l1_3 x5_2).f2))))) = false := by simpa using c26
          clear c26
          have H' := Aside0.mk H
          clear H
          have hnb30 := NB388_389.out
          have hnc30 := NB389_388.out
          have hcz31_0 : wr.cell? ⟨gb388, 0, none⟩ = some (.int .i64 a0_0) := (blk_cell BK388.out 0).trans rfl
          have hcz31_1 : wr.cell? ⟨gb388, 1, none⟩ = some (.int .i64 a0_1) := (blk_cell BK388.out 1).trans rfl
          have hcz31_2 : wr.cell? ⟨gb388, 2, none⟩ = some (.slice A0_2 l0_2.length c0_2) := (blk_cell BK388.out 2).trans rfl
          have hcz31_3 : wr.cell? ⟨gb388, 3, none⟩ = some (.slice A0_3 l0_3.length c0_3) := (blk_cell BK388.out 3).trans rfl
          have hfz31_0 := blk_frozen BK388.out 0
          have hfz31_1 := blk_frozen BK388.out 1
          have hfz31_2 := blk_frozen BK388.out 2
          have hfz31_3 := blk_frozen BK388.out 3
          have p391 : 0 ≤ (x5_2 : Int) := of_decide_eq_true (by first | (with_reducible assumption) | assumption)
          have q391 : x5_2 < (l0_3.length : Int) := of_decide_eq_true (by first | (with_reducible assumption) | assumption)
          obtain ⟨ad391, e391, hx391_0, hx391_1, hx391_2⟩ := at_T27 HR0_3.out x5_2 p391 q391
          cases e391
          replace hx391_0 := (HB.out.cell (World.block_lt_of_cell? w _ hx391_0)).trans hx391_0
          replace hx391_1 := (HB.out.cell (World.block_lt_of_cell? w _ hx391_1)).trans hx391_1
          replace hx391_2 := (HB.out.cell (World.block_lt_of_cell? w _ hx391_2)).trans hx391_2
          replace p391 := eq_true p391
          replace q391 := eq_true q391
          have hcz32_0 : wr.cell? ⟨gb389, 0, none⟩ = some (.int .i64 a1_0) := (blk_cell BK389.out 0).trans rfl
          have hcz32_1 : wr.cell? ⟨gb389, 1, none⟩ = some (.int .i64 a1_1) := (blk_cell BK389.out 1).trans rfl
          have hcz32_2 : wr.cell? ⟨gb389, 2, none⟩ = some (.slice A1_2 l1_2.length c1_2) := (blk_cell BK389.out 2).trans rfl
          have hcz32_3 : wr.cell? ⟨gb389, 3, none⟩ = some (.slice A1_3 l1_3.length c1_3) := (blk_cell BK389.out 3).trans rfl
          have hfz32_0 := blk_frozen BK389.out 0
          have hfz32_1 := blk_frozen BK389.out 1
          have hfz32_2 := blk_frozen BK389.out 2
          have hfz32_3 := blk_frozen BK389.out 3
          have p392 : 0 ≤ (x5_2 : Int) := of_decide_eq_true (by first | (with_reducible assumption) | assumption)
          have q392 : x5_2 < (l1_3.length : Int) := of_decide_eq_true (by first | (with_reducible assumption) | assumption)
          obtain ⟨ad392, e392, hx392_0, hx392_1, hx392_2⟩ := at_T27 HR1_3.out x5_2 p392 q392
          cases e392
          replace hx392_0 := (HB.out.cell (World.block_lt_of_cell? w _ hx392_0)).trans hx392_0
          replace hx392_1 := (HB.out.cell (World.block_lt_of_cell? w _ hx392_1)).trans hx392_1
          replace hx392_2 := (HB.out.cell (World.block_lt_of_cell? w _ hx392_2)).trans hx392_2
          replace p392 := eq_true p392
          replace q392 := eq_true q392
          go_wp2
          repeat (go_quiet (fail); try go_wp2)
          go_roundg k2
          case measure => have := HJ2.out; have := HK2.out; omega
          case rel => exact ⟨(wrap64 (x5_2 + 1)), (by first | rfl | (simp; done) | (simp [*]; done)), H', ⟨by have := HJ2.out; have := HK2.out; omega⟩, ⟨by (with_reducible repeat (first | refine kn_ ?_ _ | refine kd_ ?_ | refine ka_ ?_ _)); exact BK388.out⟩, ⟨by (with_reducible repeat (first | refine kn_ ?_ _ | refine kd_ ?_ | refine ka_ ?_ _)); exact BK389.out⟩, ⟨by repeat (with_reducible first | exact HB.out | apply ba_ | apply bn_ | apply bd_ | refine bs_ ?_ GE388.out | refine bs_ ?_ GE389.out)⟩⟩
        ·rw [if_neg c25] at H
         exact absurd H (by simp)
       ·rw [if_neg c24] at H
        exact absurd H (by simp)
      ·rw [if_neg c23] at H
       have c23b0 : decide (x5_2 < (l0_3.length : Int)) = false := decide_eq_false c23
       clear c23
       obtain rfl := Option.some.inj H
       have hnb33 := NB388_389.out
       have hnc33 := NB389_388.out
       have hcz34_0 : wr.cell? ⟨gb388, 0, none⟩ = some (.int .i64 a0_0) := (blk_cell BK388.out 0).trans rfl
       have hcz34_1 : wr.cell? ⟨gb388, 1, none⟩ = some (.int .i64 a0_1) := (blk_cell BK388.out 1).trans rfl
       have hcz34_2 : wr.cell? ⟨gb388, 2, none⟩ = some (.slice A0_2 l0_2.length c0_2) := (blk_cell BK388.out 2).trans rfl
       have hcz34_3 : wr.cell? ⟨gb388, 3, none⟩ = some (.slice A0_3 l0_3.length c0_3) := (blk_cell BK388.out 3).trans rfl
       have hfz34_0 := blk_frozen BK388.out 0
       have hfz34_1 := blk_frozen BK388.out 1
       have hfz34_2 := blk_frozen BK388.out 2
       have hfz34_3 := blk_frozen BK388.out 3
       go_wp2
       repeat (go_quiet (fail); try go_wp2)
       go_ret
       exact ⟨by first | rfl | (simp [errW_none, errW_some] <;> rfl) | (simp [*, errW_none, errW_some] <;> rfl), by repeat (with_reducible first | exact HB.out | apply ba_ | apply bn_ | apply bd_ | refine bs_ ?_ GE388.out | refine bs_ ?_ GE389.out)⟩
end Go.Proofs.Ytnlfhbohcgjcbaa.PA
namespace Go.Proofs.Ytnlfhbohcgjcbaa.PA
open Go.RowKit Go.Proofs.YtnlfhbohcgjcbaaW.PrintWords Go.Proofs.YtnlfhbohcgjcbaaW.PrintLast Go.Proofs.YtnlfhbohcgjcbaaW.PrintMore
attribute [local go_sem] max2_int min2_int max_two min_two max_three min_three max_four min_four
set_option linter.unusedVariables false
set_option linter.unusedSimpArgs false
def diwanplay_Picks_Num.f (s0_0 : List Int) (s0_1 : Int) (a1 : Int) : Option (Int × Int) := if s0_1 ≥ (s0_0.length : Int) then (some (0, s0_1)) else (if 0 ≤ (wrap64 ((wrap64 (s0_1 + 1)) - 1)) then (if (wrap64 ((wrap64 (s0_1 + 1)) - 1)) < (s0_0.length : Int) then (if a1 = 0 then (none) else (some (Int.tmod (wrap64 (rd s0_0 (wrap64 ((wrap64 (s0_1 + 1)) - 1)))) a1, wrap64 (s0_1 + 1)))) else (none)) else (none))
set_option maxHeartbeats 8000000 in
set_option maxRecDepth 100000 in
theorem diwanplay_Picks_Num.calls (g : Nat) (s0_0 : List Int) (s0_1 : Int) (a1 : Int) (r1 : Int) (r2 : Int) (w0 w : World) (hI : IsS128 w0 w g s0_0 s0_1) (hB : Below w0.heap.size w0 w) (h : diwanplay_Picks_Num.f s0_0 s0_1 a1 = some (r1, r2)) :
  Calls Try.prog 78 #[.pointer (some ⟨g, 0, none⟩), .int .i64 a1] w fun e w' => e = .returned (.int .i64 r1) ∧ IsS128 w0 w' g s0_0 r2 ∧ Below w0.heap.size w0 w' ∧ KeepBut w w' g none := by
 have HI0 := Aside0.mk hI
 have HK := Aside0.mk (KeepBut.refl w g none)
 have HL := Aside0.mk hB.size
 clear hI
 have HW0 := Aside0.mk hB.size
 have HB := Aside0.mk hB
 clear hB
 have H : (if s0_1 ≥ (s0_0.length : Int) then (some (0, s0_1)) else (if 0 ≤ (wrap64 ((wrap64 (s0_1 + 1)) - 1)) then (if (wrap64 ((wrap64 (s0_1 + 1)) - 1)) < (s0_0.length : Int) then (if a1 = 0 then (none) else (some (Int.tmod (wrap64 (rd s0_0 (wrap64 ((wrap64 (s0_1 + 1)) - 1)))) a1, wrap64 (s0_1 + 1)))) else (none)) else (none))) = some (r1, r2) := h
 clear h
 by_cases c3 : s0_1 ≥ (s0_0.length : Int)
 ·rw [if_pos c3] at H
  have c3b0 : decide ((s0_0.length : Int) ≤ s0_1) = true := decide_eq_true c3
  clear c3
  simp only [Option.some.injEq, Prod.mk.injEq] at H
  obtain ⟨rfl, rfl⟩ := H
  obtain ⟨ASz4_0, cSz4_0, HGz4, hgz4, HSz4_0⟩ := HI0.out
  have hcz4_0 := cellS128_0 HGz4
  have hcz4_1 := cellS128_1 HGz4
  have hfz4_1 := blk_frozen HGz4 1
  clear HGz4 hgz4
  go_enter Try.func78, Try.ntmps78
  go_wp2
  repeat (go_quiet (fail); try go_wp2)
  go_ret
  exact ⟨by first | rfl | (simp [errW_none, errW_some] <;> rfl) | (simp [*, errW_none, errW_some] <;> rfl), by repeat (with_reducible first | exact HI0.out | apply IsS128.alloc | apply IsS128.drewN | apply IsS128.drew | apply IsS128.set_1), by repeat (with_reducible first | exact HB.out | apply ba_ | apply bn_ | apply bd_ | refine bs_ ?_ (IsS128.ge HI0.out)), by repeat (with_reducible first | exact HK.out | apply KeepBut.set_ | apply keep_drewN | apply keep_drew | apply keep_alloc)⟩
 ·rw [if_neg c3] at H
  have c3b0 : decide ((s0_0.length : Int) ≤ s0_1) = false := decide_eq_false c3
  clear c3
  obtain ⟨ji5, hji5⟩ : ∃ j_ : Int, (wrap64 ((wrap64 (s0_1 + 1)) - 1)) = j_ := ⟨_, rfl⟩
  replace H : (if 0 ≤ (ji5) then (if (ji5) < (s0_0.length : Int) then (if a1 = 0 then (none) else (some (Int.tmod (wrap64 (rd s0_0 (ji5))) a1, wrap64 (s0_1 + 1)))) else (none)) else (none)) = some (r1, r2) := by first | (rw [hji5] at H; exact H) | (simp only [hji5] at H ⊢; exact H)
  have hji5w : (IntKind.i64.wrap ((wrap64 (s0_1 + 1)) - 1)) = ji5 := (i64_w _).trans hji5
  by_cases c6 : 0 ≤ (ji5)
  ·rw [if_pos c6] at H
   have c6b0 : decide (0 ≤ (ji5)) = true := decide_eq_true c6
   clear c6
   by_cases c7 : (ji5) < (s0_0.length : Int)
   ·rw [if_pos c7] at H
    have c7b0 : decide ((ji5) < (s0_0.length : Int)) = true := decide_eq_true c7
    clear c7
    by_cases c8 : a1 = 0
    ·rw [if_pos c8] at H
     exact absurd H (by simp)
    ·rw [if_neg c8] at H
     have c8b0 : (a1 == 0) = false := beq_eq_false_iff_ne.mpr c8
     have c8b1 : (a1 != 0) = true := bne_iff_ne.mpr c8
     simp only [Option.some.injEq, Prod.mk.injEq] at H
     obtain ⟨rfl, rfl⟩ := H
     obtain ⟨ASz9_0, cSz9_0, HGz9, hgz9, HSz9_0⟩ := HI0.out
     have hcz9_0 := cellS128_0 HGz9
     have hcz9_1 := cellS128_1 HGz9
     have hfz9_1 := blk_frozen HGz9 1
     clear HGz9 hgz9
     have p735 : 0 ≤ ((ji5) : Int) := of_decide_eq_true (by first | (with_reducible assumption) | assumption)
     have q735 : (ji5) < (s0_0.length : Int) := of_decide_eq_true (by first | (with_reducible assumption) | assumption)
     obtain ⟨ad735, e735, hx735_0⟩ := Kd.at_int HSz9_0 (ji5) p735 q735
     cases e735
     have hn735_0 : ad735.block ≠ g := Nat.ne_of_lt (Nat.lt_of_lt_of_le (by have := World.block_lt_of_cell? _ _ hx735_0; first | rwa [add_block] at this | exact this) (IsS128.ge HI0.out))
     replace hx735_0 := pw_cell_below HB.out hx735_0
     replace hx735_0 := (cell_far (p := ⟨g, 1, none⟩) (by first | (rw [add_block]; exact hn735_0) | (show (Addr.add _ _).block ≠ _; rw [add_block]; exact hn735_0) | exact hn735_0) (.int .i64 (wrap64 (s0_1 + 1)))).trans hx735_0
     (try have hy735_0 := fun (n_ : Nat) => (show (((w.drewN n_).setCell ⟨g, 1, none⟩ (.int .i64 (wrap64 (s0_1 + 1))))).cell? _ = some _ from hx735_0))
     clear hn735_0
     replace p735 := eq_true p735
     replace q735 := eq_true q735
     go_enter Try.func78, Try.ntmps78
     go_wp2
     repeat (go_quiet (fail); try go_wp2)
     go_ret
     exact ⟨by first | rfl | (simp [errW_none, errW_some] <;> rfl) | (simp only [← hji5]; first | rfl | (simp [errW_none, errW_some] <;> rfl)) | (simp [*, errW_none, errW_some] <;> rfl), by repeat (with_reducible first | exact HI0.out | apply IsS128.alloc | apply IsS128.drewN | apply IsS128.drew | apply IsS128.set_1), by repeat (with_reducible first | exact HB.out | apply ba_ | apply bn_ | apply bd_ | refine bs_ ?_ (IsS128.ge HI0.out)), by repeat (with_reducible first | exact HK.out | apply KeepBut.set_ | apply keep_drewN | apply keep_drew | apply keep_alloc)⟩
   ·rw [if_neg c7] at H
    exact absurd H (by simp)
  ·rw [if_neg c6] at H
   exact absurd H (by simp)
def diwanplay_Picks_Val.f (s0_0 : List Int) (s0_1 : Int) : Option (ByteArray × Int) := (some (([(⟨#[]⟩ : ByteArray), (⟨#[118]⟩ : ByteArray), (⟨#[119]⟩ : ByteArray), (⟨#[120, 120]⟩ : ByteArray), (⟨#[115, 105, 120, 116, 101, 101, 110, 45, 98, 121, 116, 101, 115, 45, 111, 107]⟩ : ByteArray)] : List ByteArray) : List ByteArray)).bind fun y748 => ((diwanplay_Picks_Num.f s0_0 s0_1 5).bind fun bt751 => (if 0 ≤ bt751.1 then (if bt751.1 < (y748.length : Int) then (some (rdOf ByteArray.empty y748 bt751.1, bt751.2)) else (none)) else (none)))
set_option maxHeartbeats 8000000 in
set_option maxRecDepth 100000 in
theorem diwanplay_Picks_Val.calls (g : Nat) (s0_0 : List Int) (s0_1 : Int) (r1 : ByteArray) (r2 : Int) (w0 w : World) (hI : IsS128 w0 w g s0_0 s0_1) (hB : Below w0.heap.size w0 w) (h : diwanplay_Picks_Val.f s0_0 s0_1 = some (r1, r2)) :
  Calls Try.prog 80 #[.pointer (some ⟨g, 0, none⟩)] w fun e w' => e = .returned (.string r1) ∧ IsS128 w0 w' g s0_0 r2 ∧ Below w0.heap.size w0 w' ∧ KeepBut w w' g none := by
 have HI0 := Aside0.mk hI
 have HK := Aside0.mk (KeepBut.refl w g none)
 have HL := Aside0.mk hB.size
 clear hI
 have HW0 := Aside0.mk hB.size
 have HB := Aside0.mk hB
 clear hB
 have H : ((some (([(⟨#[]⟩ : ByteArray), (⟨#[118]⟩ : ByteArray), (⟨#[119]⟩ : ByteArray), (⟨#[120, 120]⟩ : ByteArray), (⟨#[115, 105, 120, 116, 101, 101, 110, 45, 98, 121, 116, 101, 115, 45, 111, 107]⟩ : ByteArray)] : List ByteArray) : List ByteArray)).bind fun y748 => ((diwanplay_Picks_Num.f s0_0 s0_1 5).bind fun bt751 => (if 0 ≤ bt751.1 then (if bt751.1 < (y748.length : Int) then (some (rdOf ByteArray.empty y748 bt751.1, bt751.2)) else (none)) else (none)))) = some (r1, r2) := h
 clear h
 obtain ⟨y748, hy748⟩ : ∃ y_ : List ByteArray, y_ = (([(⟨#[]⟩ : ByteArray), (⟨#[118]⟩ : ByteArray), (⟨#[119]⟩ : ByteArray), (⟨#[120, 120]⟩ : ByteArray), (⟨#[115, 105, 120, 116, 101, 101, 110, 45, 98, 121, 116, 101, 115, 45, 111, 107]⟩ : ByteArray)] : List ByteArray)) := ⟨_, rfl⟩
 replace H : ((diwanplay_Picks_Num.f s0_0 s0_1 5).bind fun bt751 => (if 0 ≤ bt751.1 then (if bt751.1 < (y748.length : Int) then (some (rdOf ByteArray.empty y748 bt751.1, bt751.2)) else (none)) else (none))) = some (r1, r2) := by first | (rw [hy748]; with_reducible exact H) | (have H2_ := (Option.bind_some _ _).symm.trans H; rw [hy748]; with_reducible exact H2_) | (have H2_ := (Option.bind_some _ _).symm.trans H; with_reducible exact H2_) | with_reducible exact H | (rw [hy748]; exact H) | exact H
 have Ny748 := Aside0.mk hy748
 clear hy748
 replace H := Option.bind_eq_some_iff.mp H
 obtain ⟨⟨t751, t752⟩, A20, H⟩ := H
 (try dsimp only at H)
 have A2 := Aside0.mk A20
 clear A20
 by_cases c3 : 0 ≤ t751
 ·rw [if_pos c3] at H
  have c3b0 : decide (0 ≤ t751) = true := decide_eq_true c3
  clear c3
  by_cases c4 : t751 < (y748.length : Int)
  ·rw [if_pos c4] at H
   have c4b0 : decide (t751 < (y748.length : Int)) = true := decide_eq_true c4
   clear c4
   simp only [Option.some.injEq, Prod.mk.injEq] at H
   obtain ⟨rfl, rfl⟩ := H
   go_enter Try.func80, Try.ntmps80
   go_wp2_with (first | ((with_reducible refine gate_dst (N := 3) rfl ?_); refine Kd.R_lit Kd.string _ 9 ?hg (N := 3) ?hd (xs := ([(⟨#[]⟩ : ByteArray), (⟨#[118]⟩ : ByteArray), (⟨#[119]⟩ : ByteArray), (⟨#[120, 120]⟩ : ByteArray), (⟨#[115, 105, 120, 116, 101, 101, 110, 45, 98, 121, 116, 101, 115, 45, 111, 107]⟩ : ByteArray)] : List ByteArray)) (inner := [.string (⟨#[]⟩ : ByteArray), .string (⟨#[118]⟩ : ByteArray), .string (⟨#[119]⟩ : ByteArray), .string (⟨#[120, 120]⟩ : ByteArray), .string (⟨#[115, 105, 120, 116, 101, 101, 110, 45, 98, 121, 116, 101, 115, 45, 111, 107]⟩ : ByteArray)]) (ok := fun _ => True) (okp := fun _ => True) ?hr ?hp (fun _ hk => hk) trivial (Below.refl _ _) (Nat.le_refl _) (by simp) ?_; (case hd => rfl); (case hg => rfl); (case hr => first | (go_simp; done) | (go_simp; rfl)); (case hp => exact (Reps.one (show Kd.M Kd.string _ _ _ (⟨#[]⟩ : ByteArray) [.string (⟨#[]⟩ : ByteArray)] from rfl) (Reps.one (show Kd.M Kd.string _ _ _ (⟨#[118]⟩ : ByteArray) [.string (⟨#[118]⟩ : ByteArray)] from rfl) (Reps.one (show Kd.M Kd.string _ _ _ (⟨#[119]⟩ : ByteArray) [.string (⟨#[119]⟩ : ByteArray)] from rfl) (Reps.one (show Kd.M Kd.string _ _ _ (⟨#[120, 120]⟩ : ByteArray) [.string (⟨#[120, 120]⟩ : ByteArray)] from rfl) (Reps.one (show Kd.M Kd.string _ _ _ (⟨#[115, 105, 120, 116, 101, 101, 110, 45, 98, 121, 116, 101, 115, 45, 111, 107]⟩ : ByteArray) [.string (⟨#[115, 105, 120, 116, 101, 101, 110, 45, 98, 121, 116, 101, 115, 45, 111, 107]⟩ : ByteArray)] from rfl) (Reps.none _ _))))))); intro v749 w5 ho6 hb hg_ hnew_; clear hg_ hnew_; (first | rw [← Ny748.out] at ho6 | (simp only [Int.reduceToNat] at ho6; rw [← Ny748.out] at ho6)); have n0_ := Aside0.mk (Kd.R_lower ho6 (keep_size (w := w) (g := g) (row := none) (by repeat (with_reducible first | exact HK.out | apply KeepBut.set_ | apply keep_drewN | apply keep_drew | apply keep_alloc)))); have n1_ := Aside0.mk (IsS128.below (by repeat (with_reducible first | exact HI0.out | apply IsS128.alloc | apply IsS128.drewN | apply IsS128.drew | apply IsS128.set_1)) hb); have n2_ := Aside0.mk (KeepBut.trans (by repeat (with_reducible first | exact HK.out | apply KeepBut.set_ | apply keep_drewN | apply keep_drew | apply keep_alloc)) (KeepBut.of_below hb g none) (.inl rfl)); have n3_ := Aside0.mk (below_step (by repeat (with_reducible first | exact HB.out | apply ba_ | apply bn_ | apply bd_ | refine bs_ ?_ (IsS128.ge HI0.out))) hb); clear HI0; clear HK; clear HB; have HO750 := n0_; have HI0 := n1_; have HK := n2_; have HB := n3_; clear n0_ n1_ n2_ n3_; clear hb ho6) | ((with_reducible refine gate_callee (f := 78) rfl ?_); refine goesM_ (some 5) Try.func78 #[.pointer (some ⟨g, 0, none⟩), .int .i64 5] ?_; (with_reducible refine (diwanplay_Picks_Num.calls g s0_0 s0_1 5 t751 t752 w0 _ ?side1 ?side2 A2.out).mono ?_); (case side1 => repeat (with_reducible first | exact HI0.out | apply IsS128.alloc | apply IsS128.drewN | apply IsS128.drew | apply IsS128.set_1)); (case side2 => repeat (with_reducible first | exact HB.out | apply ba_ | apply bn_ | apply bd_ | refine bs_ ?_ (IsS128.ge HI0.out))); rintro e w7 ⟨rfl, hi, hb, hk⟩; refine ⟨_, rfl, ?_⟩; have n0_ := Aside0.mk (Kd.R_mono (Kd.R_keep (IsS128.apart (show IsS128 w0 _ g s0_0 s0_1 from by repeat (with_reducible first | exact HI0.out | apply IsS128.alloc | apply IsS128.drewN | apply IsS128.drew | apply IsS128.set_1)) (by (with_reducible repeat (first | apply ra_ | apply rn_ | apply rd_)); exact HO750.out) (by decide)) hk (fun _ h => h.2)) (fun _ h => h.1)); have n1_ := Aside0.mk (KeepBut.trans (by repeat (with_reducible first | exact HK.out | apply KeepBut.set_ | apply keep_drewN | apply keep_drew | apply keep_alloc)) hk (.inl rfl)); have n2_ := Aside0.mk (hb); have n3_ := Aside0.mk (hi); clear HO750; clear HK; clear HB; clear HI0; have HO750 := n0_; have HK := n1_; have HB := n2_; have HI0 := n3_; clear n0_ n1_ n2_ n3_; clear hb hk hi; obtain ⟨Ao8, co8, eo8⟩ := Kd.R_slice HO750.out; subst eo8; have p753 : 0 ≤ (t751 : Int) := of_decide_eq_true (by first | (with_reducible assumption) | assumption); have q753 : t751 < (y748.length : Int) := of_decide_eq_true (by first | (with_reducible assumption) | assumption); obtain ⟨ad753, e753, hx753_0⟩ := Kd.at_string (Kd.R_reads' HO750.out).2.2 t751 p753 q753; cases e753; replace p753 := eq_true p753; replace q753 := eq_true q753))
   go_ret
   exact ⟨by first | rfl | (simp [errW_none, errW_some] <;> rfl) | (simp [*, errW_none, errW_some] <;> rfl), by repeat (with_reducible first | exact HI0.out | apply IsS128.alloc | apply IsS128.drewN | apply IsS128.drew | apply IsS128.set_1), by repeat (with_reducible first | exact HB.out | apply ba_ | apply bn_ | apply bd_ | refine bs_ ?_ (IsS128.ge HI0.out)), by repeat (with_reducible first | exact HK.out | apply KeepBut.set_ | apply keep_drewN | apply keep_drew | apply keep_alloc)⟩
  ·rw [if_neg c4] at H
   exact absurd H (by simp)
 ·rw [if_neg c3] at H
  exact absurd H (by simp)
def diwanplay_keys.f  : Option (List ByteArray) := some (([(⟨#[97]⟩ : ByteArray), (⟨#[98]⟩ : ByteArray), (⟨#[99]⟩ : ByteArray), (⟨#[100]⟩ : ByteArray), (⟨#[101, 101]⟩ : ByteArray), (⟨#[102, 102]⟩ : ByteArray)] : List ByteArray))
set_option maxHeartbeats 8000000 in
set_option maxRecDepth 100000 in
theorem diwanplay_keys.calls  (r : List ByteArray) (w : World) (h : diwanplay_keys.f  = some r) :
  Calls Try.prog 126 #[] w fun e w' => ∃ v0_ : Value, e = .returned (v0_) ∧ Kd.R Kd.string 9 w' w.heap.size (fun _ => True) v0_ r ∧ Below w.heap.size w w' := by
 have HB := Aside0.mk (Below.refl w.heap.size w)
 have H : (some (([(⟨#[97]⟩ : ByteArray), (⟨#[98]⟩ : ByteArray), (⟨#[99]⟩ : ByteArray), (⟨#[100]⟩ : ByteArray), (⟨#[101, 101]⟩ : ByteArray), (⟨#[102, 102]⟩ : ByteArray)] : List ByteArray))) = some r := h
 clear h
 obtain ⟨y736, hy736⟩ : ∃ y_ : List ByteArray, y_ = (([(⟨#[97]⟩ : ByteArray), (⟨#[98]⟩ : ByteArray), (⟨#[99]⟩ : ByteArray), (⟨#[100]⟩ : ByteArray), (⟨#[101, 101]⟩ : ByteArray), (⟨#[102, 102]⟩ : ByteArray)] : List ByteArray)) := ⟨_, rfl⟩
 replace H : (some y736) = some r := by first | (rw [hy736]; with_reducible exact H) | (have H2_ := (Option.bind_some _ _).symm.trans H; rw [hy736]; with_reducible exact H2_) | (have H2_ := (Option.bind_some _ _).symm.trans H; with_reducible exact H2_) | with_reducible exact H | (rw [hy736]; exact H) | exact H
 have Ny736 := Aside0.mk hy736
 clear hy736
 obtain rfl := Option.some.inj H
 go_enter Try.func126, Try.ntmps126
 go_wp2_with (first | ((with_reducible refine gate_dst (N := 1) rfl ?_); refine Kd.R_lit Kd.string _ 9 ?hg (N := 1) ?hd (xs := ([(⟨#[97]⟩ : ByteArray), (⟨#[98]⟩ : ByteArray), (⟨#[99]⟩ : ByteArray), (⟨#[100]⟩ : ByteArray), (⟨#[101, 101]⟩ : ByteArray), (⟨#[102, 102]⟩ : ByteArray)] : List ByteArray)) (inner := [.string (⟨#[97]⟩ : ByteArray), .string (⟨#[98]⟩ : ByteArray), .string (⟨#[99]⟩ : ByteArray), .string (⟨#[100]⟩ : ByteArray), .string (⟨#[101, 101]⟩ : ByteArray), .string (⟨#[102, 102]⟩ : ByteArray)]) (ok := fun _ => True) (okp := fun _ => True) ?hr ?hp (fun _ hk => hk) trivial (Below.refl _ _) (Nat.le_refl _) (by simp) ?_; (case hd => rfl); (case hg => rfl); (case hr => first | (go_simp; done) | (go_simp; rfl)); (case hp => exact (Reps.one (show Kd.M Kd.string _ _ _ (⟨#[97]⟩ : ByteArray) [.string (⟨#[97]⟩ : ByteArray)] from rfl) (Reps.one (show Kd.M Kd.string _ _ _ (⟨#[98]⟩ : ByteArray) [.string (⟨#[98]⟩ : ByteArray)] from rfl) (Reps.one (show Kd.M Kd.string _ _ _ (⟨#[99]⟩ : ByteArray) [.string (⟨#[99]⟩ : ByteArray)] from rfl) (Reps.one (show Kd.M Kd.string _ _ _ (⟨#[100]⟩ : ByteArray) [.string (⟨#[100]⟩ : ByteArray)] from rfl) (Reps.one (show Kd.M Kd.string _ _ _ (⟨#[101, 101]⟩ : ByteArray) [.string (⟨#[101, 101]⟩ : ByteArray)] from rfl) (Reps.one (show Kd.M Kd.string _ _ _ (⟨#[102, 102]⟩ : ByteArray) [.string (⟨#[102, 102]⟩ : ByteArray)] from rfl) (Reps.none _ _)))))))); intro v737 w1 ho2 hb hg_ hnew_; clear hg_ hnew_; (first | rw [← Ny736.out] at ho2 | (simp only [Int.reduceToNat] at ho2; rw [← Ny736.out] at ho2)); have n0_ := Aside0.mk (Kd.R_lower ho2 (below_size (by repeat (with_reducible first | exact HB.out | apply ba_ | apply bn_ | apply bd_)))); have n1_ := Aside0.mk (below_step (by repeat (with_reducible first | exact HB.out | apply ba_ | apply bn_ | apply bd_)) hb); clear HB; have HO738 := n0_; have HB := n1_; clear n0_ n1_; clear hb ho2))
 go_ret
 exact ⟨_, by first | rfl | (simp [errW_none, errW_some] <;> rfl) | (simp [*, errW_none, errW_some] <;> rfl), by (with_reducible repeat (first | apply ra_ | apply rn_ | apply rd_)); exact HO738.out, by repeat (with_reducible first | exact HB.out | apply ba_ | apply bn_ | apply bd_)⟩
mutual
def diwanplay_Picks_Keys.l0 : Nat → Int → List ByteArray → Int → List ByteArray → Int → List Int → Int → Option (List ByteArray × Int)
 | 0, _, _, _, _, _, _, _ => none
 | k + 1, x1, x5, x6, x7, x8, x1000, x1001 => if x8 < (x7.length : Int) then (diwanplay_Picks_Keys.j1 k x1 x5 x6 x7 x8 (decide ((x5.length : Int) < x1)) x1000 x1001) else (diwanplay_Picks_Keys.j1 k x1 x5 x6 x7 x8 false x1000 x1001)
def diwanplay_Picks_Keys.j1 : Nat → Int → List ByteArray → Int → List ByteArray → Int → Bool → List Int → Int → Option (List ByteArray × Int)
 | 0, _, _, _, _, _, _, _, _ => none
 | k + 1, x1, x5, x6, x7, x8, x21, x1000, x1001 => if x21 = true then (if (Int.tmod x6 2) = 1 then (if 0 ≤ x8 then (if x8 < (x7.length : Int) then (if x5.length < 8796093022208 then (diwanplay_Picks_Keys.l0 k x1 (x5 ++ [rdOf ByteArray.empty x7 x8]) (wrap64 (Int.tdiv x6 2)) x7 (wrap64 (x8 + 1)) x1000 x1001) else (none)) else (none)) else (none)) else (diwanplay_Picks_Keys.l0 k x1 x5 (wrap64 (Int.tdiv x6 2)) x7 (wrap64 (x8 + 1)) x1000 x1001)) else (some (x5, x1001))
end
def diwanplay_Picks_Keys.f (k : Nat) (s0_0 : List Int) (s0_1 : Int) (a1 : Int) : Option (List ByteArray × Int) := (diwanplay_Picks_Num.f s0_0 s0_1 64).bind fun bt739 => ((diwanplay_keys.f).bind fun t741 => (diwanplay_Picks_Keys.l0 k a1 ([] : List ByteArray) bt739.1 t741 0 s0_0 bt739.2))
set_option maxHeartbeats 8000000 in
set_option maxRecDepth 100000 in
theorem diwanplay_Picks_Keys.calls (k : Nat) (g : Nat) (s0_0 : List Int) (s0_1 : Int) (a1 : Int) (r1 : List ByteArray) (r2 : Int) (w0 w : World) (hI : IsS128 w0 w g s0_0 s0_1) (hB : Below w0.heap.size w0 w) (h : diwanplay_Picks_Keys.f k s0_0 s0_1 a1 = some (r1, r2)) :
  Calls Try.prog 79 #[.pointer (some ⟨g, 0, none⟩), .int .i64 a1] w fun e w' => ∃ v0_ : Value, e = .returned (v0_) ∧ Kd.R Kd.string 9 w' w.heap.size (fun _ => True) v0_ r1 ∧ IsS128 w0 w' g s0_0 r2 ∧ Below w0.heap.size w0 w' ∧ KeepBut w w' g none := by
 have HI0 := Aside0.mk hI
 have HK := Aside0.mk (KeepBut.refl w g none)
 have HL := Aside0.mk hB.size
 clear hI
 have HW0 := Aside0.mk hB.size
 have HB := Aside0.mk hB
 clear hB
 have H : ((diwanplay_Picks_Num.f s0_0 s0_1 64).bind fun bt739 => ((diwanplay_keys.f).bind fun t741 => (diwanplay_Picks_Keys.l0 k a1 ([] : List ByteArray) bt739.1 t741 0 s0_0 bt739.2))) = some (r1, r2) := h
 clear h
 replace H := Option.bind_eq_some_iff.mp H
 obtain ⟨⟨t739, t740⟩, A30, H⟩ := H
 (try dsimp only at H)
 have A3 := Aside0.mk A30
 clear A30
 replace H := Option.bind_eq_some_iff.mp H
 obtain ⟨t741, A40, H⟩ := H
 (try dsimp only at H)
 have A4 := Aside0.mk A40
 clear A40
 have H' := Aside0.mk H
 clear H
 go_enter Try.func79, Try.ntmps79
 go_wp2_with (first | ((with_reducible refine gate_callee (f := 78) rfl ?_); refine goesM_ (some 10) Try.func78 #[.pointer (some ⟨g, 0, none⟩), .int .i64 64] ?_; (with_reducible refine (diwanplay_Picks_Num.calls g s0_0 s0_1 64 t739 t740 w0 _ ?side1 ?side2 A3.out).mono ?_); (case side1 => repeat (with_reducible first | exact HI0.out | apply IsS128.alloc | apply IsS128.drewN | apply IsS128.drew | apply IsS128.set_1)); (case side2 => repeat (with_reducible first | exact HB.out | apply ba_ | apply bn_ | apply bd_ | refine bs_ ?_ (IsS128.ge HI0.out))); rintro e w5 ⟨rfl, hi, hb, hk⟩; refine ⟨_, rfl, ?_⟩; have n0_ := Aside0.mk (KeepBut.trans (by repeat (with_reducible first | exact HK.out | apply KeepBut.set_ | apply keep_drewN | apply keep_drew | apply keep_alloc)) hk (.inl rfl)); have n1_ := Aside0.mk (hb); have n2_ := Aside0.mk (hi); clear HK; clear HB; clear HI0; have HK := n0_; have HB := n1_; have HI0 := n2_; clear n0_ n1_ n2_; clear hb hk hi) | ((with_reducible refine gate_callee (f := 126) rfl ?_); refine goesM_ (some 11) Try.func126 #[] ?_; (with_reducible refine (diwanplay_keys.calls  t741 _ A4.out).mono ?_); rintro e w6 ⟨v742, rfl, ho0, hb⟩; refine ⟨_, rfl, ?_⟩; have n0_ := Aside0.mk (Kd.R_lower ho0 (keep_size (w := w) (g := g) (row := none) (by repeat (with_reducible first | exact HK.out | apply KeepBut.set_ | apply keep_drewN | apply keep_drew | apply keep_alloc)))); have n1_ := Aside0.mk (IsS128.below (by repeat (with_reducible first | exact HI0.out | apply IsS128.alloc | apply IsS128.drewN | apply IsS128.drew | apply IsS128.set_1)) hb); have n2_ := Aside0.mk (KeepBut.trans (by repeat (with_reducible first | exact HK.out | apply KeepBut.set_ | apply keep_drewN | apply keep_drew | apply keep_alloc)) (KeepBut.of_below hb g none) (.inl rfl)); have n3_ := Aside0.mk (below_step (by repeat (with_reducible first | exact HB.out | apply ba_ | apply bn_ | apply bd_ | refine bs_ ?_ (IsS128.ge HI0.out))) hb); clear HI0; clear HK; clear HB; have HO743 := n0_; have HI0 := n1_; have HK := n2_; have HB := n3_; clear n0_ n1_ n2_ n3_; clear hb ho0))
 go_loopg [5, 6, 8] k (fun kq v5 v6 v8 w' => ∃ (x5_1 : List ByteArray) (x6_1 : Int) (x8_1 : Int), v6 = .int .i64 x6_1 ∧ v8 = .int .i64 x8_1 ∧ Aside0 (diwanplay_Picks_Keys.l0 kq a1 x5_1 x6_1 t741 x8_1 s0_0 t740 = some (r1, r2)) ∧ Aside0 (kq ≤ k) ∧ Aside0 (Kd.R Kd.string 9 w' w.heap.size (fun k_ => some k_ ≠ (v742 : Value).ownBlock) v5 x5_1) ∧ Aside0 (Kd.R Kd.string 9 w' w.heap.size (fun k_ => some k_ ≠ (v5 : Value).ownBlock) v742 t741) ∧ Aside0 (IsS128 w0 w' g s0_0 t740) ∧ Aside0 (KeepBut w w' g none) ∧ Aside0 (Below w0.heap.size w0 w'))
 case atStart => exact ⟨(([] : List ByteArray)), (t739), (0), (by first | rfl | (simp; done) | (simp [*]; done)), (by first | rfl | (simp; done) | (simp [*]; done)), H', ⟨Nat.le_refl _⟩, ⟨by first | exact Kd.R_nil _ _ _ _ _ | exact Kd.N_nil _ _ _ _ _ | exact Kd.V_nil _ _ _ _ _ | exact Kd.Q_nil _ _ _ _ _ | exact Kd.S_nil _ _ _ _ _⟩, ⟨by (with_reducible repeat (first | apply ra_ | apply rn_ | apply rd_)); exact Kd.R_mono HO743.out (fun _ hk => (by simp [Value.ownBlock]))⟩, ⟨by repeat (with_reducible first | exact HI0.out | apply IsS128.alloc | apply IsS128.drewN | apply IsS128.drew | apply IsS128.set_1)⟩, ⟨by repeat (with_reducible first | exact HK.out | apply KeepBut.set_ | apply keep_drewN | apply keep_drew | apply keep_alloc)⟩, ⟨by repeat (with_reducible first | exact HB.out | apply ba_ | apply bn_ | apply bd_ | refine bs_ ?_ (IsS128.ge HI0.out))⟩⟩
 case round =>
  clear H'
  try clear c1
  try clear p2
  obtain ⟨x5_1, x6_1, x8_1, rfl, rfl, HA, HK1, HO_5, HO_7, HI0, HK, HB⟩ := hrel
  cases gk with
  | zero => exact absurd HA.out (by simp [diwanplay_Picks_Keys.l0])
  | succ k1 =>
   have H := HA.out
   clear HA
   simp only [diwanplay_Picks_Keys.l0] at H
   have HC7 := Aside0.mk H
   clear H
   go_upto_region 5 with (fail)
   go_cut [21] (fun v21 wc => ∃ (kq : Nat) (x21_6 : Bool), v21 = .bool x21_6 ∧ Aside0 (diwanplay_Picks_Keys.j1 kq a1 x5_1 x6_1 t741 x8_1 x21_6 s0_0 t740 = some (r1, r2)) ∧ Aside0 (kq ≤ k1) ∧ Aside0 (Kd.R Kd.string 9 wc w.heap.size (fun k_ => some k_ ≠ (v742 : Value).ownBlock) u5 x5_1) ∧ Aside0 (Kd.R Kd.string 9 wc w.heap.size (fun k_ => some k_ ≠ (u5 : Value).ownBlock) v742 t741) ∧ Aside0 (IsS128 w0 wc g s0_0 t740) ∧ Aside0 (KeepBut w wc g none) ∧ Aside0 (Below w0.heap.size w0 wc))
   case first =>
    have H := HC7.out
    clear HC7
    by_cases c8 : x8_1 < (t741.length : Int)
    ·rw [if_pos c8] at H
     have c8b0 : decide (x8_1 < (t741.length : Int)) = true := decide_eq_true c8
     clear c8
     (first | rw [c8b0] | (simp only [i64_w, i32_w]; rw [c8b0]) | skip)
     have H' := Aside0.mk H
     clear H
     obtain ⟨Ao9, co9, eo9⟩ := Kd.R_slice HO_7.out
     subst eo9
     obtain ⟨Ao10, co10, eo10⟩ := Kd.R_slice HO_5.out
     subst eo10
     go_wp2
     go_meet
     case rel => exact ⟨_, (decide ((x5_1.length : Int) < a1)), (by first | rfl | (simp; done) | (simp [*]; done)), H', ⟨by have := HK1.out; first | omega | exact Nat.le_refl _⟩, ⟨by (with_reducible repeat (first | apply ra_ | apply rn_ | apply rd_)); exact HO_5.out⟩, ⟨by (with_reducible repeat (first | apply ra_ | apply rn_ | apply rd_)); exact HO_7.out⟩, ⟨by repeat (with_reducible first | exact HI0.out | apply IsS128.alloc | apply IsS128.drewN | apply IsS128.drew | apply IsS128.set_1)⟩, ⟨by repeat (with_reducible first | exact HK.out | apply KeepBut.set_ | apply keep_drewN | apply keep_drew | apply keep_alloc)⟩, ⟨by repeat (with_reducible first | exact HB.out | apply ba_ | apply bn_ | apply bd_ | refine bs_ ?_ (IsS128.ge HI0.out))⟩⟩
    ·rw [if_neg c8] at H
     have c8b0 : decide (x8_1 < (t741.length : Int)) = false := decide_eq_false c8
     clear c8
     (first | rw [c8b0] | (simp only [i64_w, i32_w]; rw [c8b0]) | skip)
     have H' := Aside0.mk H
     clear H
     obtain ⟨Ao11, co11, eo11⟩ := Kd.R_slice HO_7.out
     subst eo11
     go_wp2
     go_meet
     case rel => exact ⟨_, (false), (by first | rfl | (simp; done) | (simp [*]; done)), H', ⟨by have := HK1.out; first | omega | exact Nat.le_refl _⟩, ⟨by (with_reducible repeat (first | apply ra_ | apply rn_ | apply rd_)); exact HO_5.out⟩, ⟨by (with_reducible repeat (first | apply ra_ | apply rn_ | apply rd_)); exact HO_7.out⟩, ⟨by repeat (with_reducible first | exact HI0.out | apply IsS128.alloc | apply IsS128.drewN | apply IsS128.drew | apply IsS128.set_1)⟩, ⟨by repeat (with_reducible first | exact HK.out | apply KeepBut.set_ | apply keep_drewN | apply keep_drew | apply keep_alloc)⟩, ⟨by repeat (with_reducible first | exact HB.out | apply ba_ | apply bn_ | apply bd_ | refine bs_ ?_ (IsS128.ge HI0.out))⟩⟩
   case rest =>
    clear HC7
    try clear c1
    try clear p2
    try clear c7
    try clear c8
    try clear c8b0
    try clear p2
    obtain ⟨kq, x21_6, rfl, HA, HJ6, HO_5, HO_7, HI0, HK, HB⟩ := hcut
    cases kq with
    | zero => exact absurd HA.out (by simp [diwanplay_Picks_Keys.j1])
    | succ kj6 =>
     have H := HA.out
     clear HA
     simp only [diwanplay_Picks_Keys.j1] at H
     by_cases c12 : x21_6 = true
     ·subst c12
      have H1 : (if (Int.tmod x6_1 2) = 1 then (if 0 ≤ x8_1 then (if x8_1 < (t741.length : Int) then (if x5_1.length < 8796093022208 then (diwanplay_Picks_Keys.l0 kj6 a1 (x5_1 ++ [rdOf ByteArray.empty t741 x8_1]) (wrap64 (Int.tdiv x6_1 2)) t741 (wrap64 (x8_1 + 1)) s0_0 t740) else (none)) else (none)) else (none)) else (diwanplay_Picks_Keys.l0 kj6 a1 x5_1 (wrap64 (Int.tdiv x6_1 2)) t741 (wrap64 (x8_1 + 1)) s0_0 t740)) = some (r1, r2) := by rw [if_pos rfl] at H; exact H
      clear H
      have H := H1
      clear H1
      by_cases c13 : (Int.tmod x6_1 2) = 1
      ·rw [if_pos c13] at H
       have c13b0 : ((Int.tmod x6_1 2) == 1) = true := beq_iff_eq.mpr c13
       have c13b1 : ((Int.tmod x6_1 2) != 1) = false := bne_eq_false_iff_eq.mpr c13
       clear c13
       by_cases c14 : 0 ≤ x8_1
       ·rw [if_pos c14] at H
        have c14b0 : decide (0 ≤ x8_1) = true := decide_eq_true c14
        clear c14
        by_cases c15 : x8_1 < (t741.length : Int)
        ·rw [if_pos c15] at H
         have c15b0 : decide (x8_1 < (t741.length : Int)) = true := decide_eq_true c15
         clear c15
         by_cases c16 : x5_1.length < 8796093022208
         ·rw [if_pos c16] at H
          have LMc16 := Aside0.mk c16
          clear c16
          obtain ⟨y745, hy745⟩ : ∃ y_ : List ByteArray, y_ = (x5_1 ++ [rdOf ByteArray.empty t741 x8_1]) := ⟨_, rfl⟩
          replace H : (diwanplay_Picks_Keys.l0 kj6 a1 y745 (wrap64 (Int.tdiv x6_1 2)) t741 (wrap64 (x8_1 + 1)) s0_0 t740) = some (r1, r2) := by first | (rw [hy745]; with_reducible exact H) | (have H2_ := (Option.bind_some _ _).symm.trans H; rw [hy745]; with_reducible exact H2_) | (have H2_ := (Option.bind_some _ _).symm.trans H; with_reducible exact H2_) | with_reducible exact H | (rw [hy745]; exact H) | exact H
          have Ny745 := Aside0.mk hy745
          clear hy745
          have H' := Aside0.mk H
          clear H
          obtain ⟨Ao17, co17, eo17⟩ := Kd.R_slice HO_7.out
          subst eo17
          have p744 : 0 ≤ (x8_1 : Int) := of_decide_eq_true (by first | (with_reducible assumption) | assumption)
          have q744 : x8_1 < (t741.length : Int) := of_decide_eq_true (by first | (with_reducible assumption) | assumption)
          obtain ⟨ad744, e744, hx744_0⟩ := Kd.at_string (Kd.R_reads' HO_7.out).2.2 x8_1 p744 q744
          cases e744
          replace p744 := eq_true p744
          replace q744 := eq_true q744
          go_wp2_with (first | ((with_reducible refine gate_builtin (b := .append) (xs := #[.tmp 27, .tmp 32]) rfl ?_); (try (refine gate_guard (by rfl) ?_; dsimp only)); at_builtin; refine Kd.R_append Kd.string w.heap.size rfl (.tmp 27) (.tmp 32) 68 9 (.string ⟨#[]⟩) 16 rfl Try.underlying68 info9 rfl (by decide) (by omega) u5 x5_1 (rdOf ByteArray.empty t741 x8_1) [.string (rdOf ByteArray.empty t741 x8_1)] (fun k_ => some k_ ≠ (.slice (some ad744) t741.length co17 : Value).ownBlock) (fun _ => False) rfl rfl ?aP (fun _ hk => hk.elim) ?aF ?aO (Below.refl _ _) ?aS ?aL ?_; (case aP => exact rfl); (case aF => exact (fun k_ hk => Kd.fresh' (Kd.R_lt (by (with_reducible repeat (first | apply ra_ | apply rn_ | apply rd_)); exact HO_7.out)) k_ hk)); (case aO => exact (by (with_reducible repeat (first | apply ra_ | apply rn_ | apply rd_)); exact HO_5.out)); (case aS => exact (keep_size (w := w) (g := g) (row := none) (by repeat (with_reducible first | exact HK.out | apply KeepBut.set_ | apply keep_drewN | apply keep_drew | apply keep_alloc)))); (case aL => have := LMc16.out; omega); intro v746 w18 ho hb hg hat; rw [← Ny745.out] at ho; have n0_ := Aside0.mk (Kd.R_after (ok := (fun _ => True)) (by (with_reducible repeat (first | apply ra_ | apply rn_ | apply rd_)); exact Kd.R_mono HO_7.out (fun _ hk => ⟨trivial, hk⟩)) hg hat); have n1_ := Aside0.mk (IsS128.grown (by repeat (with_reducible first | exact HI0.out | apply IsS128.alloc | apply IsS128.drewN | apply IsS128.drew | apply IsS128.set_1)) hg (IsS128.own_ne HI0.out HO_5.out (by decide))); have n2_ := Aside0.mk (below_weaken (by repeat (with_reducible first | exact HB.out | apply ba_ | apply bn_ | apply bd_ | refine bs_ ?_ (IsS128.ge HI0.out))) HL.out hb); have n3_ := Aside0.mk (KeepBut.trans (by repeat (with_reducible first | exact HK.out | apply KeepBut.set_ | apply keep_drewN | apply keep_drew | apply keep_alloc)) (KeepBut.of_grown hg g) (Kd.R_base2 HO_5.out)); have n4_ := Aside0.mk (ho); clear HO_7; clear HI0; clear HB; clear HK; clear HO_5; have HO_7 := n0_; have HI0 := n1_; have HB := n2_; have HK := n3_; have HO747 := n4_; clear n0_ n1_ n2_ n3_ n4_; clear ho hb hg hat))
          go_roundg kj6
          case measure => have := HK1.out; have := HJ6.out; omega
          case rel => exact ⟨(y745), (wrap64 (Int.tdiv x6_1 2)), (wrap64 (x8_1 + 1)), (by first | rfl | (simp; done) | (simp [*]; done)), (by first | rfl | (simp; done) | (simp [*]; done)), H', ⟨by have := HK1.out; have := HJ6.out; omega⟩, ⟨by (with_reducible repeat (first | apply ra_ | apply rn_ | apply rd_)); exact HO747.out⟩, ⟨by (with_reducible repeat (first | apply ra_ | apply rn_ | apply rd_)); exact Kd.R_mono HO_7.out (fun _ hk => hk.2)⟩, ⟨by repeat (with_reducible first | exact HI0.out | apply IsS128.alloc | apply IsS128.drewN | apply IsS128.drew | apply IsS128.set_1)⟩, ⟨by repeat (with_reducible first | exact HK.out | apply KeepBut.set_ | apply keep_drewN | apply keep_drew | apply keep_alloc)⟩, ⟨by repeat (with_reducible first | exact HB.out | apply ba_ | apply bn_ | apply bd_ | refine bs_ ?_ (IsS128.ge HI0.out))⟩⟩
         ·rw [if_neg c16] at H
          exact absurd H (by simp)
        ·rw [if_neg c15] at H
         exact absurd H (by simp)
       ·rw [if_neg c14] at H
        exact absurd H (by simp)
      ·rw [if_neg c13] at H
       have c13b0 : ((Int.tmod x6_1 2) == 1) = false := beq_eq_false_iff_ne.mpr c13
       have c13b1 : ((Int.tmod x6_1 2) != 1) = true := bne_iff_ne.mpr c13
       have H' := Aside0.mk H
       clear H
       go_wp2
       go_roundg kj6
       case measure => have := HK1.out; have := HJ6.out; omega
       case rel => exact ⟨(x5_1), (wrap64 (Int.tdiv x6_1 2)), (wrap64 (x8_1 + 1)), (by first | rfl | (simp; done) | (simp [*]; done)), (by first | rfl | (simp; done) | (simp [*]; done)), H', ⟨by have := HK1.out; have := HJ6.out; omega⟩, ⟨by (with_reducible repeat (first | apply ra_ | apply rn_ | apply rd_)); exact HO_5.out⟩, ⟨by (with_reducible repeat (first | apply ra_ | apply rn_ | apply rd_)); exact HO_7.out⟩, ⟨by repeat (with_reducible first | exact HI0.out | apply IsS128.alloc | apply IsS128.drewN | apply IsS128.drew | apply IsS128.set_1)⟩, ⟨by repeat (with_reducible first | exact HK.out | apply KeepBut.set_ | apply keep_drewN | apply keep_drew | apply keep_alloc)⟩, ⟨by repeat (with_reducible first | exact HB.out | apply ba_ | apply bn_ | apply bd_ | refine bs_ ?_ (IsS128.ge HI0.out))⟩⟩
     ·replace c12 := Bool.eq_false_iff.mpr c12
      subst c12
      have H1 : (some (x5_1, t740)) = some (r1, r2) := by rw [if_neg (show ¬ (false = true) by decide)] at H; exact H
      clear H
      have H := H1
      clear H1
      simp only [Option.some.injEq, Prod.mk.injEq] at H
      obtain ⟨rfl, rfl⟩ := H
      go_wp2
      go_ret
      exact ⟨_, by first | rfl | (simp [errW_none, errW_some] <;> rfl) | (simp [*, errW_none, errW_some] <;> rfl), by (with_reducible repeat (first | apply ra_ | apply rn_ | apply rd_)); exact Kd.R_mono HO_5.out (fun _ hk => trivial), by repeat (with_reducible first | exact HI0.out | apply IsS128.alloc | apply IsS128.drewN | apply IsS128.drew | apply IsS128.set_1), by repeat (with_reducible first | exact HB.out | apply ba_ | apply bn_ | apply bd_ | refine bs_ ?_ (IsS128.ge HI0.out)), by repeat (with_reducible first | exact HK.out | apply KeepBut.set_ | apply keep_drewN | apply keep_drew | apply keep_alloc)⟩
end Go.Proofs.Ytnlfhbohcgjcbaa.PA
namespace Go.Proofs.Ytnlfhbohcgjcbaa.PA
open Go.RowKit Go.Proofs.YtnlfhbohcgjcbaaW.PrintWords Go.Proofs.YtnlfhbohcgjcbaaW.PrintLast Go.Proofs.YtnlfhbohcgjcbaaW.PrintMore
set_option linter.unusedVariables false
set_option linter.unusedSimpArgs false
/-- Is what is read there, and its value. -/
def txThere (ps : List Int) (pos v : Int) : Option (ByteArray × Bool × Int) :=
 if 0 < v then (diwanplay_Picks_Num.f ps pos 4).bind fun q => if 0 < q.1 then (diwanplay_Picks_Val.f ps q.2).bind fun s => some (s.1, true, s.2) else some (⟨#[]⟩, false, q.2)
 else some (⟨#[]⟩, false, pos)
/-- The reads, of these keys. -/
def txReads (ps : List Int) (most : Int) : List ByteArray → Int → List (S24) → Option (List (S24) × Int)
 | [], pos, rs => some (rs, pos)
 | x :: xs, pos, rs => (diwanplay_Picks_Num.f ps pos (mx most 1)).bind fun v => (txThere ps v.2 v.1).bind fun t => if rs.length < 1000000 then txReads ps most xs t.2.2 (rs ++ [⟨x, v.1, t.1, t.2.1⟩]) else none
/-- The writes, of these keys. -/
def txWrites (ps : List Int) : List ByteArray → Int → List (S27) → Option (List (S27) × Int)
 | [], pos, ws => some (ws, pos)
 | x :: xs, pos, ws => (diwanplay_Picks_Val.f ps pos).bind fun v => (diwanplay_Picks_Num.f ps v.2 4).bind fun q => if ws.length < 1000000 then txWrites ps xs q.2 (ws ++ [if q.1 = 0 then ⟨x, ⟨#[]⟩, true⟩ else ⟨x, v.1, false⟩]) else none
def diwanplay_Picks_Txn.f (k : Nat) (s0_0 : List Int) (s0_1 : Int) (a1 : Int) : Option (Int × Int × (List (S24)) × (List (S27)) × Int) :=
 (diwanplay_Picks_Num.f s0_0 s0_1 3).bind fun a => (diwanplay_Picks_Num.f s0_0 a.2 6).bind fun b => (diwanplay_Picks_Keys.f k s0_0 b.2 3).bind fun ks => (txReads s0_0 a1 ks.1 ks.2 []).bind fun r => (diwanplay_Picks_Keys.f k s0_0 r.2 3).bind fun kw => (txWrites s0_0 kw.1 kw.2 []).bind fun w => some (wrap64 (1 + a.1), wrap64 (1 + b.1), r.1, w.1, w.2)
/-- What there is while it runs: the picks at g, the transaction at gt, the result's cell at gr. -/
def TxSt (ok : Nat → Prop) (w0 w W : World) (g gt gr : Nat) (ps : List Int) (pos a b : Int) (vk : Value) (ks : List ByteArray) (vr : Value) (rs : List (S24)) (vw : Value) (ws : List (S27)) : Prop :=
 (IsS128 w0 W g ps pos ∧ W.heap[gt]? = some (.cells #[.int .i64 a, .int .i64 b, vr, vw] 30 (0, 0)) ∧ W.heap[gr]? = some (.cells #[.int .i64 0, .int .i64 0, .slice none 0 0, .slice none 0 0] 30 (0, 0))) ∧ (w.heap.size ≤ gr ∧ w.heap.size ≤ gt ∧ gr ≠ gt ∧ g < w.heap.size ∧ w0.heap.size ≤ w.heap.size) ∧ (Kd.R Kd.string 9 W w.heap.size ok vk ks ∧ Kd.R k24 24 W w.heap.size ok vr rs ∧ Kd.R k27 27 W w.heap.size ok vw ws) ∧ Below w0.heap.size w0 W ∧ KeepBut w W g none
theorem row_ge {α : Type} {d : Kd α} {e base : Nat} {W : World} {ok : Nat → Prop} {v : Value} {xs : List α} (h : Kd.R d e W base ok v xs) : v.ownBlock = none ∨ ∃ b, v.ownBlock = some b ∧ base ≤ b := by
 rcases hv : v.ownBlock with _ | b
 ·exact .inl rfl
 ·exact .inr ⟨b, rfl, ((Kd.R_bound h).1 b hv).2.1⟩
section
variable {ok ok' : Nat → Prop} {w0 w W W1 : World} {g gt gr : Nat} {ps : List Int} {pos a b : Int} {vk : Value} {ks : List ByteArray} {vr : Value} {rs : List (S24)} {vw : Value} {ws : List (S27)}
theorem TxSt.mono (h : TxSt ok w0 w W g gt gr ps pos a b vk ks vr rs vw ws) (hok : ∀ k, ok k → ok' k) : TxSt ok' w0 w W g gt gr ps pos a b vk ks vr rs vw ws := by
 obtain ⟨⟨i1, i2, i3⟩, hn, ⟨r1, r2, r3⟩, hb, hk⟩ := h
 exact ⟨⟨i1, i2, i3⟩, hn, ⟨Kd.R_mono r1 hok, Kd.R_mono r2 hok, Kd.R_mono r3 hok⟩, hb, hk⟩
theorem TxSt.below (h : TxSt ok w0 w W g gt gr ps pos a b vk ks vr rs vw ws) (hw : Below W.heap.size W W1) : TxSt ok w0 w W1 g gt gr ps pos a b vk ks vr rs vw ws := by
 obtain ⟨⟨i1, i2, i3⟩, hn, ⟨r1, r2, r3⟩, hb, hk⟩ := h
 exact ⟨⟨i1.below hw, blk_grown i2 (grown_of_below hw none) (by simp), blk_grown i3 (grown_of_below hw none) (by simp)⟩, hn, ⟨Kd.R_below r1 hw, Kd.R_below r2 hw, Kd.R_below r3 hw⟩, below_step hb hw, KeepBut.trans hk (KeepBut.of_below hw g none) (.inl rfl)⟩
theorem TxSt.alloc (h : TxSt ok w0 w W g gt gr ps pos a b vk ks vr rs vw ws) (o : Obj) : TxSt ok w0 w (W.alloc o) g gt gr ps pos a b vk ks vr rs vw ws := h.below (below_alloc (Below.refl _ _) o)
theorem TxSt.drew (h : TxSt ok w0 w W g gt gr ps pos a b vk ks vr rs vw ws) : TxSt ok w0 w W.drew g gt gr ps pos a b vk ks vr rs vw ws := h.below (below_drew1 (Below.refl _ _))
theorem TxSt.drewN (h : TxSt ok w0 w W g gt gr ps pos a b vk ks vr rs vw ws) (m : Nat) : TxSt ok w0 w (W.drewN m) g gt gr ps pos a b vk ks vr rs vw ws := h.below (pw_below_drewN (Below.refl _ _) m)
theorem TxSt.elder (h : TxSt ok w0 w W g gt gr ps pos a b vk ks vr rs vw ws) : TxSt (fun k => k ≠ W.heap.size) w0 w W g gt gr ps pos a b vk ks vr rs vw ws := by
 obtain ⟨is, hn, ⟨r1, r2, r3⟩, hb, hk⟩ := h
 exact ⟨is, hn, ⟨Kd.R_mono (Kd.R_bound r1) (fun k hk => by have := hk.2.2.1; omega), Kd.R_mono (Kd.R_bound r2) (fun k hk => by have := hk.2.2.1; omega), Kd.R_mono (Kd.R_bound r3) (fun k hk => by have := hk.2.2.1; omega)⟩, hb, hk⟩
theorem TxSt.far {gx : Nat} (h : TxSt (fun k => k ≠ gx) w0 w W g gt gr ps pos a b vk ks vr rs vw ws) (ht : gt ≠ gx) (hr : gr ≠ gx) (hx : w.heap.size ≤ gx) (i : Nat) (u : Value) : TxSt (fun k => k ≠ gx) w0 w (W.setCell ⟨gx, i, none⟩ u) g gt gr ps pos a b vk ks vr rs vw ws := by
 obtain ⟨⟨i1, i2, i3⟩, hn, ⟨r1, r2, r3⟩, hb, hk⟩ := h
 exact ⟨⟨i1.far (by have := hn.2.2.2.1; show g ≠ gx; omega) u, blk_far i2 ht u, blk_far i3 hr u⟩, hn, ⟨Kd.R_far r1 (fun _ hk => hk) u, Kd.R_far r2 (fun _ hk => hk) u, Kd.R_far r3 (fun _ hk => hk) u⟩, below_set hb (by have := hn.2.2.2.2; show w0.heap.size ≤ gx; omega), keep_far hk hx u⟩
theorem TxSt.keep {pos' : Int} (h : TxSt ok w0 w W g gt gr ps pos a b vk ks vr rs vw ws) (hi : IsS128 w0 W1 g ps pos') (hb1 : Below w0.heap.size w0 W1) (hk1 : KeepBut W W1 g none) : TxSt ok w0 w W1 g gt gr ps pos' a b vk ks vr rs vw ws := by
 obtain ⟨⟨i1, i2, i3⟩, hn, ⟨r1, r2, r3⟩, hb, hk⟩ := h
 exact ⟨⟨hi, hk1.blk i2 (by omega) (by simp), hk1.blk i3 (by omega) (by simp)⟩, hn, ⟨Kd.R_mono (Kd.R_keep (i1.apart r1 (by decide)) hk1 (fun _ h => h.2)) (fun _ h => h.1), Kd.R_mono (Kd.R_keep (i1.apart r2 (by decide)) hk1 (fun _ h => h.2)) (fun _ h => h.1), Kd.R_mono (Kd.R_keep (i1.apart r3 (by decide)) hk1 (fun _ h => h.2)) (fun _ h => h.1)⟩, hb1, KeepBut.trans hk hk1 (.inl rfl)⟩
theorem TxSt.key {ad : Addr} {ck : Nat} {i : Int} (h : TxSt ok w0 w W g gt gr ps pos a b (.slice (some ad) ks.length ck) ks vr rs vw ws) (h0 : 0 ≤ i) (h1 : i < ks.length) : W.cell? (ad.add i.toNat) = some (.string (rdOf ByteArray.empty ks i)) := by
 obtain ⟨ad', e1, hx⟩ := Kd.at_string (Kd.R_reads' h.2.2.1.1).2.2 i h0 h1
 cases e1
 exact hx
theorem TxSt.num {n v pos' : Int} (h : TxSt ok w0 w W g gt gr ps pos a b vk ks vr rs vw ws) (hf : diwanplay_Picks_Num.f ps pos n = some (v, pos')) :
  Calls Try.prog 78 #[.pointer (some ⟨g, 0, none⟩), .int .i64 n] W fun e w' => e = .returned (.int .i64 v) ∧ TxSt ok w0 w w' g gt gr ps pos' a b vk ks vr rs vw ws ∧ KeepBut W w' g none := by
 refine (diwanplay_Picks_Num.calls g ps pos n v pos' w0 W h.1.1 h.2.2.2.1 hf).mono ?_
 rintro e w' ⟨rfl, h1, h2, h3⟩
 exact ⟨rfl, h.keep h1 h2 h3, h3⟩
theorem TxSt.val {v : ByteArray} {pos' : Int} (h : TxSt ok w0 w W g gt gr ps pos a b vk ks vr rs vw ws) (hf : diwanplay_Picks_Val.f ps pos = some (v, pos')) :
  Calls Try.prog 80 #[.pointer (some ⟨g, 0, none⟩)] W fun e w' => e = .returned (.string v) ∧ TxSt ok w0 w w' g gt gr ps pos' a b vk ks vr rs vw ws ∧ KeepBut W w' g none := by
 refine (diwanplay_Picks_Val.calls g ps pos v pos' w0 W h.1.1 h.2.2.2.1 hf).mono ?_
 rintro e w' ⟨rfl, h1, h2, h3⟩
 exact ⟨rfl, h.keep h1 h2 h3, h3⟩
theorem TxSt.keys {k : Nat} {n pos' : Int} {l : List ByteArray} (h : TxSt (fun _ => True) w0 w W g gt gr ps pos a b vk ks vr rs vw ws) (hf : diwanplay_Picks_Keys.f k ps pos n = some (l, pos')) :
  Calls Try.prog 79 #[.pointer (some ⟨g, 0, none⟩), .int .i64 n] W fun e w' => ∃ v, e = .returned v ∧ TxSt (fun _ => True) w0 w w' g gt gr ps pos' a b v l vr rs vw ws := by
 refine (diwanplay_Picks_Keys.calls k g ps pos n l pos' w0 W h.1.1 h.2.2.2.1 hf).mono ?_
 rintro e w' ⟨v, rfl, ho, h1, h2, h3⟩
 have h' := h.keep h1 h2 h3
 exact ⟨v, rfl, h'.1, h'.2.1, ⟨Kd.R_lower ho h.2.2.2.2.1, h'.2.2.1.2⟩, h'.2.2.2⟩
theorem TxSt.grown_r (h : TxSt ok w0 w W g gt gr ps pos a b vk ks vr rs vw ws) (hg : W.grownBy W1 vr.ownBlock) : Below w0.heap.size w0 W1 :=
 Below.grown h.2.2.2.1 hg (Nat.le_trans h.2.1.2.2.2.2 h.2.2.2.2.1) (fun k hk => by rcases row_ge h.2.2.1.2.1 with e | ⟨b, e, hb⟩ <;> rw [e] at hk <;> cases hk; exact Nat.le_trans h.2.1.2.2.2.2 hb)
theorem TxSt.grown_w (h : TxSt ok w0 w W g gt gr ps pos a b vk ks vr rs vw ws) (hg : W.grownBy W1 vw.ownBlock) : Below w0.heap.size w0 W1 :=
 Below.grown h.2.2.2.1 hg (Nat.le_trans h.2.1.2.2.2.2 h.2.2.2.2.1) (fun k hk => by rcases row_ge h.2.2.1.2.2 with e | ⟨b, e, hb⟩ <;> rw [e] at hk <;> cases hk; exact Nat.le_trans h.2.1.2.2.2.2 hb)
theorem TxSt.put_r (h : TxSt ok w0 w W g gt gr ps pos a b vk ks vr rs vw ws) {v1 : Value} {rs1 : List (S24)} (ho : Kd.R k24 24 W1 w.heap.size ok v1 rs1) (hb1 : Below w0.heap.size w0 W1) (hg : W.grownBy W1 vr.ownBlock) : TxSt ok w0 w (W1.setCell ⟨gt, 2, none⟩ v1) g gt gr ps pos a b vk ks v1 rs1 vw ws := by
 obtain ⟨⟨i1, i2, i3⟩, hn, ⟨r1, r2, r3⟩, hb, hk⟩ := h
 have h2 := blk_grown i2 hg (Kd.R_ne r2 i2 (by decide))
 exact ⟨⟨(i1.grown hg (i1.own_ne r2 (by decide))).far (by show g ≠ gt; omega) _, by simpa using blk_set h2 2 v1, blk_far (blk_grown i3 hg (Kd.R_ne r2 i3 (by decide))) hn.2.2.1 _⟩, hn, ⟨Kd.R_mono (Kd.R_far (p := ⟨gt, 2, none⟩) (Kd.R_types (Kd.R_over r1 r2 (by decide) hg) h2 (by decide)) (fun _ hk => hk.2) _) (fun _ hk => hk.1), Kd.R_mono (Kd.R_far (p := ⟨gt, 2, none⟩) (Kd.R_types ho h2 (by decide)) (fun _ hk => hk.2) _) (fun _ hk => hk.1), Kd.R_mono (Kd.R_far (p := ⟨gt, 2, none⟩) (Kd.R_types (Kd.R_over r3 r2 (by decide) hg) h2 (by decide)) (fun _ hk => hk.2) _) (fun _ hk => hk.1)⟩, below_set hb1 (by show w0.heap.size ≤ gt; omega), keep_far (KeepBut.trans hk (KeepBut.of_grown hg g) (row_ge r2)) hn.2.1 _⟩
theorem TxSt.put_w (h : TxSt ok w0 w W g gt gr ps pos a b vk ks vr rs vw ws) {v1 : Value} {ws1 : List (S27)} (ho : Kd.R k27 27 W1 w.heap.size ok v1 ws1) (hb1 : Below w0.heap.size w0 W1) (hg : W.grownBy W1 vw.ownBlock) : TxSt ok w0 w (W1.setCell ⟨gt, 3, none⟩ v1) g gt gr ps pos a b vk ks vr rs v1 ws1 := by
 obtain ⟨⟨i1, i2, i3⟩, hn, ⟨r1, r2, r3⟩, hb, hk⟩ := h
 have h2 := blk_grown i2 hg (Kd.R_ne r3 i2 (by decide))
 exact ⟨⟨(i1.grown hg (i1.own_ne r3 (by decide))).far (by show g ≠ gt; omega) _, by simpa using blk_set h2 3 v1, blk_far (blk_grown i3 hg (Kd.R_ne r3 i3 (by decide))) hn.2.2.1 _⟩, hn, ⟨Kd.R_mono (Kd.R_far (p := ⟨gt, 3, none⟩) (Kd.R_types (Kd.R_over r1 r3 (by decide) hg) h2 (by decide)) (fun _ hk => hk.2) _) (fun _ hk => hk.1), Kd.R_mono (Kd.R_far (p := ⟨gt, 3, none⟩) (Kd.R_types (Kd.R_over r2 r3 (by decide) hg) h2 (by decide)) (fun _ hk => hk.2) _) (fun _ hk => hk.1), Kd.R_mono (Kd.R_far (p := ⟨gt, 3, none⟩) (Kd.R_types ho h2 (by decide)) (fun _ hk => hk.2) _) (fun _ hk => hk.1)⟩, below_set hb1 (by show w0.heap.size ≤ gt; omega), keep_far (KeepBut.trans hk (KeepBut.of_grown hg g) (row_ge r3)) hn.2.1 _⟩
theorem row_far4 {α : Type} {d : Kd α} {e base : Nat} {v : Value} {xs : List α} {cs : Array Value} {t : Nat} {W : World} {gr : Nat} (h : Kd.R d e W base (fun _ => True) v xs) (hb : W.heap[gr]? = some (.cells cs t (0, 0))) (ht : ∀ q, q ∈ e :: d.E → q ≠ t) (u0 u1 u2 u3 : Value) :
  Kd.R d e ((((W.setCell ⟨gr, 0, none⟩ u0).setCell ⟨gr, 1, none⟩ u1).setCell ⟨gr, 2, none⟩ u2).setCell ⟨gr, 3, none⟩ u3) base (fun _ => True) v xs :=
 Kd.R_mono (Kd.R_far (p := ⟨gr, 3, none⟩) (Kd.R_far (p := ⟨gr, 2, none⟩) (Kd.R_far (p := ⟨gr, 1, none⟩) (Kd.R_far (p := ⟨gr, 0, none⟩) (Kd.R_types h hb ht) (fun _ hk => hk.2) u0) (fun _ hk => hk.2) u1) (fun _ hk => hk.2) u2) (fun _ hk => hk.2) u3) (fun _ hk => hk.1)
/-- The transaction is the result. -/
theorem TxSt.result (h : TxSt (fun _ => True) w0 w W g gt gr ps pos a b vk ks vr rs vw ws) : (((((W.setCell ⟨gr, 0, none⟩ (.int .i64 a)).setCell ⟨gr, 1, none⟩ (.int .i64 b)).setCell ⟨gr, 2, none⟩ vr).setCell ⟨gr, 3, none⟩ vw).heap[gr]? = some (.cells #[.int .i64 a, .int .i64 b, vr, vw] 30 (0, 0))) ∧ Kd.R k24 24 ((((W.setCell ⟨gr, 0, none⟩ (.int .i64 a)).setCell ⟨gr, 1, none⟩ (.int .i64 b)).setCell ⟨gr, 2, none⟩ vr).setCell ⟨gr, 3, none⟩ vw) w.heap.size (fun _ => True) vr rs ∧ Kd.R k27 27 ((((W.setCell ⟨gr, 0, none⟩ (.int .i64 a)).setCell ⟨gr, 1, none⟩ (.int .i64 b)).setCell ⟨gr, 2, none⟩ vr).setCell ⟨gr, 3, none⟩ vw) w.heap.size (fun _ => True) vw ws ∧ IsS128 w0 ((((W.setCell ⟨gr, 0, none⟩ (.int .i64 a)).setCell ⟨gr, 1, none⟩ (.int .i64 b)).setCell ⟨gr, 2, none⟩ vr).setCell ⟨gr, 3, none⟩ vw) g ps pos ∧ Below w0.heap.size w0 ((((W.setCell ⟨gr, 0, none⟩ (.int .i64 a)).setCell ⟨gr, 1, none⟩ (.int .i64 b)).setCell ⟨gr, 2, none⟩ vr).setCell ⟨gr, 3, none⟩ vw) ∧ KeepBut w ((((W.setCell ⟨gr, 0, none⟩ (.int .i64 a)).setCell ⟨gr, 1, none⟩ (.int .i64 b)).setCell ⟨gr, 2, none⟩ vr).setCell ⟨gr, 3, none⟩ vw) g none := by
 obtain ⟨⟨i1, i2, i3⟩, hn, ⟨r1, r2, r3⟩, hb, hk⟩ := h
 have hne : g ≠ gr := by omega
 have hw : w0.heap.size ≤ gr := by omega
 refine ⟨?_, row_far4 r2 i3 (by decide) _ _ _ _, row_far4 r3 i3 (by decide) _ _ _ _, (((i1.far hne _).far hne _).far hne _).far hne _, below_set (below_set (below_set (below_set hb hw) hw) hw) hw, keep_far (keep_far (keep_far (keep_far hk hn.1 _) hn.1 _) hn.1 _) hn.1 _⟩
 have h_ := blk_set (blk_set (blk_set (blk_set i3 0 (.int .i64 a)) 1 (.int .i64 b)) 2 vr) 3 vw
 simpa using h_
end
end Go.Proofs.Ytnlfhbohcgjcbaa.PA
namespace Go.Proofs.Ytnlfhbohcgjcbaa.PA
open Go.RowKit Go.Proofs.YtnlfhbohcgjcbaaW.PrintWords Go.Proofs.YtnlfhbohcgjcbaaW.PrintLast Go.Proofs.YtnlfhbohcgjcbaaW.PrintMore
attribute [local go_sem] max2_int min2_int max_two min_two max_three min_three max_four min_four
set_option linter.unusedVariables false
set_option linter.unusedSimpArgs false
set_option maxHeartbeats 4000000 in
set_option maxRecDepth 100000 in
theorem diwanplay_Picks_Txn.calls (k : Nat) (g : Nat) (s0_0 : List Int) (s0_1 : Int) (a1 : Int) (r1 : Int) (r2 : Int) (r3 : List (S24)) (r4 : List (S27)) (r5 : Int) (w0 w : World) (hI : IsS128 w0 w g s0_0 s0_1) (hB : Below w0.heap.size w0 w) (h : diwanplay_Picks_Txn.f k s0_0 s0_1 a1 = some (r1, r2, r3, r4, r5)) :
  Calls Try.prog 22 #[.pointer (some ⟨g, 0, none⟩), .int .i64 a1] w fun e w' => ∃ v2_ v3_ : Value, e = .returned (.agg #[.int .i64 r1, .int .i64 r2, v2_, v3_]) ∧ Kd.R k24 24 w' w.heap.size (fun _ => True) v2_ r3 ∧ Kd.R k27 27 w' w.heap.size (fun _ => True) v3_ r4 ∧ IsS128 w0 w' g s0_0 r5 ∧ Below w0.heap.size w0 w' ∧ KeepBut w w' g none := by
 unfold diwanplay_Picks_Txn.f at h
 obtain ⟨⟨a, p1⟩, h1, h⟩ := Option.bind_eq_some_iff.1 h
 obtain ⟨⟨b, p2⟩, h2, h⟩ := Option.bind_eq_some_iff.1 h
 obtain ⟨⟨ks, p3⟩, h3, h⟩ := Option.bind_eq_some_iff.1 h
 obtain ⟨⟨rs, p4⟩, h4, h⟩ := Option.bind_eq_some_iff.1 h
 obtain ⟨⟨kw, p5⟩, h5, h⟩ := Option.bind_eq_some_iff.1 h
 obtain ⟨⟨ws, p6⟩, h6, h⟩ := Option.bind_eq_some_iff.1 h
 simp only [Option.some.injEq, Prod.mk.injEq] at h
 obtain ⟨rfl, rfl, rfl, rfl, rfl⟩ := h
 have H1 := Aside0.mk h1
 have H2 := Aside0.mk h2
 have H3 := Aside0.mk h3
 have H4 := Aside0.mk h4
 have H5 := Aside0.mk h5
 have H6 := Aside0.mk h6
 have HI := Aside0.mk hI
 have HB := Aside0.mk hB
 have hgw := hI.lt
 have HGW := Aside0.mk hgw
 have HSZ := Aside0.mk hB.size
 clear h1 h2 h3 h4 h5 h6 hI hB hgw
 repeat clear h
 go_enter Try.func22, Try.ntmps22
 go_wp2_with fail
 refine (diwanplay_Picks_Num.calls g s0_0 s0_1 3 a p1 w0 (w.alloc (.cells #[.int .i64 0, .int .i64 0, .slice none 0 0, .slice none 0 0] 30)) (HI.out.alloc _) (below_alloc HB.out _) H1.out).mono ?_
 rintro e w1 ⟨rfl, hi1, hb1, hk1⟩
 have HI1 := Aside0.mk hi1
 have HB1 := Aside0.mk hb1
 have HK1 := Aside0.mk hk1
 clear hi1 hb1 hk1
 go_wp2_with fail
 refine (diwanplay_Picks_Num.calls g s0_0 p1 6 b p2 w0 w1 HI1.out HB1.out H2.out).mono ?_
 rintro e w2 ⟨rfl, hi2, hb2, hk2⟩
 have HG1 : w1.heap[w.heap.size]? = some (.cells #[.int .i64 0, .int .i64 0, .slice none 0 0, .slice none 0 0] 30 (0, 0)) := HK1.out.blk (heap_alloc_new w _) (by have := HGW.out; omega) (by simp)
 have HG2 := hk2.blk HG1 (by have := HGW.out; omega) (by simp)
 have HK2 : KeepBut w w2 g none := KeepBut.trans (KeepBut.trans (KeepBut.of_below (below_alloc (Below.refl _ _) _) g none) HK1.out (.inl rfl)) hk2 (.inl rfl)
 have hS : TxSt (fun _ => True) w0 w (w2.alloc (.cells #[.int .i64 (wrap64 (1 + a)), .int .i64 (wrap64 (1 + b)), .slice none 0 0, .slice none 0 0] 30)) g w2.heap.size w.heap.size s0_0 p2 (wrap64 (1 + a)) (wrap64 (1 + b)) (.slice none 0 0) [] (.slice none 0 0) [] (.slice none 0 0) [] :=
  ⟨⟨hi2.alloc _, by simpa using heap_alloc_new w2 _, blk_grown HG2 (grown_of_below (below_alloc (Below.refl _ _) _) none) (by simp)⟩, ⟨Nat.le_refl _, HK2.1, Nat.ne_of_lt (blk_lt HG2), HGW.out, HSZ.out⟩, ⟨Kd.R_nil _ _ _ _ _, Kd.R_nil _ _ _ _ _, Kd.R_nil _ _ _ _ _⟩, below_alloc hb2 _, KeepBut.trans HK2 (KeepBut.of_below (below_alloc (Below.refl _ _) _) g none) (.inl rfl)⟩
 have HS := Aside0.mk hS
 clear HI1 HB1 HK1 HG1 HG2 HK2 hi2 hb2 hk2 hS
 go_wp2_with fail
 refine (TxSt.keys HS.out H3.out).mono ?_
 rintro e w3 ⟨vk, rfl, hS⟩
 have HS3 := Aside0.mk hS
 obtain ⟨gt, hgt⟩ : ∃ x, w2.heap.size = x := ⟨_, rfl⟩
 rw [hgt] at HS3
 clear hS HS
 go_wp2_with fail
 (try rw [hgt])
 clear hgt
 go_loopw [7] (fun v7 w' => ∃ (j : Nat) (pos : Int) (vr : Value) (rs' : List (S24)), j ≤ ks.length ∧ v7 = .int .i64 j ∧ Aside0 (txReads s0_0 a1 (ks.drop j) pos rs' = some (rs, p4)) ∧ Aside0 (TxSt (fun _ => True) w0 w w' g gt w.heap.size s0_0 pos (wrap64 (1 + a)) (wrap64 (1 + b)) vk ks vr rs' (.slice none 0 0) [])) (fun v7 _ => ks.length - (intOf v7).toNat)
 case atStart => exact ⟨0, p3, _, [], Nat.zero_le _, rfl, ⟨by simpa using H4.out⟩, HS3⟩
 case round =>
  clear H1 H2 H3 H4 HS3
  obtain ⟨j, pos, vr, rs', hj, rfl, HA, HS⟩ := hrel
  obtain ⟨Ak, ck, ek⟩ := Kd.R_slice HS.out.2.2.1.1
  have hm : ks.length ≤ 9223372036854775807 := by
   have h_ := HS.out.2.2.1.1
   rw [ek] at h_
   exact Kd.C_max (Kd.R_reads' h_).2.2
  by_cases hlt : j < ks.length
  ·have hd : ks.drop j = rdOf ByteArray.empty ks (j : Int) :: ks.drop (j + 1) := by
    rw [List.drop_eq_getElem_cons hlt]
    simp [rdOf, List.getD_eq_getElem?_getD, List.getElem?_eq_getElem hlt]
   have hA := HA.out
   rw [hd] at hA
   simp only [txReads] at hA
   obtain ⟨⟨v, p7⟩, h7, hA⟩ := Option.bind_eq_some_iff.1 hA
   obtain ⟨⟨s, th, p8⟩, h8, hA⟩ := Option.bind_eq_some_iff.1 hA
   dsimp only at hA h8
   have hlen : rs'.length < 1000000 := Decidable.byContradiction fun hn => by rw [if_neg hn] at hA; cases hA
   rw [if_pos hlen] at hA
   have H7 := Aside0.mk h7
   have H8 := Aside0.mk h8
   have HA2 := Aside0.mk hA
   have HLen := Aside0.mk hlen
   clear h7 h8 hA hlen HA hd
   repeat clear hA
   subst ek
   have p1 : 0 ≤ ((j : Int)) := by omega
   have q1 : ((j : Int)) < (ks.length : Int) := by omega
   obtain ⟨ad, e1, hx⟩ := Kd.at_string (Kd.R_reads' HS.out.2.2.1.1).2.2 (j : Int) p1 q1
   cases e1
   obtain ⟨x, hxe⟩ : ∃ x, rdOf ByteArray.empty ks (j : Int) = x := ⟨_, rfl⟩
   rw [hxe] at HA2
   have hkey : Aside0 (∀ (ok : Nat → Prop) (W : World) (pos : Int), TxSt ok w0 w W g gt w.heap.size s0_0 pos (wrap64 (1 + a)) (wrap64 (1 + b)) (.slice (some ad) ks.length ck) ks vr rs' (.slice none 0 0) [] → W.cell? (ad.add j) = some (.string x)) := ⟨fun _ _ _ h_ => by have h2_ := h_.key p1 q1; rw [hxe] at h2_; simpa using h2_⟩
   clear hx
   have hx := hkey.out _ _ _ HS.out
   have HSd := Aside0.mk HS.out.drew
   have H4a : Aside0 (gt ≠ wr.heap.size) := ⟨Nat.ne_of_lt (blk_lt HS.out.1.2.1)⟩
   have H4b : Aside0 (w.heap.size ≠ wr.heap.size) := ⟨Nat.ne_of_lt (blk_lt HS.out.1.2.2)⟩
   have H4c : Aside0 (w.heap.size ≤ wr.heap.size) := ⟨HS.out.2.2.2.2.1⟩
   have HNg : Aside0 (wr.heap.size ≠ g) := ⟨by have := HGW.out; have := H4c.out; omega⟩
   have HZ := Aside0.mk (blk_drew (heap_alloc_new wr (.cells #[.string ⟨#[]⟩, .int .i64 0, .string ⟨#[]⟩, .bool false] 24)))
   have HSb := Aside0.mk (HS.out.elder.alloc (.cells #[.string ⟨#[]⟩, .int .i64 0, .string ⟨#[]⟩, .bool false] 24))
   have HSa := Aside0.mk ((HS.out.elder.alloc (.cells #[.string ⟨#[]⟩, .int .i64 0, .string ⟨#[]⟩, .bool false] 24)).drew)
   obtain ⟨mm, hmm⟩ : ∃ m, mx a1 1 = m := ⟨_, rfl⟩
   rw [hmm] at H7
   have hmm_ : (if a1 < 1 then 1 else a1) = mm := hmm
   clear hxe
   go_wp2_with fail
   go_region_held3 (fun w' => w'.cell? (ad.add j) = some (.string x))
    (first | (apply hkey.out; (first | with_reducible exact HSd.out | with_reducible exact HSa.out | with_reducible exact HSb.out | with_reducible exact HS4.out | with_reducible exact HS4.out.alloc _ | (with_reducible refine TxSt.far (TxSt.far (TxSt.far (TxSt.far HS4.out H4a.out H4b.out H4c.out 0 _) H4a.out H4b.out H4c.out 1 _) H4a.out H4b.out H4c.out 2 _) H4a.out H4b.out H4c.out 3 _))))
    (first | (go_at_call 78; (with_reducible refine (TxSt.num HSd.out H7.out).mono ?_); rintro e w4 ⟨rfl, hS4, hk4⟩; have HS4 := Aside0.mk hS4; have HK4 := Aside0.mk hk4; clear hS4 hk4) | (go_at_call 78; (with_reducible refine (TxSt.num HSa.out H7.out).mono ?_); rintro e w4 ⟨rfl, hS4, hk4⟩; have hbx := hk4.blk HZ.out HNg.out (by simp); have HS4 := Aside0.mk hS4; have HK4 := Aside0.mk hk4; clear hS4 hk4; have hf40 := blk_frozen hbx 0; have hf41 := blk_frozen hbx 1; have hf42 := blk_frozen hbx 2; have hf43 := blk_frozen hbx 3; have hc40 := (blk_cell hbx 0).trans rfl; have hc41 := (blk_cell hbx 1).trans rfl; have hc42 := (blk_cell hbx 2).trans rfl; have hc43 := (blk_cell hbx 3).trans rfl; have HBX := Aside0.mk hbx; clear hbx))
   ·have HX := Aside0.mk (heap_alloc_new w4 (.cells #[.string x, .int .i64 v, .string ⟨#[]⟩, .bool false] 24))
    have HSX := Aside0.mk (HS4.out.elder.alloc (.cells #[.string x, .int .i64 v, .string ⟨#[]⟩, .bool false] 24))
    have HXa : Aside0 (gt ≠ w4.heap.size) := ⟨Nat.ne_of_lt (blk_lt HS4.out.1.2.1)⟩
    have HXb : Aside0 (w.heap.size ≠ w4.heap.size) := ⟨Nat.ne_of_lt (blk_lt HS4.out.1.2.2)⟩
    have HXc : Aside0 (w.heap.size ≤ w4.heap.size) := ⟨HS4.out.2.2.2.2.1⟩
    generalize w4.alloc (.cells #[.string x, .int .i64 v, .string ⟨#[]⟩, .bool false] 24) = W at HX HSX ⊢
    generalize w4.heap.size = gx at HX HSX HXa HXb HXc ⊢
    clear HZ HSb HSa HSd H4a H4b H4c HNg hkey hx HS4 HK4
    (try clear hHeld)
    have hgx : gx ≠ g := by have := HGW.out; have := HXc.out; omega
    have h8 := H8.out
    unfold txThere at h8
    have hx1 := (blk_cell HX.out 1).trans rfl
    by_cases hv : 0 < v
    ·rw [if_pos hv] at h8
     have hvd : decide (0 < v) = true := decide_eq_true hv
     obtain ⟨⟨q, p9⟩, h9, h8⟩ := Option.bind_eq_some_iff.1 h8
     have H9 := Aside0.mk h9
     clear h9 hv
     go_wp2_with fail
     refine (TxSt.num HSX.out H9.out).mono ?_
     rintro e w9 ⟨rfl, hS9, hk9⟩
     have HX9 := Aside0.mk (hk9.blk HX.out hgx (by simp))
     have HS9 := Aside0.mk hS9
     clear hS9 hk9 HX HSX hx1
     by_cases hq : 0 < q
     ·rw [if_pos hq] at h8
      have hqd : decide (0 < q) = true := decide_eq_true hq
      obtain ⟨⟨sv, p10⟩, h10, h8⟩ := Option.bind_eq_some_iff.1 h8
      simp only [Option.some.injEq, Prod.mk.injEq] at h8
      obtain ⟨rfl, rfl, rfl⟩ := h8
      have H10 := Aside0.mk h10
      clear h10 hq
      go_wp2_with fail
      refine (TxSt.val HS9.out H10.out).mono ?_
      rintro e w11 ⟨rfl, hS11, hk11⟩
      have hX11 := hk11.blk HX9.out hgx (by simp)
      have hfx2 := blk_frozen hX11 2
      have hfx3 := blk_frozen hX11 3
      have hcx2 := (blk_cell hX11 2).trans rfl
      have hcx3 := (blk_cell hX11 3).trans rfl
      have HX11 : Aside0 (((w11.setCell ⟨gx, 3, none⟩ (.bool true)).setCell ⟨gx, 2, none⟩ (.string sv)).heap[gx]? = some (.cells #[.string x, .int .i64 v, .string sv, .bool true] 24 (0, 0))) := ⟨by have h_ := blk_set (blk_set hX11 3 (.bool true)) 2 (.string sv); simpa using h_⟩
      have HS11 := Aside0.mk (TxSt.far (TxSt.far hS11 HXa.out HXb.out HXc.out 3 (.bool true)) HXa.out HXb.out HXc.out 2 (.string sv))
      clear hS11 hk11 hX11 HX9 HS9
      have hy0 := (blk_cell HX11.out 0).trans rfl
      have hy1 := (blk_cell HX11.out 1).trans rfl
      have hy2 := (blk_cell HX11.out 2).trans rfl
      have hy3 := (blk_cell HX11.out 3).trans rfl
      have hy4 := (blk_cell HS11.out.1.2.1 2).trans rfl
      go_wp2_with (first | ((with_reducible refine gate_builtin (b := .append) (xs := #[.tmp 49, .tmp 51]) rfl ?_); at_builtin; refine Kd.R_append k24 w.heap.size rfl (.tmp 49) (.tmp 51) 25 24 (.agg #[(.string ⟨#[]⟩), (.int .i64 0), (.string ⟨#[]⟩), (.bool false)]) 48 rfl Try.underlying25 info24 rfl (by decide) (by omega) vr rs' (⟨x, v, sv, true⟩ : S24) [.string x, .int .i64 v, .string sv, .bool true] (fun k_ => k_ ≠ gx) (fun _ => False) rfl (by first | (go_simp; done) | (go_simp; rfl)) (k24_mkM _ _ _ (⟨x, v, sv, true⟩ : S24)) (fun _ hk => hk.elim) (fun k_ hk => by have := blk_lt HX11.out; omega) HS11.out.2.2.1.2.1 (Below.refl _ _) HS11.out.2.2.2.2.1 (by have := HLen.out; omega) ?_; intro v1 w10 ho hb hg hat; obtain ⟨Av, cv, rfl⟩ := Kd.R_slice ho; have HO := Aside0.mk ho; have HB10 := Aside0.mk (TxSt.grown_r HS11.out hg); have HG := Aside0.mk hg; have hf10 := blk_frozen (blk_grown HS11.out.1.2.1 hg (Kd.R_ne HS11.out.2.2.1.2.1 HS11.out.1.2.1 (by decide))) 2; have hc10 := (blk_cell (blk_grown HS11.out.1.2.1 hg (Kd.R_ne HS11.out.2.2.1.2.1 HS11.out.1.2.1 (by decide))) 2).trans rfl; clear ho hb hg hat hy0 hy1 hy2 hy3 hy4))
      have HS12 := Aside0.mk ((HS11.out.put_r HO.out HB10.out HG.out).mono (ok' := fun _ => True) (fun _ _ => trivial))
      clear HO HB10 HG hf10 hc10
      go_roundw
      case rel => exact ⟨j + 1, p10, _, _, by omega, by go_num, HA2, ⟨by have h_ := HS12.out; simp only [List.length_append, List.length_singleton] at h_; exact h_⟩⟩
      case measure => simp [intOf]; omega
     ·rw [if_neg hq] at h8
      have hqd : decide (0 < q) = false := decide_eq_false hq
      simp only [Option.some.injEq, Prod.mk.injEq] at h8
      obtain ⟨rfl, rfl, rfl⟩ := h8
      have hy0 := (blk_cell HX9.out 0).trans rfl
      have hy1 := (blk_cell HX9.out 1).trans rfl
      have hy2 := (blk_cell HX9.out 2).trans rfl
      have hy3 := (blk_cell HX9.out 3).trans rfl
      have hy4 := (blk_cell HS9.out.1.2.1 2).trans rfl
      go_wp2_with (first | ((with_reducible refine gate_builtin (b := .append) (xs := #[.tmp 49, .tmp 51]) rfl ?_); at_builtin; refine Kd.R_append k24 w.heap.size rfl (.tmp 49) (.tmp 51) 25 24 (.agg #[(.string ⟨#[]⟩), (.int .i64 0), (.string ⟨#[]⟩), (.bool false)]) 48 rfl Try.underlying25 info24 rfl (by decide) (by omega) vr rs' (⟨x, v, ⟨#[]⟩, false⟩ : S24) [.string x, .int .i64 v, .string ⟨#[]⟩, .bool false] (fun k_ => k_ ≠ gx) (fun _ => False) rfl (by first | (go_simp; done) | (go_simp; rfl)) (k24_mkM _ _ _ (⟨x, v, ⟨#[]⟩, false⟩ : S24)) (fun _ hk => hk.elim) (fun k_ hk => by have := blk_lt HX9.out; omega) HS9.out.2.2.1.2.1 (Below.refl _ _) HS9.out.2.2.2.2.1 (by have := HLen.out; omega) ?_; intro v1 w10 ho hb hg hat; obtain ⟨Av, cv, rfl⟩ := Kd.R_slice ho; have HO := Aside0.mk ho; have HB10 := Aside0.mk (TxSt.grown_r HS9.out hg); have HG := Aside0.mk hg; have hf10 := blk_frozen (blk_grown HS9.out.1.2.1 hg (Kd.R_ne HS9.out.2.2.1.2.1 HS9.out.1.2.1 (by decide))) 2; have hc10 := (blk_cell (blk_grown HS9.out.1.2.1 hg (Kd.R_ne HS9.out.2.2.1.2.1 HS9.out.1.2.1 (by decide))) 2).trans rfl; clear ho hb hg hat hy0 hy1 hy2 hy3 hy4))
      have HS12 := Aside0.mk ((HS9.out.put_r HO.out HB10.out HG.out).mono (ok' := fun _ => True) (fun _ _ => trivial))
      clear HO HB10 HG hf10 hc10
      go_roundw
      case rel => exact ⟨j + 1, p9, _, _, by omega, by go_num, HA2, ⟨by have h_ := HS12.out; simp only [List.length_append, List.length_singleton] at h_; exact h_⟩⟩
      case measure => simp [intOf]; omega
    ·rw [if_neg hv] at h8
     have hvd : decide (0 < v) = false := decide_eq_false hv
     simp only [Option.some.injEq, Prod.mk.injEq] at h8
     obtain ⟨rfl, rfl, rfl⟩ := h8
     clear hx1
     have hy0 := (blk_cell HX.out 0).trans rfl
     have hy1 := (blk_cell HX.out 1).trans rfl
     have hy2 := (blk_cell HX.out 2).trans rfl
     have hy3 := (blk_cell HX.out 3).trans rfl
     have hy4 := (blk_cell HSX.out.1.2.1 2).trans rfl
     go_wp2_with (first | ((with_reducible refine gate_builtin (b := .append) (xs := #[.tmp 49, .tmp 51]) rfl ?_); at_builtin; refine Kd.R_append k24 w.heap.size rfl (.tmp 49) (.tmp 51) 25 24 (.agg #[(.string ⟨#[]⟩), (.int .i64 0), (.string ⟨#[]⟩), (.bool false)]) 48 rfl Try.underlying25 info24 rfl (by decide) (by omega) vr rs' (⟨x, v, ⟨#[]⟩, false⟩ : S24) [.string x, .int .i64 v, .string ⟨#[]⟩, .bool false] (fun k_ => k_ ≠ gx) (fun _ => False) rfl (by first | (go_simp; done) | (go_simp; rfl)) (k24_mkM _ _ _ (⟨x, v, ⟨#[]⟩, false⟩ : S24)) (fun _ hk => hk.elim) (fun k_ hk => by have := blk_lt HX.out; omega) HSX.out.2.2.1.2.1 (Below.refl _ _) HSX.out.2.2.2.2.1 (by have := HLen.out; omega) ?_; intro v1 w10 ho hb hg hat; obtain ⟨Av, cv, rfl⟩ := Kd.R_slice ho; have HO := Aside0.mk ho; have HB10 := Aside0.mk (TxSt.grown_r HSX.out hg); have HG := Aside0.mk hg; have hf10 := blk_frozen (blk_grown HSX.out.1.2.1 hg (Kd.R_ne HSX.out.2.2.1.2.1 HSX.out.1.2.1 (by decide))) 2; have hc10 := (blk_cell (blk_grown HSX.out.1.2.1 hg (Kd.R_ne HSX.out.2.2.1.2.1 HSX.out.1.2.1 (by decide))) 2).trans rfl; clear ho hb hg hat hy0 hy1 hy2 hy3 hy4))
     have HS12 := Aside0.mk ((HSX.out.put_r HO.out HB10.out HG.out).mono (ok' := fun _ => True) (fun _ _ => trivial))
     clear HO HB10 HG hf10 hc10
     go_roundw
     case rel => exact ⟨j + 1, p7, _, _, by omega, by go_num, HA2, ⟨by have h_ := HS12.out; simp only [List.length_append, List.length_singleton] at h_; exact h_⟩⟩
     case measure => simp [intOf]; omega
   all_goals
    have HX : Aside0 (((((w4.setCell ⟨wr.heap.size, 0, none⟩ (.string x)).setCell ⟨wr.heap.size, 1, none⟩ (.int .i64 v)).setCell ⟨wr.heap.size, 2, none⟩ (.string ⟨#[]⟩)).setCell ⟨wr.heap.size, 3, none⟩ (.bool false)).heap[wr.heap.size]? = some (.cells #[.string x, .int .i64 v, .string ⟨#[]⟩, .bool false] 24 (0, 0))) := ⟨by have h_ := blk_set (blk_set (blk_set (blk_set HBX.out 0 (.string x)) 1 (.int .i64 v)) 2 (.string ⟨#[]⟩)) 3 (.bool false); simpa using h_⟩
    have HSX := Aside0.mk (TxSt.far (TxSt.far (TxSt.far (TxSt.far HS4.out H4a.out H4b.out H4c.out 0 (.string x)) H4a.out H4b.out H4c.out 1 (.int .i64 v)) H4a.out H4b.out H4c.out 2 (.string ⟨#[]⟩)) H4a.out H4b.out H4c.out 3 (.bool false))
    have HXa := H4a
    have HXb := H4b
    have HXc := H4c
    clear hf40 hf41 hf42 hf43 hc40 hc41 hc42 hc43 HBX
    clear HZ HSb HSa HSd H4a H4b H4c HNg hkey hx HS4 HK4
    (try clear hHeld)
    have hgx : wr.heap.size ≠ g := by have := HGW.out; have := HXc.out; omega
    have h8 := H8.out
    unfold txThere at h8
    have hx1 := (blk_cell HX.out 1).trans rfl
    by_cases hv : 0 < v
    ·rw [if_pos hv] at h8
     have hvd : decide (0 < v) = true := decide_eq_true hv
     obtain ⟨⟨q, p9⟩, h9, h8⟩ := Option.bind_eq_some_iff.1 h8
     have H9 := Aside0.mk h9
     clear h9 hv
     go_wp2_with fail
     refine (TxSt.num HSX.out H9.out).mono ?_
     rintro e w9 ⟨rfl, hS9, hk9⟩
     have HX9 := Aside0.mk (hk9.blk HX.out hgx (by simp))
     have HS9 := Aside0.mk hS9
     clear hS9 hk9 HX HSX hx1
     by_cases hq : 0 < q
     ·rw [if_pos hq] at h8
      have hqd : decide (0 < q) = true := decide_eq_true hq
      obtain ⟨⟨sv, p10⟩, h10, h8⟩ := Option.bind_eq_some_iff.1 h8
      simp only [Option.some.injEq, Prod.mk.injEq] at h8
      obtain ⟨rfl, rfl, rfl⟩ := h8
      have H10 := Aside0.mk h10
      clear h10 hq
      go_wp2_with fail
      refine (TxSt.val HS9.out H10.out).mono ?_
      rintro e w11 ⟨rfl, hS11, hk11⟩
      have hX11 := hk11.blk HX9.out hgx (by simp)
      have hfx2 := blk_frozen hX11 2
      have hfx3 := blk_frozen hX11 3
      have hcx2 := (blk_cell hX11 2).trans rfl
      have hcx3 := (blk_cell hX11 3).trans rfl
      have HX11 : Aside0 (((w11.setCell ⟨wr.heap.size, 3, none⟩ (.bool true)).setCell ⟨wr.heap.size, 2, none⟩ (.string sv)).heap[wr.heap.size]? = some (.cells #[.string x, .int .i64 v, .string sv, .bool true] 24 (0, 0))) := ⟨by have h_ := blk_set (blk_set hX11 3 (.bool true)) 2 (.string sv); simpa using h_⟩
      have HS11 := Aside0.mk (TxSt.far (TxSt.far hS11 HXa.out HXb.out HXc.out 3 (.bool true)) HXa.out HXb.out HXc.out 2 (.string sv))
      clear hS11 hk11 hX11 HX9 HS9
      have hy0 := (blk_cell HX11.out 0).trans rfl
      have hy1 := (blk_cell HX11.out 1).trans rfl
      have hy2 := (blk_cell HX11.out 2).trans rfl
      have hy3 := (blk_cell HX11.out 3).trans rfl
      have hy4 := (blk_cell HS11.out.1.2.1 2).trans rfl
      go_wp2_with (first | ((with_reducible refine gate_builtin (b := .append) (xs := #[.tmp 49, .tmp 51]) rfl ?_); at_builtin; refine Kd.R_append k24 w.heap.size rfl (.tmp 49) (.tmp 51) 25 24 (.agg #[(.string ⟨#[]⟩), (.int .i64 0), (.string ⟨#[]⟩), (.bool false)]) 48 rfl Try.underlying25 info24 rfl (by decide) (by omega) vr rs' (⟨x, v, sv, true⟩ : S24) [.string x, .int .i64 v, .string sv, .bool true] (fun k_ => k_ ≠ wr.heap.size) (fun _ => False) rfl (by first | (go_simp; done) | (go_simp; rfl)) (k24_mkM _ _ _ (⟨x, v, sv, true⟩ : S24)) (fun _ hk => hk.elim) (fun k_ hk => by have := blk_lt HX11.out; omega) HS11.out.2.2.1.2.1 (Below.refl _ _) HS11.out.2.2.2.2.1 (by have := HLen.out; omega) ?_; intro v1 w10 ho hb hg hat; obtain ⟨Av, cv, rfl⟩ := Kd.R_slice ho; have HO := Aside0.mk ho; have HB10 := Aside0.mk (TxSt.grown_r HS11.out hg); have HG := Aside0.mk hg; have hf10 := blk_frozen (blk_grown HS11.out.1.2.1 hg (Kd.R_ne HS11.out.2.2.1.2.1 HS11.out.1.2.1 (by decide))) 2; have hc10 := (blk_cell (blk_grown HS11.out.1.2.1 hg (Kd.R_ne HS11.out.2.2.1.2.1 HS11.out.1.2.1 (by decide))) 2).trans rfl; clear ho hb hg hat hy0 hy1 hy2 hy3 hy4))
      have HS12 := Aside0.mk ((HS11.out.put_r HO.out HB10.out HG.out).mono (ok' := fun _ => True) (fun _ _ => trivial))
      clear HO HB10 HG hf10 hc10
      go_roundw
      case rel => exact ⟨j + 1, p10, _, _, by omega, by go_num, HA2, ⟨by have h_ := HS12.out; simp only [List.length_append, List.length_singleton] at h_; exact h_⟩⟩
      case measure => simp [intOf]; omega
     ·rw [if_neg hq] at h8
      have hqd : decide (0 < q) = false := decide_eq_false hq
      simp only [Option.some.injEq, Prod.mk.injEq] at h8
      obtain ⟨rfl, rfl, rfl⟩ := h8
      have hy0 := (blk_cell HX9.out 0).trans rfl
      have hy1 := (blk_cell HX9.out 1).trans rfl
      have hy2 := (blk_cell HX9.out 2).trans rfl
      have hy3 := (blk_cell HX9.out 3).trans rfl
      have hy4 := (blk_cell HS9.out.1.2.1 2).trans rfl
      go_wp2_with (first | ((with_reducible refine gate_builtin (b := .append) (xs := #[.tmp 49, .tmp 51]) rfl ?_); at_builtin; refine Kd.R_append k24 w.heap.size rfl (.tmp 49) (.tmp 51) 25 24 (.agg #[(.string ⟨#[]⟩), (.int .i64 0), (.string ⟨#[]⟩), (.bool false)]) 48 rfl Try.underlying25 info24 rfl (by decide) (by omega) vr rs' (⟨x, v, ⟨#[]⟩, false⟩ : S24) [.string x, .int .i64 v, .string ⟨#[]⟩, .bool false] (fun k_ => k_ ≠ wr.heap.size) (fun _ => False) rfl (by first | (go_simp; done) | (go_simp; rfl)) (k24_mkM _ _ _ (⟨x, v, ⟨#[]⟩, false⟩ : S24)) (fun _ hk => hk.elim) (fun k_ hk => by have := blk_lt HX9.out; omega) HS9.out.2.2.1.2.1 (Below.refl _ _) HS9.out.2.2.2.2.1 (by have := HLen.out; omega) ?_; intro v1 w10 ho hb hg hat; obtain ⟨Av, cv, rfl⟩ := Kd.R_slice ho; have HO := Aside0.mk ho; have HB10 := Aside0.mk (TxSt.grown_r HS9.out hg); have HG := Aside0.mk hg; have hf10 := blk_frozen (blk_grown HS9.out.1.2.1 hg (Kd.R_ne HS9.out.2.2.1.2.1 HS9.out.1.2.1 (by decide))) 2; have hc10 := (blk_cell (blk_grown HS9.out.1.2.1 hg (Kd.R_ne HS9.out.2.2.1.2.1 HS9.out.1.2.1 (by decide))) 2).trans rfl; clear ho hb hg hat hy0 hy1 hy2 hy3 hy4))
      have HS12 := Aside0.mk ((HS9.out.put_r HO.out HB10.out HG.out).mono (ok' := fun _ => True) (fun _ _ => trivial))
      clear HO HB10 HG hf10 hc10
      go_roundw
      case rel => exact ⟨j + 1, p9, _, _, by omega, by go_num, HA2, ⟨by have h_ := HS12.out; simp only [List.length_append, List.length_singleton] at h_; exact h_⟩⟩
      case measure => simp [intOf]; omega
    ·rw [if_neg hv] at h8
     have hvd : decide (0 < v) = false := decide_eq_false hv
     simp only [Option.some.injEq, Prod.mk.injEq] at h8
     obtain ⟨rfl, rfl, rfl⟩ := h8
     clear hx1
     have hy0 := (blk_cell HX.out 0).trans rfl
     have hy1 := (blk_cell HX.out 1).trans rfl
     have hy2 := (blk_cell HX.out 2).trans rfl
     have hy3 := (blk_cell HX.out 3).trans rfl
     have hy4 := (blk_cell HSX.out.1.2.1 2).trans rfl
     go_wp2_with (first | ((with_reducible refine gate_builtin (b := .append) (xs := #[.tmp 49, .tmp 51]) rfl ?_); at_builtin; refine Kd.R_append k24 w.heap.size rfl (.tmp 49) (.tmp 51) 25 24 (.agg #[(.string ⟨#[]⟩), (.int .i64 0), (.string ⟨#[]⟩), (.bool false)]) 48 rfl Try.underlying25 info24 rfl (by decide) (by omega) vr rs' (⟨x, v, ⟨#[]⟩, false⟩ : S24) [.string x, .int .i64 v, .string ⟨#[]⟩, .bool false] (fun k_ => k_ ≠ wr.heap.size) (fun _ => False) rfl (by first | (go_simp; done) | (go_simp; rfl)) (k24_mkM _ _ _ (⟨x, v, ⟨#[]⟩, false⟩ : S24)) (fun _ hk => hk.elim) (fun k_ hk => by have := blk_lt HX.out; omega) HSX.out.2.2.1.2.1 (Below.refl _ _) HSX.out.2.2.2.2.1 (by have := HLen.out; omega) ?_; intro v1 w10 ho hb hg hat; obtain ⟨Av, cv, rfl⟩ := Kd.R_slice ho; have HO := Aside0.mk ho; have HB10 := Aside0.mk (TxSt.grown_r HSX.out hg); have HG := Aside0.mk hg; have hf10 := blk_frozen (blk_grown HSX.out.1.2.1 hg (Kd.R_ne HSX.out.2.2.1.2.1 HSX.out.1.2.1 (by decide))) 2; have hc10 := (blk_cell (blk_grown HSX.out.1.2.1 hg (Kd.R_ne HSX.out.2.2.1.2.1 HSX.out.1.2.1 (by decide))) 2).trans rfl; clear ho hb hg hat hy0 hy1 hy2 hy3 hy4))
     have HS12 := Aside0.mk ((HSX.out.put_r HO.out HB10.out HG.out).mono (ok' := fun _ => True) (fun _ _ => trivial))
     clear HO HB10 HG hf10 hc10
     go_roundw
     case rel => exact ⟨j + 1, p7, _, _, by omega, by go_num, HA2, ⟨by have h_ := HS12.out; simp only [List.length_append, List.length_singleton] at h_; exact h_⟩⟩
     case measure => simp [intOf]; omega
  ·have hjl : j = ks.length := by omega
   have hA := HA.out
   rw [hjl, List.drop_length] at hA
   simp only [txReads, Option.some.injEq, Prod.mk.injEq] at hA
   obtain ⟨rfl, rfl⟩ := hA
   have hd1 : decide (j < ks.length) = false := decide_eq_false hlt
   clear HA hjl
   subst ek
   go_wp2_with fail
   refine (TxSt.keys HS.out H5.out).mono ?_
   rintro e w20 ⟨vq, rfl, hS⟩
   have HS20 := Aside0.mk hS
   clear hS HS hd1 hlt hj hm
   go_wp2_with fail
   go_loopw [10] (fun v10 w' => ∃ (i2 : Nat) (pos2 : Int) (vw : Value) (ws' : List (S27)), i2 ≤ kw.length ∧ v10 = .int .i64 i2 ∧ Aside0 (txWrites s0_0 (kw.drop i2) pos2 ws' = some (ws, p6)) ∧ Aside0 (TxSt (fun _ => True) w0 w w' g gt w.heap.size s0_0 pos2 (wrap64 (1 + a)) (wrap64 (1 + b)) vq kw vr rs' vw ws')) (fun v10 _ => kw.length - (intOf v10).toNat)
   case atStart => exact ⟨0, p5, _, [], Nat.zero_le _, rfl, ⟨by simpa using H6.out⟩, HS20⟩
   case round =>
    clear H5 H6 HS20
    obtain ⟨i2, pos2, vw, ws', hj, rfl, HA, HS⟩ := hrel
    obtain ⟨Ak, ck, ek⟩ := Kd.R_slice HS.out.2.2.1.1
    have hm : kw.length ≤ 9223372036854775807 := by
     have h_ := HS.out.2.2.1.1
     rw [ek] at h_
     exact Kd.C_max (Kd.R_reads' h_).2.2
    by_cases hlt : i2 < kw.length
    ·have hd : kw.drop i2 = rdOf ByteArray.empty kw (i2 : Int) :: kw.drop (i2 + 1) := by
      rw [List.drop_eq_getElem_cons hlt]
      simp [rdOf, List.getD_eq_getElem?_getD, List.getElem?_eq_getElem hlt]
     have hA := HA.out
     rw [hd] at hA
     simp only [txWrites] at hA
     obtain ⟨⟨v, p7⟩, h7, hA⟩ := Option.bind_eq_some_iff.1 hA
     obtain ⟨⟨q, p8⟩, h8, hA⟩ := Option.bind_eq_some_iff.1 hA
     dsimp only at hA h8
     have hlen : ws'.length < 1000000 := Decidable.byContradiction fun hn => by rw [if_neg hn] at hA; cases hA
     rw [if_pos hlen] at hA
     have H7 := Aside0.mk h7
     have H8 := Aside0.mk h8
     have HLen := Aside0.mk hlen
     have hA2 := hA
     clear h7 h8 hlen HA hd hA
     repeat clear hA
     subst ek
     have p1 : 0 ≤ ((i2 : Int)) := by omega
     have q1 : ((i2 : Int)) < (kw.length : Int) := by omega
     obtain ⟨ad, e1, hx⟩ := Kd.at_string (Kd.R_reads' HS.out.2.2.1.1).2.2 (i2 : Int) p1 q1
     cases e1
     obtain ⟨x, hxe⟩ : ∃ x, rdOf ByteArray.empty kw (i2 : Int) = x := ⟨_, rfl⟩
     rw [hxe] at hA2
     have hkey : Aside0 (∀ (ok : Nat → Prop) (W : World) (pos : Int), TxSt ok w0 w W g gt w.heap.size s0_0 pos (wrap64 (1 + a)) (wrap64 (1 + b)) (.slice (some ad) kw.length ck) kw vr rs' vw ws' → W.cell? (ad.add i2) = some (.string x)) := ⟨fun _ _ _ h_ => by have h2_ := h_.key p1 q1; rw [hxe] at h2_; simpa using h2_⟩
     clear hx
     have hx := hkey.out _ _ _ HS.out
     have HSd := Aside0.mk HS.out.drew
     have H4a : Aside0 (gt ≠ wr.heap.size) := ⟨Nat.ne_of_lt (blk_lt HS.out.1.2.1)⟩
     have H4b : Aside0 (w.heap.size ≠ wr.heap.size) := ⟨Nat.ne_of_lt (blk_lt HS.out.1.2.2)⟩
     have H4c : Aside0 (w.heap.size ≤ wr.heap.size) := ⟨HS.out.2.2.2.2.1⟩
     have HNg : Aside0 (wr.heap.size ≠ g) := ⟨by have := HGW.out; have := H4c.out; omega⟩
     have HZ := Aside0.mk (blk_drew (heap_alloc_new wr (.cells #[.string ⟨#[]⟩, .string ⟨#[]⟩, .bool false] 27)))
     have HSb := Aside0.mk (HS.out.elder.alloc (.cells #[.string ⟨#[]⟩, .string ⟨#[]⟩, .bool false] 27))
     have HSa := Aside0.mk ((HS.out.elder.alloc (.cells #[.string ⟨#[]⟩, .string ⟨#[]⟩, .bool false] 27)).drew)
     have HA2 := hA2
     clear hxe
     have HAA := Aside0.mk hA2
     clear HA2 hA2
     go_wp2_with fail
     go_region_held3 (fun w' => w'.cell? (ad.add i2) = some (.string x))
      (first | (apply hkey.out; (first | with_reducible exact HSd.out | with_reducible exact HSa.out | with_reducible exact HSb.out | with_reducible exact HS4.out | with_reducible exact HS4.out.alloc _ | (with_reducible refine TxSt.far (TxSt.far (TxSt.far HS4.out H4a.out H4b.out H4c.out 0 _) H4a.out H4b.out H4c.out 1 _) H4a.out H4b.out H4c.out 2 _))))
      (first | (go_at_call 80; (with_reducible refine (TxSt.val HSd.out H7.out).mono ?_); rintro e w4 ⟨rfl, hS4, hk4⟩; have HS4 := Aside0.mk hS4; have HK4 := Aside0.mk hk4; clear hS4 hk4) | (go_at_call 80; (with_reducible refine (TxSt.val HSa.out H7.out).mono ?_); rintro e w4 ⟨rfl, hS4, hk4⟩; have hbx := hk4.blk HZ.out HNg.out (by simp); have HS4 := Aside0.mk hS4; have HK4 := Aside0.mk hk4; clear hS4 hk4; have hf40 := blk_frozen hbx 0; have hf41 := blk_frozen hbx 1; have hf42 := blk_frozen hbx 2; have hc40 := (blk_cell hbx 0).trans rfl; have hc41 := (blk_cell hbx 1).trans rfl; have hc42 := (blk_cell hbx 2).trans rfl; have HBX := Aside0.mk hbx; clear hbx))
     ·have HX := Aside0.mk (heap_alloc_new w4 (.cells #[.string x, .string v, .bool false] 27))
      have HSX := Aside0.mk (HS4.out.elder.alloc (.cells #[.string x, .string v, .bool false] 27))
      have HXa : Aside0 (gt ≠ w4.heap.size) := ⟨Nat.ne_of_lt (blk_lt HS4.out.1.2.1)⟩
      have HXb : Aside0 (w.heap.size ≠ w4.heap.size) := ⟨Nat.ne_of_lt (blk_lt HS4.out.1.2.2)⟩
      have HXc : Aside0 (w.heap.size ≤ w4.heap.size) := ⟨HS4.out.2.2.2.2.1⟩
      generalize w4.alloc (.cells #[.string x, .string v, .bool false] 27) = W at HX HSX ⊢
      generalize w4.heap.size = gx at HX HSX HXa HXb HXc ⊢
      clear HZ HSb HSa HSd H4a H4b H4c HNg hkey hx HS4 HK4
      (try clear hHeld)
      have hgx : gx ≠ g := by have := HGW.out; have := HXc.out; omega
      go_wp2_with fail
      refine (TxSt.num HSX.out H8.out).mono ?_
      rintro e w11 ⟨rfl, hS11, hk11⟩
      have hX11 := hk11.blk HX.out hgx (by simp)
      by_cases hq : q = 0
      ·have HA2 := Aside0.mk (by have h_ := HAA.out; rw [if_pos hq] at h_; exact h_)
       have hqd : (q == 0) = true := by simp [hq]
       have hfx1 := blk_frozen hX11 1
       have hfx2 := blk_frozen hX11 2
       have hcx1 := (blk_cell hX11 1).trans rfl
       have hcx2 := (blk_cell hX11 2).trans rfl
       have HX11 : Aside0 (((w11.setCell ⟨gx, 2, none⟩ (.bool true)).setCell ⟨gx, 1, none⟩ (.string ⟨#[]⟩)).heap[gx]? = some (.cells #[.string x, .string ⟨#[]⟩, .bool true] 27 (0, 0))) := ⟨by have h_ := blk_set (blk_set hX11 2 (.bool true)) 1 (.string ⟨#[]⟩); simpa using h_⟩
       have HS11 := Aside0.mk (TxSt.far (TxSt.far hS11 HXa.out HXb.out HXc.out 2 (.bool true)) HXa.out HXb.out HXc.out 1 (.string ⟨#[]⟩))
       clear hS11 hk11 hX11 HX HSX hq
       have hy0 := (blk_cell HX11.out 0).trans rfl
       have hy1 := (blk_cell HX11.out 1).trans rfl
       have hy2 := (blk_cell HX11.out 2).trans rfl
       have hy4 := (blk_cell HS11.out.1.2.1 3).trans rfl
       go_wp2_with (first | ((with_reducible refine gate_builtin (b := .append) (xs := #[.tmp 75, .tmp 77]) rfl ?_); at_builtin; refine Kd.R_append k27 w.heap.size rfl (.tmp 75) (.tmp 77) 28 27 (.agg #[(.string ⟨#[]⟩), (.string ⟨#[]⟩), (.bool false)]) 40 rfl Try.underlying28 info27 rfl (by decide) (by omega) vw ws' (⟨x, ⟨#[]⟩, true⟩ : S27) [.string x, .string ⟨#[]⟩, .bool true] (fun k_ => k_ ≠ gx) (fun _ => False) rfl (by first | (go_simp; done) | (go_simp; rfl)) (k27_mkM _ _ _ (⟨x, ⟨#[]⟩, true⟩ : S27)) (fun _ hk => hk.elim) (fun k_ hk => by have := blk_lt HX11.out; omega) HS11.out.2.2.1.2.2 (Below.refl _ _) HS11.out.2.2.2.2.1 (by have := HLen.out; omega) ?_; intro v1 w10 ho hb hg hat; obtain ⟨Av, cv, rfl⟩ := Kd.R_slice ho; have HO := Aside0.mk ho; have HB10 := Aside0.mk (TxSt.grown_w HS11.out hg); have HG := Aside0.mk hg; have hf10 := blk_frozen (blk_grown HS11.out.1.2.1 hg (Kd.R_ne HS11.out.2.2.1.2.2 HS11.out.1.2.1 (by decide))) 3; have hc10 := (blk_cell (blk_grown HS11.out.1.2.1 hg (Kd.R_ne HS11.out.2.2.1.2.2 HS11.out.1.2.1 (by decide))) 3).trans rfl; clear ho hb hg hat hy0 hy1 hy2 hy4))
       have HS12 := Aside0.mk ((HS11.out.put_w HO.out HB10.out HG.out).mono (ok' := fun _ => True) (fun _ _ => trivial))
       clear HO HB10 HG hf10 hc10
       go_roundw
       case rel => exact ⟨i2 + 1, p8, _, _, by omega, by go_num, HA2, ⟨by have h_ := HS12.out; simp only [List.length_append, List.length_singleton] at h_; exact h_⟩⟩
       case measure => simp [intOf]; omega
      ·have HA2 := Aside0.mk (by have h_ := HAA.out; rw [if_neg hq] at h_; exact h_)
       have hqd : (q == 0) = false := by simp [hq]
       have HX11 := Aside0.mk hX11
       have HS11 := Aside0.mk hS11
       clear hS11 hk11 hX11 HX HSX hq
       have hy0 := (blk_cell HX11.out 0).trans rfl
       have hy1 := (blk_cell HX11.out 1).trans rfl
       have hy2 := (blk_cell HX11.out 2).trans rfl
       have hy4 := (blk_cell HS11.out.1.2.1 3).trans rfl
       go_wp2_with (first | ((with_reducible refine gate_builtin (b := .append) (xs := #[.tmp 75, .tmp 77]) rfl ?_); at_builtin; refine Kd.R_append k27 w.heap.size rfl (.tmp 75) (.tmp 77) 28 27 (.agg #[(.string ⟨#[]⟩), (.string ⟨#[]⟩), (.bool false)]) 40 rfl Try.underlying28 info27 rfl (by decide) (by omega) vw ws' (⟨x, v, false⟩ : S27) [.string x, .string v, .bool false] (fun k_ => k_ ≠ gx) (fun _ => False) rfl (by first | (go_simp; done) | (go_simp; rfl)) (k27_mkM _ _ _ (⟨x, v, false⟩ : S27)) (fun _ hk => hk.elim) (fun k_ hk => by have := blk_lt HX11.out; omega) HS11.out.2.2.1.2.2 (Below.refl _ _) HS11.out.2.2.2.2.1 (by have := HLen.out; omega) ?_; intro v1 w10 ho hb hg hat; obtain ⟨Av, cv, rfl⟩ := Kd.R_slice ho; have HO := Aside0.mk ho; have HB10 := Aside0.mk (TxSt.grown_w HS11.out hg); have HG := Aside0.mk hg; have hf10 := blk_frozen (blk_grown HS11.out.1.2.1 hg (Kd.R_ne HS11.out.2.2.1.2.2 HS11.out.1.2.1 (by decide))) 3; have hc10 := (blk_cell (blk_grown HS11.out.1.2.1 hg (Kd.R_ne HS11.out.2.2.1.2.2 HS11.out.1.2.1 (by decide))) 3).trans rfl; clear ho hb hg hat hy0 hy1 hy2 hy4))
       have HS12 := Aside0.mk ((HS11.out.put_w HO.out HB10.out HG.out).mono (ok' := fun _ => True) (fun _ _ => trivial))
       clear HO HB10 HG hf10 hc10
       go_roundw
       case rel => exact ⟨i2 + 1, p8, _, _, by omega, by go_num, HA2, ⟨by have h_ := HS12.out; simp only [List.length_append, List.length_singleton] at h_; exact h_⟩⟩
       case measure => simp [intOf]; omega
     all_goals
      have HX : Aside0 ((((w4.setCell ⟨wr.heap.size, 0, none⟩ (.string x)).setCell ⟨wr.heap.size, 1, none⟩ (.string v)).setCell ⟨wr.heap.size, 2, none⟩ (.bool false)).heap[wr.heap.size]? = some (.cells #[.string x, .string v, .bool false] 27 (0, 0))) := ⟨by have h_ := blk_set (blk_set (blk_set HBX.out 0 (.string x)) 1 (.string v)) 2 (.bool false); simpa using h_⟩
      have HSX := Aside0.mk (TxSt.far (TxSt.far (TxSt.far HS4.out H4a.out H4b.out H4c.out 0 (.string x)) H4a.out H4b.out H4c.out 1 (.string v)) H4a.out H4b.out H4c.out 2 (.bool false))
      have HXa := H4a
      have HXb := H4b
      have HXc := H4c
      clear hf40 hf41 hf42 hc40 hc41 hc42 HBX
      clear HZ HSb HSa HSd H4a H4b H4c HNg hkey hx HS4 HK4
      (try clear hHeld)
      have hgx : wr.heap.size ≠ g := by have := HGW.out; have := HXc.out; omega
      go_wp2_with fail
      refine (TxSt.num HSX.out H8.out).mono ?_
      rintro e w11 ⟨rfl, hS11, hk11⟩
      have hX11 := hk11.blk HX.out hgx (by simp)
      by_cases hq : q = 0
      ·have HA2 := Aside0.mk (by have h_ := HAA.out; rw [if_pos hq] at h_; exact h_)
       have hqd : (q == 0) = true := by simp [hq]
       have hfx1 := blk_frozen hX11 1
       have hfx2 := blk_frozen hX11 2
       have hcx1 := (blk_cell hX11 1).trans rfl
       have hcx2 := (blk_cell hX11 2).trans rfl
       have HX11 : Aside0 (((w11.setCell ⟨wr.heap.size, 2, none⟩ (.bool true)).setCell ⟨wr.heap.size, 1, none⟩ (.string ⟨#[]⟩)).heap[wr.heap.size]? = some (.cells #[.string x, .string ⟨#[]⟩, .bool true] 27 (0, 0))) := ⟨by have h_ := blk_set (blk_set hX11 2 (.bool true)) 1 (.string ⟨#[]⟩); simpa using h_⟩
       have HS11 := Aside0.mk (TxSt.far (TxSt.far hS11 HXa.out HXb.out HXc.out 2 (.bool true)) HXa.out HXb.out HXc.out 1 (.string ⟨#[]⟩))
       clear hS11 hk11 hX11 HX HSX hq
       have hy0 := (blk_cell HX11.out 0).trans rfl
       have hy1 := (blk_cell HX11.out 1).trans rfl
       have hy2 := (blk_cell HX11.out 2).trans rfl
       have hy4 := (blk_cell HS11.out.1.2.1 3).trans rfl
       go_wp2_with (first | ((with_reducible refine gate_builtin (b := .append) (xs := #[.tmp 75, .tmp 77]) rfl ?_); at_builtin; refine Kd.R_append k27 w.heap.size rfl (.tmp 75) (.tmp 77) 28 27 (.agg #[(.string ⟨#[]⟩), (.string ⟨#[]⟩), (.bool false)]) 40 rfl Try.underlying28 info27 rfl (by decide) (by omega) vw ws' (⟨x, ⟨#[]⟩, true⟩ : S27) [.string x, .string ⟨#[]⟩, .bool true] (fun k_ => k_ ≠ wr.heap.size) (fun _ => False) rfl (by first | (go_simp; done) | (go_simp; rfl)) (k27_mkM _ _ _ (⟨x, ⟨#[]⟩, true⟩ : S27)) (fun _ hk => hk.elim) (fun k_ hk => by have := blk_lt HX11.out; omega) HS11.out.2.2.1.2.2 (Below.refl _ _) HS11.out.2.2.2.2.1 (by have := HLen.out; omega) ?_; intro v1 w10 ho hb hg hat; obtain ⟨Av, cv, rfl⟩ := Kd.R_slice ho; have HO := Aside0.mk ho; have HB10 := Aside0.mk (TxSt.grown_w HS11.out hg); have HG := Aside0.mk hg; have hf10 := blk_frozen (blk_grown HS11.out.1.2.1 hg (Kd.R_ne HS11.out.2.2.1.2.2 HS11.out.1.2.1 (by decide))) 3; have hc10 := (blk_cell (blk_grown HS11.out.1.2.1 hg (Kd.R_ne HS11.out.2.2.1.2.2 HS11.out.1.2.1 (by decide))) 3).trans rfl; clear ho hb hg hat hy0 hy1 hy2 hy4))
       have HS12 := Aside0.mk ((HS11.out.put_w HO.out HB10.out HG.out).mono (ok' := fun _ => True) (fun _ _ => trivial))
       clear HO HB10 HG hf10 hc10
       go_roundw
       case rel => exact ⟨i2 + 1, p8, _, _, by omega, by go_num, HA2, ⟨by have h_ := HS12.out; simp only [List.length_append, List.length_singleton] at h_; exact h_⟩⟩
       case measure => simp [intOf]; omega
      ·have HA2 := Aside0.mk (by have h_ := HAA.out; rw [if_neg hq] at h_; exact h_)
       have hqd : (q == 0) = false := by simp [hq]
       have HX11 := Aside0.mk hX11
       have HS11 := Aside0.mk hS11
       clear hS11 hk11 hX11 HX HSX hq
       have hy0 := (blk_cell HX11.out 0).trans rfl
       have hy1 := (blk_cell HX11.out 1).trans rfl
       have hy2 := (blk_cell HX11.out 2).trans rfl
       have hy4 := (blk_cell HS11.out.1.2.1 3).trans rfl
       go_wp2_with (first | ((with_reducible refine gate_builtin (b := .append) (xs := #[.tmp 75, .tmp 77]) rfl ?_); at_builtin; refine Kd.R_append k27 w.heap.size rfl (.tmp 75) (.tmp 77) 28 27 (.agg #[(.string ⟨#[]⟩), (.string ⟨#[]⟩), (.bool false)]) 40 rfl Try.underlying28 info27 rfl (by decide) (by omega) vw ws' (⟨x, v, false⟩ : S27) [.string x, .string v, .bool false] (fun k_ => k_ ≠ wr.heap.size) (fun _ => False) rfl (by first | (go_simp; done) | (go_simp; rfl)) (k27_mkM _ _ _ (⟨x, v, false⟩ : S27)) (fun _ hk => hk.elim) (fun k_ hk => by have := blk_lt HX11.out; omega) HS11.out.2.2.1.2.2 (Below.refl _ _) HS11.out.2.2.2.2.1 (by have := HLen.out; omega) ?_; intro v1 w10 ho hb hg hat; obtain ⟨Av, cv, rfl⟩ := Kd.R_slice ho; have HO := Aside0.mk ho; have HB10 := Aside0.mk (TxSt.grown_w HS11.out hg); have HG := Aside0.mk hg; have hf10 := blk_frozen (blk_grown HS11.out.1.2.1 hg (Kd.R_ne HS11.out.2.2.1.2.2 HS11.out.1.2.1 (by decide))) 3; have hc10 := (blk_cell (blk_grown HS11.out.1.2.1 hg (Kd.R_ne HS11.out.2.2.1.2.2 HS11.out.1.2.1 (by decide))) 3).trans rfl; clear ho hb hg hat hy0 hy1 hy2 hy4))
       have HS12 := Aside0.mk ((HS11.out.put_w HO.out HB10.out HG.out).mono (ok' := fun _ => True) (fun _ _ => trivial))
       clear HO HB10 HG hf10 hc10
       go_roundw
       case rel => exact ⟨i2 + 1, p8, _, _, by omega, by go_num, HA2, ⟨by have h_ := HS12.out; simp only [List.length_append, List.length_singleton] at h_; exact h_⟩⟩
       case measure => simp [intOf]; omega
    ·have hjl : i2 = kw.length := by omega
     have hA := HA.out
     rw [hjl, List.drop_length] at hA
     simp only [txWrites, Option.some.injEq, Prod.mk.injEq] at hA
     obtain ⟨rfl, rfl⟩ := hA
     have hd1 : decide (i2 < kw.length) = false := decide_eq_false hlt
     clear HA hjl
     subst ek
     have hS := HS.out
     obtain ⟨A1, c1, rfl⟩ := Kd.R_slice hS.2.2.1.2.1
     obtain ⟨A2, c2, rfl⟩ := Kd.R_slice hS.2.2.1.2.2
     have ht0 := (blk_cell hS.1.2.1 0).trans rfl
     have ht1 := (blk_cell hS.1.2.1 1).trans rfl
     have ht2 := (blk_cell hS.1.2.1 2).trans rfl
     have ht3 := (blk_cell hS.1.2.1 3).trans rfl
     have hg0 := blk_frozen hS.1.2.2 0
     have hg1 := blk_frozen hS.1.2.2 1
     have hg2 := blk_frozen hS.1.2.2 2
     have hg3 := blk_frozen hS.1.2.2 3
     have hr0 := (blk_cell hS.1.2.2 0).trans rfl
     have hr1 := (blk_cell hS.1.2.2 1).trans rfl
     have hr2 := (blk_cell hS.1.2.2 2).trans rfl
     have hr3 := (blk_cell hS.1.2.2 3).trans rfl
     have HRes := Aside0.mk hS.result
     clear hS HS
     go_wp2_with fail
     (try simp only [Exit.inBlock, Exit.then])
     refine bodyPost_ret (results_cell_row rfl _ _ w.heap.size 30 _ (0, 0) _ rfl HRes.out.1 Try.underlying30 rfl (by kernel_rfl)) rfl ?_
     exact ⟨_, _, rfl, HRes.out.2⟩
end Go.Proofs.Ytnlfhbohcgjcbaa.PA
