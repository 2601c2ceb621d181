/- Part 2 of a claim of several texts. That a transaction touches just the shards of its keys, and its reads shards are of those. -/
import Derived.Test.YtnlfhbohcgjcbaaCTxnTouchm0
import Derived.OpenShut
namespace Go.Proofs.Ytnlfhbohcgjcbaa.PA
open Go.RowKit Go.Proofs.YtnlfhbohcgjcbaaW.PrintWords Go.Proofs.YtnlfhbohcgjcbaaW.PrintLast Go.Proofs.YtnlfhbohcgjcbaaW.PrintMore
set_option linter.unusedVariables false
set_option linter.unusedSimpArgs false
set_option maxHeartbeats 2000000 in
set_option maxRecDepth 100000 in
/-- The literal, called. -/
theorem touches1_calls (k : Nat) (x : ByteArray) (n sh r : Int) (b1 b2 : Nat) (w : World) (hc1 : w.cell? ⟨b1, 0, none⟩ = some (.int .i64 n)) (hc2 : w.cell? ⟨b2, 0, none⟩ = some (.int .i64 sh)) (h : key_Shard.f k x n = some r) :
  Calls Try.prog 86 #[.string x, .pointer (some ⟨b1, 0, none⟩), .pointer (some ⟨b2, 0, none⟩)] w fun e w' => e = .returned (.bool (r == sh)) ∧ Drawn0 w w' := by
 have H := Aside0.mk h
 clear h
 go_enter Try.func86, Try.ntmps86
 go_wp2
 repeat (go_quiet (first | (go_at_call 81; (with_reducible refine (key_Shard.calls k x n r _ H.out).mono ?_); rintro e w' ⟨rfl, ⟨nd, rfl⟩⟩; (try first | exact ⟨rfl, _, World.drewN_drewN _ _ _⟩ | exact ⟨rfl, _, Eq.trans (World.drewN_drewN _ _ _) (congrArg (World.drewN _) (Nat.add_assoc _ _ _))⟩))); try go_wp2)
 go_ret
 exact ⟨rfl, by repeat (first | exact Drawn0.refl _ | apply Drawn0.step)⟩
/-- The first key of shard sh, from place i on. -/
def idxShard (k : Nat) (n sh : Int) : List ByteArray → Int → Option Int
 | [], _ => some (-1)
 | x :: xs, i => (key_Shard.f k x n).bind fun r => if r = sh then some i else idxShard k n sh xs (i + 1)
theorem idxShard.mono (n sh : Int) (l : List ByteArray) : ∀ (i : Int) (k : Nat), LeO (idxShard k n sh l i) (idxShard (k + 1) n sh l i) := by
 induction l with
 | nil => intro i k; exact LeO.refl _
 | cons x xs ih =>
  intro i k
  unfold idxShard
  exact LeO.bind (key_Shard.mono _ _ _) (fun _ => LeO.ite (LeO.refl _) (ih _ _))
set_option maxHeartbeats 4000000 in
set_option maxRecDepth 100000 in
theorem idxStr_calls (k : Nat) (A0 : Option Addr) (c0 : Nat) (l0 : List ByteArray) (n sh r : Int) (b1 b2 : Nat) (w : World) (hr0 : Kd.C Kd.string w A0 l0.length l0) (hc1 : w.cell? ⟨b1, 0, none⟩ = some (.int .i64 n)) (hc2 : w.cell? ⟨b2, 0, none⟩ = some (.int .i64 sh)) (h : idxShard k n sh l0 0 = some r) :
  Calls Try.prog 129 #[.slice A0 l0.length c0, .func (.func 86) #[] #[.pointer (some ⟨b1, 0, none⟩), .pointer (some ⟨b2, 0, none⟩)]] w fun e w' => e = .returned (.int .i64 r) ∧ Drawn0 w w' := by
 have HR0 := Aside0.mk hr0
 have hm := Kd.C_max hr0
 have HC1 := Aside0.mk hc1
 have HC2 := Aside0.mk hc2
 have H := Aside0.mk h
 clear hr0 h hc1 hc2
 go_enter Try.func129, Try.ntmps129
 go_wp2_with fail
 go_loopw [8] (fun v8 w' => ∃ j : Nat, j ≤ l0.length ∧ v8 = .int .i64 j ∧ Aside0 (idxShard k n sh (l0.drop j) j = some r) ∧ Drawn0 w w') (fun v8 _ => l0.length - (intOf v8).toNat)
 case atStart => exact ⟨0, Nat.zero_le _, rfl, ⟨by simpa using H.out⟩, Drawn0.refl _⟩
 case round =>
  obtain ⟨j, hj, rfl, HI, ⟨m, rfl⟩⟩ := hrel
  by_cases hlt : j < l0.length
  ·have p1 : 0 ≤ ((j : Int)) := by omega
   have q1 : ((j : Int)) < (l0.length : Int) := by omega
   obtain ⟨ad, e1, hx⟩ := Kd.at_string HR0.out (j : Int) p1 q1
   cases e1
   have hd : l0.drop j = rdOf ByteArray.empty l0 (j : Int) :: l0.drop (j + 1) := by
    rw [List.drop_eq_getElem_cons hlt]
    simp [rdOf, List.getD_eq_getElem?_getD, List.getElem?_eq_getElem hlt]
   have HI2 := HI.out
   rw [hd] at HI2
   simp only [idxShard] at HI2
   obtain ⟨s, hs, h2⟩ := Option.bind_eq_some_iff.1 HI2
   clear HI2 hd HI
   have HS := Aside0.mk hs
   clear hs
   have hx' : w.cell? (ad.add j) = some (.string (rdOf ByteArray.empty l0 (j : Int))) := by simpa using hx
   clear hx p1 q1
   obtain ⟨x, hxe⟩ : ∃ x, rdOf ByteArray.empty l0 (j : Int) = x := ⟨_, rfl⟩
   rw [hxe] at hx' HS
   clear hxe
   have HT := Aside0.mk (touches1_calls k x n sh s b1 b2 (w.drewN m) HC1.out HC2.out HS.out)
   by_cases he : s = sh
   ·have hb : (s == sh) = true := beq_iff_eq.2 he
    rw [if_pos he] at h2
    obtain rfl := Option.some.inj h2
    clear h2 he
    go_wp2_with (go_at_call 86; (with_reducible refine HT.out.mono ?_); rintro e w' ⟨rfl, ⟨nd, rfl⟩⟩)
    go_ret
    exact ⟨rfl, by repeat (first | exact Drawn0.refl _ | apply Drawn0.step)⟩
   ·have hb : (s == sh) = false := beq_eq_false_iff_ne.2 he
    rw [if_neg he] at h2
    have HI3 := Aside0.mk h2
    clear h2 he
    go_wp2_with (go_at_call 86; (with_reducible refine HT.out.mono ?_); rintro e w' ⟨rfl, ⟨nd, rfl⟩⟩)
    go_roundw
    case rel => exact ⟨j + 1, by omega, by go_num, ⟨by simpa using HI3.out⟩, by repeat (first | exact Drawn0.refl _ | apply Drawn0.step)⟩
    case measure => simp [intOf]; omega
  ·have hjl : j = l0.length := by omega
   have HI2 := HI.out
   rw [hjl, List.drop_length] at HI2
   obtain rfl := Option.some.inj HI2
   have hd1 : decide (j < l0.length) = false := decide_eq_false hlt
   clear HI2 hjl HI
   go_wp2_with fail
   go_ret
   exact ⟨rfl, by repeat (first | exact Drawn0.refl _ | apply Drawn0.step)⟩
set_option maxHeartbeats 2000000 in
set_option maxRecDepth 100000 in
theorem hasStr_calls (k : Nat) (A0 : Option Addr) (c0 : Nat) (l0 : List ByteArray) (n sh r : Int) (b1 b2 : Nat) (w : World) (hr0 : Kd.C Kd.string w A0 l0.length l0) (hc1 : w.cell? ⟨b1, 0, none⟩ = some (.int .i64 n)) (hc2 : w.cell? ⟨b2, 0, none⟩ = some (.int .i64 sh)) (h : idxShard k n sh l0 0 = some r) :
  Calls Try.prog 84 #[.slice A0 l0.length c0, .func (.func 86) #[] #[.pointer (some ⟨b1, 0, none⟩), .pointer (some ⟨b2, 0, none⟩)]] w fun e w' => e = .returned (.bool (decide (0 ≤ r))) ∧ Drawn0 w w' := by
 have HT := Aside0.mk (idxStr_calls k A0 c0 l0 n sh r b1 b2 w hr0 hc1 hc2 h)
 clear hr0 hc1 hc2 h
 go_enter Try.func84, Try.ntmps84
 go_wp2_with (go_at_call 129; (with_reducible refine HT.out.mono ?_); rintro e w' ⟨rfl, ⟨nd, rfl⟩⟩)
 go_ret
 exact ⟨rfl, by repeat (first | exact Drawn0.refl _ | apply Drawn0.step)⟩
def txn_Touches.f (k : Nat) (a0_0 : Int) (a0_1 : Int) (l0_2 : List (S24)) (l0_3 : List (S27)) (a1 : Int) (a2 : Int) : Option (Bool) :=
 (txn_keys.f k a0_0 a0_1 l0_2 l0_3).bind fun p => (slices_Concat_Lstring_string.f k [p.1, p.2]).bind fun l => (idxShard k a2 a1 l 0).bind fun r => some (decide (0 ≤ r))
set_option maxHeartbeats 4000000 in
set_option maxRecDepth 100000 in
theorem txn_Touches.calls (k : Nat) (a0_0 : Int) (a0_1 : Int) (A0_2 : Option Addr) (c0_2 : Nat) (l0_2 : List (S24)) (A0_3 : Option Addr) (c0_3 : Nat) (l0_3 : List (S27)) (a1 : Int) (a2 : Int) (r : Bool) (w : World) (hr0_2 : Kd.C k24 w A0_2 l0_2.length l0_2) (hc0_2 : l0_2.length ≤ c0_2) (hr0_3 : Kd.C k27 w A0_3 l0_3.length l0_3) (hc0_3 : l0_3.length ≤ c0_3) (h : txn_Touches.f k a0_0 a0_1 l0_2 l0_3 a1 a2 = some r) :
  Calls Try.prog 25 #[.agg #[.int .i64 a0_0, .int .i64 a0_1, .slice A0_2 l0_2.length c0_2, .slice A0_3 l0_3.length c0_3], .int .i64 a1, .int .i64 a2] w fun e w' => e = .returned (.bool r) ∧ Below w.heap.size w w' := by
 have hu := Try.underlying30
 have HR2 := Aside0.mk hr0_2
 have HR3 := Aside0.mk hr0_3
 have HC2 := Aside0.mk hc0_2
 have HC3 := Aside0.mk hc0_3
 unfold txn_Touches.f at h
 obtain ⟨⟨rs, ws⟩, hk, h2⟩ := Option.bind_eq_some_iff.1 h
 clear h
 obtain ⟨l, hl, h3⟩ := Option.bind_eq_some_iff.1 h2
 clear h2
 obtain ⟨i, hi, h4⟩ := Option.bind_eq_some_iff.1 h3
 clear h3
 obtain rfl := Option.some.inj h4
 have HK := Aside0.mk hk
 have HL := Aside0.mk hl
 have HI := Aside0.mk hi
 clear hk hl hi h4 hr0_2 hr0_3 hc0_2 hc0_3
 go_enter Try.func25, Try.ntmps25
 go_wp2_with fail
 refine (txn_keys.calls k a0_0 a0_1 _ _ l0_2 _ _ l0_3 rs ws _ (by repeat (first | exact HR2.out | (with_reducible refine Kd.C_alloc ?_ _))) HC2.out (by repeat (first | exact HR3.out | (with_reducible refine Kd.C_alloc ?_ _))) HC3.out HK.out).mono ?_
 rintro e w1 ⟨v0, v1, rfl, ho0, ho1, hb⟩
 have HB := Aside0.mk (Below.trans (by repeat (first | exact Below.refl _ _ | apply below_alloc) : Below w.heap.size w _) (hb.mono (by simp; omega)))
 have hp1 : w1.cell? ⟨w.heap.size + 1, 0, none⟩ = some (.int .i64 a1) := pw_cell_below hb (HW.cell_next _ (HW.cell_one _ _ _ _ (by simp)))
 have hp2 : w1.cell? ⟨w.heap.size + 1 + 1, 0, none⟩ = some (.int .i64 a2) := pw_cell_below hb (HW.cell_one _ _ _ _ (by simp))
 have HP1 := Aside0.mk hp1
 have HP2 := Aside0.mk hp2
 obtain ⟨A1, c1, rfl⟩ := Kd.R_slice ho0
 obtain ⟨A2, c2, rfl⟩ := Kd.R_slice ho1
 have HK0 := Aside0.mk (HW.K_of_R (e' := 9) ho0)
 have HK1 := Aside0.mk (HW.K_of_R (e' := 9) ho1)
 clear ho0 ho1 hb hp1 hp2
 go_wp2_with fail
 refine calls_of_args (args' := #[.slice (some ⟨w1.heap.size, 0, none⟩) [rs, ws].length 2]) (by rfl) ?_
 refine (slices_Concat_Lstring_string.calls k _ 2 [rs, ws] l _ (HW.C_lit 9 68 w1 [.slice A1 rs.length c1, .slice A2 ws.length c2] [rs, ws] rfl (by simp) (fun j v xs hv hx => ?_)) (by simp) HL.out).mono ?_
 ·match j, hv, hx with
  | 0, hv, hx => simp at hv hx; subst hv hx; exact HK0.out
  | 1, hv, hx => simp at hv hx; subst hv hx; exact HK1.out
  | j + 2, hv, hx => simp at hv
 rintro e w2 ⟨v2, rfl, ho2, hb2⟩
 have HB2 := Aside0.mk (below_step (below_alloc HB.out _) hb2)
 have HQ1 := Aside0.mk (pw_cell_below hb2 (pw_cell_below (below_alloc (Below.refl _ _) _) HP1.out))
 have HQ2 := Aside0.mk (pw_cell_below hb2 (pw_cell_below (below_alloc (Below.refl _ _) _) HP2.out))
 obtain ⟨A3, c3, rfl⟩ := Kd.R_slice ho2
 have HR := Aside0.mk (Kd.R_reads' ho2).2.2
 clear ho2 hb2
 go_wp2_with fail
 refine (hasStr_calls k A3 c3 l a2 a1 i _ _ _ HR.out HQ2.out HQ1.out HI.out).mono ?_
 rintro e w3 ⟨rfl, ⟨nd, rfl⟩⟩
 go_wp2_with fail
 go_ret
 exact ⟨rfl, pw_below_drewN HB2.out _⟩
end Go.Proofs.Ytnlfhbohcgjcbaa.PA
namespace Go.Proofs.Ytnlfhbohcgjcbaa.Q
open Go.RowKit Go.Proofs.YtnlfhbohcgjcbaaW.PrintWords Go.Proofs.YtnlfhbohcgjcbaaW.PrintLast Go.Proofs.YtnlfhbohcgjcbaaW.PrintMore Go.Proofs.Ytnlfhbohcgjcbaa.PA
set_option linter.unusedVariables false
theorem runs_snoc (l : List Int) (x : Int) : runs (l ++ [x]) = if (runs l).getLast? = some x then runs l else runs l ++ [x] := by
 unfold runs
 rw [List.foldl_append]
 rfl
theorem runs_spec (l : List Int) : l.Pairwise (· ≤ ·) → (runs l).Pairwise (· < ·) ∧ ∀ x, x ∈ runs l ↔ x ∈ l := by
 induction l using HW.snoc_ind with
 | h0 => intro _; exact ⟨List.Pairwise.nil, fun x => Iff.rfl⟩
 | h1 l x ih =>
  intro h
  rw [List.pairwise_append] at h
  obtain ⟨hs, hm⟩ := ih h.1
  have hle : ∀ y ∈ runs l, y ≤ x := fun y hy => h.2.2 y ((hm y).1 hy) x (by simp)
  rw [runs_snoc]
  by_cases hg : (runs l).getLast? = some x
  ·rw [if_pos hg]
   refine ⟨hs, fun y => ?_⟩
   have hx : x ∈ l := (hm x).1 (List.mem_of_getLast? hg)
   rw [hm, List.mem_append, List.mem_singleton]
   exact ⟨Or.inl, fun h => h.elim id (fun e => e ▸ hx)⟩
  ·rw [if_neg hg]
   refine ⟨?_, fun y => by rw [List.mem_append, List.mem_append, hm]⟩
   rw [List.pairwise_append]
   refine ⟨hs, List.pairwise_singleton _ _, fun y hy z hz => ?_⟩
   rw [List.mem_singleton] at hz
   subst hz
   have h1 := hle y hy
   rcases Int.lt_or_eq_of_le h1 with h2 | h2
   ·exact h2
   ·exfalso
    subst h2
    obtain ⟨a, b, e⟩ := List.append_of_mem hy
    apply hg
    rw [e] at hs hle ⊢
    cases b with
    | nil => simp
    | cons c b =>
     have h3 := (List.pairwise_append.1 hs).2.1
     have h4 := (List.pairwise_cons.1 h3).1 c (by simp)
     have h5 := hle c (by simp)
     omega
theorem strict_eq : ∀ l m : List Int, l.Pairwise (· < ·) → m.Pairwise (· < ·) → (∀ x, x ∈ l ↔ x ∈ m) → l = m
 | [], [], _, _, _ => rfl
 | [], b :: m, _, _, h => absurd ((h b).2 (by simp)) (by simp)
 | a :: l, [], _, _, h => absurd ((h a).1 (by simp)) (by simp)
 | a :: l, b :: m, hl, hm, h => by
  rw [List.pairwise_cons] at hl hm
  have hab : a = b := by
   have h1 := (h a).1 (by simp)
   have h2 := (h b).2 (by simp)
   rcases List.mem_cons.1 h1 with h1 | h1
   ·exact h1
   ·rcases List.mem_cons.1 h2 with h2 | h2
    ·exact h2.symm
    ·have := hm.1 a h1
     have := hl.1 b h2
     omega
  subst hab
  rw [strict_eq l m hl.2 hm.2 (fun x => ?_)]
  constructor
  ·intro hx
   rcases List.mem_cons.1 ((h x).1 (List.mem_cons_of_mem _ hx)) with e | hx'
   ·have := hl.1 x hx
    omega
   ·exact hx'
  ·intro hx
   rcases List.mem_cons.1 ((h x).2 (List.mem_cons_of_mem _ hx)) with e | hx'
   ·have := hm.1 x hx
    omega
   ·exact hx'
/-- The shards below n that are of a row. -/
def upTo (n : Nat) (p : Int → Bool) : List Int := ((List.range n).map Int.ofNat).filter p
theorem upTo_strict (n : Nat) (p : Int → Bool) : (upTo n p).Pairwise (· < ·) := by
 refine List.Pairwise.filter _ (List.pairwise_map.2 ?_)
 exact (List.pairwise_lt_range).imp (fun h => by simpa using h)
theorem upTo_mem (n : Nat) (p : Int → Bool) (x : Int) : x ∈ upTo n p ↔ (0 ≤ x ∧ x < n) ∧ p x = true := by
 unfold upTo
 rw [List.mem_filter, List.mem_map]
 constructor
 ·rintro ⟨⟨a, ha, rfl⟩, hp⟩
  rw [List.mem_range] at ha
  exact ⟨⟨by simp, by simpa using ha⟩, hp⟩
 ·rintro ⟨⟨h0, h1⟩, hp⟩
  exact ⟨⟨x.toNat, by rw [List.mem_range]; omega, by simp; omega⟩, hp⟩
theorem upTo_succ (n : Nat) (p : Int → Bool) : upTo (n + 1) p = upTo n p ++ if p (n : Int) = true then [(n : Int)] else [] := by
 unfold upTo
 rw [List.range_succ, List.map_append, List.filter_append]
 congr 1
 simp only [List.map_cons, List.map_nil, List.filter_cons, List.filter_nil]
 rfl
theorem runs_sort (l : List Int) (n : Nat) (h : ∀ x ∈ l, 0 ≤ x ∧ x < n) : runs (isort l) = upTo n (fun x => decide (x ∈ l)) := by
 obtain ⟨h1, h2⟩ := runs_spec (isort l) (isort_sorted l)
 refine strict_eq _ _ h1 (upTo_strict _ _) (fun x => ?_)
 rw [h2, upTo_mem, (isort_perm l).mem_iff, decide_eq_true_eq]
 exact ⟨fun hx => ⟨h x hx, hx⟩, fun hx => hx.2⟩
theorem Reads_l0 (n : Int) (hn2 : n ≤ 4611686018427387904) (ks : List ByteArray) (hk : ks.length < 1000000) (hs : ∀ s ∈ ks, s.size < 9223372036854775807) (d : Nat) : ∀ (i : Nat) (acc : List Int), i ≤ ks.length → ks.length - i = d → acc.length + d < 1000000 →
  Evt (fun k => txn_Reads.l0 k n acc ks (ks.length : Int) (i : Int)) (runs (isort (acc ++ (ks.drop i).map (shardOf · n)))) := by
 induction d with
 | zero =>
  intro i acc hi hd hb
  refine Evt.step (fun k => txn_Reads.l0.eq_2 _ _ _ _ _ _) (Evt.neg (by omega) ?_)
  rw [List.drop_eq_nil_of_le (by omega), List.map_nil, List.append_nil]
  refine Evt.bind (Evt.const (r := isort acc) ?_) (Evt.bind (Evt.const rfl) Evt.ret)
  unfold slices_Sort_Lint_int.f
  rw [if_pos (by omega)]
 | succ d ih =>
  intro i acc hi hd hb
  have hlt : i < ks.length := by omega
  refine Evt.step (fun k => txn_Reads.l0.eq_2 _ _ _ _ _ _) (Evt.pos (by omega) (Evt.pos (by omega) (Evt.pos (by omega) ?_)))
  rw [rdOf_nat, wrap_succ i (by omega)]
  refine Evt.bind (key_Shard_f _ (hs _ (getD_mem _ _ _ hlt)) n hn2) (Evt.pos (by omega) ?_)
  rw [drop_getD ks ByteArray.empty i hlt, List.map_cons]
  exact (ih (i + 1) (acc ++ [shardOf (ks.getD i ByteArray.empty) n]) (by omega) (by omega) (by rw [List.length_append, List.length_singleton]; omega)).eq (by simp)
theorem txn_Reads_f (a b : Int) (rs : List Rd0) (ws : List Wr0) (n : Nat) (hn : 1 ≤ n) (hn2 : n ≤ 1000) (hr : rs.length < 1000000) (hw : ws.length < 1000000) (hrs : ∀ r ∈ rs, r.f0.size < 9223372036854775807) :
  Evt (fun k => txn_Reads.f k a b rs ws (n : Int)) (upTo n (fun x => decide (x ∈ rs.map (fun r => shardOf r.f0 n)))) := by
 unfold txn_Reads.f
 refine Evt.bind (keys_f a b rs ws (by omega) (by omega)) ?_
 have h := Reads_l0 (n : Int) (by omega) (rs.map (·.f0)) (by rw [List.length_map]; omega) (fun s hs => by obtain ⟨r, hr', rfl⟩ := List.mem_map.1 hs; exact hrs r hr') (rs.map (·.f0)).length 0 [] (by omega) (by omega) (by rw [List.length_nil, List.length_map]; omega)
 rw [List.drop_zero, List.nil_append, List.map_map] at h
 refine h.eq ?_
 rw [runs_sort _ n]
 ·rfl
 ·intro x hx
  obtain ⟨r, _, rfl⟩ := List.mem_map.1 hx
  exact shardOf_range _ _ (by omega)
/-- The sum of the lengths. -/
def lenS (l : List (List ByteArray)) : Nat := (l.map (·.length)).foldr (· + ·) 0
theorem lenS_cons (x : List ByteArray) (l : List (List ByteArray)) : lenS (x :: l) = x.length + lenS l := rfl
theorem concatS_l1 (xs : List (List ByteArray)) (hx : xs.length < 9223372036854775807) (d : Nat) : ∀ (i : Nat) (acc : List ByteArray), i ≤ xs.length → xs.length - i = d → acc.length + lenS (xs.drop i) < 8796093022208 →
  Evt (fun k => slices_Concat_Lstring_string.l1 k acc xs (xs.length : Int) (i : Int)) (acc ++ (xs.drop i).flatten) := by
 induction d with
 | zero =>
  intro i acc hi hd hb
  refine Evt.step (fun k => slices_Concat_Lstring_string.l1.eq_2 _ _ _ _ _) (Evt.neg (by omega) ?_)
  rw [List.drop_eq_nil_of_le (by omega), List.flatten_nil, List.append_nil]
  exact Evt.ret
 | succ d ih =>
  intro i acc hi hd hb
  rw [drop_getD xs [] i (by omega), lenS_cons] at hb
  refine Evt.step (fun k => slices_Concat_Lstring_string.l1.eq_2 _ _ _ _ _) (Evt.pos (by omega) (Evt.pos (by omega) (Evt.pos (by omega) ?_)))
  rw [show rd_L2 xs (i : Int) = xs.getD i [] by unfold rd_L2; rw [Int.toNat_natCast], wrap_succ i (by omega), drop_getD xs [] i (by omega), List.flatten_cons, ← List.append_assoc]
  exact Evt.pos (by omega) (ih (i + 1) _ (by omega) (by omega) (by rw [List.length_append]; omega))
theorem concatS_l0 (xs : List (List ByteArray)) (hx : xs.length < 9223372036854775807) (hb : lenS xs < 8796093022208) (d : Nat) : ∀ (i n : Nat), i ≤ xs.length → xs.length - i = d → n + lenS (xs.drop i) = lenS xs →
  Evt (fun k => slices_Concat_Lstring_string.l0 k xs (n : Int) xs (xs.length : Int) (i : Int)) xs.flatten := by
 induction d with
 | zero =>
  intro i n hi hd hn
  refine Evt.step (fun k => slices_Concat_Lstring_string.l0.eq_2 _ _ _ _ _ _) (Evt.neg (by omega) ?_)
  refine Evt.bind (Evt.const (r := []) ?_) ?_
  ·unfold slices_Grow_Lstring_string_nil.f
   rw [if_pos (by omega), if_pos (by omega)]
  ·have h := concatS_l1 xs hx xs.length 0 [] (by omega) (by omega) (by rw [List.drop_zero, List.length_nil]; omega)
   rw [List.drop_zero, List.nil_append] at h
   exact h
 | succ d ih =>
  intro i n hi hd hn
  rw [drop_getD xs [] i (by omega), lenS_cons] at hn
  refine Evt.step (fun k => slices_Concat_Lstring_string.l0.eq_2 _ _ _ _ _ _) (Evt.pos (by omega) (Evt.pos (by omega) (Evt.pos (by omega) ?_)))
  rw [show rd_L2 xs (i : Int) = xs.getD i [] by unfold rd_L2; rw [Int.toNat_natCast], wrap_succ i (by omega), wrap_of ((n : Int) + ((xs.getD i []).length : Int)) (by omega) (by omega)]
  exact Evt.neg (by omega) (ih (i + 1) (n + (xs.getD i []).length) (by omega) (by omega) (by omega))
theorem concatS_f (xs : List (List ByteArray)) (hx : xs.length < 9223372036854775807) (hb : lenS xs < 8796093022208) : Evt (fun k => slices_Concat_Lstring_string.f k xs) xs.flatten :=
 concatS_l0 xs hx hb xs.length 0 0 (by omega) (by omega) (by rw [List.drop_zero]; omega)
theorem idxShard_f (n sh : Int) (hn2 : n ≤ 4611686018427387904) : ∀ (l : List ByteArray) (i : Int), 0 ≤ i → (∀ s ∈ l, s.size < 9223372036854775807) → ∃ r, Evt (fun k => idxShard k n sh l i) r ∧ (decide (0 ≤ r) = decide (sh ∈ l.map (shardOf · n)))
 | [], i, h0, _ => ⟨-1, Evt.ret, by simp⟩
 | x :: l, i, h0, hs => by
  have hx := key_Shard_f x (hs x (by simp)) n hn2
  by_cases e : shardOf x n = sh
  ·exact ⟨i, Evt.bind hx (Evt.pos e Evt.ret), by simp [e, h0]⟩
  ·obtain ⟨r, hr, hd⟩ := idxShard_f n sh hn2 l (i + 1) (by omega) (fun s hs' => hs s (by simp [hs']))
   refine ⟨r, Evt.bind hx (Evt.neg e hr), ?_⟩
   rw [hd, List.map_cons]
   simp [Ne.symm e]
theorem txn_Touches_f (a b : Int) (rs : List Rd0) (ws : List Wr0) (sh n : Int) (hn2 : n ≤ 1000) (hr : rs.length < 1000000) (hw : ws.length < 1000000) (hrs : ∀ r ∈ rs, r.f0.size < 9223372036854775807) (hws : ∀ w ∈ ws, w.f0.size < 9223372036854775807) :
  Evt (fun k => txn_Touches.f k a b rs ws sh n) (decide (sh ∈ rs.map (fun r => shardOf r.f0 n) ++ ws.map (fun w => shardOf w.f0 n))) := by
 unfold txn_Touches.f
 refine Evt.bind (keys_f a b rs ws (by omega) (by omega)) (Evt.bind (concatS_f _ (by simp) (by simp [lenS]; omega)) ?_)
 obtain ⟨r, h, hd⟩ := idxShard_f n sh (by omega) (rs.map (·.f0) ++ ws.map (·.f0)) 0 (by omega) (fun s hs => by
  rcases List.mem_append.1 hs with hs | hs
  ·obtain ⟨r, hr', rfl⟩ := List.mem_map.1 hs; exact hrs r hr'
  ·obtain ⟨w, hw', rfl⟩ := List.mem_map.1 hs; exact hws w hw')
 rw [show [rs.map (·.f0), ws.map (·.f0)].flatten = rs.map (·.f0) ++ ws.map (·.f0) by simp]
 refine Evt.bind h (Evt.const ?_)
 rw [hd]
 congr 2
 simp
end Go.Proofs.Ytnlfhbohcgjcbaa.Q
namespace Go.Proofs.Ytnlfhbohcgjcbaa.PA
open Go.RowKit Go.Proofs.YtnlfhbohcgjcbaaW.PrintWords Go.Proofs.YtnlfhbohcgjcbaaW.PrintLast Go.Proofs.YtnlfhbohcgjcbaaW.PrintMore
attribute [local go_sem] max2_int min2_int max_two min_two max_three min_three max_four min_four
set_option linter.unusedVariables false
set_option linter.unusedSimpArgs false
/-- A state of type 128 at block g of W; what its slices lead to came in by w0. -/
def IsS128 (w0 W : World) (g : Nat) (f0 : List Int) (f1 : Int) : Prop := ∃ A0 c0, W.heap[g]? = some (.cells #[.slice A0 f0.length c0, .int .i64 f1] 128 (0, 0)) ∧ w0.heap.size ≤ g ∧ Kd.C (Kd.int .u8) w0 A0 f0.length f0
theorem IsS128.grown {w0 W : World} {g : Nat} {f0 : List Int} {f1 : Int} {W1 : World} {row : Option Nat} (h : IsS128 w0 W g f0 f1) (hw : W.grownBy W1 row) (hne : some g ≠ row) : IsS128 w0 W1 g f0 f1 := by
 obtain ⟨A0, c0, hb, hg, hr0⟩ := h
 exact ⟨A0, c0, blk_grown hb hw hne, hg, hr0⟩
theorem IsS128.below {w0 W : World} {g : Nat} {f0 : List Int} {f1 : Int} {W1 : World} (h : IsS128 w0 W g f0 f1) (hw : Below W.heap.size W W1) : IsS128 w0 W1 g f0 f1 := h.grown (grown_of_below hw none) (by simp)
theorem IsS128.alloc {w0 W : World} {g : Nat} {f0 : List Int} {f1 : Int} (h : IsS128 w0 W g f0 f1) (o : Obj) : IsS128 w0 (W.alloc o) g f0 f1 := h.below (below_alloc (Below.refl _ _) o)
theorem IsS128.drewN {w0 W : World} {g : Nat} {f0 : List Int} {f1 : Int} (h : IsS128 w0 W g f0 f1) (m : Nat) : IsS128 w0 (W.drewN m) g f0 f1 := h
theorem IsS128.drew {w0 W : World} {g : Nat} {f0 : List Int} {f1 : Int} (h : IsS128 w0 W g f0 f1) : IsS128 w0 W.drew g f0 f1 := h
theorem IsS128.apart {w0 W : World} {g : Nat} {f0 : List Int} {f1 : Int} {α : Type} {d : Kd α} {e : Nat} {base : Nat} {ok : Nat → Prop} {v : Value} {xs : List α} (h : IsS128 w0 W g f0 f1) (ho : d.R e W base ok v xs) (ht : ∀ q, q ∈ e :: d.E → q ≠ 128) : d.R e W base (fun k => ok k ∧ k ≠ g) v xs := by
 obtain ⟨A0, c0, hb, hg, hr0⟩ := h
 exact Kd.R_types ho hb ht
theorem IsS128.own_ne {w0 W : World} {g : Nat} {f0 : List Int} {f1 : Int} {α : Type} {d : Kd α} {e : Nat} {base : Nat} {ok : Nat → Prop} {v : Value} {xs : List α} (h : IsS128 w0 W g f0 f1) (ho : d.R e W base ok v xs) (ht : e ≠ 128) : some g ≠ v.ownBlock := by
 obtain ⟨A0, c0, hb, hg, hr0⟩ := h
 exact Kd.R_ne ho hb ht
theorem IsS128.lt {w0 W : World} {g : Nat} {f0 : List Int} {f1 : Int} (h : IsS128 w0 W g f0 f1) : g < W.heap.size := by
 obtain ⟨A0, c0, hb, hg, hr0⟩ := h
 exact blk_lt hb
theorem IsS128.ge {w0 W : World} {g : Nat} {f0 : List Int} {f1 : Int} (h : IsS128 w0 W g f0 f1) : w0.heap.size ≤ g := by
 obtain ⟨A0, c0, hb, hg, hr0⟩ := h
 exact hg
theorem IsS128.far {w0 W : World} {g : Nat} {f0 : List Int} {f1 : Int} {p : Addr} (h : IsS128 w0 W g f0 f1) (hne : g ≠ p.block) (u : Value) : IsS128 w0 (W.setCell p u) g f0 f1 := by
 obtain ⟨A0, c0, hb, hg, hr0⟩ := h
 exact ⟨A0, c0, blk_far hb hne u, hg, hr0⟩
theorem cellS128_0 {W : World} {g : Nat} {A0 : Option Addr} {c0 : Nat} {f0 : List Int} {f1 : Int} (h : W.heap[g]? = some (.cells #[.slice A0 f0.length c0, .int .i64 f1] 128 (0, 0))) : W.cell? ⟨g, 0, none⟩ = some (.slice A0 f0.length c0) := (blk_cell h 0).trans rfl
theorem cellS128_1 {W : World} {g : Nat} {A0 : Option Addr} {c0 : Nat} {f0 : List Int} {f1 : Int} (h : W.heap[g]? = some (.cells #[.slice A0 f0.length c0, .int .i64 f1] 128 (0, 0))) : W.cell? ⟨g, 1, none⟩ = some (.int .i64 f1) := (blk_cell h 1).trans rfl
theorem IsS128.set_1 {w0 W : World} {g : Nat} {f0 : List Int} {f1 : Int} (h : IsS128 w0 W g f0 f1) (x : Int) : IsS128 w0 (W.setCell ⟨g, 1, none⟩ (.int .i64 x)) g f0 x := by
 obtain ⟨A0, c0, hb, hg, hr0⟩ := h
 exact ⟨A0, c0, by simpa using blk_set hb 1 (.int .i64 x), hg, hr0⟩
theorem IsS128.new (w0 W : World) (A0 : Option Addr) (c0 : Nat) (f0 : List Int) (f1 : Int) (hB : Below w0.heap.size w0 W) (hr0 : Kd.C (Kd.int .u8) w0 A0 f0.length f0) : IsS128 w0 (W.alloc (.cells #[.slice A0 f0.length c0, .int .i64 f1] 128)) W.heap.size f0 f1 := ⟨A0, c0, by simpa using heap_alloc_new W _, hB.size, hr0⟩
def diwanplay_Made.f (l0 : List Int) : Option (List Int × Int) := some (l0, 0)
set_option maxHeartbeats 8000000 in
set_option maxRecDepth 100000 in
theorem diwanplay_Made.calls (A0 : Option Addr) (c0 : Nat) (l0 : List Int) (r1 : List Int) (r2 : Int) (w0 w : World) (hB : Below w0.heap.size w0 w) (hr0 : Kd.C (Kd.int .u8) w0 A0 l0.length l0) (hc0 : l0.length ≤ c0) (h : diwanplay_Made.f l0 = some (r1, r2)) :
  Calls Try.prog 21 #[.slice A0 l0.length c0] w fun e w' => ∃ g_ : Nat, e = .returned (.pointer (some ⟨g_, 0, none⟩)) ∧ IsS128 w0 w' g_ r1 r2 ∧ Below w0.heap.size w0 w' ∧ Below w.heap.size w w' := by
 have hu128 := Try.underlying128
 have HR0 := Aside0.mk hr0
 have HC0 := Aside0.mk hc0
 clear hr0 hc0
 have HBW := Aside0.mk (Below.refl w.heap.size w)
 have HW0 := Aside0.mk hB.size
 have HB := Aside0.mk hB
 clear hB
 have H : (some (l0, 0)) = some (r1, r2) := h
 clear h
 simp only [Option.some.injEq, Prod.mk.injEq] at H
 obtain ⟨rfl, rfl⟩ := H
 go_enter Try.func21, Try.ntmps21
 go_wp2_with (first | ((with_reducible refine gate_dst (N := 5) rfl ?_); refine box_event ?hg (N := 5) ?hd (cs := #[.slice A0 l0.length c0, .int .i64 0]) (t := 128) ?hr ?_; (case hd => rfl); (case hg => rfl); (case hr => first | (go_simp; done) | (go_simp; rfl)); intro gb1 hg w2 hbox hb; have n0_ := Aside0.mk (below_step HBW.out hb); have n1_ := Aside0.mk (below_step (by repeat (with_reducible first | exact HB.out | apply ba_ | apply bn_ | apply bd_)) hb); have n2_ := Aside0.mk (hbox); have n3_ := Aside0.mk ((by rw [hg]; exact (below_size (by repeat (with_reducible first | exact HBW.out | apply ba_ | apply bn_ | apply bd_))) : w.heap.size ≤ gb1)); have n4_ := Aside0.mk ((Nat.le_trans HW0.out (by rw [hg]; exact (below_size (by repeat (with_reducible first | exact HBW.out | apply ba_ | apply bn_ | apply bd_))) : w.heap.size ≤ gb1) : w0.heap.size ≤ gb1)); clear HBW; clear HB; have HBW := n0_; have HB := n1_; have BK1 := n2_; have GW1 := n3_; have GE1 := n4_; clear n0_ n1_ n2_ n3_ n4_; clear hb hbox hg))
 go_ret
 exact ⟨_, rfl, (show IsS128 w0 _ gb1 l0 0 from ⟨_, _, by (with_reducible repeat (first | refine kn_ ?_ _ | refine kd_ ?_ | refine ka_ ?_ _)); exact BK1.out, GE1.out, HR0.out⟩), by repeat (with_reducible first | exact HB.out | apply ba_ | apply bn_ | apply bd_ | refine bs_ ?_ GE1.out), by repeat (with_reducible first | exact HBW.out | apply ba_ | apply bn_ | apply bd_ | refine bs_ ?_ GW1.out)⟩
def diwanplay_Picks_Num.f (s0_0 : List Int) (s0_1 : Int) (a1 : Int) : Option (Int × Int) := if s0_1 ≥ (s0_0.length : Int) then (some (0, s0_1)) else (if 0 ≤ (wrap64 ((wrap64 (s0_1 + 1)) - 1)) then (if (wrap64 ((wrap64 (s0_1 + 1)) - 1)) < (s0_0.length : Int) then (if a1 = 0 then (none) else (some (Int.tmod (wrap64 (rd s0_0 (wrap64 ((wrap64 (s0_1 + 1)) - 1)))) a1, wrap64 (s0_1 + 1)))) else (none)) else (none))
set_option maxHeartbeats 8000000 in
set_option maxRecDepth 100000 in
theorem diwanplay_Picks_Num.calls (g : Nat) (s0_0 : List Int) (s0_1 : Int) (a1 : Int) (r1 : Int) (r2 : Int) (w0 w : World) (hI : IsS128 w0 w g s0_0 s0_1) (hB : Below w0.heap.size w0 w) (h : diwanplay_Picks_Num.f s0_0 s0_1 a1 = some (r1, r2)) :
  Calls Try.prog 78 #[.pointer (some ⟨g, 0, none⟩), .int .i64 a1] w fun e w' => e = .returned (.int .i64 r1) ∧ IsS128 w0 w' g s0_0 r2 ∧ Below w0.heap.size w0 w' ∧ KeepBut w w' g none := by
 have HI0 := Aside0.mk hI
 have HK := Aside0.mk (KeepBut.refl w g none)
 have HL := Aside0.mk hB.size
 clear hI
 have HW0 := Aside0.mk hB.size
 have HB := Aside0.mk hB
 clear hB
 have H : (if s0_1 ≥ (s0_0.length : Int) then (some (0, s0_1)) else (if 0 ≤ (wrap64 ((wrap64 (s0_1 + 1)) - 1)) then (if (wrap64 ((wrap64 (s0_1 + 1)) - 1)) < (s0_0.length : Int) then (if a1 = 0 then (none) else (some (Int.tmod (wrap64 (rd s0_0 (wrap64 ((wrap64 (s0_1 + 1)) - 1)))) a1, wrap64 (s0_1 + 1)))) else (none)) else (none))) = some (r1, r2) := h
 clear h
 by_cases c3 : s0_1 ≥ (s0_0.length : Int)
 ·rw [if_pos c3] at H
  have c3b0 : decide ((s0_0.length : Int) ≤ s0_1) = true := decide_eq_true c3
  clear c3
  simp only [Option.some.injEq, Prod.mk.injEq] at H
  obtain ⟨rfl, rfl⟩ := H
  obtain ⟨ASz4_0, cSz4_0, HGz4, hgz4, HSz4_0⟩ := HI0.out
  have hcz4_0 := cellS128_0 HGz4
  have hcz4_1 := cellS128_1 HGz4
  have hfz4_1 := blk_frozen HGz4 1
  clear HGz4 hgz4
  go_enter Try.func78, Try.ntmps78
  go_wp2
  repeat (go_quiet (fail); try go_wp2)
  go_ret
  exact ⟨by first | rfl | (simp [errW_none, errW_some] <;> rfl) | (simp [*, errW_none, errW_some] <;> rfl), by repeat (with_reducible first | exact HI0.out | apply IsS128.alloc | apply IsS128.drewN | apply IsS128.drew | apply IsS128.set_1), by repeat (with_reducible first | exact HB.out | apply ba_ | apply bn_ | apply bd_ | refine bs_ ?_ (IsS128.ge HI0.out)), by repeat (with_reducible first | exact HK.out | apply KeepBut.set_ | apply keep_drewN | apply keep_drew | apply keep_alloc)⟩
 ·rw [if_neg c3] at H
  have c3b0 : decide ((s0_0.length : Int) ≤ s0_1) = false := decide_eq_false c3
  clear c3
  obtain ⟨ji5, hji5⟩ : ∃ j_ : Int, (wrap64 ((wrap64 (s0_1 + 1)) - 1)) = j_ := ⟨_, rfl⟩
  replace H : (if 0 ≤ (ji5) then (if (ji5) < (s0_0.length : Int) then (if a1 = 0 then (none) else (some (Int.tmod (wrap64 (rd s0_0 (ji5))) a1, wrap64 (s0_1 + 1)))) else (none)) else (none)) = some (r1, r2) := by first | (rw [hji5] at H; exact H) | (simp only [hji5] at H ⊢; exact H)
  have hji5w : (IntKind.i64.wrap ((wrap64 (s0_1 + 1)) - 1)) = ji5 := (i64_w _).trans hji5
  by_cases c6 : 0 ≤ (ji5)
  ·rw [if_pos c6] at H
   have c6b0 : decide (0 ≤ (ji5)) = true := decide_eq_true c6
   clear c6
   by_cases c7 : (ji5) < (s0_0.length : Int)
   ·rw [if_pos c7] at H
    have c7b0 : decide ((ji5) < (s0_0.length : Int)) = true := decide_eq_true c7
    clear c7
    by_cases c8 : a1 = 0
    ·rw [if_pos c8] at H
     exact absurd H (by simp)
    ·rw [if_neg c8] at H
     have c8b0 : (a1 == 0) = false := beq_eq_false_iff_ne.mpr c8
     have c8b1 : (a1 != 0) = true := bne_iff_ne.mpr c8
     simp only [Option.some.injEq, Prod.mk.injEq] at H
     obtain ⟨rfl, rfl⟩ := H
     obtain ⟨ASz9_0, cSz9_0, HGz9, hgz9, HSz9_0⟩ := HI0.out
     have hcz9_0 := cellS128_0 HGz9
     have hcz9_1 := cellS128_1 HGz9
     have hfz9_1 := blk_frozen HGz9 1
     clear HGz9 hgz9
     have p1 : 0 ≤ ((ji5) : Int) := of_decide_eq_true (by first | (with_reducible assumption) | assumption)
     have q1 : (ji5) < (s0_0.length : Int) := of_decide_eq_true (by first | (with_reducible assumption) | assumption)
     obtain ⟨ad1, e1, hx1_0⟩ := Kd.at_int HSz9_0 (ji5) p1 q1
     cases e1
     have hn1_0 : ad1.block ≠ g := Nat.ne_of_lt (Nat.lt_of_lt_of_le (by have := World.block_lt_of_cell? _ _ hx1_0; first | rwa [add_block] at this | exact this) (IsS128.ge HI0.out))
     replace hx1_0 := pw_cell_below HB.out hx1_0
     replace hx1_0 := (cell_far (p := ⟨g, 1, none⟩) (by first | (rw [add_block]; exact hn1_0) | (show (Addr.add _ _).block ≠ _; rw [add_block]; exact hn1_0) | exact hn1_0) (.int .i64 (wrap64 (s0_1 + 1)))).trans hx1_0
     (try have hy1_0 := fun (n_ : Nat) => (show (((w.drewN n_).setCell ⟨g, 1, none⟩ (.int .i64 (wrap64 (s0_1 + 1))))).cell? _ = some _ from hx1_0))
     clear hn1_0
     replace p1 := eq_true p1
     replace q1 := eq_true q1
     go_enter Try.func78, Try.ntmps78
     go_wp2
     repeat (go_quiet (fail); try go_wp2)
     go_ret
     exact ⟨by first | rfl | (simp [errW_none, errW_some] <;> rfl) | (simp only [← hji5]; first | rfl | (simp [errW_none, errW_some] <;> rfl)) | (simp [*, errW_none, errW_some] <;> rfl), by repeat (with_reducible first | exact HI0.out | apply IsS128.alloc | apply IsS128.drewN | apply IsS128.drew | apply IsS128.set_1), by repeat (with_reducible first | exact HB.out | apply ba_ | apply bn_ | apply bd_ | refine bs_ ?_ (IsS128.ge HI0.out)), by repeat (with_reducible first | exact HK.out | apply KeepBut.set_ | apply keep_drewN | apply keep_drew | apply keep_alloc)⟩
   ·rw [if_neg c7] at H
    exact absurd H (by simp)
  ·rw [if_neg c6] at H
   exact absurd H (by simp)
def diwanplay_Picks_Val.f (s0_0 : List Int) (s0_1 : Int) : Option (ByteArray × Int) := (some (([(⟨#[]⟩ : ByteArray), (⟨#[118]⟩ : ByteArray), (⟨#[119]⟩ : ByteArray), (⟨#[120, 120]⟩ : ByteArray), (⟨#[115, 105, 120, 116, 101, 101, 110, 45, 98, 121, 116, 101, 115, 45, 111, 107]⟩ : ByteArray)] : List ByteArray) : List ByteArray)).bind fun y1 => ((diwanplay_Picks_Num.f s0_0 s0_1 5).bind fun bt4 => (if 0 ≤ bt4.1 then (if bt4.1 < (y1.length : Int) then (some (rdOf ByteArray.empty y1 bt4.1, bt4.2)) else (none)) else (none)))
set_option maxHeartbeats 8000000 in
set_option maxRecDepth 100000 in
theorem diwanplay_Picks_Val.calls (g : Nat) (s0_0 : List Int) (s0_1 : Int) (r1 : ByteArray) (r2 : Int) (w0 w : World) (hI : IsS128 w0 w g s0_0 s0_1) (hB : Below w0.heap.size w0 w) (h : diwanplay_Picks_Val.f s0_0 s0_1 = some (r1, r2)) :
  Calls Try.prog 80 #[.pointer (some ⟨g, 0, none⟩)] w fun e w' => e = .returned (.string r1) ∧ IsS128 w0 w' g s0_0 r2 ∧ Below w0.heap.size w0 w' ∧ KeepBut w w' g none := by
 have HI0 := Aside0.mk hI
 have HK := Aside0.mk (KeepBut.refl w g none)
 have HL := Aside0.mk hB.size
 clear hI
 have HW0 := Aside0.mk hB.size
 have HB := Aside0.mk hB
 clear hB
 have H : ((some (([(⟨#[]⟩ : ByteArray), (⟨#[118]⟩ : ByteArray), (⟨#[119]⟩ : ByteArray), (⟨#[120, 120]⟩ : ByteArray), (⟨#[115, 105, 120, 116, 101, 101, 110, 45, 98, 121, 116, 101, 115, 45, 111, 107]⟩ : ByteArray)] : List ByteArray) : List ByteArray)).bind fun y1 => ((diwanplay_Picks_Num.f s0_0 s0_1 5).bind fun bt4 => (if 0 ≤ bt4.1 then (if bt4.1 < (y1.length : Int) then (some (rdOf ByteArray.empty y1 bt4.1, bt4.2)) else (none)) else (none)))) = some (r1, r2) := h
 clear h
 obtain ⟨y1, hy1⟩ : ∃ y_ : List ByteArray, y_ = (([(⟨#[]⟩ : ByteArray), (⟨#[118]⟩ : ByteArray), (⟨#[119]⟩ : ByteArray), (⟨#[120, 120]⟩ : ByteArray), (⟨#[115, 105, 120, 116, 101, 101, 110, 45, 98, 121, 116, 101, 115, 45, 111, 107]⟩ : ByteArray)] : List ByteArray)) := ⟨_, rfl⟩
 replace H : ((diwanplay_Picks_Num.f s0_0 s0_1 5).bind fun bt4 => (if 0 ≤ bt4.1 then (if bt4.1 < (y1.length : Int) then (some (rdOf ByteArray.empty y1 bt4.1, bt4.2)) else (none)) else (none))) = some (r1, r2) := by first | (rw [hy1]; with_reducible exact H) | (have H2_ := (Option.bind_some _ _).symm.trans H; rw [hy1]; with_reducible exact H2_) | (have H2_ := (Option.bind_some _ _).symm.trans H; with_reducible exact H2_) | with_reducible exact H | (rw [hy1]; exact H) | exact H
 have Ny1 := Aside0.mk hy1
 clear hy1
 replace H := Option.bind_eq_some_iff.mp H
 obtain ⟨⟨t4, t5⟩, A20, H⟩ := H
 (try dsimp only at H)
 have A2 := Aside0.mk A20
 clear A20
 by_cases c3 : 0 ≤ t4
 ·rw [if_pos c3] at H
  have c3b0 : decide (0 ≤ t4) = true := decide_eq_true c3
  clear c3
  by_cases c4 : t4 < (y1.length : Int)
  ·rw [if_pos c4] at H
   have c4b0 : decide (t4 < (y1.length : Int)) = true := decide_eq_true c4
   clear c4
   simp only [Option.some.injEq, Prod.mk.injEq] at H
   obtain ⟨rfl, rfl⟩ := H
   go_enter Try.func80, Try.ntmps80
   go_wp2_with (first | ((with_reducible refine gate_dst (N := 3) rfl ?_); refine Kd.R_lit Kd.string _ 9 ?hg (N := 3) ?hd (xs := ([(⟨#[]⟩ : ByteArray), (⟨#[118]⟩ : ByteArray), (⟨#[119]⟩ : ByteArray), (⟨#[120, 120]⟩ : ByteArray), (⟨#[115, 105, 120, 116, 101, 101, 110, 45, 98, 121, 116, 101, 115, 45, 111, 107]⟩ : ByteArray)] : List ByteArray)) (inner := [.string (⟨#[]⟩ : ByteArray), .string (⟨#[118]⟩ : ByteArray), .string (⟨#[119]⟩ : ByteArray), .string (⟨#[120, 120]⟩ : ByteArray), .string (⟨#[115, 105, 120, 116, 101, 101, 110, 45, 98, 121, 116, 101, 115, 45, 111, 107]⟩ : ByteArray)]) (ok := fun _ => True) (okp := fun _ => True) ?hr ?hp (fun _ hk => hk) trivial (Below.refl _ _) (Nat.le_refl _) (by simp) ?_; (case hd => rfl); (case hg => rfl); (case hr => first | (go_simp; done) | (go_simp; rfl)); (case hp => exact (Reps.one (show Kd.M Kd.string _ _ _ (⟨#[]⟩ : ByteArray) [.string (⟨#[]⟩ : ByteArray)] from rfl) (Reps.one (show Kd.M Kd.string _ _ _ (⟨#[118]⟩ : ByteArray) [.string (⟨#[118]⟩ : ByteArray)] from rfl) (Reps.one (show Kd.M Kd.string _ _ _ (⟨#[119]⟩ : ByteArray) [.string (⟨#[119]⟩ : ByteArray)] from rfl) (Reps.one (show Kd.M Kd.string _ _ _ (⟨#[120, 120]⟩ : ByteArray) [.string (⟨#[120, 120]⟩ : ByteArray)] from rfl) (Reps.one (show Kd.M Kd.string _ _ _ (⟨#[115, 105, 120, 116, 101, 101, 110, 45, 98, 121, 116, 101, 115, 45, 111, 107]⟩ : ByteArray) [.string (⟨#[115, 105, 120, 116, 101, 101, 110, 45, 98, 121, 116, 101, 115, 45, 111, 107]⟩ : ByteArray)] from rfl) (Reps.none _ _))))))); intro v2 w5 ho6 hb hg_ hnew_; clear hg_ hnew_; (first | rw [← Ny1.out] at ho6 | (simp only [Int.reduceToNat] at ho6; rw [← Ny1.out] at ho6)); have n0_ := Aside0.mk (Kd.R_lower ho6 (keep_size (w := w) (g := g) (row := none) (by repeat (with_reducible first | exact HK.out | apply KeepBut.set_ | apply keep_drewN | apply keep_drew | apply keep_alloc)))); have n1_ := Aside0.mk (IsS128.below (by repeat (with_reducible first | exact HI0.out | apply IsS128.alloc | apply IsS128.drewN | apply IsS128.drew | apply IsS128.set_1)) hb); have n2_ := Aside0.mk (KeepBut.trans (by repeat (with_reducible first | exact HK.out | apply KeepBut.set_ | apply keep_drewN | apply keep_drew | apply keep_alloc)) (KeepBut.of_below hb g none) (.inl rfl)); have n3_ := Aside0.mk (below_step (by repeat (with_reducible first | exact HB.out | apply ba_ | apply bn_ | apply bd_ | refine bs_ ?_ (IsS128.ge HI0.out))) hb); clear HI0; clear HK; clear HB; have HO3 := n0_; have HI0 := n1_; have HK := n2_; have HB := n3_; clear n0_ n1_ n2_ n3_; clear hb ho6) | ((with_reducible refine gate_callee (f := 78) rfl ?_); refine goesM_ (some 5) Try.func78 #[.pointer (some ⟨g, 0, none⟩), .int .i64 5] ?_; (with_reducible refine (diwanplay_Picks_Num.calls g s0_0 s0_1 5 t4 t5 w0 _ ?side1 ?side2 A2.out).mono ?_); (case side1 => repeat (with_reducible first | exact HI0.out | apply IsS128.alloc | apply IsS128.drewN | apply IsS128.drew | apply IsS128.set_1)); (case side2 => repeat (with_reducible first | exact HB.out | apply ba_ | apply bn_ | apply bd_ | refine bs_ ?_ (IsS128.ge HI0.out))); rintro e w7 ⟨rfl, hi, hb, hk⟩; refine ⟨_, rfl, ?_⟩; have n0_ := Aside0.mk (Kd.R_mono (Kd.R_keep (IsS128.apart (show IsS128 w0 _ g s0_0 s0_1 from by repeat (with_reducible first | exact HI0.out | apply IsS128.alloc | apply IsS128.drewN | apply IsS128.drew | apply IsS128.set_1)) (by (with_reducible repeat (first | apply ra_ | apply rn_ | apply rd_)); exact HO3.out) (by decide)) hk (fun _ h => h.2)) (fun _ h => h.1)); have n1_ := Aside0.mk (KeepBut.trans (by repeat (with_reducible first | exact HK.out | apply KeepBut.set_ | apply keep_drewN | apply keep_drew | apply keep_alloc)) hk (.inl rfl)); have n2_ := Aside0.mk (hb); have n3_ := Aside0.mk (hi); clear HO3; clear HK; clear HB; clear HI0; have HO3 := n0_; have HK := n1_; have HB := n2_; have HI0 := n3_; clear n0_ n1_ n2_ n3_; clear hb hk hi; obtain ⟨Ao8, co8, eo8⟩ := Kd.R_slice HO3.out; subst eo8; have p6 : 0 ≤ (t4 : Int) := of_decide_eq_true (by first | (with_reducible assumption) | assumption); have q6 : t4 < (y1.length : Int) := of_decide_eq_true (by first | (with_reducible assumption) | assumption); obtain ⟨ad6, e6, hx6_0⟩ := Kd.at_string (Kd.R_reads' HO3.out).2.2 t4 p6 q6; cases e6; replace p6 := eq_true p6; replace q6 := eq_true q6))
   go_ret
   exact ⟨by first | rfl | (simp [errW_none, errW_some] <;> rfl) | (simp [*, errW_none, errW_some] <;> rfl), by repeat (with_reducible first | exact HI0.out | apply IsS128.alloc | apply IsS128.drewN | apply IsS128.drew | apply IsS128.set_1), by repeat (with_reducible first | exact HB.out | apply ba_ | apply bn_ | apply bd_ | refine bs_ ?_ (IsS128.ge HI0.out)), by repeat (with_reducible first | exact HK.out | apply KeepBut.set_ | apply keep_drewN | apply keep_drew | apply keep_alloc)⟩
  ·rw [if_neg c4] at H
   exact absurd H (by simp)
 ·rw [if_neg c3] at H
  exact absurd H (by simp)
def diwanplay_keys.f  : Option (List ByteArray) := some (([(⟨#[97]⟩ : ByteArray), (⟨#[98]⟩ : ByteArray), (⟨#[99]⟩ : ByteArray), (⟨#[100]⟩ : ByteArray), (⟨#[101, 101]⟩ : ByteArray), (⟨#[102, 102]⟩ : ByteArray)] : List ByteArray))
set_option maxHeartbeats 8000000 in
set_option maxRecDepth 100000 in
theorem diwanplay_keys.calls  (r : List ByteArray) (w : World) (h : diwanplay_keys.f  = some r) :
  Calls Try.prog 126 #[] w fun e w' => ∃ v0_ : Value, e = .returned (v0_) ∧ Kd.R Kd.string 9 w' w.heap.size (fun _ => True) v0_ r ∧ Below w.heap.size w w' := by
 have HB := Aside0.mk (Below.refl w.heap.size w)
 have H : (some (([(⟨#[97]⟩ : ByteArray), (⟨#[98]⟩ : ByteArray), (⟨#[99]⟩ : ByteArray), (⟨#[100]⟩ : ByteArray), (⟨#[101, 101]⟩ : ByteArray), (⟨#[102, 102]⟩ : ByteArray)] : List ByteArray))) = some r := h
 clear h
 obtain ⟨y1, hy1⟩ : ∃ y_ : List ByteArray, y_ = (([(⟨#[97]⟩ : ByteArray), (⟨#[98]⟩ : ByteArray), (⟨#[99]⟩ : ByteArray), (⟨#[100]⟩ : ByteArray), (⟨#[101, 101]⟩ : ByteArray), (⟨#[102, 102]⟩ : ByteArray)] : List ByteArray)) := ⟨_, rfl⟩
 replace H : (some y1) = some r := by first | (rw [hy1]; with_reducible exact H) | (have H2_ := (Option.bind_some _ _).symm.trans H; rw [hy1]; with_reducible exact H2_) | (have H2_ := (Option.bind_some _ _).symm.trans H; with_reducible exact H2_) | with_reducible exact H | (rw [hy1]; exact H) | exact H
 have Ny1 := Aside0.mk hy1
 clear hy1
 obtain rfl := Option.some.inj H
 go_enter Try.func126, Try.ntmps126
 go_wp2_with (first | ((with_reducible refine gate_dst (N := 1) rfl ?_); refine Kd.R_lit Kd.string _ 9 ?hg (N := 1) ?hd (xs := ([(⟨#[97]⟩ : ByteArray), (⟨#[98]⟩ : ByteArray), (⟨#[99]⟩ : ByteArray), (⟨#[100]⟩ : ByteArray), (⟨#[101, 101]⟩ : ByteArray), (⟨#[102, 102]⟩ : ByteArray)] : List ByteArray)) (inner := [.string (⟨#[97]⟩ : ByteArray), .string (⟨#[98]⟩ : ByteArray), .string (⟨#[99]⟩ : ByteArray), .string (⟨#[100]⟩ : ByteArray), .string (⟨#[101, 101]⟩ : ByteArray), .string (⟨#[102, 102]⟩ : ByteArray)]) (ok := fun _ => True) (okp := fun _ => True) ?hr ?hp (fun _ hk => hk) trivial (Below.refl _ _) (Nat.le_refl _) (by simp) ?_; (case hd => rfl); (case hg => rfl); (case hr => first | (go_simp; done) | (go_simp; rfl)); (case hp => exact (Reps.one (show Kd.M Kd.string _ _ _ (⟨#[97]⟩ : ByteArray) [.string (⟨#[97]⟩ : ByteArray)] from rfl) (Reps.one (show Kd.M Kd.string _ _ _ (⟨#[98]⟩ : ByteArray) [.string (⟨#[98]⟩ : ByteArray)] from rfl) (Reps.one (show Kd.M Kd.string _ _ _ (⟨#[99]⟩ : ByteArray) [.string (⟨#[99]⟩ : ByteArray)] from rfl) (Reps.one (show Kd.M Kd.string _ _ _ (⟨#[100]⟩ : ByteArray) [.string (⟨#[100]⟩ : ByteArray)] from rfl) (Reps.one (show Kd.M Kd.string _ _ _ (⟨#[101, 101]⟩ : ByteArray) [.string (⟨#[101, 101]⟩ : ByteArray)] from rfl) (Reps.one (show Kd.M Kd.string _ _ _ (⟨#[102, 102]⟩ : ByteArray) [.string (⟨#[102, 102]⟩ : ByteArray)] from rfl) (Reps.none _ _)))))))); intro v2 w1 ho2 hb hg_ hnew_; clear hg_ hnew_; (first | rw [← Ny1.out] at ho2 | (simp only [Int.reduceToNat] at ho2; rw [← Ny1.out] at ho2)); have n0_ := Aside0.mk (Kd.R_lower ho2 (below_size (by repeat (with_reducible first | exact HB.out | apply ba_ | apply bn_ | apply bd_)))); have n1_ := Aside0.mk (below_step (by repeat (with_reducible first | exact HB.out | apply ba_ | apply bn_ | apply bd_)) hb); clear HB; have HO3 := n0_; have HB := n1_; clear n0_ n1_; clear hb ho2))
 go_ret
 exact ⟨_, by first | rfl | (simp [errW_none, errW_some] <;> rfl) | (simp [*, errW_none, errW_some] <;> rfl), by (with_reducible repeat (first | apply ra_ | apply rn_ | apply rd_)); exact HO3.out, by repeat (with_reducible first | exact HB.out | apply ba_ | apply bn_ | apply bd_)⟩
mutual
def diwanplay_Picks_Keys.l0 : Nat → Int → List ByteArray → Int → List ByteArray → Int → List Int → Int → Option (List ByteArray × Int)
 | 0, _, _, _, _, _, _, _ => none
 | k + 1, x1, x5, x6, x7, x8, x1000, x1001 => if x8 < (x7.length : Int) then (diwanplay_Picks_Keys.j1 k x1 x5 x6 x7 x8 (decide ((x5.length : Int) < x1)) x1000 x1001) else (diwanplay_Picks_Keys.j1 k x1 x5 x6 x7 x8 false x1000 x1001)
def diwanplay_Picks_Keys.j1 : Nat → Int → List ByteArray → Int → List ByteArray → Int → Bool → List Int → Int → Option (List ByteArray × Int)
 | 0, _, _, _, _, _, _, _, _ => none
 | k + 1, x1, x5, x6, x7, x8, x21, x1000, x1001 => if x21 = true then (if (Int.tmod x6 2) = 1 then (if 0 ≤ x8 then (if x8 < (x7.length : Int) then (if x5.length < 8796093022208 then (diwanplay_Picks_Keys.l0 k x1 (x5 ++ [rdOf ByteArray.empty x7 x8]) (wrap64 (Int.tdiv x6 2)) x7 (wrap64 (x8 + 1)) x1000 x1001) else (none)) else (none)) else (none)) else (diwanplay_Picks_Keys.l0 k x1 x5 (wrap64 (Int.tdiv x6 2)) x7 (wrap64 (x8 + 1)) x1000 x1001)) else (some (x5, x1001))
end
def diwanplay_Picks_Keys.f (k : Nat) (s0_0 : List Int) (s0_1 : Int) (a1 : Int) : Option (List ByteArray × Int) := (diwanplay_Picks_Num.f s0_0 s0_1 64).bind fun bt1 => ((diwanplay_keys.f).bind fun t3 => (diwanplay_Picks_Keys.l0 k a1 ([] : List ByteArray) bt1.1 t3 0 s0_0 bt1.2))
set_option maxHeartbeats 8000000 in
set_option maxRecDepth 100000 in
theorem diwanplay_Picks_Keys.calls (k : Nat) (g : Nat) (s0_0 : List Int) (s0_1 : Int) (a1 : Int) (r1 : List ByteArray) (r2 : Int) (w0 w : World) (hI : IsS128 w0 w g s0_0 s0_1) (hB : Below w0.heap.size w0 w) (h : diwanplay_Picks_Keys.f k s0_0 s0_1 a1 = some (r1, r2)) :
  Calls Try.prog 79 #[.pointer (some ⟨g, 0, none⟩), .int .i64 a1] w fun e w' => ∃ v0_ : Value, e = .returned (v0_) ∧ Kd.R Kd.string 9 w' w.heap.size (fun _ => True) v0_ r1 ∧ IsS128 w0 w' g s0_0 r2 ∧ Below w0.heap.size w0 w' ∧ KeepBut w w' g none := by
 have HI0 := Aside0.mk hI
 have HK := Aside0.mk (KeepBut.refl w g none)
 have HL := Aside0.mk hB.size
 clear hI
 have HW0 := Aside0.mk hB.size
 have HB := Aside0.mk hB
 clear hB
 have H : ((diwanplay_Picks_Num.f s0_0 s0_1 64).bind fun bt1 => ((diwanplay_keys.f).bind fun t3 => (diwanplay_Picks_Keys.l0 k a1 ([] : List ByteArray) bt1.1 t3 0 s0_0 bt1.2))) = some (r1, r2) := h
 clear h
 replace H := Option.bind_eq_some_iff.mp H
 obtain ⟨⟨t1, t2⟩, A30, H⟩ := H
 (try dsimp only at H)
 have A3 := Aside0.mk A30
 clear A30
 replace H := Option.bind_eq_some_iff.mp H
 obtain ⟨t3, A40, H⟩ := H
 (try dsimp only at H)
 have A4 := Aside0.mk A40
 clear A40
 have H' := Aside0.mk H
 clear H
 go_enter Try.func79, Try.ntmps79
 go_wp2_with (first | ((with_reducible refine gate_callee (f := 78) rfl ?_); refine goesM_ (some 10) Try.func78 #[.pointer (some ⟨g, 0, none⟩), .int .i64 64] ?_; (with_reducible refine (diwanplay_Picks_Num.calls g s0_0 s0_1 64 t1 t2 w0 _ ?side1 ?side2 A3.out).mono ?_); (case side1 => repeat (with_reducible first | exact HI0.out | apply IsS128.alloc | apply IsS128.drewN | apply IsS128.drew | apply IsS128.set_1)); (case side2 => repeat (with_reducible first | exact HB.out | apply ba_ | apply bn_ | apply bd_ | refine bs_ ?_ (IsS128.ge HI0.out))); rintro e w5 ⟨rfl, hi, hb, hk⟩; refine ⟨_, rfl, ?_⟩; have n0_ := Aside0.mk (KeepBut.trans (by repeat (with_reducible first | exact HK.out | apply KeepBut.set_ | apply keep_drewN | apply keep_drew | apply keep_alloc)) hk (.inl rfl)); have n1_ := Aside0.mk (hb); have n2_ := Aside0.mk (hi); clear HK; clear HB; clear HI0; have HK := n0_; have HB := n1_; have HI0 := n2_; clear n0_ n1_ n2_; clear hb hk hi) | ((with_reducible refine gate_callee (f := 126) rfl ?_); refine goesM_ (some 11) Try.func126 #[] ?_; (with_reducible refine (diwanplay_keys.calls  t3 _ A4.out).mono ?_); rintro e w6 ⟨v4, rfl, ho0, hb⟩; refine ⟨_, rfl, ?_⟩; have n0_ := Aside0.mk (Kd.R_lower ho0 (keep_size (w := w) (g := g) (row := none) (by repeat (with_reducible first | exact HK.out | apply KeepBut.set_ | apply keep_drewN | apply keep_drew | apply keep_alloc)))); have n1_ := Aside0.mk (IsS128.below (by repeat (with_reducible first | exact HI0.out | apply IsS128.alloc | apply IsS128.drewN | apply IsS128.drew | apply IsS128.set_1)) hb); have n2_ := Aside0.mk (KeepBut.trans (by repeat (with_reducible first | exact HK.out | apply KeepBut.set_ | apply keep_drewN | apply keep_drew | apply keep_alloc)) (KeepBut.of_below hb g none) (.inl rfl)); have n3_ := Aside0.mk (below_step (by repeat (with_reducible first | exact HB.out | apply ba_ | apply bn_ | apply bd_ | refine bs_ ?_ (IsS128.ge HI0.out))) hb); clear HI0; clear HK; clear HB; have HO5 := n0_; have HI0 := n1_; have HK := n2_; have HB := n3_; clear n0_ n1_ n2_ n3_; clear hb ho0))
 go_loopg [5, 6, 8] k (fun kq v5 v6 v8 w' => ∃ (x5_1 : List ByteArray) (x6_1 : Int) (x8_1 : Int), v6 = .int .i64 x6_1 ∧ v8 = .int .i64 x8_1 ∧ Aside0 (diwanplay_Picks_Keys.l0 kq a1 x5_1 x6_1 t3 x8_1 s0_0 t2 = some (r1, r2)) ∧ Aside0 (kq ≤ k) ∧ Aside0 (Kd.R Kd.string 9 w' w.heap.size (fun k_ => some k_ ≠ (v4 : Value).ownBlock) v5 x5_1) ∧ Aside0 (Kd.R Kd.string 9 w' w.heap.size (fun k_ => some k_ ≠ (v5 : Value).ownBlock) v4 t3) ∧ Aside0 (IsS128 w0 w' g s0_0 t2) ∧ Aside0 (KeepBut w w' g none) ∧ Aside0 (Below w0.heap.size w0 w'))
 case atStart => exact ⟨(([] : List ByteArray)), (t1), (0), (by first | rfl | (simp; done) | (simp [*]; done)), (by first | rfl | (simp; done) | (simp [*]; done)), H', ⟨Nat.le_refl _⟩, ⟨by first | exact Kd.R_nil _ _ _ _ _ | exact Kd.N_nil _ _ _ _ _ | exact Kd.V_nil _ _ _ _ _ | exact Kd.Q_nil _ _ _ _ _ | exact Kd.S_nil _ _ _ _ _⟩, ⟨by (with_reducible repeat (first | apply ra_ | apply rn_ | apply rd_)); exact Kd.R_mono HO5.out (fun _ hk => (by simp [Value.ownBlock]))⟩, ⟨by repeat (with_reducible first | exact HI0.out | apply IsS128.alloc | apply IsS128.drewN | apply IsS128.drew | apply IsS128.set_1)⟩, ⟨by repeat (with_reducible first | exact HK.out | apply KeepBut.set_ | apply keep_drewN | apply keep_drew | apply keep_alloc)⟩, ⟨by repeat (with_reducible first | exact HB.out | apply ba_ | apply bn_ | apply bd_ | refine bs_ ?_ (IsS128.ge HI0.out))⟩⟩
 case round =>
  clear H'
  try clear c1
  try clear p2
  obtain ⟨x5_1, x6_1, x8_1, rfl, rfl, HA, HK1, HO_5, HO_7, HI0, HK, HB⟩ := hrel
  cases gk with
  | zero => exact absurd HA.out (by simp [diwanplay_Picks_Keys.l0])
  | succ k1 =>
   have H := HA.out
   clear HA
   simp only [diwanplay_Picks_Keys.l0] at H
   have HC7 := Aside0.mk H
   clear H
   go_upto_region 5 with (fail)
   go_cut [21] (fun v21 wc => ∃ (kq : Nat) (x21_6 : Bool), v21 = .bool x21_6 ∧ Aside0 (diwanplay_Picks_Keys.j1 kq a1 x5_1 x6_1 t3 x8_1 x21_6 s0_0 t2 = some (r1, r2)) ∧ Aside0 (kq ≤ k1) ∧ Aside0 (Kd.R Kd.string 9 wc w.heap.size (fun k_ => some k_ ≠ (v4 : Value).ownBlock) u5 x5_1) ∧ Aside0 (Kd.R Kd.string 9 wc w.heap.size (fun k_ => some k_ ≠ (u5 : Value).ownBlock) v4 t3) ∧ Aside0 (IsS128 w0 wc g s0_0 t2) ∧ Aside0 (KeepBut w wc g none) ∧ Aside0 (Below w0.heap.size w0 wc))
   case first =>
    have H := HC7.out
    clear HC7
    by_cases c8 : x8_1 < (t3.length : Int)
    ·rw [if_pos c8] at H
     have c8b0 : decide (x8_1 < (t3.length : Int)) = true := decide_eq_true c8
     clear c8
     (first | rw [c8b0] | (simp only [i64_w, i32_w]; rw [c8b0]) | skip)
     have H' := Aside0.mk H
     clear H
     obtain ⟨Ao9, co9, eo9⟩ := Kd.R_slice HO_7.out
     subst eo9
     obtain ⟨Ao10, co10, eo10⟩ := Kd.R_slice HO_5.out
     subst eo10
     go_wp2
     go_meet
     case rel => exact ⟨_, (decide ((x5_1.length : Int) < a1)), (by first | rfl | (simp; done) | (simp [*]; done)), H', ⟨by have := HK1.out; first | omega | exact Nat.le_refl _⟩, ⟨by (with_reducible repeat (first | apply ra_ | apply rn_ | apply rd_)); exact HO_5.out⟩, ⟨by (with_reducible repeat (first | apply ra_ | apply rn_ | apply rd_)); exact HO_7.out⟩, ⟨by repeat (with_reducible first | exact HI0.out | apply IsS128.alloc | apply IsS128.drewN | apply IsS128.drew | apply IsS128.set_1)⟩, ⟨by repeat (with_reducible first | exact HK.out | apply KeepBut.set_ | apply keep_drewN | apply keep_drew | apply keep_alloc)⟩, ⟨by repeat (with_reducible first | exact HB.out | apply ba_ | apply bn_ | apply bd_ | refine bs_ ?_ (IsS128.ge HI0.out))⟩⟩
    ·rw [if_neg c8] at H
     have c8b0 : decide (x8_1 < (t3.length : Int)) = false := decide_eq_false c8
     clear c8
     (first | rw [c8b0] | (simp only [i64_w, i32_w]; rw [c8b0]) | skip)
     have H' := Aside0.mk H
     clear H
     obtain ⟨Ao11, co11, eo11⟩ := Kd.R_slice HO_7.out
     subst eo11
     go_wp2
     go_meet
     case rel => exact ⟨_, (false), (by first | rfl | (simp; done) | (simp [*]; done)), H', ⟨by have := HK1.out; first | omega | exact Nat.le_refl _⟩, ⟨by (with_reducible repeat (first | apply ra_ | apply rn_ | apply rd_)); exact HO_5.out⟩, ⟨by (with_reducible repeat (first | apply ra_ | apply rn_ | apply rd_)); exact HO_7.out⟩, ⟨by repeat (with_reducible first | exact HI0.out | apply IsS128.alloc | apply IsS128.drewN | apply IsS128.drew | apply IsS128.set_1)⟩, ⟨by repeat (with_reducible first | exact HK.out | apply KeepBut.set_ | apply keep_drewN | apply keep_drew | apply keep_alloc)⟩, ⟨by repeat (with_reducible first | exact HB.out | apply ba_ | apply bn_ | apply bd_ | refine bs_ ?_ (IsS128.ge HI0.out))⟩⟩
   case rest =>
    clear HC7
    try clear c1
    try clear p2
    try clear c7
    try clear c8
    try clear c8b0
    try clear p2
    obtain ⟨kq, x21_6, rfl, HA, HJ6, HO_5, HO_7, HI0, HK, HB⟩ := hcut
    cases kq with
    | zero => exact absurd HA.out (by simp [diwanplay_Picks_Keys.j1])
    | succ kj6 =>
     have H := HA.out
     clear HA
     simp only [diwanplay_Picks_Keys.j1] at H
     by_cases c12 : x21_6 = true
     ·subst c12
      have H1 : (if (Int.tmod x6_1 2) = 1 then (if 0 ≤ x8_1 then (if x8_1 < (t3.length : Int) then (if x5_1.length < 8796093022208 then (diwanplay_Picks_Keys.l0 kj6 a1 (x5_1 ++ [rdOf ByteArray.empty t3 x8_1]) (wrap64 (Int.tdiv x6_1 2)) t3 (wrap64 (x8_1 + 1)) s0_0 t2) else (none)) else (none)) else (none)) else (diwanplay_Picks_Keys.l0 kj6 a1 x5_1 (wrap64 (Int.tdiv x6_1 2)) t3 (wrap64 (x8_1 + 1)) s0_0 t2)) = some (r1, r2) := by rw [if_pos rfl] at H; exact H
      clear H
      have H := H1
      clear H1
      by_cases c13 : (Int.tmod x6_1 2) = 1
      ·rw [if_pos c13] at H
       have c13b0 : ((Int.tmod x6_1 2) == 1) = true := beq_iff_eq.mpr c13
       have c13b1 : ((Int.tmod x6_1 2) != 1) = false := bne_eq_false_iff_eq.mpr c13
       clear c13
       by_cases c14 : 0 ≤ x8_1
       ·rw [if_pos c14] at H
        have c14b0 : decide (0 ≤ x8_1) = true := decide_eq_true c14
        clear c14
        by_cases c15 : x8_1 < (t3.length : Int)
        ·rw [if_pos c15] at H
         have c15b0 : decide (x8_1 < (t3.length : Int)) = true := decide_eq_true c15
         clear c15
         by_cases c16 : x5_1.length < 8796093022208
         ·rw [if_pos c16] at H
          have LMc16 := Aside0.mk c16
          clear c16
          obtain ⟨y7, hy7⟩ : ∃ y_ : List ByteArray, y_ = (x5_1 ++ [rdOf ByteArray.empty t3 x8_1]) := ⟨_, rfl⟩
          replace H : (diwanplay_Picks_Keys.l0 kj6 a1 y7 (wrap64 (Int.tdiv x6_1 2)) t3 (wrap64 (x8_1 + 1)) s0_0 t2) = some (r1, r2) := by first | (rw [hy7]; with_reducible exact H) | (have H2_ := (Option.bind_some _ _).symm.trans H; rw [hy7]; with_reducible exact H2_) | (have H2_ := (Option.bind_some _ _).symm.trans H; with_reducible exact H2_) | with_reducible exact H | (rw [hy7]; exact H) | exact H
          have Ny7 := Aside0.mk hy7
          clear hy7
          have H' := Aside0.mk H
          clear H
          obtain ⟨Ao17, co17, eo17⟩ := Kd.R_slice HO_7.out
          subst eo17
          have p6 : 0 ≤ (x8_1 : Int) := of_decide_eq_true (by first | (with_reducible assumption) | assumption)
          have q6 : x8_1 < (t3.length : Int) := of_decide_eq_true (by first | (with_reducible assumption) | assumption)
          obtain ⟨ad6, e6, hx6_0⟩ := Kd.at_string (Kd.R_reads' HO_7.out).2.2 x8_1 p6 q6
          cases e6
          replace p6 := eq_true p6
          replace q6 := eq_true q6
          go_wp2_with (first | ((with_reducible refine gate_builtin (b := .append) (xs := #[.tmp 27, .tmp 32]) rfl ?_); (try (refine gate_guard (by rfl) ?_; dsimp only)); at_builtin; refine Kd.R_append Kd.string w.heap.size rfl (.tmp 27) (.tmp 32) 68 9 (.string ⟨#[]⟩) 16 rfl Try.underlying68 info9 rfl (by decide) (by omega) u5 x5_1 (rdOf ByteArray.empty t3 x8_1) [.string (rdOf ByteArray.empty t3 x8_1)] (fun k_ => some k_ ≠ (.slice (some ad6) t3.length co17 : Value).ownBlock) (fun _ => False) rfl rfl ?aP (fun _ hk => hk.elim) ?aF ?aO (Below.refl _ _) ?aS ?aL ?_; (case aP => exact rfl); (case aF => exact (fun k_ hk => Kd.fresh' (Kd.R_lt (by (with_reducible repeat (first | apply ra_ | apply rn_ | apply rd_)); exact HO_7.out)) k_ hk)); (case aO => exact (by (with_reducible repeat (first | apply ra_ | apply rn_ | apply rd_)); exact HO_5.out)); (case aS => exact (keep_size (w := w) (g := g) (row := none) (by repeat (with_reducible first | exact HK.out | apply KeepBut.set_ | apply keep_drewN | apply keep_drew | apply keep_alloc)))); (case aL => have := LMc16.out; omega); intro v8 w18 ho hb hg hat; rw [← Ny7.out] at ho; have n0_ := Aside0.mk (Kd.R_after (ok := (fun _ => True)) (by (with_reducible repeat (first | apply ra_ | apply rn_ | apply rd_)); exact Kd.R_mono HO_7.out (fun _ hk => ⟨trivial, hk⟩)) hg hat); have n1_ := Aside0.mk (IsS128.grown (by repeat (with_reducible first | exact HI0.out | apply IsS128.alloc | apply IsS128.drewN | apply IsS128.drew | apply IsS128.set_1)) hg (IsS128.own_ne HI0.out HO_5.out (by decide))); have n2_ := Aside0.mk (below_weaken (by repeat (with_reducible first | exact HB.out | apply ba_ | apply bn_ | apply bd_ | refine bs_ ?_ (IsS128.ge HI0.out))) HL.out hb); have n3_ := Aside0.mk (KeepBut.trans (by repeat (with_reducible first | exact HK.out | apply KeepBut.set_ | apply keep_drewN | apply keep_drew | apply keep_alloc)) (KeepBut.of_grown hg g) (Kd.R_base2 HO_5.out)); have n4_ := Aside0.mk (ho); clear HO_7; clear HI0; clear HB; clear HK; clear HO_5; have HO_7 := n0_; have HI0 := n1_; have HB := n2_; have HK := n3_; have HO9 := n4_; clear n0_ n1_ n2_ n3_ n4_; clear ho hb hg hat))
          go_roundg kj6
          case measure => have := HK1.out; have := HJ6.out; omega
          case rel => exact ⟨(y7), (wrap64 (Int.tdiv x6_1 2)), (wrap64 (x8_1 + 1)), (by first | rfl | (simp; done) | (simp [*]; done)), (by first | rfl | (simp; done) | (simp [*]; done)), H', ⟨by have := HK1.out; have := HJ6.out; omega⟩, ⟨by (with_reducible repeat (first | apply ra_ | apply rn_ | apply rd_)); exact HO9.out⟩, ⟨by (with_reducible repeat (first | apply ra_ | apply rn_ | apply rd_)); exact Kd.R_mono HO_7.out (fun _ hk => hk.2)⟩, ⟨by repeat (with_reducible first | exact HI0.out | apply IsS128.alloc | apply IsS128.drewN | apply IsS128.drew | apply IsS128.set_1)⟩, ⟨by repeat (with_reducible first | exact HK.out | apply KeepBut.set_ | apply keep_drewN | apply keep_drew | apply keep_alloc)⟩, ⟨by repeat (with_reducible first | exact HB.out | apply ba_ | apply bn_ | apply bd_ | refine bs_ ?_ (IsS128.ge HI0.out))⟩⟩
         ·rw [if_neg c16] at H
          exact absurd H (by simp)
        ·rw [if_neg c15] at H
         exact absurd H (by simp)
       ·rw [if_neg c14] at H
        exact absurd H (by simp)
      ·rw [if_neg c13] at H
       have c13b0 : ((Int.tmod x6_1 2) == 1) = false := beq_eq_false_iff_ne.mpr c13
       have c13b1 : ((Int.tmod x6_1 2) != 1) = true := bne_iff_ne.mpr c13
       have H' := Aside0.mk H
       clear H
       go_wp2
       go_roundg kj6
       case measure => have := HK1.out; have := HJ6.out; omega
       case rel => exact ⟨(x5_1), (wrap64 (Int.tdiv x6_1 2)), (wrap64 (x8_1 + 1)), (by first | rfl | (simp; done) | (simp [*]; done)), (by first | rfl | (simp; done) | (simp [*]; done)), H', ⟨by have := HK1.out; have := HJ6.out; omega⟩, ⟨by (with_reducible repeat (first | apply ra_ | apply rn_ | apply rd_)); exact HO_5.out⟩, ⟨by (with_reducible repeat (first | apply ra_ | apply rn_ | apply rd_)); exact HO_7.out⟩, ⟨by repeat (with_reducible first | exact HI0.out | apply IsS128.alloc | apply IsS128.drewN | apply IsS128.drew | apply IsS128.set_1)⟩, ⟨by repeat (with_reducible first | exact HK.out | apply KeepBut.set_ | apply keep_drewN | apply keep_drew | apply keep_alloc)⟩, ⟨by repeat (with_reducible first | exact HB.out | apply ba_ | apply bn_ | apply bd_ | refine bs_ ?_ (IsS128.ge HI0.out))⟩⟩
     ·replace c12 := Bool.eq_false_iff.mpr c12
      subst c12
      have H1 : (some (x5_1, t2)) = some (r1, r2) := by rw [if_neg (show ¬ (false = true) by decide)] at H; exact H
      clear H
      have H := H1
      clear H1
      simp only [Option.some.injEq, Prod.mk.injEq] at H
      obtain ⟨rfl, rfl⟩ := H
      go_wp2
      go_ret
      exact ⟨_, by first | rfl | (simp [errW_none, errW_some] <;> rfl) | (simp [*, errW_none, errW_some] <;> rfl), by (with_reducible repeat (first | apply ra_ | apply rn_ | apply rd_)); exact Kd.R_mono HO_5.out (fun _ hk => trivial), by repeat (with_reducible first | exact HI0.out | apply IsS128.alloc | apply IsS128.drewN | apply IsS128.drew | apply IsS128.set_1), by repeat (with_reducible first | exact HB.out | apply ba_ | apply bn_ | apply bd_ | refine bs_ ?_ (IsS128.ge HI0.out)), by repeat (with_reducible first | exact HK.out | apply KeepBut.set_ | apply keep_drewN | apply keep_drew | apply keep_alloc)⟩
end Go.Proofs.Ytnlfhbohcgjcbaa.PA
namespace Go.Proofs.Ytnlfhbohcgjcbaa.PA
open Go.RowKit Go.Proofs.YtnlfhbohcgjcbaaW.PrintWords Go.Proofs.YtnlfhbohcgjcbaaW.PrintLast Go.Proofs.YtnlfhbohcgjcbaaW.PrintMore
set_option linter.unusedVariables false
set_option linter.unusedSimpArgs false
/-- Is what is read there, and its value. -/
def txThere (ps : List Int) (pos v : Int) : Option (ByteArray × Bool × Int) :=
 if 0 < v then (diwanplay_Picks_Num.f ps pos 4).bind fun q => if 0 < q.1 then (diwanplay_Picks_Val.f ps q.2).bind fun s => some (s.1, true, s.2) else some (⟨#[]⟩, false, q.2)
 else some (⟨#[]⟩, false, pos)
/-- The reads, of these keys. -/
def txReads (ps : List Int) (most : Int) : List ByteArray → Int → List (S24) → Option (List (S24) × Int)
 | [], pos, rs => some (rs, pos)
 | x :: xs, pos, rs => (diwanplay_Picks_Num.f ps pos (mx most 1)).bind fun v => (txThere ps v.2 v.1).bind fun t => if rs.length < 1000000 then txReads ps most xs t.2.2 (rs ++ [⟨x, v.1, t.1, t.2.1⟩]) else none
/-- The writes, of these keys. -/
def txWrites (ps : List Int) : List ByteArray → Int → List (S27) → Option (List (S27) × Int)
 | [], pos, ws => some (ws, pos)
 | x :: xs, pos, ws => (diwanplay_Picks_Val.f ps pos).bind fun v => (diwanplay_Picks_Num.f ps v.2 4).bind fun q => if ws.length < 1000000 then txWrites ps xs q.2 (ws ++ [if q.1 = 0 then ⟨x, ⟨#[]⟩, true⟩ else ⟨x, v.1, false⟩]) else none
def diwanplay_Picks_Txn.f (k : Nat) (s0_0 : List Int) (s0_1 : Int) (a1 : Int) : Option (Int × Int × (List (S24)) × (List (S27)) × Int) :=
 (diwanplay_Picks_Num.f s0_0 s0_1 3).bind fun a => (diwanplay_Picks_Num.f s0_0 a.2 6).bind fun b => (diwanplay_Picks_Keys.f k s0_0 b.2 3).bind fun ks => (txReads s0_0 a1 ks.1 ks.2 []).bind fun r => (diwanplay_Picks_Keys.f k s0_0 r.2 3).bind fun kw => (txWrites s0_0 kw.1 kw.2 []).bind fun w => some (wrap64 (1 + a.1), wrap64 (1 + b.1), r.1, w.1, w.2)
/-- What there is while it runs: the picks at g, the transaction at gt, the result's cell at gr. -/
def TxSt (ok : Nat → Prop) (w0 w W : World) (g gt gr : Nat) (ps : List Int) (pos a b : Int) (vk : Value) (ks : List ByteArray) (vr : Value) (rs : List (S24)) (vw : Value) (ws : List (S27)) : Prop :=
 (IsS128 w0 W g ps pos ∧ W.heap[gt]? = some (.cells #[.int .i64 a, .int .i64 b, vr, vw] 30 (0, 0)) ∧ W.heap[gr]? = some (.cells #[.int .i64 0, .int .i64 0, .slice none 0 0, .slice none 0 0] 30 (0, 0))) ∧ (w.heap.size ≤ gr ∧ w.heap.size ≤ gt ∧ gr ≠ gt ∧ g < w.heap.size ∧ w0.heap.size ≤ w.heap.size) ∧ (Kd.R Kd.string 9 W w.heap.size ok vk ks ∧ Kd.R k24 24 W w.heap.size ok vr rs ∧ Kd.R k27 27 W w.heap.size ok vw ws) ∧ Below w0.heap.size w0 W ∧ KeepBut w W g none
theorem row_ge {α : Type} {d : Kd α} {e base : Nat} {W : World} {ok : Nat → Prop} {v : Value} {xs : List α} (h : Kd.R d e W base ok v xs) : v.ownBlock = none ∨ ∃ b, v.ownBlock = some b ∧ base ≤ b := by
 rcases hv : v.ownBlock with _ | b
 ·exact .inl rfl
 ·exact .inr ⟨b, rfl, ((Kd.R_bound h).1 b hv).2.1⟩
section
variable {ok ok' : Nat → Prop} {w0 w W W1 : World} {g gt gr : Nat} {ps : List Int} {pos a b : Int} {vk : Value} {ks : List ByteArray} {vr : Value} {rs : List (S24)} {vw : Value} {ws : List (S27)}
theorem TxSt.mono (h : TxSt ok w0 w W g gt gr ps pos a b vk ks vr rs vw ws) (hok : ∀ k, ok k → ok' k) : TxSt ok' w0 w W g gt gr ps pos a b vk ks vr rs vw ws := by
 obtain ⟨⟨i1, i2, i3⟩, hn, ⟨r1, r2, r3⟩, hb, hk⟩ := h
 exact ⟨⟨i1, i2, i3⟩, hn, ⟨Kd.R_mono r1 hok, Kd.R_mono r2 hok, Kd.R_mono r3 hok⟩, hb, hk⟩
theorem TxSt.below (h : TxSt ok w0 w W g gt gr ps pos a b vk ks vr rs vw ws) (hw : Below W.heap.size W W1) : TxSt ok w0 w W1 g gt gr ps pos a b vk ks vr rs vw ws := by
 obtain ⟨⟨i1, i2, i3⟩, hn, ⟨r1, r2, r3⟩, hb, hk⟩ := h
 exact ⟨⟨i1.below hw, blk_grown i2 (grown_of_below hw none) (by simp), blk_grown i3 (grown_of_below hw none) (by simp)⟩, hn, ⟨Kd.R_below r1 hw, Kd.R_below r2 hw, Kd.R_below r3 hw⟩, below_step hb hw, KeepBut.trans hk (KeepBut.of_below hw g none) (.inl rfl)⟩
theorem TxSt.alloc (h : TxSt ok w0 w W g gt gr ps pos a b vk ks vr rs vw ws) (o : Obj) : TxSt ok w0 w (W.alloc o) g gt gr ps pos a b vk ks vr rs vw ws := h.below (below_alloc (Below.refl _ _) o)
theorem TxSt.drew (h : TxSt ok w0 w W g gt gr ps pos a b vk ks vr rs vw ws) : TxSt ok w0 w W.drew g gt gr ps pos a b vk ks vr rs vw ws := h.below (below_drew1 (Below.refl _ _))
theorem TxSt.drewN (h : TxSt ok w0 w W g gt gr ps pos a b vk ks vr rs vw ws) (m : Nat) : TxSt ok w0 w (W.drewN m) g gt gr ps pos a b vk ks vr rs vw ws := h.below (pw_below_drewN (Below.refl _ _) m)
theorem TxSt.elder (h : TxSt ok w0 w W g gt gr ps pos a b vk ks vr rs vw ws) : TxSt (fun k => k ≠ W.heap.size) w0 w W g gt gr ps pos a b vk ks vr rs vw ws := by
 obtain ⟨is, hn, ⟨r1, r2, r3⟩, hb, hk⟩ := h
 exact ⟨is, hn, ⟨Kd.R_mono (Kd.R_bound r1) (fun k hk => by have := hk.2.2.1; omega), Kd.R_mono (Kd.R_bound r2) (fun k hk => by have := hk.2.2.1; omega), Kd.R_mono (Kd.R_bound r3) (fun k hk => by have := hk.2.2.1; omega)⟩, hb, hk⟩
theorem TxSt.far {gx : Nat} (h : TxSt (fun k => k ≠ gx) w0 w W g gt gr ps pos a b vk ks vr rs vw ws) (ht : gt ≠ gx) (hr : gr ≠ gx) (hx : w.heap.size ≤ gx) (i : Nat) (u : Value) : TxSt (fun k => k ≠ gx) w0 w (W.setCell ⟨gx, i, none⟩ u) g gt gr ps pos a b vk ks vr rs vw ws := by
 obtain ⟨⟨i1, i2, i3⟩, hn, ⟨r1, r2, r3⟩, hb, hk⟩ := h
 exact ⟨⟨i1.far (by have := hn.2.2.2.1; show g ≠ gx; omega) u, blk_far i2 ht u, blk_far i3 hr u⟩, hn, ⟨Kd.R_far r1 (fun _ hk => hk) u, Kd.R_far r2 (fun _ hk => hk) u, Kd.R_far r3 (fun _ hk => hk) u⟩, below_set hb (by have := hn.2.2.2.2; show w0.heap.size ≤ gx; omega), keep_far hk hx u⟩
theorem TxSt.keep {pos' : Int} (h : TxSt ok w0 w W g gt gr ps pos a b vk ks vr rs vw ws) (hi : IsS128 w0 W1 g ps pos') (hb1 : Below w0.heap.size w0 W1) (hk1 : KeepBut W W1 g none) : TxSt ok w0 w W1 g gt gr ps pos' a b vk ks vr rs vw ws := by
 obtain ⟨⟨i1, i2, i3⟩, hn, ⟨r1, r2, r3⟩, hb, hk⟩ := h
 exact ⟨⟨hi, hk1.blk i2 (by omega) (by simp), hk1.blk i3 (by omega) (by simp)⟩, hn, ⟨Kd.R_mono (Kd.R_keep (i1.apart r1 (by decide)) hk1 (fun _ h => h.2)) (fun _ h => h.1), Kd.R_mono (Kd.R_keep (i1.apart r2 (by decide)) hk1 (fun _ h => h.2)) (fun _ h => h.1), Kd.R_mono (Kd.R_keep (i1.apart r3 (by decide)) hk1 (fun _ h => h.2)) (fun _ h => h.1)⟩, hb1, KeepBut.trans hk hk1 (.inl rfl)⟩
theorem TxSt.key {ad : Addr} {ck : Nat} {i : Int} (h : TxSt ok w0 w W g gt gr ps pos a b (.slice (some ad) ks.length ck) ks vr rs vw ws) (h0 : 0 ≤ i) (h1 : i < ks.length) : W.cell? (ad.add i.toNat) = some (.string (rdOf ByteArray.empty ks i)) := by
 obtain ⟨ad', e1, hx⟩ := Kd.at_string (Kd.R_reads' h.2.2.1.1).2.2 i h0 h1
 cases e1
 exact hx
theorem TxSt.num {n v pos' : Int} (h : TxSt ok w0 w W g gt gr ps pos a b vk ks vr rs vw ws) (hf : diwanplay_Picks_Num.f ps pos n = some (v, pos')) :
  Calls Try.prog 78 #[.pointer (some ⟨g, 0, none⟩), .int .i64 n] W fun e w' => e = .returned (.int .i64 v) ∧ TxSt ok w0 w w' g gt gr ps pos' a b vk ks vr rs vw ws ∧ KeepBut W w' g none := by
 refine (diwanplay_Picks_Num.calls g ps pos n v pos' w0 W h.1.1 h.2.2.2.1 hf).mono ?_
 rintro e w' ⟨rfl, h1, h2, h3⟩
 exact ⟨rfl, h.keep h1 h2 h3, h3⟩
theorem TxSt.val {v : ByteArray} {pos' : Int} (h : TxSt ok w0 w W g gt gr ps pos a b vk ks vr rs vw ws) (hf : diwanplay_Picks_Val.f ps pos = some (v, pos')) :
  Calls Try.prog 80 #[.pointer (some ⟨g, 0, none⟩)] W fun e w' => e = .returned (.string v) ∧ TxSt ok w0 w w' g gt gr ps pos' a b vk ks vr rs vw ws ∧ KeepBut W w' g none := by
 refine (diwanplay_Picks_Val.calls g ps pos v pos' w0 W h.1.1 h.2.2.2.1 hf).mono ?_
 rintro e w' ⟨rfl, h1, h2, h3⟩
 exact ⟨rfl, h.keep h1 h2 h3, h3⟩
theorem TxSt.keys {k : Nat} {n pos' : Int} {l : List ByteArray} (h : TxSt (fun _ => True) w0 w W g gt gr ps pos a b vk ks vr rs vw ws) (hf : diwanplay_Picks_Keys.f k ps pos n = some (l, pos')) :
  Calls Try.prog 79 #[.pointer (some ⟨g, 0, none⟩), .int .i64 n] W fun e w' => ∃ v, e = .returned v ∧ TxSt (fun _ => True) w0 w w' g gt gr ps pos' a b v l vr rs vw ws := by
 refine (diwanplay_Picks_Keys.calls k g ps pos n l pos' w0 W h.1.1 h.2.2.2.1 hf).mono ?_
 rintro e w' ⟨v, rfl, ho, h1, h2, h3⟩
 have h' := h.keep h1 h2 h3
 exact ⟨v, rfl, h'.1, h'.2.1, ⟨Kd.R_lower ho h.2.2.2.2.1, h'.2.2.1.2⟩, h'.2.2.2⟩
theorem TxSt.grown_r (h : TxSt ok w0 w W g gt gr ps pos a b vk ks vr rs vw ws) (hg : W.grownBy W1 vr.ownBlock) : Below w0.heap.size w0 W1 :=
 Below.grown h.2.2.2.1 hg (Nat.le_trans h.2.1.2.2.2.2 h.2.2.2.2.1) (fun k hk => by rcases row_ge h.2.2.1.2.1 with e | ⟨b, e, hb⟩ <;> rw [e] at hk <;> cases hk; exact Nat.le_trans h.2.1.2.2.2.2 hb)
theorem TxSt.grown_w (h : TxSt ok w0 w W g gt gr ps pos a b vk ks vr rs vw ws) (hg : W.grownBy W1 vw.ownBlock) : Below w0.heap.size w0 W1 :=
 Below.grown h.2.2.2.1 hg (Nat.le_trans h.2.1.2.2.2.2 h.2.2.2.2.1) (fun k hk => by rcases row_ge h.2.2.1.2.2 with e | ⟨b, e, hb⟩ <;> rw [e] at hk <;> cases hk; exact Nat.le_trans h.2.1.2.2.2.2 hb)
theorem TxSt.put_r (h : TxSt ok w0 w W g gt gr ps pos a b vk ks vr rs vw ws) {v1 : Value} {rs1 : List (S24)} (ho : Kd.R k24 24 W1 w.heap.size ok v1 rs1) (hb1 : Below w0.heap.size w0 W1) (hg : W.grownBy W1 vr.ownBlock) : TxSt ok w0 w (W1.setCell ⟨gt, 2, none⟩ v1) g gt gr ps pos a b vk ks v1 rs1 vw ws := by
 obtain ⟨⟨i1, i2, i3⟩, hn, ⟨r1, r2, r3⟩, hb, hk⟩ := h
 have h2 := blk_grown i2 hg (Kd.R_ne r2 i2 (by decide))
 exact ⟨⟨(i1.grown hg (i1.own_ne r2 (by decide))).far (by show g ≠ gt; omega) _, by simpa using blk_set h2 2 v1, blk_far (blk_grown i3 hg (Kd.R_ne r2 i3 (by decide))) hn.2.2.1 _⟩, hn, ⟨Kd.R_mono (Kd.R_far (p := ⟨gt, 2, none⟩) (Kd.R_types (Kd.R_over r1 r2 (by decide) hg) h2 (by decide)) (fun _ hk => hk.2) _) (fun _ hk => hk.1), Kd.R_mono (Kd.R_far (p := ⟨gt, 2, none⟩) (Kd.R_types ho h2 (by decide)) (fun _ hk => hk.2) _) (fun _ hk => hk.1), Kd.R_mono (Kd.R_far (p := ⟨gt, 2, none⟩) (Kd.R_types (Kd.R_over r3 r2 (by decide) hg) h2 (by decide)) (fun _ hk => hk.2) _) (fun _ hk => hk.1)⟩, below_set hb1 (by show w0.heap.size ≤ gt; omega), keep_far (KeepBut.trans hk (KeepBut.of_grown hg g) (row_ge r2)) hn.2.1 _⟩
theorem TxSt.put_w (h : TxSt ok w0 w W g gt gr ps pos a b vk ks vr rs vw ws) {v1 : Value} {ws1 : List (S27)} (ho : Kd.R k27 27 W1 w.heap.size ok v1 ws1) (hb1 : Below w0.heap.size w0 W1) (hg : W.grownBy W1 vw.ownBlock) : TxSt ok w0 w (W1.setCell ⟨gt, 3, none⟩ v1) g gt gr ps pos a b vk ks vr rs v1 ws1 := by
 obtain ⟨⟨i1, i2, i3⟩, hn, ⟨r1, r2, r3⟩, hb, hk⟩ := h
 have h2 := blk_grown i2 hg (Kd.R_ne r3 i2 (by decide))
 exact ⟨⟨(i1.grown hg (i1.own_ne r3 (by decide))).far (by show g ≠ gt; omega) _, by simpa using blk_set h2 3 v1, blk_far (blk_grown i3 hg (Kd.R_ne r3 i3 (by decide))) hn.2.2.1 _⟩, hn, ⟨Kd.R_mono (Kd.R_far (p := ⟨gt, 3, none⟩) (Kd.R_types (Kd.R_over r1 r3 (by decide) hg) h2 (by decide)) (fun _ hk => hk.2) _) (fun _ hk => hk.1), Kd.R_mono (Kd.R_far (p := ⟨gt, 3, none⟩) (Kd.R_types (Kd.R_over r2 r3 (by decide) hg) h2 (by decide)) (fun _ hk => hk.2) _) (fun _ hk => hk.1), Kd.R_mono (Kd.R_far (p := ⟨gt, 3, none⟩) (Kd.R_types ho h2 (by decide)) (fun _ hk => hk.2) _) (fun _ hk => hk.1)⟩, below_set hb1 (by show w0.heap.size ≤ gt; omega), keep_far (KeepBut.trans hk (KeepBut.of_grown hg g) (row_ge r3)) hn.2.1 _⟩
theorem row_far4 {α : Type} {d : Kd α} {e base : Nat} {v : Value} {xs : List α} {cs : Array Value} {t : Nat} {W : World} {gr : Nat} (h : Kd.R d e W base (fun _ => True) v xs) (hb : W.heap[gr]? = some (.cells cs t (0, 0))) (ht : ∀ q, q ∈ e :: d.E → q ≠ t) (u0 u1 u2 u3 : Value) :
  Kd.R d e ((((W.setCell ⟨gr, 0, none⟩ u0).setCell ⟨gr, 1, none⟩ u1).setCell ⟨gr, 2, none⟩ u2).setCell ⟨gr, 3, none⟩ u3) base (fun _ => True) v xs :=
 Kd.R_mono (Kd.R_far (p := ⟨gr, 3, none⟩) (Kd.R_far (p := ⟨gr, 2, none⟩) (Kd.R_far (p := ⟨gr, 1, none⟩) (Kd.R_far (p := ⟨gr, 0, none⟩) (Kd.R_types h hb ht) (fun _ hk => hk.2) u0) (fun _ hk => hk.2) u1) (fun _ hk => hk.2) u2) (fun _ hk => hk.2) u3) (fun _ hk => hk.1)
/-- The transaction is the result. -/
theorem TxSt.result (h : TxSt (fun _ => True) w0 w W g gt gr ps pos a b vk ks vr rs vw ws) : (((((W.setCell ⟨gr, 0, none⟩ (.int .i64 a)).setCell ⟨gr, 1, none⟩ (.int .i64 b)).setCell ⟨gr, 2, none⟩ vr).setCell ⟨gr, 3, none⟩ vw).heap[gr]? = some (.cells #[.int .i64 a, .int .i64 b, vr, vw] 30 (0, 0))) ∧ Kd.R k24 24 ((((W.setCell ⟨gr, 0, none⟩ (.int .i64 a)).setCell ⟨gr, 1, none⟩ (.int .i64 b)).setCell ⟨gr, 2, none⟩ vr).setCell ⟨gr, 3, none⟩ vw) w.heap.size (fun _ => True) vr rs ∧ Kd.R k27 27 ((((W.setCell ⟨gr, 0, none⟩ (.int .i64 a)).setCell ⟨gr, 1, none⟩ (.int .i64 b)).setCell ⟨gr, 2, none⟩ vr).setCell ⟨gr, 3, none⟩ vw) w.heap.size (fun _ => True) vw ws ∧ IsS128 w0 ((((W.setCell ⟨gr, 0, none⟩ (.int .i64 a)).setCell ⟨gr, 1, none⟩ (.int .i64 b)).setCell ⟨gr, 2, none⟩ vr).setCell ⟨gr, 3, none⟩ vw) g ps pos ∧ Below w0.heap.size w0 ((((W.setCell ⟨gr, 0, none⟩ (.int .i64 a)).setCell ⟨gr, 1, none⟩ (.int .i64 b)).setCell ⟨gr, 2, none⟩ vr).setCell ⟨gr, 3, none⟩ vw) ∧ KeepBut w ((((W.setCell ⟨gr, 0, none⟩ (.int .i64 a)).setCell ⟨gr, 1, none⟩ (.int .i64 b)).setCell ⟨gr, 2, none⟩ vr).setCell ⟨gr, 3, none⟩ vw) g none := by
 obtain ⟨⟨i1, i2, i3⟩, hn, ⟨r1, r2, r3⟩, hb, hk⟩ := h
 have hne : g ≠ gr := by omega
 have hw : w0.heap.size ≤ gr := by omega
 refine ⟨?_, row_far4 r2 i3 (by decide) _ _ _ _, row_far4 r3 i3 (by decide) _ _ _ _, (((i1.far hne _).far hne _).far hne _).far hne _, below_set (below_set (below_set (below_set hb hw) hw) hw) hw, keep_far (keep_far (keep_far (keep_far hk hn.1 _) hn.1 _) hn.1 _) hn.1 _⟩
 have h_ := blk_set (blk_set (blk_set (blk_set i3 0 (.int .i64 a)) 1 (.int .i64 b)) 2 vr) 3 vw
 simpa using h_
end
end Go.Proofs.Ytnlfhbohcgjcbaa.PA
namespace Go.Proofs.Ytnlfhbohcgjcbaa.Q
open Go.RowKit Go.Proofs.YtnlfhbohcgjcbaaW.PrintWords Go.Proofs.YtnlfhbohcgjcbaaW.PrintLast Go.Proofs.YtnlfhbohcgjcbaaW.PrintMore Go.Proofs.Ytnlfhbohcgjcbaa.PA
set_option linter.unusedVariables false
/-- Picks, and how far they are. -/
def OkP (ps : List Int) (pos : Int) : Prop := (∀ x ∈ ps, 0 ≤ x ∧ x ≤ 255) ∧ 0 ≤ pos ∧ pos ≤ ps.length ∧ ps.length < 4611686018427387904
theorem Num_f {ps : List Int} {pos : Int} (h : OkP ps pos) (m : Int) (hm : 0 < m) (hm2 : m ≤ 1000000) : ∃ v pos', diwanplay_Picks_Num.f ps pos m = some (v, pos') ∧ 0 ≤ v ∧ v < m ∧ OkP ps pos' := by
 obtain ⟨hp, h0, h1, h2⟩ := h
 unfold diwanplay_Picks_Num.f
 by_cases hge : pos ≥ (ps.length : Int)
 ·rw [if_pos hge]
  exact ⟨0, pos, rfl, Int.le_refl _, hm, hp, h0, h1, h2⟩
 ·rw [if_neg hge]
  obtain ⟨i, rfl⟩ := Int.eq_ofNat_of_zero_le h0
  have e : wrap64 (wrap64 ((i : Int) + 1) - 1) = (i : Int) := by unfold wrap64; omega
  rw [e, if_pos (by omega), if_pos (by omega), if_neg (by omega), rd_nat, wrap_succ i (by omega)]
  have hx := hp _ (getD_mem ps 0 i (by omega))
  generalize ps.getD i 0 = x at hx ⊢
  rw [wrap_of x (by omega) (by omega), Int.tmod_eq_emod_of_nonneg hx.1]
  exact ⟨_, _, rfl, Int.emod_nonneg _ (by omega), Int.emod_lt_of_pos _ hm, hp, by omega, by omega, h2⟩
/-- The values that are chosen from. -/
def vals : List ByteArray := [⟨#[]⟩, ⟨#[118]⟩, ⟨#[119]⟩, ⟨#[120, 120]⟩, ⟨#[115, 105, 120, 116, 101, 101, 110, 45, 98, 121, 116, 101, 115, 45, 111, 107]⟩]
theorem empty_vals : (⟨#[]⟩ : ByteArray) ∈ vals := by simp [vals]
theorem vals_size : ∀ v ∈ vals, v.size ≤ 16 := by decide
theorem Val_f {ps : List Int} {pos : Int} (h : OkP ps pos) : ∃ v pos', diwanplay_Picks_Val.f ps pos = some (v, pos') ∧ v ∈ vals ∧ OkP ps pos' := by
 obtain ⟨v, pos', e, h0, h1, hp⟩ := Num_f h 5 (by decide) (by decide)
 unfold diwanplay_Picks_Val.f
 rw [Option.bind_some, e, Option.bind_some]
 obtain ⟨i, rfl⟩ := Int.eq_ofNat_of_zero_le h0
 have hi : i < 5 := by omega
 refine ⟨vals.getD i ByteArray.empty, pos', ?_, getD_mem _ _ _ hi, hp⟩
 show (if 0 ≤ (i : Int) then (if (i : Int) < ((5 : Nat) : Int) then some (rdOf ByteArray.empty vals (i : Int), pos') else none) else none) = _
 rw [if_pos (by omega), if_pos (by omega), rdOf_nat]
/-- The keys that are chosen from. -/
def six : List ByteArray := [⟨#[97]⟩, ⟨#[98]⟩, ⟨#[99]⟩, ⟨#[100]⟩, ⟨#[101, 101]⟩, ⟨#[102, 102]⟩]
theorem keys_six : diwanplay_keys.f = some six := rfl
theorem six_may : ∀ s ∈ six, mayKey s = true := by decide
theorem six_rises : six.Pairwise (fun a b => less a b = true) := by decide +kernel
theorem rises_of {l : List ByteArray} (h : l.Pairwise (fun a b => less a b = true)) : rises l = true := by
 induction l with
 | nil => rfl
 | cons x l ih =>
  cases l with
  | nil => rfl
  | cons y l =>
   rw [List.pairwise_cons] at h
   simp only [rises, Bool.and_eq_true]
   exact ⟨h.1 y (by simp), ih h.2⟩
theorem rising_sub {l : List ByteArray} (h : l.Sublist six) : rising l = true := by
 unfold rising
 rw [Bool.and_eq_true]
 exact ⟨List.all_eq_true.2 fun s hs => six_may s (h.subset hs), rises_of (six_rises.sublist h)⟩
theorem Keys_l0 (ps : List Int) (pos most : Int) (d : Nat) : ∀ (i : Nat) (out : List ByteArray) (bits : Int), i ≤ 6 → 6 - i = d → 0 ≤ bits → bits ≤ 1000000 → out.length ≤ i →
  ∃ s : List ByteArray, Evt (fun k => diwanplay_Picks_Keys.l0 k most out bits six (i : Int) ps pos) (out ++ s, pos) ∧ s.Sublist (six.drop i) ∧ ((out.length : Int) ≤ most → ((out ++ s).length : Int) ≤ most) := by
 induction d with
 | zero =>
  intro i out bits hi hd h0 hb ho
  have e : i = 6 := by omega
  subst e
  refine ⟨[], ?_, List.nil_sublist _, by simp⟩
  rw [List.append_nil]
  refine Evt.step (fun k => diwanplay_Picks_Keys.l0.eq_2 _ _ _ _ _ _ _ _) (Evt.neg (by decide) ?_)
  exact Evt.step (fun k => diwanplay_Picks_Keys.j1.eq_2 _ _ _ _ _ _ _ _ _) (Evt.neg (by decide) Evt.ret)
 | succ d ih =>
  intro i out bits hi hd h0 hb ho
  have hl : six.length = 6 := rfl
  by_cases hm : (out.length : Int) < most
  case neg =>
   refine ⟨[], ?_, List.nil_sublist _, by simp⟩
   rw [List.append_nil]
   refine Evt.step (fun k => diwanplay_Picks_Keys.l0.eq_2 _ _ _ _ _ _ _ _) (Evt.pos (by rw [hl]; omega) ?_)
   rw [decide_eq_false hm]
   exact Evt.step (fun k => diwanplay_Picks_Keys.j1.eq_2 _ _ _ _ _ _ _ _ _) (Evt.neg (by decide) Evt.ret)
  have hb2 : Int.tdiv bits 2 = bits / 2 := Int.tdiv_eq_ediv_of_nonneg h0
  have hget := drop_getD six ByteArray.empty i (by rw [hl]; omega)
  by_cases ht : Int.tmod bits 2 = 1
  ·obtain ⟨s, hs, hs2, hs3⟩ := ih (i + 1) (out ++ [six.getD i ByteArray.empty]) (bits / 2) (by omega) (by omega) (by omega) (by omega) (by rw [List.length_append, List.length_singleton]; omega)
   refine ⟨six.getD i ByteArray.empty :: s, ?_, by rw [hget]; exact hs2.cons_cons _, fun h => ?_⟩
   ·refine Evt.step (fun k => diwanplay_Picks_Keys.l0.eq_2 _ _ _ _ _ _ _ _) (Evt.pos (by rw [hl]; omega) ?_)
    rw [decide_eq_true hm]
    refine Evt.step (fun k => diwanplay_Picks_Keys.j1.eq_2 _ _ _ _ _ _ _ _ _) (Evt.pos rfl (Evt.pos ht (Evt.pos (by omega) (Evt.pos (by rw [hl]; omega) (Evt.pos (by omega) ?_)))))
    rw [hb2, wrap_of (bits / 2) (by omega) (by omega), wrap_succ i (by omega), rdOf_nat]
    exact hs.eq (by simp)
   ·have := hs3 (by rw [List.length_append, List.length_singleton]; omega)
    simpa using this
  ·obtain ⟨s, hs, hs2, hs3⟩ := ih (i + 1) out (bits / 2) (by omega) (by omega) (by omega) (by omega) (by omega)
   refine ⟨s, ?_, by rw [hget]; exact hs2.cons _, hs3⟩
   refine Evt.step (fun k => diwanplay_Picks_Keys.l0.eq_2 _ _ _ _ _ _ _ _) (Evt.pos (by rw [hl]; omega) ?_)
   rw [decide_eq_true hm]
   refine Evt.step (fun k => diwanplay_Picks_Keys.j1.eq_2 _ _ _ _ _ _ _ _ _) (Evt.pos rfl (Evt.neg ht ?_))
   rw [hb2, wrap_of (bits / 2) (by omega) (by omega), wrap_succ i (by omega)]
   exact hs
theorem Keys_f {ps : List Int} {pos : Int} (h : OkP ps pos) (most : Int) (hm : 0 ≤ most) : ∃ l pos', Evt (fun k => diwanplay_Picks_Keys.f k ps pos most) (l, pos') ∧ l.Sublist six ∧ (l.length : Int) ≤ most ∧ OkP ps pos' := by
 obtain ⟨v, pos', e, h0, h1, hp⟩ := Num_f h 64 (by decide) (by decide)
 obtain ⟨s, hs, hs2, hs3⟩ := Keys_l0 ps pos' most 6 0 [] v (by omega) (by omega) h0 (by omega) (by simp)
 refine ⟨s, pos', ?_, by simpa using hs2, by simpa using hs3 (by simpa using hm), hp⟩
 unfold diwanplay_Picks_Keys.f
 refine Evt.bind (Evt.const e) (Evt.bind (Evt.const keys_six) ?_)
 exact hs.eq (by simp)
/-- A read, a write as they are made. -/
def MadeR (most : Int) (r : Rd0) : Prop := okRead r = true ∧ r.f1 < mx most 1 ∧ r.f2 ∈ vals ∧ (r.f3 = false → r.f2 = ⟨#[]⟩)
def MadeW (w : Wr0) : Prop := okWrite w = true ∧ w.f1 ∈ vals
theorem mx_pos (a : Int) : 1 ≤ mx a 1 := by unfold mx; omega
theorem mx_le (a : Int) (h : a ≤ 1000000) : mx a 1 ≤ 1000000 := by unfold mx; omega
theorem txReads_f (ps : List Int) (most : Int) (hmost : most ≤ 1000000) : ∀ (l : List ByteArray) (pos : Int) (acc : List Rd0), OkP ps pos → acc.length + l.length < 1000000 →
  ∃ rs pos', txReads ps most l pos acc = some (acc ++ rs, pos') ∧ rs.map (·.f0) = l ∧ (∀ r ∈ rs, MadeR most r) ∧ OkP ps pos'
 | [], pos, acc, h, _ => ⟨[], pos, by simp [txReads], rfl, by simp, h⟩
 | x :: l, pos, acc, h, hl => by
  rw [List.length_cons] at hl
  obtain ⟨v, p1, e1, h0, h1, hp1⟩ := Num_f h (mx most 1) (by have := mx_pos most; omega) (mx_le _ hmost)
  have ht : ∃ s b p2, txThere ps p1 v = some (s, b, p2) ∧ OkP ps p2 ∧ s ∈ vals ∧ (b = true → 0 < v) ∧ (b = false → s = ⟨#[]⟩) := by
   unfold txThere
   by_cases hv : 0 < v
   ·rw [if_pos hv]
    obtain ⟨q, p2, e2, h2, h3, hp2⟩ := Num_f hp1 4 (by decide) (by decide)
    rw [e2, Option.bind_some]
    by_cases hq : 0 < q
    ·obtain ⟨s, p3, e3, hs, hp3⟩ := Val_f hp2
     exact ⟨s, true, p3, by show (if 0 < q then _ else _) = _; rw [if_pos hq, e3]; rfl, hp3, hs, fun _ => hv, by simp⟩
    ·exact ⟨⟨#[]⟩, false, p2, by show (if 0 < q then _ else _) = _; rw [if_neg hq], hp2, empty_vals, by simp, fun _ => rfl⟩
   ·rw [if_neg hv]
    exact ⟨⟨#[]⟩, false, p1, rfl, hp1, empty_vals, by simp, fun _ => rfl⟩
  obtain ⟨s, b, p2, e2, hp2, hs, hb, hb2⟩ := ht
  obtain ⟨rs, p3, e3, hk, hr, hp3⟩ := txReads_f ps most hmost l p2 (acc ++ [⟨x, v, s, b⟩]) hp2 (by rw [List.length_append, List.length_singleton]; omega)
  refine ⟨⟨x, v, s, b⟩ :: rs, p3, ?_, by rw [List.map_cons, hk], fun r hr' => ?_, hp3⟩
  ·simp only [txReads, e1, Option.bind_some, e2]
   rw [if_pos (by omega), e3]
   simp
  ·rcases List.mem_cons.1 hr' with rfl | hr'
   ·refine ⟨?_, h1, hs, hb2⟩
    have hz := vals_size s hs
    unfold okRead
    cases b with
    | true =>
     have := hb rfl
     simp [h0, hz]
     omega
    | false =>
     have := hb2 rfl
     subst this
     simp [h0]
     decide
   ·exact hr r hr'
theorem txWrites_f (ps : List Int) : ∀ (l : List ByteArray) (pos : Int) (acc : List Wr0), OkP ps pos → acc.length + l.length < 1000000 →
  ∃ ws pos', txWrites ps l pos acc = some (acc ++ ws, pos') ∧ ws.map (·.f0) = l ∧ (∀ w ∈ ws, MadeW w) ∧ OkP ps pos'
 | [], pos, acc, h, _ => ⟨[], pos, by simp [txWrites], rfl, by simp, h⟩
 | x :: l, pos, acc, h, hl => by
  rw [List.length_cons] at hl
  obtain ⟨v, p1, e1, hv, hp1⟩ := Val_f h
  obtain ⟨q, p2, e2, h0, h1, hp2⟩ := Num_f hp1 4 (by decide) (by decide)
  obtain ⟨ws, p3, e3, hk, hr, hp3⟩ := txWrites_f ps l p2 (acc ++ [if q = 0 then ⟨x, ⟨#[]⟩, true⟩ else ⟨x, v, false⟩]) hp2 (by rw [List.length_append, List.length_singleton]; omega)
  refine ⟨(if q = 0 then ⟨x, ⟨#[]⟩, true⟩ else ⟨x, v, false⟩) :: ws, p3, ?_, by rw [List.map_cons, hk]; split <;> rfl, fun r hr' => ?_, hp3⟩
  ·simp only [txWrites, e1, Option.bind_some, e2]
   rw [if_pos (by omega), e3]
   simp
  ·rcases List.mem_cons.1 hr' with rfl | hr'
   ·have hz := vals_size v hv
    split
    ·exact ⟨by unfold okWrite; simp [ByteArray.toList_eq]; decide, empty_vals⟩
    ·refine ⟨?_, hv⟩
     unfold okWrite
     simp [hz]
   ·exact hr r hr'
/-- A transaction as it is made. -/
structure MadeT (most a b : Int) (rs : List Rd0) (ws : List Wr0) : Prop where
 a : 1 ≤ a ∧ a ≤ 3
 b : 1 ≤ b ∧ b ≤ 6
 rk : (rs.map (·.f0)).Sublist six
 rl : rs.length ≤ 3
 wk : (ws.map (·.f0)).Sublist six
 wl : ws.length ≤ 3
 r : ∀ r ∈ rs, MadeR most r
 w : ∀ w ∈ ws, MadeW w
theorem Txn_f {ps : List Int} {pos : Int} (h : OkP ps pos) (most : Int) (hmost : most ≤ 1000000) : ∃ a b rs ws pos', Evt (fun k => diwanplay_Picks_Txn.f k ps pos most) (a, b, rs, ws, pos') ∧ MadeT most a b rs ws ∧ OkP ps pos' := by
 obtain ⟨a, p1, e1, a0, a1, hp1⟩ := Num_f h 3 (by decide) (by decide)
 obtain ⟨b, p2, e2, b0, b1, hp2⟩ := Num_f hp1 6 (by decide) (by decide)
 obtain ⟨l, p3, e3, l0, l1, hp3⟩ := Keys_f hp2 3 (by decide)
 obtain ⟨rs, p4, e4, r0, r1, hp4⟩ := txReads_f ps most hmost l p3 [] hp3 (by rw [List.length_nil]; omega)
 obtain ⟨m, p5, e5, m0, m1, hp5⟩ := Keys_f hp4 3 (by decide)
 obtain ⟨ws, p6, e6, w0, w1, hp6⟩ := txWrites_f ps m p5 [] hp5 (by rw [List.length_nil]; omega)
 refine ⟨1 + a, 1 + b, rs, ws, p6, ?_, ⟨by omega, by omega, by rw [r0]; exact l0, ?_, by rw [w0]; exact m0, ?_, r1, w1⟩, hp6⟩
 ·unfold diwanplay_Picks_Txn.f
  refine Evt.bind (Evt.const e1) (Evt.bind (Evt.const e2) (Evt.bind e3 (Evt.bind (Evt.const e4) (Evt.bind e5 (Evt.bind (Evt.const e6) (Evt.const ?_))))))
  dsimp only
  rw [wrap_of (1 + a) (by omega) (by omega), wrap_of (1 + b) (by omega) (by omega), List.nil_append, List.nil_append]
 ·have := congrArg List.length r0
  rw [List.length_map] at this
  omega
 ·have := congrArg List.length w0
  rw [List.length_map] at this
  omega
theorem MadeT.may {most a b : Int} {rs : List Rd0} {ws : List Wr0} (h : MadeT most a b rs ws) : mayTxn a b rs ws = true := by
 obtain ⟨ha, hb, rk, rl, wk, wl, hr, hw⟩ := h
 unfold mayTxn
 rw [decide_eq_true (show 1 ≤ a ∧ a ≤ 9 by omega), decide_eq_true (show 1 ≤ b ∧ b ≤ 1000 by omega), decide_eq_true (show rs.length ≤ 6 by omega), decide_eq_true (show ws.length ≤ 4 by omega), rising_sub rk, rising_sub wk,
  List.all_eq_true.2 (fun r h => (hr r h).1), List.all_eq_true.2 (fun w h => (hw w h).1)]
 rfl
theorem OkP_made {l : List Int} (h : ∀ x ∈ l, (Lit.int .u8 x).wf = true) (hl : l.length < 4611686018427387904) : OkP l 0 := by
 refine ⟨fun x hx => ?_, by omega, by omega, hl⟩
 exact bounds_u8 (h x hx)
end Go.Proofs.Ytnlfhbohcgjcbaa.Q
namespace Go.Proofs.Ytnlfhbohcgjcbaa.PA
open Go.RowKit Go.Proofs.YtnlfhbohcgjcbaaW.PrintWords Go.Proofs.YtnlfhbohcgjcbaaW.PrintLast Go.Proofs.YtnlfhbohcgjcbaaW.PrintMore
attribute [local go_sem] max2_int min2_int max_two min_two max_three min_three max_four min_four
set_option linter.unusedVariables false
set_option linter.unusedSimpArgs false
def num_Put.l0 : Nat → Int → List Int → Option (List Int)
 | 0, _, _ => none
 | k + 1, x0, x2 => if x0 > 127 then (if x2.length < 140737488355328 then (num_Put.l0 k (x0 / 128) (x2 ++ [Go.bits .or .u8 ((x0) % 256) 128])) else (none)) else (if x2.length < 140737488355328 then (some (x2 ++ [(x0) % 256])) else (none))
def num_Put.f (k : Nat) (a0 : Int) : Option (List Int) := if a0 < 0 then (some ([] : List Int)) else (num_Put.l0 k a0 ([] : List Int))
set_option maxHeartbeats 8000000 in
set_option maxRecDepth 100000 in
theorem num_Put.calls (k : Nat) (a0 : Int) (r : List Int) (w : World) (h : num_Put.f k a0 = some r) :
  Calls Try.prog 73 #[.int .i64 a0] w fun e w' => ∃ v0_ : Value, e = .returned (v0_) ∧ Kd.R (Kd.int .u8) 5 w' w.heap.size (fun _ => True) v0_ r ∧ Below w.heap.size w w' := by
 have HB := Aside0.mk (Below.refl w.heap.size w)
 have H : (if a0 < 0 then (some ([] : List Int)) else (num_Put.l0 k a0 ([] : List Int))) = some r := h
 clear h
 by_cases c2 : a0 < 0
 ·rw [if_pos c2] at H
  have c2b0 : decide (a0 < 0) = true := decide_eq_true c2
  clear c2
  obtain rfl := Option.some.inj H
  go_enter Try.func73, Try.ntmps73
  go_wp2
  go_ret
  exact ⟨_, by first | rfl | (simp [errW_none, errW_some] <;> rfl) | (simp [*, errW_none, errW_some] <;> rfl), by first | exact Kd.R_nil _ _ _ _ _ | exact Kd.N_nil _ _ _ _ _ | exact Kd.V_nil _ _ _ _ _ | exact Kd.Q_nil _ _ _ _ _ | exact Kd.S_nil _ _ _ _ _, by repeat (with_reducible first | exact HB.out | apply ba_ | apply bn_ | apply bd_)⟩
 ·rw [if_neg c2] at H
  have c2b0 : decide (a0 < 0) = false := decide_eq_false c2
  clear c2
  have H' := Aside0.mk H
  clear H
  go_enter Try.func73, Try.ntmps73
  go_wp2
  go_loopg [0, 2] k (fun kq v0 v2 w' => ∃ (x0_1 : Int) (x2_1 : List Int), v0 = .int .i64 x0_1 ∧ Aside0 (num_Put.l0 kq x0_1 x2_1 = some r) ∧ Aside0 (kq ≤ k) ∧ Aside0 (Kd.R (Kd.int .u8) 5 w' w.heap.size (fun _ => True) v2 x2_1) ∧ Aside0 (Below w.heap.size w w'))
  case atStart => exact ⟨(a0), (([] : List Int)), (by first | rfl | (simp; done) | (simp [*]; done)), H', ⟨Nat.le_refl _⟩, ⟨by first | exact Kd.R_nil _ _ _ _ _ | exact Kd.N_nil _ _ _ _ _ | exact Kd.V_nil _ _ _ _ _ | exact Kd.Q_nil _ _ _ _ _ | exact Kd.S_nil _ _ _ _ _⟩, ⟨by repeat (with_reducible first | exact HB.out | apply ba_ | apply bn_ | apply bd_)⟩⟩
  case round =>
   clear H'
   try clear c2
   try clear c2b0
   try clear p2
   obtain ⟨x0_1, x2_1, rfl, HA, HK1, HO_2, HB⟩ := hrel
   cases gk with
   | zero => exact absurd HA.out (by simp [num_Put.l0])
   | succ k1 =>
    have H := HA.out
    clear HA
    simp only [num_Put.l0] at H
    by_cases c3 : x0_1 > 127
    ·rw [if_pos c3] at H
     have c3b0 : decide (127 < x0_1) = true := decide_eq_true c3
     clear c3
     by_cases c4 : x2_1.length < 140737488355328
     ·rw [if_pos c4] at H
      have LMc4 := Aside0.mk c4
      clear c4
      obtain ⟨y1, hy1⟩ : ∃ y_ : List Int, y_ = (x2_1 ++ [Go.bits .or .u8 ((x0_1) % 256) 128]) := ⟨_, rfl⟩
      replace H : (num_Put.l0 k1 (x0_1 / 128) y1) = some r := by first | (rw [hy1]; with_reducible exact H) | (have H2_ := (Option.bind_some _ _).symm.trans H; rw [hy1]; with_reducible exact H2_) | (have H2_ := (Option.bind_some _ _).symm.trans H; with_reducible exact H2_) | with_reducible exact H | (rw [hy1]; exact H) | exact H
      have Ny1 := Aside0.mk hy1
      clear hy1
      have H' := Aside0.mk H
      clear H
      go_wp2_with (first | ((with_reducible refine gate_builtin (b := .append) (xs := #[.tmp 9, .tmp 13]) rfl ?_); at_builtin; refine Kd.R_append (Kd.int .u8) (w0 := w) w.heap.size rfl (.tmp 9) (.tmp 13) 33 5 (.int .u8 0) 1 rfl Try.underlying33 info5 rfl (by decide) (by omega) u2 x2_1 (Go.bits .or .u8 ((x0_1) % 256) 128) [.int .u8 (Go.bits .or .u8 ((x0_1) % 256) 128)] (fun _ => True) (fun _ => False) rfl rfl ?aP (fun _ hk => hk.elim) ?aF ?aO ?aB ?aS ?aL ?_; (case aP => exact rfl); (case aB => exact (by repeat (with_reducible first | exact HB.out | apply ba_ | apply bn_ | apply bd_))); (case aF => exact (fun _ _ => trivial)); (case aO => exact (by (with_reducible repeat (first | apply ra_ | apply rn_ | apply rd_)); exact HO_2.out)); (case aS => exact (below_size (by repeat (with_reducible first | exact HB.out | apply ba_ | apply bn_ | apply bd_)))); (case aL => have := LMc4.out; omega); intro v2 w5 ho hb hg hat; rw [← Ny1.out] at ho; have n0_ := Aside0.mk (hb); have n1_ := Aside0.mk (ho); clear HB; clear HO_2; have HB := n0_; have HO3 := n1_; clear n0_ n1_; clear ho hb hg hat))
      go_roundg k1
      case measure => have := HK1.out; omega
      case rel => exact ⟨(x0_1 / 128), (y1), (by first | rfl | (simp; done) | (simp [*]; done)), H', ⟨by have := HK1.out; omega⟩, ⟨by (with_reducible repeat (first | apply ra_ | apply rn_ | apply rd_)); exact HO3.out⟩, ⟨by repeat (with_reducible first | exact HB.out | apply ba_ | apply bn_ | apply bd_)⟩⟩
     ·rw [if_neg c4] at H
      exact absurd H (by simp)
    ·rw [if_neg c3] at H
     have c3b0 : decide (127 < x0_1) = false := decide_eq_false c3
     clear c3
     by_cases c6 : x2_1.length < 140737488355328
     ·rw [if_pos c6] at H
      have LMc6 := Aside0.mk c6
      clear c6
      obtain ⟨y4, hy4⟩ : ∃ y_ : List Int, y_ = (x2_1 ++ [(x0_1) % 256]) := ⟨_, rfl⟩
      replace H : (some y4) = some r := by first | (rw [hy4]; with_reducible exact H) | (have H2_ := (Option.bind_some _ _).symm.trans H; rw [hy4]; with_reducible exact H2_) | (have H2_ := (Option.bind_some _ _).symm.trans H; with_reducible exact H2_) | with_reducible exact H | (rw [hy4]; exact H) | exact H
      have Ny4 := Aside0.mk hy4
      clear hy4
      obtain rfl := Option.some.inj H
      go_wp2_with (first | ((with_reducible refine gate_builtin (b := .append) (xs := #[.tmp 15, .tmp 18]) rfl ?_); at_builtin; refine Kd.R_append (Kd.int .u8) (w0 := w) w.heap.size rfl (.tmp 15) (.tmp 18) 33 5 (.int .u8 0) 1 rfl Try.underlying33 info5 rfl (by decide) (by omega) u2 x2_1 ((x0_1) % 256) [.int .u8 ((x0_1) % 256)] (fun _ => True) (fun _ => False) rfl rfl ?aP (fun _ hk => hk.elim) ?aF ?aO ?aB ?aS ?aL ?_; (case aP => exact rfl); (case aB => exact (by repeat (with_reducible first | exact HB.out | apply ba_ | apply bn_ | apply bd_))); (case aF => exact (fun _ _ => trivial)); (case aO => exact (by (with_reducible repeat (first | apply ra_ | apply rn_ | apply rd_)); exact HO_2.out)); (case aS => exact (below_size (by repeat (with_reducible first | exact HB.out | apply ba_ | apply bn_ | apply bd_)))); (case aL => have := LMc6.out; omega); intro v5 w7 ho hb hg hat; rw [← Ny4.out] at ho; have n0_ := Aside0.mk (hb); have n1_ := Aside0.mk (ho); clear HB; clear HO_2; have HB := n0_; have HO6 := n1_; clear n0_ n1_; clear ho hb hg hat))
      go_ret
      exact ⟨_, by first | rfl | (simp [errW_none, errW_some] <;> rfl) | (simp [*, errW_none, errW_some] <;> rfl), by (with_reducible repeat (first | apply ra_ | apply rn_ | apply rd_)); exact HO6.out, by repeat (with_reducible first | exact HB.out | apply ba_ | apply bn_ | apply bd_)⟩
     ·rw [if_neg c6] at H
      exact absurd H (by simp)
end Go.Proofs.Ytnlfhbohcgjcbaa.PA
namespace Go.Proofs.Ytnlfhbohcgjcbaa.PA
open Go.RowKit Go.Proofs.YtnlfhbohcgjcbaaW.PrintWords Go.Proofs.YtnlfhbohcgjcbaaW.PrintLast Go.Proofs.YtnlfhbohcgjcbaaW.PrintMore
set_option linter.unusedVariables false
set_option linter.unusedSimpArgs false
theorem infoGrow5 : (Try.prog.info? 5).map (fun i => (i.zero, i.size, i.bytes)) = some (some (.int .u8 0), ((Kd.int .u8)).sz, 1) := by kernel_rfl
def slices_Grow_Lbyte_byte_nil.f (a1 : Int) : Option (List (Int)) := if 0 ≤ a1 then if a1 < 140737488355328 then some [] else none else none
set_option maxHeartbeats 2000000 in
set_option maxRecDepth 100000 in
theorem slices_Grow_Lbyte_byte_nil.calls (a1 : Int) (r : List (Int)) (w : World) (h : slices_Grow_Lbyte_byte_nil.f a1 = some r) :
  Calls Try.prog 125 #[.slice none 0 0, .int .i64 a1] w fun e w' => ∃ v0_ : Value, e = .returned (v0_) ∧ Kd.R (Kd.int .u8) 5 w' w.heap.size (fun _ => True) v0_ r ∧ Below w.heap.size w w' := by
 unfold slices_Grow_Lbyte_byte_nil.f at h
 split at h
 rotate_left
 ·cases h
 rename_i h0
 split at h
 rotate_left
 ·cases h
 rename_i h1
 obtain rfl := Option.some.inj h
 clear h
 by_cases hz : a1 = 0
 ·subst hz
  go_enter Try.func125, Try.ntmps125
  go_wp2
  go_ret
  exact ⟨_, rfl, Kd.R_nil _ _ _ _ _, Below.refl _ _⟩
 ·have hp : 0 < a1 := by omega
  have hd1 : decide (a1 < 0) = false := decide_eq_false (by omega)
  have hd2 : decide (0 < a1) = true := decide_eq_true hp
  have HL := Aside0.mk h1
  clear hz
  go_enter Try.func125, Try.ntmps125
  go_wp2_with ((with_reducible refine gate_builtin (b := .append) (xs := #[.tmp 20, .tmp 21]) rfl ?_); at_builtin; refine Kd.R_append_zeros (Kd.int .u8) (w0 := w) w.heap.size rfl (.tmp 20) (.tmp 21) 33 3 5 (.int .u8 0) 1 rfl Try.underlying33 Try.underlying3 infoGrow5 rfl (by decide) (by omega) (.slice none 0 0) [] (0 : Int) a1 (fun _ => True) rfl rfl (show Kd.M (Kd.int .u8) _ _ _ (0 : Int) [.int .u8 0] from rfl) (fun _ _ => trivial) (Kd.R_nil _ _ _ _ _) (by omega) (Below.refl _ _) (Nat.le_refl _) (by have := HL.out; simp; omega) ?_; intro v22 w22 ho22 hb22 hg22 hat22; clear hg22 hat22; obtain ⟨A22, c22, rfl⟩ := Kd.R_slice ho22; have HO22 := Aside0.mk ho22; have HB22 := Aside0.mk hb22; clear ho22 hb22)
  go_ret
  refine ⟨_, rfl, ?_, HB22.out⟩
  have ht := Kd.R_take HO22.out (m := 0) (by simp)
  simpa using ht
end Go.Proofs.Ytnlfhbohcgjcbaa.PA
namespace Go.Proofs.Ytnlfhbohcgjcbaa.PA
open Go.RowKit Go.Proofs.YtnlfhbohcgjcbaaW.PrintWords Go.Proofs.YtnlfhbohcgjcbaaW.PrintLast Go.Proofs.YtnlfhbohcgjcbaaW.PrintMore
attribute [local go_sem] max2_int min2_int max_two min_two max_three min_three max_four min_four
set_option linter.unusedVariables false
set_option linter.unusedSimpArgs false
mutual
def slices_Concat_Lbyte_byte.l0 : Nat → List (List Int) → Int → List (List Int) → Int → Int → Option (List Int)
 | 0, _, _, _, _, _ => none
 | k + 1, x0, x3, x9, x10, x11 => if x11 < x10 then (if 0 ≤ x11 then (if x11 < (x9.length : Int) then (if (wrap64 (x3 + ((rd_L7 x9 x11).length : Int))) < 0 then (none) else (slices_Concat_Lbyte_byte.l0 k x0 (wrap64 (x3 + ((rd_L7 x9 x11).length : Int))) x9 x10 (wrap64 (x11 + 1)))) else (none)) else (none)) else ((slices_Grow_Lbyte_byte_nil.f x3).bind fun t2 => (slices_Concat_Lbyte_byte.l1 k t2 x0 (x0.length : Int) 0))
def slices_Concat_Lbyte_byte.l1 : Nat → List Int → List (List Int) → Int → Int → Option (List Int)
 | 0, _, _, _, _ => none
 | k + 1, x6, x25, x26, x27 => if x27 < x26 then (if 0 ≤ x27 then (if x27 < (x25.length : Int) then (if x6.length + (rd_L7 x25 x27).length < 140737488355328 then (slices_Concat_Lbyte_byte.l1 k (x6 ++ (rd_L7 x25 x27)) x25 x26 (wrap64 (x27 + 1))) else (none)) else (none)) else (none)) else (some x6)
end
def slices_Concat_Lbyte_byte.f (k : Nat) (l0 : List (List Int)) : Option (List Int) := slices_Concat_Lbyte_byte.l0 k l0 0 l0 (l0.length : Int) 0
set_option maxHeartbeats 8000000 in
set_option maxRecDepth 100000 in
theorem slices_Concat_Lbyte_byte.calls (k : Nat) (A0 : Option Addr) (c0 : Nat) (l0 : List (List Int)) (r : List Int) (w : World) (hr0 : Kd.C (Kd.slice 5 (Kd.int .u8)) w A0 l0.length l0) (hc0 : l0.length ≤ c0) (h : slices_Concat_Lbyte_byte.f k l0 = some r) :
  Calls Try.prog 72 #[.slice A0 l0.length c0] w fun e w' => ∃ v0_ : Value, e = .returned (v0_) ∧ Kd.R (Kd.int .u8) 5 w' w.heap.size (fun _ => True) v0_ r ∧ Below w.heap.size w w' := by
 have HR0 := Aside0.mk hr0
 have HC0 := Aside0.mk hc0
 clear hr0 hc0
 have HB := Aside0.mk (Below.refl w.heap.size w)
 have H : (slices_Concat_Lbyte_byte.l0 k l0 0 l0 (l0.length : Int) 0) = some r := h
 clear h
 have H' := Aside0.mk H
 clear H
 go_enter Try.func72, Try.ntmps72
 go_wp2
 go_loopg [3, 11] k (fun kq v3 v11 w' => ∃ (x3_1 : Int) (x11_1 : Int), v3 = .int .i64 x3_1 ∧ v11 = .int .i64 x11_1 ∧ Aside0 (slices_Concat_Lbyte_byte.l0 kq l0 x3_1 l0 (l0.length : Int) x11_1 = some r) ∧ Aside0 (kq ≤ k) ∧ Aside0 (Below w.heap.size w w'))
 case atStart => exact ⟨(0), (0), (by first | rfl | (simp; done) | (simp [*]; done)), (by first | rfl | (simp; done) | (simp [*]; done)), H', ⟨Nat.le_refl _⟩, ⟨by repeat (with_reducible first | exact HB.out | apply ba_ | apply bn_ | apply bd_)⟩⟩
 case round =>
  clear H'
  obtain ⟨x3_1, x11_1, rfl, rfl, HA, HK1, HB⟩ := hrel
  cases gk with
  | zero => exact absurd HA.out (by simp [slices_Concat_Lbyte_byte.l0])
  | succ k1 =>
   have H := HA.out
   clear HA
   simp only [slices_Concat_Lbyte_byte.l0] at H
   by_cases c2 : x11_1 < (l0.length : Int)
   ·rw [if_pos c2] at H
    have c2b0 : decide (x11_1 < (l0.length : Int)) = true := decide_eq_true c2
    clear c2
    by_cases c3 : 0 ≤ x11_1
    ·rw [if_pos c3] at H
     have c3b0 : decide (0 ≤ x11_1) = true := decide_eq_true c3
     clear c3
     by_cases c4 : x11_1 < (l0.length : Int)
     ·rw [if_pos c4] at H
      have c4b0 : decide (x11_1 < (l0.length : Int)) = true := decide_eq_true c4
      clear c4
      by_cases c5 : (wrap64 (x3_1 + ((rd_L7 l0 x11_1).length : Int))) < 0
      ·rw [if_pos c5] at H
       exact absurd H (by simp)
      ·rw [if_neg c5] at H
       have c5b0 : decide ((wrap64 (x3_1 + ((rd_L7 l0 x11_1).length : Int))) < 0) = false := decide_eq_false c5
       clear c5
       have H' := Aside0.mk H
       clear H
       have p1 : 0 ≤ (x11_1 : Int) := of_decide_eq_true (by first | (with_reducible assumption) | assumption)
       have q1 : x11_1 < (l0.length : Int) := of_decide_eq_true (by first | (with_reducible assumption) | assumption)
       obtain ⟨ad1, A1_0, c1_0, e1, hx1_0, hl1_0, hi1_0⟩ := at_L7 HR0.out x11_1 p1 q1
       cases e1
       replace hx1_0 := (HB.out.cell (World.block_lt_of_cell? w _ hx1_0)).trans hx1_0
       have HR1_0 := Aside0.mk hi1_0
       have HC1_0 := Aside0.mk hl1_0
       clear hi1_0 hl1_0
       replace p1 := eq_true p1
       replace q1 := eq_true q1
       go_wp2
       go_roundg k1
       case measure => have := HK1.out; omega
       case rel => exact ⟨(wrap64 (x3_1 + ((rd_L7 l0 x11_1).length : Int))), (wrap64 (x11_1 + 1)), (by first | rfl | (simp; done) | (simp [*]; done)), (by first | rfl | (simp; done) | (simp [*]; done)), H', ⟨by have := HK1.out; omega⟩, ⟨by repeat (with_reducible first | exact HB.out | apply ba_ | apply bn_ | apply bd_)⟩⟩
     ·rw [if_neg c4] at H
      exact absurd H (by simp)
    ·rw [if_neg c3] at H
     exact absurd H (by simp)
   ·rw [if_neg c2] at H
    have c2b0 : decide (x11_1 < (l0.length : Int)) = false := decide_eq_false c2
    clear c2
    replace H := Option.bind_eq_some_iff.mp H
    obtain ⟨t2, A60, H⟩ := H
    (try dsimp only at H)
    have A6 := Aside0.mk A60
    clear A60
    have H' := Aside0.mk H
    clear H
    go_wp2_with (first | ((with_reducible refine gate_callee (f := 125) rfl ?_); refine goesM_ (some 24) Try.func125 #[.slice none 0 0, .int .i64 x3_1] ?_; (with_reducible refine (slices_Grow_Lbyte_byte_nil.calls  x3_1 t2 _ A6.out).mono ?_); rintro e w7 ⟨v3, rfl, ho0, hb⟩; refine ⟨_, rfl, ?_⟩; have n0_ := Aside0.mk (Kd.R_lower ho0 (below_size (by repeat (with_reducible first | exact HB.out | apply ba_ | apply bn_ | apply bd_)))); have n1_ := Aside0.mk (below_step (by repeat (with_reducible first | exact HB.out | apply ba_ | apply bn_ | apply bd_)) hb); clear HB; have HO4 := n0_; have HB := n1_; clear n0_ n1_; clear hb ho0))
    go_loopg [6, 27] k1 (fun kq v6 v27 w' => ∃ (x6_2 : List Int) (x27_2 : Int), v27 = .int .i64 x27_2 ∧ Aside0 (slices_Concat_Lbyte_byte.l1 kq x6_2 l0 (l0.length : Int) x27_2 = some r) ∧ Aside0 (kq ≤ k1) ∧ Aside0 (Kd.R (Kd.int .u8) 5 w' w.heap.size (fun _ => True) v6 x6_2) ∧ Aside0 (Below w.heap.size w w'))
    case atStart => exact ⟨(t2), (0), (by first | rfl | (simp; done) | (simp [*]; done)), H', ⟨Nat.le_refl _⟩, ⟨by (with_reducible repeat (first | apply ra_ | apply rn_ | apply rd_)); exact HO4.out⟩, ⟨by repeat (with_reducible first | exact HB.out | apply ba_ | apply bn_ | apply bd_)⟩⟩
    case round =>
     clear H'
     try clear c1
     try clear p1
     try clear q1
     try clear hx1
     try clear c2
     try clear c2b0
     try clear p2
     try clear c3
     try clear c3b0
     try clear c4
     try clear c4b0
     try clear c5
     try clear c5b0
     try clear p6
     try clear c7
     try clear hx1_0
     try clear p1
     try clear q1
     obtain ⟨x6_2, x27_2, rfl, HA, HK2, HO_6, HB⟩ := hrel
     cases gk with
     | zero => exact absurd HA.out (by simp [slices_Concat_Lbyte_byte.l1])
     | succ k2 =>
      have H := HA.out
      clear HA
      simp only [slices_Concat_Lbyte_byte.l1] at H
      by_cases c8 : x27_2 < (l0.length : Int)
      ·rw [if_pos c8] at H
       have c8b0 : decide (x27_2 < (l0.length : Int)) = true := decide_eq_true c8
       clear c8
       by_cases c9 : 0 ≤ x27_2
       ·rw [if_pos c9] at H
        have c9b0 : decide (0 ≤ x27_2) = true := decide_eq_true c9
        clear c9
        by_cases c10 : x27_2 < (l0.length : Int)
        ·rw [if_pos c10] at H
         have c10b0 : decide (x27_2 < (l0.length : Int)) = true := decide_eq_true c10
         clear c10
         by_cases c11 : x6_2.length + (rd_L7 l0 x27_2).length < 140737488355328
         ·rw [if_pos c11] at H
          have LMc11 := Aside0.mk c11
          clear c11
          obtain ⟨y6, hy6⟩ : ∃ y_ : List Int, y_ = (x6_2 ++ (rd_L7 l0 x27_2)) := ⟨_, rfl⟩
          replace H : (slices_Concat_Lbyte_byte.l1 k2 y6 l0 (l0.length : Int) (wrap64 (x27_2 + 1))) = some r := by first | (rw [hy6]; with_reducible exact H) | (have H2_ := (Option.bind_some _ _).symm.trans H; rw [hy6]; with_reducible exact H2_) | (have H2_ := (Option.bind_some _ _).symm.trans H; with_reducible exact H2_) | with_reducible exact H | (rw [hy6]; exact H) | exact H
          have Ny6 := Aside0.mk hy6
          clear hy6
          have H' := Aside0.mk H
          clear H
          have p5 : 0 ≤ (x27_2 : Int) := of_decide_eq_true (by first | (with_reducible assumption) | assumption)
          have q5 : x27_2 < (l0.length : Int) := of_decide_eq_true (by first | (with_reducible assumption) | assumption)
          obtain ⟨ad5, A5_0, c5_0, e5, hx5_0, hl5_0, hi5_0⟩ := at_L7 HR0.out x27_2 p5 q5
          cases e5
          replace hx5_0 := (HB.out.cell (World.block_lt_of_cell? w _ hx5_0)).trans hx5_0
          have HR5_0 := Aside0.mk hi5_0
          have HC5_0 := Aside0.mk hl5_0
          clear hi5_0 hl5_0
          replace p5 := eq_true p5
          replace q5 := eq_true q5
          go_wp2_with (first | ((with_reducible refine gate_builtin (b := .append) (xs := #[.tmp 31, .tmp 32]) rfl ?_); at_builtin; refine Kd.R_append_rows (Kd.int .u8) (w0 := w) w.heap.size rfl (.tmp 31) (.tmp 32) 33 5 (.int .u8 0) 1 rfl Try.underlying33 info5 rfl (by decide) (by omega) u6 x6_2 (rd_L7 l0 x27_2) _ _ _ (fun _ => True) (fun _ => False) rfl rfl ?aO ?aR (fun _ _ h => h) (fun _ h => h.elim) ?aF ?aB ?aS ?aL ?_; (case aR => repeat (first | exact (Kd.C_below HR5_0.out HB.out) | (with_reducible refine ca_ ?_ _) | (with_reducible refine cn_ ?_ _) | (with_reducible refine cd_ ?_))); (case aB => exact (by repeat (with_reducible first | exact HB.out | apply ba_ | apply bn_ | apply bd_))); (case aF => exact (fun _ _ => trivial)); (case aO => exact (by (with_reducible repeat (first | apply ra_ | apply rn_ | apply rd_)); exact HO_6.out)); (case aS => exact (below_size (by repeat (with_reducible first | exact HB.out | apply ba_ | apply bn_ | apply bd_)))); (case aL => have := LMc11.out; omega); intro v7 w12 ho hb hg hat; rw [← Ny6.out] at ho; have n0_ := Aside0.mk (hb); have n1_ := Aside0.mk (ho); clear HB; clear HO_6; have HB := n0_; have HO8 := n1_; clear n0_ n1_; clear ho hb hg hat))
          go_roundg k2
          case measure => have := HK1.out; have := HK2.out; omega
          case rel => exact ⟨(y6), (wrap64 (x27_2 + 1)), (by first | rfl | (simp; done) | (simp [*]; done)), H', ⟨by have := HK1.out; have := HK2.out; omega⟩, ⟨by (with_reducible repeat (first | apply ra_ | apply rn_ | apply rd_)); exact HO8.out⟩, ⟨by repeat (with_reducible first | exact HB.out | apply ba_ | apply bn_ | apply bd_)⟩⟩
         ·rw [if_neg c11] at H
          exact absurd H (by simp)
        ·rw [if_neg c10] at H
         exact absurd H (by simp)
       ·rw [if_neg c9] at H
        exact absurd H (by simp)
      ·rw [if_neg c8] at H
       have c8b0 : decide (x27_2 < (l0.length : Int)) = false := decide_eq_false c8
       clear c8
       obtain rfl := Option.some.inj H
       go_wp2
       go_ret
       exact ⟨_, by first | rfl | (simp [errW_none, errW_some] <;> rfl) | (simp [*, errW_none, errW_some] <;> rfl), by (with_reducible repeat (first | apply ra_ | apply rn_ | apply rd_)); exact HO_6.out, by repeat (with_reducible first | exact HB.out | apply ba_ | apply bn_ | apply bd_)⟩
def num_PutText.f (k : Nat) (a0 : ByteArray) : Option (List Int) := if (a0.size : Int) > 255 then (some ([] : List Int)) else ((num_Put.f k (a0.size : Int)).bind fun t1 => (if t1.length + a0.size < 140737488355328 then (some (t1 ++ bytesOf a0)) else (none)))
set_option maxHeartbeats 8000000 in
set_option maxRecDepth 100000 in
theorem num_PutText.calls (k : Nat) (a0 : ByteArray) (r : List Int) (w : World) (h : num_PutText.f k a0 = some r) :
  Calls Try.prog 74 #[.string a0] w fun e w' => ∃ v0_ : Value, e = .returned (v0_) ∧ Kd.R (Kd.int .u8) 5 w' w.heap.size (fun _ => True) v0_ r ∧ Below w.heap.size w w' := by
 have HB := Aside0.mk (Below.refl w.heap.size w)
 have H : (if (a0.size : Int) > 255 then (some ([] : List Int)) else ((num_Put.f k (a0.size : Int)).bind fun t1 => (if t1.length + a0.size < 140737488355328 then (some (t1 ++ bytesOf a0)) else (none)))) = some r := h
 clear h
 by_cases c2 : (a0.size : Int) > 255
 ·rw [if_pos c2] at H
  have c2b0 : decide (255 < (a0.size : Int)) = true := decide_eq_true c2
  have c2b1 : decide (255 < a0.size) = true := decide_eq_true (by omega)
  clear c2
  obtain rfl := Option.some.inj H
  go_enter Try.func74, Try.ntmps74
  go_wp2
  go_ret
  exact ⟨_, by first | rfl | (simp [errW_none, errW_some] <;> rfl) | (simp [*, errW_none, errW_some] <;> rfl), by first | exact Kd.R_nil _ _ _ _ _ | exact Kd.N_nil _ _ _ _ _ | exact Kd.V_nil _ _ _ _ _ | exact Kd.Q_nil _ _ _ _ _ | exact Kd.S_nil _ _ _ _ _, by repeat (with_reducible first | exact HB.out | apply ba_ | apply bn_ | apply bd_)⟩
 ·rw [if_neg c2] at H
  have c2b0 : decide (255 < (a0.size : Int)) = false := decide_eq_false c2
  have c2b1 : decide (255 < a0.size) = false := decide_eq_false (by omega)
  clear c2
  replace H := Option.bind_eq_some_iff.mp H
  obtain ⟨t1, A30, H⟩ := H
  (try dsimp only at H)
  have A3 := Aside0.mk A30
  clear A30
  by_cases c4 : t1.length + a0.size < 140737488355328
  ·rw [if_pos c4] at H
   have LMc4 := Aside0.mk c4
   clear c4
   obtain ⟨y4, hy4⟩ : ∃ y_ : List Int, y_ = (t1 ++ bytesOf a0) := ⟨_, rfl⟩
   replace H : (some y4) = some r := by first | (rw [hy4]; with_reducible exact H) | (have H2_ := (Option.bind_some _ _).symm.trans H; rw [hy4]; with_reducible exact H2_) | (have H2_ := (Option.bind_some _ _).symm.trans H; with_reducible exact H2_) | with_reducible exact H | (rw [hy4]; exact H) | exact H
   have Ny4 := Aside0.mk hy4
   clear hy4
   obtain rfl := Option.some.inj H
   go_enter Try.func74, Try.ntmps74
   go_wp2_with (first | ((with_reducible refine gate_callee (f := 73) rfl ?_); refine goesM_ (some 8) Try.func73 #[.int .i64 (a0.size : Int)] ?_; (with_reducible refine (num_Put.calls k (a0.size : Int) t1 _ A3.out).mono ?_); rintro e w5 ⟨v2, rfl, ho0, hb⟩; refine ⟨_, rfl, ?_⟩; have n0_ := Aside0.mk (Kd.R_lower ho0 (below_size (by repeat (with_reducible first | exact HB.out | apply ba_ | apply bn_ | apply bd_)))); have n1_ := Aside0.mk (below_step (by repeat (with_reducible first | exact HB.out | apply ba_ | apply bn_ | apply bd_)) hb); clear HB; have HO3 := n0_; have HB := n1_; clear n0_ n1_; clear hb ho0) | (at_builtin; refine print_append_str (w0 := w) w.heap.size rfl (.tmp 8) _ 33 9 5 rfl Try.underlying33 Try.underlying9 info5 v2 t1 a0 rfl rfl ?aO ?aB ?aS ?aL ?_; (case aB => exact (by repeat (with_reducible first | exact HB.out | apply ba_ | apply bn_ | apply bd_))); (case aO => exact (Kd.own_of_R (by (with_reducible repeat (first | apply ra_ | apply rn_ | apply rd_)); exact HO3.out))); (case aS => exact (below_size (by repeat (with_reducible first | exact HB.out | apply ba_ | apply bn_ | apply bd_)))); (case aL => have := LMc4.out; omega); intro v5 w6 ho0 hb hg; have ho := Kd.R_of_own (h1 := fun _ => rfl) (ok := fun _ => True) ho0 (fun _ _ => trivial); clear ho0; have hat := True.intro; rw [← Ny4.out] at ho; change Kd.R (Kd.int .u8) 5 w6 w.heap.size (fun _ => True) v5 y4 at ho; have n0_ := Aside0.mk (hb); have n1_ := Aside0.mk (ho); clear HB; clear HO3; have HB := n0_; have HO6 := n1_; clear n0_ n1_; clear ho hb hg hat))
   go_ret
   exact ⟨_, by first | rfl | (simp [errW_none, errW_some] <;> rfl) | (simp [*, errW_none, errW_some] <;> rfl), by (with_reducible repeat (first | apply ra_ | apply rn_ | apply rd_)); exact HO6.out, by repeat (with_reducible first | exact HB.out | apply ba_ | apply bn_ | apply bd_)⟩
  ·rw [if_neg c4] at H
   exact absurd H (by simp)
def txn_flag.f (a0 : Bool) : Option (Int) := if a0 = true then (some 1) else (some 0)
set_option maxHeartbeats 8000000 in
set_option maxRecDepth 100000 in
theorem txn_flag.calls (a0 : Bool) (r : Int) (w : World) (h : txn_flag.f a0 = some r) :
  Calls Try.prog 75 #[.bool a0] w fun e w' => e = .returned (.int .u8 r) ∧ Drawn0 w w' := by
 have H : (if a0 = true then (some 1) else (some 0)) = some r := h
 clear h
 by_cases c2 : a0 = true
 ·subst c2
  have H1 : (some 1) = some r := by rw [if_pos rfl] at H; exact H
  clear H
  have H := H1
  clear H1
  obtain rfl := Option.some.inj H
  go_enter Try.func75, Try.ntmps75
  go_wp2
  go_ret
  exact ⟨by first | rfl | (simp; done) | (simp [*]; done), by repeat (first | exact Drawn0.refl _ | apply Drawn0.step)⟩
 ·replace c2 := Bool.eq_false_iff.mpr c2
  subst c2
  have H1 : (some 0) = some r := by rw [if_neg (show ¬ (false = true) by decide)] at H; exact H
  clear H
  have H := H1
  clear H1
  obtain rfl := Option.some.inj H
  go_enter Try.func75, Try.ntmps75
  go_wp2
  go_ret
  exact ⟨by first | rfl | (simp; done) | (simp [*]; done), by repeat (first | exact Drawn0.refl _ | apply Drawn0.step)⟩
mutual
def txn_Put.l0 : Nat → List Int → List (S24) → Int → Int → Int → Int → List (S24) → List (S27) → Option (List Int)
 | 0, _, _, _, _, _, _, _, _ => none
 | k + 1, x3, x24, x25, x26, x2000, x2001, x2002, x2003 => if x26 < x25 then (if 0 ≤ x26 then (if x26 < (x24.length : Int) then ((num_PutText.f k ((rd_T24 x24 x26).f0)).bind fun t20 => ((num_Put.f k ((rd_T24 x24 x26).f1)).bind fun t23 => ((num_PutText.f k ((rd_T24 x24 x26).f2)).bind fun t26 => ((slices_Concat_Lbyte_byte.f k (([x3, t20, t23, t26] : List (List Int)))).bind fun t32 => ((txn_flag.f ((rd_T24 x24 x26).f3)).bind fun t35 => (if t32.length < 140737488355328 then (txn_Put.l0 k (t32 ++ [t35]) x24 x25 (wrap64 (x26 + 1)) x2000 x2001 x2002 x2003) else (none))))))) else (none)) else (none)) else ((num_Put.f k (x2003.length : Int)).bind fun t39 => (if x3.length + t39.length < 140737488355328 then (txn_Put.l1 k (x3 ++ t39) x2003 (x2003.length : Int) 0) else (none)))
def txn_Put.l1 : Nat → List Int → List (S27) → Int → Int → Option (List Int)
 | 0, _, _, _, _ => none
 | k + 1, x3, x55, x56, x57 => if x57 < x56 then (if 0 ≤ x57 then (if x57 < (x55.length : Int) then ((num_PutText.f k ((rd_T27 x55 x57).f0)).bind fun t47 => ((num_PutText.f k ((rd_T27 x55 x57).f1)).bind fun t50 => ((slices_Concat_Lbyte_byte.f k (([x3, t47, t50] : List (List Int)))).bind fun t56 => ((txn_flag.f ((rd_T27 x55 x57).f2)).bind fun t59 => (if t56.length < 140737488355328 then (txn_Put.l1 k (t56 ++ [t59]) x55 x56 (wrap64 (x57 + 1))) else (none)))))) else (none)) else (none)) else (some x3)
end
def txn_Put.f (k : Nat) (a0_0 : Int) (a0_1 : Int) (l0_2 : List (S24)) (l0_3 : List (S27)) : Option (List Int) := (txn_May.f k a0_0 a0_1 l0_2 l0_3).bind fun t2 => (if t2 = true then ((num_Put.f k a0_0).bind fun t3 => ((num_Put.f k a0_1).bind fun t6 => ((num_Put.f k (l0_2.length : Int)).bind fun t9 => ((slices_Concat_Lbyte_byte.f k (([t3, t6, t9] : List (List Int)))).bind fun t15 => (txn_Put.l0 k t15 l0_2 (l0_2.length : Int) 0 a0_0 a0_1 l0_2 l0_3))))) else (some ([] : List Int)))
def txn_Put.T3 : Bool × List (List Nat × List Nat) := (true, [([], []), ([0], [0]), ([1], [1]), ([], []), ([3], [3]), ([4, 2], [4]), ([], []), ([6], [6]), ([7], [7]), ([8, 5], [8]), ([2, 5, 9], [2, 5, 9]), ([10, 9], [10]), ([11, 11, 0, 1, 2, 3, 4, 5, 6, 7, 8, 9, 10, 11], [11])])
def txn_Put.B3 : List Nat := [0, 1, 3, 0, 8, 31, 0, 64, 192, 511, 1023, 2047, 4095]
theorem txn_Put.tab3 : rtab .any (opsOf Try.f19 3) = txn_Put.T3 := by kernel_rfl
theorem txn_Put.bits3 : waitsOk txn_Put.T3.2 txn_Put.B3 = true := by kernel_rfl
def txn_Put.T7 : Bool × List (List Nat × List Nat) := (true, [([], []), ([], []), ([1], [1]), ([2], [2]), ([], []), ([4], [4]), ([5, 3], [5]), ([], []), ([7], [7]), ([8, 6], [8]), ([0, 3, 6, 9], [0, 3, 6, 9]), ([10, 9], [10]), ([], []), ([12], [12]), ([13, 11], [13]), ([14], [14]), ([11, 15, 14], [11, 15]), ([16, 16, 0, 1, 2, 3, 4, 5, 6, 7, 8, 9, 10, 11, 12, 13, 14, 15, 16], [0, 16])])
def txn_Put.B7 : List Nat := [0, 0, 2, 6, 0, 16, 62, 0, 128, 510, 1023, 2047, 0, 4096, 16383, 32767, 65535, 131071]
theorem txn_Put.tab7 : rtab .any (opsOf Try.f19 7) = txn_Put.T7 := by kernel_rfl
theorem txn_Put.bits7 : waitsOk txn_Put.T7.2 txn_Put.B7 = true := by kernel_rfl
def txn_Put.T13 : Bool × List (List Nat × List Nat) := (true, [([], []), ([], []), ([1], [1]), ([2], [2]), ([], []), ([4], [4]), ([5, 3], [5]), ([0, 3, 6], [0, 3, 6]), ([7, 6], [7]), ([], []), ([9], [9]), ([10, 8], [10]), ([11], [11]), ([8, 12, 11], [8, 12]), ([13, 13, 0, 1, 2, 3, 4, 5, 6, 7, 8, 9, 10, 11, 12, 13], [0, 13])])
def txn_Put.B13 : List Nat := [0, 0, 2, 6, 0, 16, 62, 127, 255, 0, 512, 2047, 4095, 8191, 16383]
theorem txn_Put.tab13 : rtab .any (opsOf Try.f19 13) = txn_Put.T13 := by kernel_rfl
theorem txn_Put.bits13 : waitsOk txn_Put.T13.2 txn_Put.B13 = true := by kernel_rfl
set_option maxHeartbeats 8000000 in
set_option maxRecDepth 100000 in
theorem txn_Put.calls (k : Nat) (a0_0 : Int) (a0_1 : Int) (A0_2 : Option Addr) (c0_2 : Nat) (l0_2 : List (S24)) (A0_3 : Option Addr) (c0_3 : Nat) (l0_3 : List (S27)) (r : List Int) (w : World) (hr0_2 : Kd.C k24 w A0_2 l0_2.length l0_2) (hc0_2 : l0_2.length ≤ c0_2) (hr0_3 : Kd.C k27 w A0_3 l0_3.length l0_3) (hc0_3 : l0_3.length ≤ c0_3) (h : txn_Put.f k a0_0 a0_1 l0_2 l0_3 = some r) :
  Calls Try.prog 19 #[.agg #[.int .i64 a0_0, .int .i64 a0_1, .slice A0_2 l0_2.length c0_2, .slice A0_3 l0_3.length c0_3]] w fun e w' => ∃ v0_ : Value, e = .returned (v0_) ∧ Kd.R (Kd.int .u8) 5 w' w.heap.size (fun _ => True) v0_ r ∧ Below w.heap.size w w' := by
 have hu30 := Try.underlying30
 have hu24 := Try.underlying24
 have hu27 := Try.underlying27
 have HR0_2 := Aside0.mk hr0_2
 have HC0_2 := Aside0.mk hc0_2
 clear hr0_2 hc0_2
 have HR0_3 := Aside0.mk hr0_3
 have HC0_3 := Aside0.mk hc0_3
 clear hr0_3 hc0_3
 have HB := Aside0.mk (Below.refl w.heap.size w)
 have H : ((txn_May.f k a0_0 a0_1 l0_2 l0_3).bind fun t2 => (if t2 = true then ((num_Put.f k a0_0).bind fun t3 => ((num_Put.f k a0_1).bind fun t6 => ((num_Put.f k (l0_2.length : Int)).bind fun t9 => ((slices_Concat_Lbyte_byte.f k (([t3, t6, t9] : List (List Int)))).bind fun t15 => (txn_Put.l0 k t15 l0_2 (l0_2.length : Int) 0 a0_0 a0_1 l0_2 l0_3))))) else (some ([] : List Int)))) = some r := h
 clear h
 replace H := Option.bind_eq_some_iff.mp H
 obtain ⟨t2, A20, H⟩ := H
 (try dsimp only at H)
 have A2 := Aside0.mk A20
 clear A20
 by_cases c3 : t2 = true
 ·subst c3
  have H1 : ((num_Put.f k a0_0).bind fun t3 => ((num_Put.f k a0_1).bind fun t6 => ((num_Put.f k (l0_2.length : Int)).bind fun t9 => ((slices_Concat_Lbyte_byte.f k (([t3, t6, t9] : List (List Int)))).bind fun t15 => (txn_Put.l0 k t15 l0_2 (l0_2.length : Int) 0 a0_0 a0_1 l0_2 l0_3))))) = some r := by rw [if_pos rfl] at H; exact H
  clear H
  have H := H1
  clear H1
  replace H := Option.bind_eq_some_iff.mp H
  obtain ⟨t3, A40, H⟩ := H
  (try dsimp only at H)
  have A4 := Aside0.mk A40
  clear A40
  replace H := Option.bind_eq_some_iff.mp H
  obtain ⟨t6, A50, H⟩ := H
  (try dsimp only at H)
  have A5 := Aside0.mk A50
  clear A50
  replace H := Option.bind_eq_some_iff.mp H
  obtain ⟨t9, A60, H⟩ := H
  (try dsimp only at H)
  have A6 := Aside0.mk A60
  clear A60
  obtain ⟨y12, hy12⟩ : ∃ y_ : List (List Int), y_ = (([t3, t6, t9] : List (List Int))) := ⟨_, rfl⟩
  replace H : ((slices_Concat_Lbyte_byte.f k y12).bind fun t15 => (txn_Put.l0 k t15 l0_2 (l0_2.length : Int) 0 a0_0 a0_1 l0_2 l0_3)) = some r := by first | (rw [hy12]; with_reducible exact H) | (have H2_ := (Option.bind_some _ _).symm.trans H; rw [hy12]; with_reducible exact H2_) | (have H2_ := (Option.bind_some _ _).symm.trans H; with_reducible exact H2_) | with_reducible exact H | (rw [hy12]; exact H) | exact H
  have Ny12 := Aside0.mk hy12
  clear hy12
  replace H := Option.bind_eq_some_iff.mp H
  obtain ⟨t15, A70, H⟩ := H
  (try dsimp only at H)
  have A7 := Aside0.mk A70
  clear A70
  have H' := Aside0.mk H
  clear H
  go_enter Try.func19, Try.ntmps19
  try go_wp2_with (first | ((with_reducible refine gate_dst (N := 1) rfl ?_); refine box_event ?hg (N := 1) ?hd (cs := #[.int .i64 a0_0, .int .i64 a0_1, .slice A0_2 l0_2.length c0_2, .slice A0_3 l0_3.length c0_3]) (t := 30) ?hr ?_; (case hd => rfl); (case hg => rfl); (case hr => first | (go_simp; done) | (go_simp; rfl)); intro gb1 hg w8 hbox hb; have n0_ := Aside0.mk (below_step (by repeat (with_reducible first | exact HB.out | apply ba_ | apply bn_ | apply bd_)) hb); have n1_ := Aside0.mk (hbox); have n2_ := Aside0.mk ((by rw [hg]; exact (below_size (by repeat (with_reducible first | exact HB.out | apply ba_ | apply bn_ | apply bd_))) : w.heap.size ≤ gb1)); have n3_ := Aside0.mk ((by rw [hg]; exact (below_size (by repeat (with_reducible first | exact HB.out | apply ba_ | apply bn_ | apply bd_))) : w.heap.size ≤ gb1)); clear HB; have HB := n0_; have BK1 := n1_; have GW1 := n2_; have GE1 := n3_; clear n0_ n1_ n2_ n3_; clear hb hbox hg; have hcz9_0 : w8.cell? ⟨gb1, 0, none⟩ = some (.int .i64 a0_0) := (blk_cell BK1.out 0).trans rfl; have hcz9_1 : w8.cell? ⟨gb1, 1, none⟩ = some (.int .i64 a0_1) := (blk_cell BK1.out 1).trans rfl; have hcz9_2 : w8.cell? ⟨gb1, 2, none⟩ = some (.slice A0_2 l0_2.length c0_2) := (blk_cell BK1.out 2).trans rfl; have hcz9_3 : w8.cell? ⟨gb1, 3, none⟩ = some (.slice A0_3 l0_3.length c0_3) := (blk_cell BK1.out 3).trans rfl; have hfz9_0 := blk_frozen BK1.out 0; have hfz9_1 := blk_frozen BK1.out 1; have hfz9_2 := blk_frozen BK1.out 2; have hfz9_3 := blk_frozen BK1.out 3) | ((with_reducible refine gate_callee (f := 18) rfl ?_); refine goesM_ (some 9) Try.func18 #[.agg #[.int .i64 a0_0, .int .i64 a0_1, .slice A0_2 l0_2.length c0_2, .slice A0_3 l0_3.length c0_3]] ?_; (with_reducible refine (txn_May.calls k a0_0 a0_1 _ _ l0_2 _ _ l0_3 true _ ?side1 ?side2 ?side3 ?side4 A2.out).mono ?_); (case side1 => repeat (first | exact (Kd.C_below HR0_2.out HB.out) | (with_reducible refine ca_ ?_ _) | (with_reducible refine cn_ ?_ _) | (with_reducible refine cd_ ?_))); (case side2 => exact HC0_2.out); (case side3 => repeat (first | exact (Kd.C_below HR0_3.out HB.out) | (with_reducible refine ca_ ?_ _) | (with_reducible refine cn_ ?_ _) | (with_reducible refine cd_ ?_))); (case side4 => exact HC0_3.out); rintro e w10 ⟨rfl, hb⟩; refine ⟨_, rfl, ?_⟩; have n0_ := Aside0.mk (blk_below (g := gb1) (o := .cells #[.int .i64 a0_0, .int .i64 a0_1, .slice A0_2 l0_2.length c0_2, .slice A0_3 l0_3.length c0_3] 30 (0, 0)) (by (with_reducible repeat (first | refine kn_ ?_ _ | refine kd_ ?_ | refine ka_ ?_ _)); exact BK1.out) hb); have n1_ := Aside0.mk (below_step (by repeat (with_reducible first | exact HB.out | apply ba_ | apply bn_ | apply bd_ | refine bs_ ?_ GE1.out)) hb); clear BK1; clear HB; have BK1 := n0_; have HB := n1_; clear n0_ n1_; clear hb))
  have n0_ := Aside0.mk (blk_drew BK1.out)
  have n1_ := Aside0.mk (below_drew1 HB.out)
  clear BK1
  clear HB
  have BK1 := n0_
  have HB := n1_
  clear n0_ n1_
  refine start_ (n := 13) (S := fun w' => w'.cell? ⟨gb1, 0, none⟩ = some (.int .i64 a0_0) ∧ w'.cell? ⟨gb1, 1, none⟩ = some (.int .i64 a0_1) ∧ w'.cell? ⟨gb1, 2, none⟩ = some (.slice A0_2 l0_2.length c0_2) ∧ w'.cell? ⟨gb1, 3, none⟩ = some (.slice A0_3 l0_3.length c0_3)) (ds := []) #[false, false, false, false, false, false, false, false, false, false, false, false, false] (by kernel_rfl) rfl rfl ⟨(blk_cell BK1.out 0).trans rfl, (blk_cell BK1.out 1).trans rfl, (blk_cell BK1.out 2).trans rfl, (blk_cell BK1.out 3).trans rfl⟩ (fun hHeld => ?_); refine with_tabW txn_Put.tab3 txn_Put.bits3 (fun HT_ HW_ => ?_)
  generalize w10.drew = w11 at BK1 HB hHeld ⊢
  refine pure_ (i := 0) (N := some 11) (v := ?_) (a' := ?_) #[true, false, false, false, false, false, false, false, false, false, false, false, false] rfl rfl (any_of HT_.out (by kernel_rfl)) (fun _ _ _ h => h) (Or.inl ⟨by rfl, ?_⟩) ?_ ?_
  rotate_left
  ·intro w'
   go_simp
   with_reducible rfl
  rotate_left
  ·simp only [Act.put, List.setIfInBounds_toArray, List.set_cons_zero, List.set_cons_succ, i64_w, i32_w]
   rfl
  refine pure_ (i := 3) (N := some 14) (v := ?_) (a' := ?_) #[true, false, false, true, false, false, false, false, false, false, false, false, false] rfl rfl (any_of HT_.out (by kernel_rfl)) (fun _ _ _ h => h) (Or.inl ⟨by rfl, ?_⟩) ?_ ?_
  rotate_left
  ·intro w'
   go_simp
   with_reducible rfl
  rotate_left
  ·simp only [Act.put, List.setIfInBounds_toArray, List.set_cons_zero, List.set_cons_succ, i64_w, i32_w]
   rfl
  refine pure_ (i := 6) (N := some 17) (v := ?_) (a' := ?_) #[true, false, false, true, false, false, true, false, false, false, false, false, false] rfl rfl (any_of HT_.out (by kernel_rfl)) (fun _ _ _ h => h) (Or.inl ⟨by rfl, ?_⟩) ?_ ?_
  rotate_left
  ·intro w'
   go_simp
   with_reducible rfl
  rotate_left
  ·simp only [Act.put, List.setIfInBounds_toArray, List.set_cons_zero, List.set_cons_succ, i64_w, i32_w]
   rfl
  refine take_ (i := 1) (N := some 12) (v := ?_) (a' := ?_) #[true, true, false, true, false, false, true, false, false, false, false, false, false] rfl rfl (take_ofW HT_.out HW_.out (by kernel_rfl)) (fun _ _ _ h => h) (Or.inl ⟨by rfl, ?_⟩) hHeld ?_ ?_
  rotate_left
  ·rintro w' ⟨s0, s1, s2, s3⟩
   go_simp
   with_reducible rfl
  rotate_left
  ·simp only [Act.put, List.setIfInBounds_toArray, List.set_cons_zero, List.set_cons_succ, i64_w, i32_w]
   rfl
  refine take_ (i := 4) (N := some 15) (v := ?_) (a' := ?_) #[true, true, false, true, true, false, true, false, false, false, false, false, false] rfl rfl (take_ofW HT_.out HW_.out (by kernel_rfl)) (fun _ _ _ h => h) (Or.inl ⟨by rfl, ?_⟩) hHeld ?_ ?_
  rotate_left
  ·rintro w' ⟨s0, s1, s2, s3⟩
   go_simp
   with_reducible rfl
  rotate_left
  ·simp only [Act.put, List.setIfInBounds_toArray, List.set_cons_zero, List.set_cons_succ, i64_w, i32_w]
   rfl
  refine take_ (i := 7) (N := some 18) (v := ?_) (a' := ?_) #[true, true, false, true, true, false, true, true, false, false, false, false, false] rfl rfl (take_ofW HT_.out HW_.out (by kernel_rfl)) (fun _ _ _ h => h) (Or.inl ⟨by rfl, ?_⟩) hHeld ?_ ?_
  rotate_left
  ·rintro w' ⟨s0, s1, s2, s3⟩
   go_simp
   with_reducible rfl
  rotate_left
  ·simp only [Act.put, List.setIfInBounds_toArray, List.set_cons_zero, List.set_cons_succ, i64_w, i32_w]
   rfl
  refine pure_ (i := 8) (N := some 19) (v := ?_) (a' := ?_) #[true, true, false, true, true, false, true, true, true, false, false, false, false] rfl rfl (any_of HT_.out (by kernel_rfl)) (fun _ _ _ h => h) (Or.inl ⟨by rfl, ?_⟩) ?_ ?_
  rotate_left
  ·intro w'
   go_simp
   with_reducible rfl
  rotate_left
  ·simp only [Act.put, List.setIfInBounds_toArray, List.set_cons_zero, List.set_cons_succ, i64_w, i32_w]
   rfl
  refine one_ (i := 2) (N := some 13) #[true, true, true, true, true, false, true, true, true, false, false, false, false] rfl rfl (one_of HT_.out (by kernel_rfl)) (by decide) (fun K hK => ?_)
  refine goesV_ Try.func73 (by kernel_rfl) rfl #[.int .i64 a0_0] (by rfl) rfl rfl (by (try simp only [List.map_toArray, List.map_cons, List.map_nil]); first | done | rfl | (simp only [List.length_drop, List.length_take]; rfl)) ?_
  with_reducible refine (num_Put.calls k a0_0 t3 _ A4.out).mono ?_
  rintro e w12 ⟨v4, rfl, ho0, hb⟩
  refine ⟨_, rfl, ?_⟩
  have n0_ := Aside0.mk (Kd.R_lower ho0 (below_size (by repeat (with_reducible first | exact HB.out | apply ba_ | apply bn_ | apply bd_ | refine bs_ ?_ GE1.out))))
  have n1_ := Aside0.mk (blk_below (g := gb1) (o := .cells #[.int .i64 a0_0, .int .i64 a0_1, .slice A0_2 l0_2.length c0_2, .slice A0_3 l0_3.length c0_3] 30 (0, 0)) (by (with_reducible repeat (first | refine kn_ ?_ _ | refine kd_ ?_ | refine ka_ ?_ _)); exact BK1.out) hb)
  have n2_ := Aside0.mk (below_step (by repeat (with_reducible first | exact HB.out | apply ba_ | apply bn_ | apply bd_ | refine bs_ ?_ GE1.out)) hb)
  clear BK1
  clear HB
  have HO5 := n0_
  have BK1 := n1_
  have HB := n2_
  clear n0_ n1_ n2_
  clear hb ho0
  refine hK.out _ _ ⟨(blk_cell BK1.out 0).trans rfl, (blk_cell BK1.out 1).trans rfl, (blk_cell BK1.out 2).trans rfl, (blk_cell BK1.out 3).trans rfl⟩ (fun hHeld => ?_)
  clear hK K
  refine norm_ (a' := ?_) ?_ ?_
  rotate_left
  ·show Act.put _ (some 13) _ = _
   simp only [Act.put, List.setIfInBounds_toArray, List.set_cons_zero, List.set_cons_succ, i64_w, i32_w]
   rfl
  refine one_ (i := 5) (N := some 16) #[true, true, true, true, true, true, true, true, true, false, false, false, false] rfl rfl (one_of HT_.out (by kernel_rfl)) (by decide) (fun K hK => ?_)
  refine goesV_ Try.func73 (by kernel_rfl) rfl #[.int .i64 a0_1] (by rfl) rfl rfl (by (try simp only [List.map_toArray, List.map_cons, List.map_nil]); first | done | rfl | (simp only [List.length_drop, List.length_take]; rfl)) ?_
  with_reducible refine (num_Put.calls k a0_1 t6 _ A5.out).mono ?_
  rintro e w13 ⟨v7, rfl, ho0, hb⟩
  refine ⟨_, rfl, ?_⟩
  have n0_ := Aside0.mk (Kd.R_elder' (by (with_reducible repeat (first | apply ra_ | apply rn_ | apply rd_)); exact HO5.out) (Kd.R_base ho0) hb)
  have n1_ := Aside0.mk (Kd.R_lower (Kd.R_new' ho0 (Kd.R_lt (by (with_reducible repeat (first | apply ra_ | apply rn_ | apply rd_)); exact HO5.out))) (below_size (by repeat (with_reducible first | exact HB.out | apply ba_ | apply bn_ | apply bd_ | refine bs_ ?_ GE1.out))))
  have n2_ := Aside0.mk (blk_below (g := gb1) (o := .cells #[.int .i64 a0_0, .int .i64 a0_1, .slice A0_2 l0_2.length c0_2, .slice A0_3 l0_3.length c0_3] 30 (0, 0)) (by (with_reducible repeat (first | refine kn_ ?_ _ | refine kd_ ?_ | refine ka_ ?_ _)); exact BK1.out) hb)
  have n3_ := Aside0.mk (below_step (by repeat (with_reducible first | exact HB.out | apply ba_ | apply bn_ | apply bd_ | refine bs_ ?_ GE1.out)) hb)
  clear HO5
  clear BK1
  clear HB
  have HO5 := n0_
  have HO8 := n1_
  have BK1 := n2_
  have HB := n3_
  clear n0_ n1_ n2_ n3_
  clear hb ho0
  refine hK.out _ _ ⟨(blk_cell BK1.out 0).trans rfl, (blk_cell BK1.out 1).trans rfl, (blk_cell BK1.out 2).trans rfl, (blk_cell BK1.out 3).trans rfl⟩ (fun hHeld => ?_)
  clear hK K
  refine norm_ (a' := ?_) ?_ ?_
  rotate_left
  ·show Act.put _ (some 16) _ = _
   simp only [Act.put, List.setIfInBounds_toArray, List.set_cons_zero, List.set_cons_succ, i64_w, i32_w]
   rfl
  refine one_ (i := 9) (N := some 20) #[true, true, true, true, true, true, true, true, true, true, false, false, false] rfl rfl (one_of HT_.out (by kernel_rfl)) (by decide) (fun K hK => ?_)
  refine goesV_ Try.func73 (by kernel_rfl) rfl #[.int .i64 (l0_2.length : Int)] (by rfl) rfl rfl (by (try simp only [List.map_toArray, List.map_cons, List.map_nil]); first | done | rfl | (simp only [List.length_drop, List.length_take]; rfl)) ?_
  with_reducible refine (num_Put.calls k (l0_2.length : Int) t9 _ A6.out).mono ?_
  rintro e w14 ⟨v10, rfl, ho0, hb⟩
  refine ⟨_, rfl, ?_⟩
  have n0_ := Aside0.mk (Kd.R_elder' (by (with_reducible repeat (first | apply ra_ | apply rn_ | apply rd_)); exact HO5.out) (Kd.R_base ho0) hb)
  have n1_ := Aside0.mk (Kd.R_elder' (by (with_reducible repeat (first | apply ra_ | apply rn_ | apply rd_)); exact HO8.out) (Kd.R_base ho0) hb)
  have n2_ := Aside0.mk (Kd.R_lower (Kd.R_new' (Kd.R_new' ho0 (Kd.R_lt (by (with_reducible repeat (first | apply ra_ | apply rn_ | apply rd_)); exact HO5.out))) (Kd.R_lt (by (with_reducible repeat (first | apply ra_ | apply rn_ | apply rd_)); exact HO8.out))) (below_size (by repeat (with_reducible first | exact HB.out | apply ba_ | apply bn_ | apply bd_ | refine bs_ ?_ GE1.out))))
  have n3_ := Aside0.mk (blk_below (g := gb1) (o := .cells #[.int .i64 a0_0, .int .i64 a0_1, .slice A0_2 l0_2.length c0_2, .slice A0_3 l0_3.length c0_3] 30 (0, 0)) (by (with_reducible repeat (first | refine kn_ ?_ _ | refine kd_ ?_ | refine ka_ ?_ _)); exact BK1.out) hb)
  have n4_ := Aside0.mk (below_step (by repeat (with_reducible first | exact HB.out | apply ba_ | apply bn_ | apply bd_ | refine bs_ ?_ GE1.out)) hb)
  clear HO5
  clear HO8
  clear BK1
  clear HB
  have HO5 := n0_
  have HO8 := n1_
  have HO11 := n2_
  have BK1 := n3_
  have HB := n4_
  clear n0_ n1_ n2_ n3_ n4_
  clear hb ho0
  obtain ⟨Ao15, co15, eo15⟩ := Kd.R_slice HO5.out
  (first | subst eo15 | (injection eo15 with f1_ f2_ f3_; have f4_ := f1_.symm; have f5_ := f3_.symm; clear f1_ f2_ f3_; subst f4_; subst f5_))
  obtain ⟨Ao16, co16, eo16⟩ := Kd.R_slice HO8.out
  (first | subst eo16 | (injection eo16 with f1_ f2_ f3_; have f4_ := f1_.symm; have f5_ := f3_.symm; clear f1_ f2_ f3_; subst f4_; subst f5_))
  obtain ⟨Ao17, co17, eo17⟩ := Kd.R_slice HO11.out
  (first | subst eo17 | (injection eo17 with f1_ f2_ f3_; have f4_ := f1_.symm; have f5_ := f3_.symm; clear f1_ f2_ f3_; subst f4_; subst f5_))
  refine hK.out _ _ ⟨(blk_cell BK1.out 0).trans rfl, (blk_cell BK1.out 1).trans rfl, (blk_cell BK1.out 2).trans rfl, (blk_cell BK1.out 3).trans rfl⟩ (fun hHeld => ?_)
  clear hK K
  refine norm_ (a' := ?_) ?_ ?_
  rotate_left
  ·show Act.put _ (some 20) _ = _
   simp only [Act.put, List.setIfInBounds_toArray, List.set_cons_zero, List.set_cons_succ, i64_w, i32_w]
   rfl
  refine one_ (i := 10) (N := some 21) #[true, true, true, true, true, true, true, true, true, true, true, false, false] rfl rfl (one_of HT_.out (by kernel_rfl)) (by decide) (fun K hK => ?_)
  refine Kd.N_lit_step (Kd.slice 5 (Kd.int .u8)) _ 33 ?hg (N' := 21) ?hd (xs := ([t3, t6, t9] : List (List Int))) (inner := [.slice Ao15 t3.length co15, .slice Ao16 t6.length co16, .slice Ao17 t9.length co17]) (ok := (fun k_ => k_ ≠ gb1)) (okp := (fun k_ => k_ ≠ gb1)) ?hr ?hp (fun _ hk => hk) ((show ∀ k_, w14.heap.size ≤ k_ → (fun k_ => k_ ≠ gb1) k_ from fun k_ hk => Kd.freshB (g := gb1) (o := .cells #[.int .i64 a0_0, .int .i64 a0_1, .slice A0_2 l0_2.length c0_2, .slice A0_3 l0_3.length c0_3] 30 (0, 0)) (by (with_reducible repeat (first | refine kn_ ?_ _ | refine kd_ ?_ | refine ka_ ?_ _)); exact BK1.out) k_ hk) _ (Nat.le_refl _)) (Below.refl _ _) (Nat.le_refl _) (by simp) ?_; (case hd => rfl); (case hg => rfl); (case hr => first | (go_simp; done) | (go_simp; rfl)); (case hp => exact (Reps.one (show Kd.FK (Kd.slice 5 (Kd.int .u8)) _ _ t3 [.slice Ao15 t3.length co15] from (Kd.FK_slice_mk (Kd.R_reads' (Kd.R_mono (ok' := (fun k_ => k_ ≠ gb1)) (Kd.R_types (HO5.out) BK1.out (by decide)) (fun k_ hk => hk.2))).2.1 (Kd.R_F (Kd.R_mono (ok' := (fun k_ => k_ ≠ gb1)) (Kd.R_types (HO5.out) BK1.out (by decide)) (fun k_ hk => hk.2))))) (Reps.one (show Kd.FK (Kd.slice 5 (Kd.int .u8)) _ _ t6 [.slice Ao16 t6.length co16] from (Kd.FK_slice_mk (Kd.R_reads' (Kd.R_mono (ok' := (fun k_ => k_ ≠ gb1)) (Kd.R_types (HO8.out) BK1.out (by decide)) (fun k_ hk => hk.2))).2.1 (Kd.R_F (Kd.R_mono (ok' := (fun k_ => k_ ≠ gb1)) (Kd.R_types (HO8.out) BK1.out (by decide)) (fun k_ hk => hk.2))))) (Reps.one (show Kd.FK (Kd.slice 5 (Kd.int .u8)) _ _ t9 [.slice Ao17 t9.length co17] from (Kd.FK_slice_mk (Kd.R_reads' (Kd.R_mono (ok' := (fun k_ => k_ ≠ gb1)) (Kd.R_types (HO11.out) BK1.out (by decide)) (fun k_ hk => hk.2))).2.1 (Kd.R_F (Kd.R_mono (ok' := (fun k_ => k_ ≠ gb1)) (Kd.R_types (HO11.out) BK1.out (by decide)) (fun k_ hk => hk.2))))) (Reps.none _ _)))))
  intro v13 w18 ho19 hb hg_ hnew_
  clear hg_ hnew_
  (first | rw [← Ny12.out] at ho19 | (simp only [Int.reduceToNat] at ho19; rw [← Ny12.out] at ho19))
  have n0_ := Aside0.mk (Kd.N_lower ho19 (below_size (by repeat (with_reducible first | exact HB.out | apply ba_ | apply bn_ | apply bd_ | refine bs_ ?_ GE1.out))))
  have n1_ := Aside0.mk (blk_below (g := gb1) (o := .cells #[.int .i64 a0_0, .int .i64 a0_1, .slice A0_2 l0_2.length c0_2, .slice A0_3 l0_3.length c0_3] 30 (0, 0)) (by (with_reducible repeat (first | refine kn_ ?_ _ | refine kd_ ?_ | refine ka_ ?_ _)); exact BK1.out) hb)
  have n2_ := Aside0.mk (below_step (by repeat (with_reducible first | exact HB.out | apply ba_ | apply bn_ | apply bd_ | refine bs_ ?_ GE1.out)) hb)
  clear BK1
  clear HB
  clear HO11
  clear HO5
  clear HO8
  have HO14 := n0_
  have BK1 := n1_
  have HB := n2_
  clear n0_ n1_ n2_
  clear hb ho19
  obtain ⟨Ao20, co20, eo20⟩ := Kd.N_slice HO14.out
  (first | subst eo20 | (injection eo20 with f1_ f2_ f3_; have f4_ := f1_.symm; have f5_ := f3_.symm; clear f1_ f2_ f3_; subst f4_; subst f5_))
  refine hK.out _ _ ⟨(blk_cell BK1.out 0).trans rfl, (blk_cell BK1.out 1).trans rfl, (blk_cell BK1.out 2).trans rfl, (blk_cell BK1.out 3).trans rfl⟩ (fun hHeld => ?_)
  clear hK K
  refine norm_ (a' := ?_) ?_ ?_
  rotate_left
  ·show Act.put _ (some 21) _ = _
   simp only [Act.put, List.setIfInBounds_toArray, List.set_cons_zero, List.set_cons_succ, i64_w, i32_w]
   rfl
  refine one_ (i := 11) (N := some 22) #[true, true, true, true, true, true, true, true, true, true, true, true, false] rfl rfl (one_of HT_.out (by kernel_rfl)) (by decide) (fun K hK => ?_)
  refine goesV_ Try.func72 (by kernel_rfl) rfl #[.slice Ao20 y12.length co20] (by rfl) rfl rfl (by (try simp only [List.map_toArray, List.map_cons, List.map_nil]); first | done | rfl | (simp only [List.length_drop, List.length_take]; rfl)) ?_
  with_reducible refine (slices_Concat_Lbyte_byte.calls k _ _ y12 t15 _ ?side1 ?side2 A7.out).mono ?_
  (case side1 => repeat (first | exact (Kd.N_reads' HO14.out).2.2 | (with_reducible refine ca_ ?_ _) | (with_reducible refine cn_ ?_ _) | (with_reducible refine cd_ ?_)))
  (case side2 => exact (Kd.N_reads' HO14.out).2.1)
  rintro e w21 ⟨v16, rfl, ho0, hb⟩
  refine ⟨_, rfl, ?_⟩
  have n0_ := Aside0.mk (Kd.N_elder' (by (with_reducible repeat (first | apply Kd.N_alloc | apply Kd.N_drewN | apply Kd.N_drew)); exact HO14.out) (Kd.R_base ho0) hb)
  have n1_ := Aside0.mk (Kd.R_lower ho0 (below_size (by repeat (with_reducible first | exact HB.out | apply ba_ | apply bn_ | apply bd_ | refine bs_ ?_ GE1.out))))
  have n2_ := Aside0.mk (blk_below (g := gb1) (o := .cells #[.int .i64 a0_0, .int .i64 a0_1, .slice A0_2 l0_2.length c0_2, .slice A0_3 l0_3.length c0_3] 30 (0, 0)) (by (with_reducible repeat (first | refine kn_ ?_ _ | refine kd_ ?_ | refine ka_ ?_ _)); exact BK1.out) hb)
  have n3_ := Aside0.mk (below_step (by repeat (with_reducible first | exact HB.out | apply ba_ | apply bn_ | apply bd_ | refine bs_ ?_ GE1.out)) hb)
  clear HO14
  clear BK1
  clear HB
  have HO14 := n0_
  have HO17 := n1_
  have BK1 := n2_
  have HB := n3_
  clear n0_ n1_ n2_ n3_
  clear hb ho0
  refine hK.out _ _ ⟨(blk_cell BK1.out 0).trans rfl, (blk_cell BK1.out 1).trans rfl, (blk_cell BK1.out 2).trans rfl, (blk_cell BK1.out 3).trans rfl⟩ (fun hHeld => ?_)
  clear hK K
  refine norm_ (a' := ?_) ?_ ?_
  rotate_left
  ·show Act.put _ (some 22) _ = _
   simp only [Act.put, List.setIfInBounds_toArray, List.set_cons_zero, List.set_cons_succ, i64_w, i32_w]
   rfl
  refine pure_ (i := 12) (N := some 3) (v := ?_) (a' := ?_) #[true, true, true, true, true, true, true, true, true, true, true, true, true] rfl rfl (any_of HT_.out (by kernel_rfl)) (fun _ _ _ h => h) (Or.inl ⟨by rfl, ?_⟩) ?_ ?_
  rotate_left
  ·intro w'
   go_simp
   with_reducible rfl
  rotate_left
  ·simp only [Act.put, List.setIfInBounds_toArray, List.set_cons_zero, List.set_cons_succ, i64_w, i32_w]
   rfl
  refine done_ (done_of HT_.out (by kernel_rfl)) ?_
  have hcz22_0 : w21.cell? ⟨gb1, 0, none⟩ = some (.int .i64 a0_0) := (blk_cell BK1.out 0).trans rfl
  have hcz22_1 : w21.cell? ⟨gb1, 1, none⟩ = some (.int .i64 a0_1) := (blk_cell BK1.out 1).trans rfl
  have hcz22_2 : w21.cell? ⟨gb1, 2, none⟩ = some (.slice A0_2 l0_2.length c0_2) := (blk_cell BK1.out 2).trans rfl
  have hcz22_3 : w21.cell? ⟨gb1, 3, none⟩ = some (.slice A0_3 l0_3.length c0_3) := (blk_cell BK1.out 3).trans rfl
  have hfz22_0 := blk_frozen BK1.out 0
  have hfz22_1 := blk_frozen BK1.out 1
  have hfz22_2 := blk_frozen BK1.out 2
  have hfz22_3 := blk_frozen BK1.out 3
  try go_wp2
  go_loopg [3, 26] k (fun kq v3 v26 w' => ∃ (x3_1 : List Int) (x26_1 : Int), v26 = .int .i64 x26_1 ∧ Aside0 (txn_Put.l0 kq x3_1 l0_2 (l0_2.length : Int) x26_1 a0_0 a0_1 l0_2 l0_3 = some r) ∧ Aside0 (kq ≤ k) ∧ Aside0 (Kd.R (Kd.int .u8) 5 w' w.heap.size (fun _ => True) v3 x3_1) ∧ Aside0 (w'.heap[gb1]? = some (.cells #[.int .i64 a0_0, .int .i64 a0_1, (.slice A0_2 l0_2.length c0_2), (.slice A0_3 l0_3.length c0_3)] 30 (0, 0))) ∧ Aside0 (Below w.heap.size w w'))
  case atStart => exact ⟨(t15), (0), (by first | rfl | (simp; done) | (simp [*]; done)), H', ⟨Nat.le_refl _⟩, ⟨by (with_reducible repeat (first | apply ra_ | apply rn_ | apply rd_)); exact HO17.out⟩, ⟨by (with_reducible repeat (first | refine kn_ ?_ _ | refine kd_ ?_ | refine ka_ ?_ _)); exact BK1.out⟩, ⟨by repeat (with_reducible first | exact HB.out | apply ba_ | apply bn_ | apply bd_ | refine bs_ ?_ GE1.out)⟩⟩
  case round =>
   clear H'
   try clear c1
   try clear p2
   try clear c3
   try clear c7
   try clear c18
   try clear c19
   try clear hcz22_0
   try clear hcz22_1
   try clear hcz22_2
   try clear hcz22_3
   try clear hcz9_0
   try clear hcz9_1
   try clear hcz9_2
   try clear hcz9_3
   try clear hfz22_0
   try clear hfz22_1
   try clear hfz22_2
   try clear hfz22_3
   try clear hfz9_0
   try clear hfz9_1
   try clear hfz9_2
   try clear hfz9_3
   obtain ⟨x3_1, x26_1, rfl, HA, HK1, HO_3, BK1, HB⟩ := hrel
   cases gk with
   | zero => exact absurd HA.out (by simp [txn_Put.l0])
   | succ k1 =>
    have H := HA.out
    clear HA
    simp only [txn_Put.l0] at H
    by_cases c23 : x26_1 < (l0_2.length : Int)
    ·rw [if_pos c23] at H
     have c23b0 : decide (x26_1 < (l0_2.length : Int)) = true := decide_eq_true c23
     clear c23
     by_cases c24 : 0 ≤ x26_1
     ·rw [if_pos c24] at H
      have c24b0 : decide (0 ≤ x26_1) = true := decide_eq_true c24
      clear c24
      by_cases c25 : x26_1 < (l0_2.length : Int)
      ·rw [if_pos c25] at H
       have c25b0 : decide (x26_1 < (l0_2.length : Int)) = true := decide_eq_true c25
       clear c25
       replace H := Option.bind_eq_some_iff.mp H
       obtain ⟨t20, A260, H⟩ := H
       (try dsimp only at H)
       have A26 := Aside0.mk A260
       clear A260
       replace H := Option.bind_eq_some_iff.mp H
       obtain ⟨t23, A270, H⟩ := H
       (try dsimp only at H)
       have A27 := Aside0.mk A270
       clear A270
       replace H := Option.bind_eq_some_iff.mp H
       obtain ⟨t26, A280, H⟩ := H
       (try dsimp only at H)
       have A28 := Aside0.mk A280
       clear A280
       obtain ⟨y29, hy29⟩ : ∃ y_ : List (List Int), y_ = (([x3_1, t20, t23, t26] : List (List Int))) := ⟨_, rfl⟩
       replace H : ((slices_Concat_Lbyte_byte.f k1 y29).bind fun t32 => ((txn_flag.f ((rd_T24 l0_2 x26_1).f3)).bind fun t35 => (if t32.length < 140737488355328 then (txn_Put.l0 k1 (t32 ++ [t35]) l0_2 (l0_2.length : Int) (wrap64 (x26_1 + 1)) a0_0 a0_1 l0_2 l0_3) else (none)))) = some r := by first | (rw [hy29]; with_reducible exact H) | (have H2_ := (Option.bind_some _ _).symm.trans H; rw [hy29]; with_reducible exact H2_) | (have H2_ := (Option.bind_some _ _).symm.trans H; with_reducible exact H2_) | with_reducible exact H | (rw [hy29]; exact H) | exact H
       have Ny29 := Aside0.mk hy29
       clear hy29
       replace H := Option.bind_eq_some_iff.mp H
       obtain ⟨t32, A290, H⟩ := H
       (try dsimp only at H)
       have A29 := Aside0.mk A290
       clear A290
       replace H := Option.bind_eq_some_iff.mp H
       obtain ⟨t35, A300, H⟩ := H
       (try dsimp only at H)
       have A30 := Aside0.mk A300
       clear A300
       by_cases c31 : t32.length < 140737488355328
       ·rw [if_pos c31] at H
        have LMc31 := Aside0.mk c31
        clear c31
        obtain ⟨y36, hy36⟩ : ∃ y_ : List Int, y_ = (t32 ++ [t35]) := ⟨_, rfl⟩
        replace H : (txn_Put.l0 k1 y36 l0_2 (l0_2.length : Int) (wrap64 (x26_1 + 1)) a0_0 a0_1 l0_2 l0_3) = some r := by first | (rw [hy36]; with_reducible exact H) | (have H2_ := (Option.bind_some _ _).symm.trans H; rw [hy36]; with_reducible exact H2_) | (have H2_ := (Option.bind_some _ _).symm.trans H; with_reducible exact H2_) | with_reducible exact H | (rw [hy36]; exact H) | exact H
        have Ny36 := Aside0.mk hy36
        clear hy36
        have H' := Aside0.mk H
        clear H
        have p18 : 0 ≤ (x26_1 : Int) := of_decide_eq_true (by first | (with_reducible assumption) | assumption)
        have q18 : x26_1 < (l0_2.length : Int) := of_decide_eq_true (by first | (with_reducible assumption) | assumption)
        obtain ⟨ad18, e18, hx18_0, hx18_1, hx18_2, hx18_3⟩ := at_T24 HR0_2.out x26_1 p18 q18
        cases e18
        replace hx18_0 := (HB.out.cell (World.block_lt_of_cell? w _ hx18_0)).trans hx18_0
        replace hx18_1 := (HB.out.cell (World.block_lt_of_cell? w _ hx18_1)).trans hx18_1
        replace hx18_2 := (HB.out.cell (World.block_lt_of_cell? w _ hx18_2)).trans hx18_2
        replace hx18_3 := (HB.out.cell (World.block_lt_of_cell? w _ hx18_3)).trans hx18_3
        replace p18 := eq_true p18
        replace q18 := eq_true q18
        try go_wp2_with (first | ((with_reducible refine gate_dst (N := 5) rfl ?_); refine box_event ?hg (N := 5) ?hd (cs := #[.string (⟨#[]⟩ : ByteArray), .int .i64 0, .string (⟨#[]⟩ : ByteArray), .bool false]) (t := 24) ?hr ?_; (case hd => rfl); (case hg => rfl); (case hr => first | (go_simp; done) | (go_simp; rfl)); intro gb19 hg w32 hbox hb; have n0_ := Aside0.mk (Kd.R_below (by (with_reducible repeat (first | apply ra_ | apply rn_ | apply rd_)); exact HO_3.out) hb); have n1_ := Aside0.mk (blk_below (g := gb1) (o := .cells #[.int .i64 a0_0, .int .i64 a0_1, .slice (some ad18) l0_2.length c0_2, .slice A0_3 l0_3.length c0_3] 30 (0, 0)) (by (with_reducible repeat (first | refine kn_ ?_ _ | refine kd_ ?_ | refine ka_ ?_ _)); exact BK1.out) hb); have n2_ := Aside0.mk (below_step (by repeat (with_reducible first | exact HB.out | apply ba_ | apply bn_ | apply bd_ | refine bs_ ?_ GE1.out)) hb); have n3_ := Aside0.mk (hbox); have n4_ := Aside0.mk ((by rw [hg]; exact (below_size (by repeat (with_reducible first | exact HB.out | apply ba_ | apply bn_ | apply bd_ | refine bs_ ?_ GE1.out))) : w.heap.size ≤ gb19)); have n5_ := Aside0.mk ((by rw [hg]; exact (below_size (by repeat (with_reducible first | exact HB.out | apply ba_ | apply bn_ | apply bd_ | refine bs_ ?_ GE1.out))) : w.heap.size ≤ gb19)); have n6_ := Aside0.mk ((by rw [hg]; exact Nat.ne_of_lt (blk_lt (g := gb1) (o := .cells #[.int .i64 a0_0, .int .i64 a0_1, .slice (some ad18) l0_2.length c0_2, .slice A0_3 l0_3.length c0_3] 30 (0, 0)) (by (with_reducible repeat (first | refine kn_ ?_ _ | refine kd_ ?_ | refine ka_ ?_ _)); exact BK1.out)) : gb1 ≠ gb19)); have n7_ := Aside0.mk ((by rw [hg]; exact Nat.ne_of_gt (blk_lt (g := gb1) (o := .cells #[.int .i64 a0_0, .int .i64 a0_1, .slice (some ad18) l0_2.length c0_2, .slice A0_3 l0_3.length c0_3] 30 (0, 0)) (by (with_reducible repeat (first | refine kn_ ?_ _ | refine kd_ ?_ | refine ka_ ?_ _)); exact BK1.out)) : gb19 ≠ gb1)); clear HO_3; clear BK1; clear HB; have HO_3 := n0_; have BK1 := n1_; have HB := n2_; have BK19 := n3_; have GW19 := n4_; have GE19 := n5_; have NB1_19 := n6_; have NB19_1 := n7_; clear n0_ n1_ n2_ n3_ n4_ n5_ n6_ n7_; clear hb hbox hg; have hnb33 := NB19_1.out; have hnc33 := NB1_19.out; have hcz34_0 : w32.cell? ⟨gb19, 0, none⟩ = some (.string (⟨#[]⟩ : ByteArray)) := (blk_cell BK19.out 0).trans rfl; have hcz34_1 : w32.cell? ⟨gb19, 1, none⟩ = some (.int .i64 0) := (blk_cell BK19.out 1).trans rfl; have hcz34_2 : w32.cell? ⟨gb19, 2, none⟩ = some (.string (⟨#[]⟩ : ByteArray)) := (blk_cell BK19.out 2).trans rfl; have hcz34_3 : w32.cell? ⟨gb19, 3, none⟩ = some (.bool false) := (blk_cell BK19.out 3).trans rfl; have hfz34_0 := blk_frozen BK19.out 0; have hfz34_1 := blk_frozen BK19.out 1; have hfz34_2 := blk_frozen BK19.out 2; have hfz34_3 := blk_frozen BK19.out 3))
        have n0_ : Aside0 (Kd.R (Kd.int .u8) 5 ((((w32.setCell ⟨gb19, 0, none⟩ (.string ((rd_T24 l0_2 x26_1).f0))).setCell ⟨gb19, 1, none⟩ (.int .i64 ((rd_T24 l0_2 x26_1).f1))).setCell ⟨gb19, 2, none⟩ (.string ((rd_T24 l0_2 x26_1).f2))).setCell ⟨gb19, 3, none⟩ (.bool ((rd_T24 l0_2 x26_1).f3))) w.heap.size (fun _ => True) u3 x3_1) := ⟨by (with_reducible repeat (first | apply ra_ | apply rn_ | apply rd_)); exact Kd.R_mono (Kd.R_far (p := ⟨gb19, 3, none⟩) (Kd.R_far (p := ⟨gb19, 2, none⟩) (Kd.R_far (p := ⟨gb19, 1, none⟩) (Kd.R_far (p := ⟨gb19, 0, none⟩) (Kd.R_types HO_3.out BK19.out (by decide)) (fun _ hk => hk.2) (.string ((rd_T24 l0_2 x26_1).f0))) (fun _ hk => hk.2) (.int .i64 ((rd_T24 l0_2 x26_1).f1))) (fun _ hk => hk.2) (.string ((rd_T24 l0_2 x26_1).f2))) (fun _ hk => hk.2) (.bool ((rd_T24 l0_2 x26_1).f3))) (fun _ hk => trivial)⟩
        have n1_ : Aside0 (((((w32.setCell ⟨gb19, 0, none⟩ (.string ((rd_T24 l0_2 x26_1).f0))).setCell ⟨gb19, 1, none⟩ (.int .i64 ((rd_T24 l0_2 x26_1).f1))).setCell ⟨gb19, 2, none⟩ (.string ((rd_T24 l0_2 x26_1).f2))).setCell ⟨gb19, 3, none⟩ (.bool ((rd_T24 l0_2 x26_1).f3))).heap[gb1]? = some (.cells #[.int .i64 a0_0, .int .i64 a0_1, .slice (some ad18) l0_2.length c0_2, .slice A0_3 l0_3.length c0_3] 30 (0, 0))) := ⟨by (with_reducible repeat (first | refine kn_ ?_ _ | refine kd_ ?_ | refine ka_ ?_ _)); refine blk_far ?_ NB1_19.out _; (with_reducible repeat (first | refine kn_ ?_ _ | refine kd_ ?_ | refine ka_ ?_ _)); refine blk_far ?_ NB1_19.out _; (with_reducible repeat (first | refine kn_ ?_ _ | refine kd_ ?_ | refine ka_ ?_ _)); refine blk_far ?_ NB1_19.out _; (with_reducible repeat (first | refine kn_ ?_ _ | refine kd_ ?_ | refine ka_ ?_ _)); refine blk_far ?_ NB1_19.out _; (with_reducible repeat (first | refine kn_ ?_ _ | refine kd_ ?_ | refine ka_ ?_ _)); exact BK1.out⟩
        have n2_ : Aside0 (((((w32.setCell ⟨gb19, 0, none⟩ (.string ((rd_T24 l0_2 x26_1).f0))).setCell ⟨gb19, 1, none⟩ (.int .i64 ((rd_T24 l0_2 x26_1).f1))).setCell ⟨gb19, 2, none⟩ (.string ((rd_T24 l0_2 x26_1).f2))).setCell ⟨gb19, 3, none⟩ (.bool ((rd_T24 l0_2 x26_1).f3))).heap[gb19]? = some (.cells #[.string ((rd_T24 l0_2 x26_1).f0), .int .i64 ((rd_T24 l0_2 x26_1).f1), .string ((rd_T24 l0_2 x26_1).f2), .bool ((rd_T24 l0_2 x26_1).f3)] 24 (0, 0))) := ⟨by (with_reducible repeat (first | refine kn_ ?_ _ | refine kd_ ?_ | refine ka_ ?_ _)); refine blk_put (cs := #[.string ((rd_T24 l0_2 x26_1).f0), .int .i64 ((rd_T24 l0_2 x26_1).f1), .string ((rd_T24 l0_2 x26_1).f2), .bool false]) ?_ 3 _ rfl; (with_reducible repeat (first | refine kn_ ?_ _ | refine kd_ ?_ | refine ka_ ?_ _)); refine blk_put (cs := #[.string ((rd_T24 l0_2 x26_1).f0), .int .i64 ((rd_T24 l0_2 x26_1).f1), .string (⟨#[]⟩ : ByteArray), .bool false]) ?_ 2 _ rfl; (with_reducible repeat (first | refine kn_ ?_ _ | refine kd_ ?_ | refine ka_ ?_ _)); refine blk_put (cs := #[.string ((rd_T24 l0_2 x26_1).f0), .int .i64 0, .string (⟨#[]⟩ : ByteArray), .bool false]) ?_ 1 _ rfl; (with_reducible repeat (first | refine kn_ ?_ _ | refine kd_ ?_ | refine ka_ ?_ _)); refine blk_put (cs := #[.string (⟨#[]⟩ : ByteArray), .int .i64 0, .string (⟨#[]⟩ : ByteArray), .bool false]) ?_ 0 _ rfl; (with_reducible repeat (first | refine kn_ ?_ _ | refine kd_ ?_ | refine ka_ ?_ _)); exact BK19.out⟩
        have n3_ : Aside0 (Below w.heap.size w ((((w32.setCell ⟨gb19, 0, none⟩ (.string ((rd_T24 l0_2 x26_1).f0))).setCell ⟨gb19, 1, none⟩ (.int .i64 ((rd_T24 l0_2 x26_1).f1))).setCell ⟨gb19, 2, none⟩ (.string ((rd_T24 l0_2 x26_1).f2))).setCell ⟨gb19, 3, none⟩ (.bool ((rd_T24 l0_2 x26_1).f3)))) := ⟨by repeat (with_reducible first | exact HB.out | apply ba_ | apply bn_ | apply bd_ | refine bs_ ?_ GE1.out | refine bs_ ?_ GE19.out)⟩
        (try clear HO_3)
        (try clear BK1)
        (try clear BK19)
        (try clear HB)
        generalize ((((w32.setCell ⟨gb19, 0, none⟩ (.string ((rd_T24 l0_2 x26_1).f0))).setCell ⟨gb19, 1, none⟩ (.int .i64 ((rd_T24 l0_2 x26_1).f1))).setCell ⟨gb19, 2, none⟩ (.string ((rd_T24 l0_2 x26_1).f2))).setCell ⟨gb19, 3, none⟩ (.bool ((rd_T24 l0_2 x26_1).f3))) = w35 at n0_ n1_ n2_ n3_ ⊢
        have HO_3 := n0_
        have BK1 := n1_
        have BK19 := n2_
        have HB := n3_
        clear n0_ n1_ n2_ n3_
        have n0_ := Aside0.mk (Kd.R_drew HO_3.out)
        have n1_ := Aside0.mk (blk_drew BK1.out)
        have n2_ := Aside0.mk (blk_drew BK19.out)
        have n3_ := Aside0.mk (below_drew1 HB.out)
        clear HO_3
        clear BK1
        clear BK19
        clear HB
        have HO_3 := n0_
        have BK1 := n1_
        have BK19 := n2_
        have HB := n3_
        clear n0_ n1_ n2_ n3_
        refine start_ (n := 18) (S := fun w' => w'.cell? ⟨gb19, 0, none⟩ = some (.string ((rd_T24 l0_2 x26_1).f0)) ∧ w'.cell? ⟨gb19, 1, none⟩ = some (.int .i64 ((rd_T24 l0_2 x26_1).f1)) ∧ w'.cell? ⟨gb19, 2, none⟩ = some (.string ((rd_T24 l0_2 x26_1).f2)) ∧ w'.cell? ⟨gb19, 3, none⟩ = some (.bool ((rd_T24 l0_2 x26_1).f3))) (ds := []) #[false, false, false, false, false, false, false, false, false, false, false, false, false, false, false, false, false, false] (by kernel_rfl) rfl rfl ⟨(blk_cell BK19.out 0).trans rfl, (blk_cell BK19.out 1).trans rfl, (blk_cell BK19.out 2).trans rfl, (blk_cell BK19.out 3).trans rfl⟩ (fun hHeld => ?_); refine with_tabW txn_Put.tab7 txn_Put.bits7 (fun HT_ HW_ => ?_)
        generalize w35.drew = w36 at HO_3 BK1 BK19 HB hHeld ⊢
        refine pure_ (i := 0) (N := some 30) (v := ?_) (a' := ?_) #[true, false, false, false, false, false, false, false, false, false, false, false, false, false, false, false, false, false] rfl rfl (any_of HT_.out (by kernel_rfl)) (fun _ _ _ h => h) (Or.inl ⟨by rfl, ?_⟩) ?_ ?_
        rotate_left
        ·intro w'
         go_simp
         with_reducible rfl
        rotate_left
        ·simp only [Act.put, List.setIfInBounds_toArray, List.set_cons_zero, List.set_cons_succ, i64_w, i32_w]
         rfl
        refine pure_ (i := 1) (N := some 31) (v := ?_) (a' := ?_) #[true, true, false, false, false, false, false, false, false, false, false, false, false, false, false, false, false, false] rfl rfl (any_of HT_.out (by kernel_rfl)) (fun _ _ _ h => h) (Or.inl ⟨by rfl, ?_⟩) ?_ ?_
        rotate_left
        ·intro w'
         go_simp
         with_reducible rfl
        rotate_left
        ·simp only [Act.put, List.setIfInBounds_toArray, List.set_cons_zero, List.set_cons_succ, i64_w, i32_w]
         rfl
        refine pure_ (i := 4) (N := some 34) (v := ?_) (a' := ?_) #[true, true, false, false, true, false, false, false, false, false, false, false, false, false, false, false, false, false] rfl rfl (any_of HT_.out (by kernel_rfl)) (fun _ _ _ h => h) (Or.inl ⟨by rfl, ?_⟩) ?_ ?_
        rotate_left
        ·intro w'
         go_simp
         with_reducible rfl
        rotate_left
        ·simp only [Act.put, List.setIfInBounds_toArray, List.set_cons_zero, List.set_cons_succ, i64_w, i32_w]
         rfl
        refine pure_ (i := 7) (N := some 37) (v := ?_) (a' := ?_) #[true, true, false, false, true, false, false, true, false, false, false, false, false, false, false, false, false, false] rfl rfl (any_of HT_.out (by kernel_rfl)) (fun _ _ _ h => h) (Or.inl ⟨by rfl, ?_⟩) ?_ ?_
        rotate_left
        ·intro w'
         go_simp
         with_reducible rfl
        rotate_left
        ·simp only [Act.put, List.setIfInBounds_toArray, List.set_cons_zero, List.set_cons_succ, i64_w, i32_w]
         rfl
        refine pure_ (i := 12) (N := some 42) (v := ?_) (a' := ?_) #[true, true, false, false, true, false, false, true, false, false, false, false, true, false, false, false, false, false] rfl rfl (any_of HT_.out (by kernel_rfl)) (fun _ _ _ h => h) (Or.inl ⟨by rfl, ?_⟩) ?_ ?_
        rotate_left
        ·intro w'
         go_simp
         with_reducible rfl
        rotate_left
        ·simp only [Act.put, List.setIfInBounds_toArray, List.set_cons_zero, List.set_cons_succ, i64_w, i32_w]
         rfl
        refine take_ (i := 2) (N := some 32) (v := ?_) (a' := ?_) #[true, true, true, false, true, false, false, true, false, false, false, false, true, false, false, false, false, false] rfl rfl (take_ofW HT_.out HW_.out (by kernel_rfl)) (fun _ _ _ h => h) (Or.inl ⟨by rfl, ?_⟩) hHeld ?_ ?_
        rotate_left
        ·rintro w' ⟨s0, s1, s2, s3⟩
         go_simp
         with_reducible rfl
        rotate_left
        ·simp only [Act.put, List.setIfInBounds_toArray, List.set_cons_zero, List.set_cons_succ, i64_w, i32_w]
         rfl
        refine take_ (i := 5) (N := some 35) (v := ?_) (a' := ?_) #[true, true, true, false, true, true, false, true, false, false, false, false, true, false, false, false, false, false] rfl rfl (take_ofW HT_.out HW_.out (by kernel_rfl)) (fun _ _ _ h => h) (Or.inl ⟨by rfl, ?_⟩) hHeld ?_ ?_
        rotate_left
        ·rintro w' ⟨s0, s1, s2, s3⟩
         go_simp
         with_reducible rfl
        rotate_left
        ·simp only [Act.put, List.setIfInBounds_toArray, List.set_cons_zero, List.set_cons_succ, i64_w, i32_w]
         rfl
        refine take_ (i := 8) (N := some 38) (v := ?_) (a' := ?_) #[true, true, true, false, true, true, false, true, true, false, false, false, true, false, false, false, false, false] rfl rfl (take_ofW HT_.out HW_.out (by kernel_rfl)) (fun _ _ _ h => h) (Or.inl ⟨by rfl, ?_⟩) hHeld ?_ ?_
        rotate_left
        ·rintro w' ⟨s0, s1, s2, s3⟩
         go_simp
         with_reducible rfl
        rotate_left
        ·simp only [Act.put, List.setIfInBounds_toArray, List.set_cons_zero, List.set_cons_succ, i64_w, i32_w]
         rfl
        refine take_ (i := 13) (N := some 43) (v := ?_) (a' := ?_) #[true, true, true, false, true, true, false, true, true, false, false, false, true, true, false, false, false, false] rfl rfl (take_ofW HT_.out HW_.out (by kernel_rfl)) (fun _ _ _ h => h) (Or.inl ⟨by rfl, ?_⟩) hHeld ?_ ?_
        rotate_left
        ·rintro w' ⟨s0, s1, s2, s3⟩
         go_simp
         with_reducible rfl
        rotate_left
        ·simp only [Act.put, List.setIfInBounds_toArray, List.set_cons_zero, List.set_cons_succ, i64_w, i32_w]
         rfl
        refine one_ (i := 3) (N := some 33) #[true, true, true, true, true, true, false, true, true, false, false, false, true, true, false, false, false, false] rfl rfl (one_of HT_.out (by kernel_rfl)) (by decide) (fun K hK => ?_)
        refine goesV_ Try.func74 (by kernel_rfl) rfl #[.string ((rd_T24 l0_2 x26_1).f0)] (by rfl) rfl rfl (by (try simp only [List.map_toArray, List.map_cons, List.map_nil]); first | done | rfl | (simp only [List.length_drop, List.length_take]; rfl)) ?_
        with_reducible refine (num_PutText.calls k1 ((rd_T24 l0_2 x26_1).f0) t20 _ A26.out).mono ?_
        rintro e w37 ⟨v21, rfl, ho0, hb⟩
        refine ⟨_, rfl, ?_⟩
        have n0_ := Aside0.mk (Kd.R_elder' (by (with_reducible repeat (first | apply ra_ | apply rn_ | apply rd_)); exact HO_3.out) (Kd.R_base ho0) hb)
        have n1_ := Aside0.mk (Kd.R_lower (Kd.R_new' ho0 (Kd.R_lt (by (with_reducible repeat (first | apply ra_ | apply rn_ | apply rd_)); exact HO_3.out))) (below_size (by repeat (with_reducible first | exact HB.out | apply ba_ | apply bn_ | apply bd_ | refine bs_ ?_ GE1.out | refine bs_ ?_ GE19.out))))
        have n2_ := Aside0.mk (blk_below (g := gb1) (o := .cells #[.int .i64 a0_0, .int .i64 a0_1, .slice (some ad18) l0_2.length c0_2, .slice A0_3 l0_3.length c0_3] 30 (0, 0)) (by (with_reducible repeat (first | refine kn_ ?_ _ | refine kd_ ?_ | refine ka_ ?_ _)); exact BK1.out) hb)
        have n3_ := Aside0.mk (blk_below (g := gb19) (o := .cells #[.string ((rd_T24 l0_2 x26_1).f0), .int .i64 ((rd_T24 l0_2 x26_1).f1), .string ((rd_T24 l0_2 x26_1).f2), .bool ((rd_T24 l0_2 x26_1).f3)] 24 (0, 0)) (by (with_reducible repeat (first | refine kn_ ?_ _ | refine kd_ ?_ | refine ka_ ?_ _)); exact BK19.out) hb)
        have n4_ := Aside0.mk (below_step (by repeat (with_reducible first | exact HB.out | apply ba_ | apply bn_ | apply bd_ | refine bs_ ?_ GE1.out | refine bs_ ?_ GE19.out)) hb)
        clear HO_3
        clear BK1
        clear BK19
        clear HB
        have HO_3 := n0_
        have HO22 := n1_
        have BK1 := n2_
        have BK19 := n3_
        have HB := n4_
        clear n0_ n1_ n2_ n3_ n4_
        clear hb ho0
        refine hK.out _ _ ⟨(blk_cell BK19.out 0).trans rfl, (blk_cell BK19.out 1).trans rfl, (blk_cell BK19.out 2).trans rfl, (blk_cell BK19.out 3).trans rfl⟩ (fun hHeld => ?_)
        clear hK K
        refine norm_ (a' := ?_) ?_ ?_
        rotate_left
        ·show Act.put _ (some 33) _ = _
         simp only [Act.put, List.setIfInBounds_toArray, List.set_cons_zero, List.set_cons_succ, i64_w, i32_w]
         rfl
        refine one_ (i := 6) (N := some 36) #[true, true, true, true, true, true, true, true, true, false, false, false, true, true, false, false, false, false] rfl rfl (one_of HT_.out (by kernel_rfl)) (by decide) (fun K hK => ?_)
        refine goesV_ Try.func73 (by kernel_rfl) rfl #[.int .i64 ((rd_T24 l0_2 x26_1).f1)] (by rfl) rfl rfl (by (try simp only [List.map_toArray, List.map_cons, List.map_nil]); first | done | rfl | (simp only [List.length_drop, List.length_take]; rfl)) ?_
        with_reducible refine (num_Put.calls k1 ((rd_T24 l0_2 x26_1).f1) t23 _ A27.out).mono ?_
        rintro e w38 ⟨v24, rfl, ho0, hb⟩
        refine ⟨_, rfl, ?_⟩
        have n0_ := Aside0.mk (Kd.R_elder' (by (with_reducible repeat (first | apply ra_ | apply rn_ | apply rd_)); exact HO_3.out) (Kd.R_base ho0) hb)
        have n1_ := Aside0.mk (Kd.R_elder' (by (with_reducible repeat (first | apply ra_ | apply rn_ | apply rd_)); exact HO22.out) (Kd.R_base ho0) hb)
        have n2_ := Aside0.mk (Kd.R_lower (Kd.R_new' (Kd.R_new' ho0 (Kd.R_lt (by (with_reducible repeat (first | apply ra_ | apply rn_ | apply rd_)); exact HO_3.out))) (Kd.R_lt (by (with_reducible repeat (first | apply ra_ | apply rn_ | apply rd_)); exact HO22.out))) (below_size (by repeat (with_reducible first | exact HB.out | apply ba_ | apply bn_ | apply bd_ | refine bs_ ?_ GE1.out | refine bs_ ?_ GE19.out))))
        have n3_ := Aside0.mk (blk_below (g := gb1) (o := .cells #[.int .i64 a0_0, .int .i64 a0_1, .slice (some ad18) l0_2.length c0_2, .slice A0_3 l0_3.length c0_3] 30 (0, 0)) (by (with_reducible repeat (first | refine kn_ ?_ _ | refine kd_ ?_ | refine ka_ ?_ _)); exact BK1.out) hb)
        have n4_ := Aside0.mk (blk_below (g := gb19) (o := .cells #[.string ((rd_T24 l0_2 x26_1).f0), .int .i64 ((rd_T24 l0_2 x26_1).f1), .string ((rd_T24 l0_2 x26_1).f2), .bool ((rd_T24 l0_2 x26_1).f3)] 24 (0, 0)) (by (with_reducible repeat (first | refine kn_ ?_ _ | refine kd_ ?_ | refine ka_ ?_ _)); exact BK19.out) hb)
        have n5_ := Aside0.mk (below_step (by repeat (with_reducible first | exact HB.out | apply ba_ | apply bn_ | apply bd_ | refine bs_ ?_ GE1.out | refine bs_ ?_ GE19.out)) hb)
        clear HO_3
        clear HO22
        clear BK1
        clear BK19
        clear HB
        have HO_3 := n0_
        have HO22 := n1_
        have HO25 := n2_
        have BK1 := n3_
        have BK19 := n4_
        have HB := n5_
        clear n0_ n1_ n2_ n3_ n4_ n5_
        clear hb ho0
        refine hK.out _ _ ⟨(blk_cell BK19.out 0).trans rfl, (blk_cell BK19.out 1).trans rfl, (blk_cell BK19.out 2).trans rfl, (blk_cell BK19.out 3).trans rfl⟩ (fun hHeld => ?_)
        clear hK K
        refine norm_ (a' := ?_) ?_ ?_
        rotate_left
        ·show Act.put _ (some 36) _ = _
         simp only [Act.put, List.setIfInBounds_toArray, List.set_cons_zero, List.set_cons_succ, i64_w, i32_w]
         rfl
        refine one_ (i := 9) (N := some 39) #[true, true, true, true, true, true, true, true, true, true, false, false, true, true, false, false, false, false] rfl rfl (one_of HT_.out (by kernel_rfl)) (by decide) (fun K hK => ?_)
        refine goesV_ Try.func74 (by kernel_rfl) rfl #[.string ((rd_T24 l0_2 x26_1).f2)] (by rfl) rfl rfl (by (try simp only [List.map_toArray, List.map_cons, List.map_nil]); first | done | rfl | (simp only [List.length_drop, List.length_take]; rfl)) ?_
        with_reducible refine (num_PutText.calls k1 ((rd_T24 l0_2 x26_1).f2) t26 _ A28.out).mono ?_
        rintro e w39 ⟨v27, rfl, ho0, hb⟩
        refine ⟨_, rfl, ?_⟩
        have n0_ := Aside0.mk (Kd.R_elder' (by (with_reducible repeat (first | apply ra_ | apply rn_ | apply rd_)); exact HO_3.out) (Kd.R_base ho0) hb)
        have n1_ := Aside0.mk (Kd.R_elder' (by (with_reducible repeat (first | apply ra_ | apply rn_ | apply rd_)); exact HO22.out) (Kd.R_base ho0) hb)
        have n2_ := Aside0.mk (Kd.R_elder' (by (with_reducible repeat (first | apply ra_ | apply rn_ | apply rd_)); exact HO25.out) (Kd.R_base ho0) hb)
        have n3_ := Aside0.mk (Kd.R_lower (Kd.R_new' (Kd.R_new' (Kd.R_new' ho0 (Kd.R_lt (by (with_reducible repeat (first | apply ra_ | apply rn_ | apply rd_)); exact HO_3.out))) (Kd.R_lt (by (with_reducible repeat (first | apply ra_ | apply rn_ | apply rd_)); exact HO22.out))) (Kd.R_lt (by (with_reducible repeat (first | apply ra_ | apply rn_ | apply rd_)); exact HO25.out))) (below_size (by repeat (with_reducible first | exact HB.out | apply ba_ | apply bn_ | apply bd_ | refine bs_ ?_ GE1.out | refine bs_ ?_ GE19.out))))
        have n4_ := Aside0.mk (blk_below (g := gb1) (o := .cells #[.int .i64 a0_0, .int .i64 a0_1, .slice (some ad18) l0_2.length c0_2, .slice A0_3 l0_3.length c0_3] 30 (0, 0)) (by (with_reducible repeat (first | refine kn_ ?_ _ | refine kd_ ?_ | refine ka_ ?_ _)); exact BK1.out) hb)
        have n5_ := Aside0.mk (blk_below (g := gb19) (o := .cells #[.string ((rd_T24 l0_2 x26_1).f0), .int .i64 ((rd_T24 l0_2 x26_1).f1), .string ((rd_T24 l0_2 x26_1).f2), .bool ((rd_T24 l0_2 x26_1).f3)] 24 (0, 0)) (by (with_reducible repeat (first | refine kn_ ?_ _ | refine kd_ ?_ | refine ka_ ?_ _)); exact BK19.out) hb)
        have n6_ := Aside0.mk (below_step (by repeat (with_reducible first | exact HB.out | apply ba_ | apply bn_ | apply bd_ | refine bs_ ?_ GE1.out | refine bs_ ?_ GE19.out)) hb)
        clear HO_3
        clear HO22
        clear HO25
        clear BK1
        clear BK19
        clear HB
        have HO_3 := n0_
        have HO22 := n1_
        have HO25 := n2_
        have HO28 := n3_
        have BK1 := n4_
        have BK19 := n5_
        have HB := n6_
        clear n0_ n1_ n2_ n3_ n4_ n5_ n6_
        clear hb ho0
        obtain ⟨Ao40, co40, eo40⟩ := Kd.R_slice HO_3.out
        (first | subst eo40 | (injection eo40 with f1_ f2_ f3_; have f4_ := f1_.symm; have f5_ := f3_.symm; clear f1_ f2_ f3_; subst f4_; subst f5_))
        obtain ⟨Ao41, co41, eo41⟩ := Kd.R_slice HO22.out
        (first | subst eo41 | (injection eo41 with f1_ f2_ f3_; have f4_ := f1_.symm; have f5_ := f3_.symm; clear f1_ f2_ f3_; subst f4_; subst f5_))
        obtain ⟨Ao42, co42, eo42⟩ := Kd.R_slice HO25.out
        (first | subst eo42 | (injection eo42 with f1_ f2_ f3_; have f4_ := f1_.symm; have f5_ := f3_.symm; clear f1_ f2_ f3_; subst f4_; subst f5_))
        obtain ⟨Ao43, co43, eo43⟩ := Kd.R_slice HO28.out
        (first | subst eo43 | (injection eo43 with f1_ f2_ f3_; have f4_ := f1_.symm; have f5_ := f3_.symm; clear f1_ f2_ f3_; subst f4_; subst f5_))
        refine hK.out _ _ ⟨(blk_cell BK19.out 0).trans rfl, (blk_cell BK19.out 1).trans rfl, (blk_cell BK19.out 2).trans rfl, (blk_cell BK19.out 3).trans rfl⟩ (fun hHeld => ?_)
        clear hK K
        refine norm_ (a' := ?_) ?_ ?_
        rotate_left
        ·show Act.put _ (some 39) _ = _
         simp only [Act.put, List.setIfInBounds_toArray, List.set_cons_zero, List.set_cons_succ, i64_w, i32_w]
         rfl
        refine one_ (i := 10) (N := some 40) #[true, true, true, true, true, true, true, true, true, true, true, false, true, true, false, false, false, false] rfl rfl (one_of HT_.out (by kernel_rfl)) (by decide) (fun K hK => ?_)
        refine Kd.N_lit_step (Kd.slice 5 (Kd.int .u8)) _ 33 ?hg (N' := 40) ?hd (xs := ([x3_1, t20, t23, t26] : List (List Int))) (inner := [.slice Ao40 x3_1.length co40, .slice Ao41 t20.length co41, .slice Ao42 t23.length co42, .slice Ao43 t26.length co43]) (ok := (fun k_ => k_ ≠ gb1 ∧ k_ ≠ gb19)) (okp := (fun k_ => k_ ≠ gb1 ∧ k_ ≠ gb19)) ?hr ?hp (fun _ hk => hk) ((show ∀ k_, w39.heap.size ≤ k_ → (fun k_ => k_ ≠ gb1 ∧ k_ ≠ gb19) k_ from fun k_ hk => ⟨Kd.freshB (g := gb1) (o := .cells #[.int .i64 a0_0, .int .i64 a0_1, .slice (some ad18) l0_2.length c0_2, .slice A0_3 l0_3.length c0_3] 30 (0, 0)) (by (with_reducible repeat (first | refine kn_ ?_ _ | refine kd_ ?_ | refine ka_ ?_ _)); exact BK1.out) k_ hk, Kd.freshB (g := gb19) (o := .cells #[.string ((rd_T24 l0_2 x26_1).f0), .int .i64 ((rd_T24 l0_2 x26_1).f1), .string ((rd_T24 l0_2 x26_1).f2), .bool ((rd_T24 l0_2 x26_1).f3)] 24 (0, 0)) (by (with_reducible repeat (first | refine kn_ ?_ _ | refine kd_ ?_ | refine ka_ ?_ _)); exact BK19.out) k_ hk⟩) _ (Nat.le_refl _)) (Below.refl _ _) (Nat.le_refl _) (by simp) ?_; (case hd => rfl); (case hg => rfl); (case hr => first | (go_simp; done) | (go_simp; rfl)); (case hp => exact (Reps.one (show Kd.FK (Kd.slice 5 (Kd.int .u8)) _ _ x3_1 [.slice Ao40 x3_1.length co40] from (Kd.FK_slice_mk (Kd.R_reads' (Kd.R_mono (ok' := (fun k_ => k_ ≠ gb1 ∧ k_ ≠ gb19)) (Kd.R_types (Kd.R_types (HO_3.out) BK1.out (by decide)) BK19.out (by decide)) (fun k_ hk => ⟨hk.1.2, hk.2⟩))).2.1 (Kd.R_F (Kd.R_mono (ok' := (fun k_ => k_ ≠ gb1 ∧ k_ ≠ gb19)) (Kd.R_types (Kd.R_types (HO_3.out) BK1.out (by decide)) BK19.out (by decide)) (fun k_ hk => ⟨hk.1.2, hk.2⟩))))) (Reps.one (show Kd.FK (Kd.slice 5 (Kd.int .u8)) _ _ t20 [.slice Ao41 t20.length co41] from (Kd.FK_slice_mk (Kd.R_reads' (Kd.R_mono (ok' := (fun k_ => k_ ≠ gb1 ∧ k_ ≠ gb19)) (Kd.R_types (Kd.R_types (HO22.out) BK1.out (by decide)) BK19.out (by decide)) (fun k_ hk => ⟨hk.1.2, hk.2⟩))).2.1 (Kd.R_F (Kd.R_mono (ok' := (fun k_ => k_ ≠ gb1 ∧ k_ ≠ gb19)) (Kd.R_types (Kd.R_types (HO22.out) BK1.out (by decide)) BK19.out (by decide)) (fun k_ hk => ⟨hk.1.2, hk.2⟩))))) (Reps.one (show Kd.FK (Kd.slice 5 (Kd.int .u8)) _ _ t23 [.slice Ao42 t23.length co42] from (Kd.FK_slice_mk (Kd.R_reads' (Kd.R_mono (ok' := (fun k_ => k_ ≠ gb1 ∧ k_ ≠ gb19)) (Kd.R_types (Kd.R_types (HO25.out) BK1.out (by decide)) BK19.out (by decide)) (fun k_ hk => ⟨hk.1.2, hk.2⟩))).2.1 (Kd.R_F (Kd.R_mono (ok' := (fun k_ => k_ ≠ gb1 ∧ k_ ≠ gb19)) (Kd.R_types (Kd.R_types (HO25.out) BK1.out (by decide)) BK19.out (by decide)) (fun k_ hk => ⟨hk.1.2, hk.2⟩))))) (Reps.one (show Kd.FK (Kd.slice 5 (Kd.int .u8)) _ _ t26 [.slice Ao43 t26.length co43] from (Kd.FK_slice_mk (Kd.R_reads' (Kd.R_mono (ok' := (fun k_ => k_ ≠ gb1 ∧ k_ ≠ gb19)) (Kd.R_types (Kd.R_types (HO28.out) BK1.out (by decide)) BK19.out (by decide)) (fun k_ hk => ⟨hk.1.2, hk.2⟩))).2.1 (Kd.R_F (Kd.R_mono (ok' := (fun k_ => k_ ≠ gb1 ∧ k_ ≠ gb19)) (Kd.R_types (Kd.R_types (HO28.out) BK1.out (by decide)) BK19.out (by decide)) (fun k_ hk => ⟨hk.1.2, hk.2⟩))))) (Reps.none _ _))))))
        intro v30 w44 ho45 hb hg_ hnew_
        clear hg_ hnew_
        (first | rw [← Ny29.out] at ho45 | (simp only [Int.reduceToNat] at ho45; rw [← Ny29.out] at ho45))
        have n0_ := Aside0.mk (Kd.N_lower ho45 (below_size (by repeat (with_reducible first | exact HB.out | apply ba_ | apply bn_ | apply bd_ | refine bs_ ?_ GE1.out | refine bs_ ?_ GE19.out))))
        have n1_ := Aside0.mk (blk_below (g := gb1) (o := .cells #[.int .i64 a0_0, .int .i64 a0_1, .slice (some ad18) l0_2.length c0_2, .slice A0_3 l0_3.length c0_3] 30 (0, 0)) (by (with_reducible repeat (first | refine kn_ ?_ _ | refine kd_ ?_ | refine ka_ ?_ _)); exact BK1.out) hb)
        have n2_ := Aside0.mk (blk_below (g := gb19) (o := .cells #[.string ((rd_T24 l0_2 x26_1).f0), .int .i64 ((rd_T24 l0_2 x26_1).f1), .string ((rd_T24 l0_2 x26_1).f2), .bool ((rd_T24 l0_2 x26_1).f3)] 24 (0, 0)) (by (with_reducible repeat (first | refine kn_ ?_ _ | refine kd_ ?_ | refine ka_ ?_ _)); exact BK19.out) hb)
        have n3_ := Aside0.mk (below_step (by repeat (with_reducible first | exact HB.out | apply ba_ | apply bn_ | apply bd_ | refine bs_ ?_ GE1.out | refine bs_ ?_ GE19.out)) hb)
        clear BK1
        clear BK19
        clear HB
        clear HO22
        clear HO25
        clear HO28
        clear HO_3
        have HO31 := n0_
        have BK1 := n1_
        have BK19 := n2_
        have HB := n3_
        clear n0_ n1_ n2_ n3_
        clear hb ho45
        obtain ⟨Ao46, co46, eo46⟩ := Kd.N_slice HO31.out
        (first | subst eo46 | (injection eo46 with f1_ f2_ f3_; have f4_ := f1_.symm; have f5_ := f3_.symm; clear f1_ f2_ f3_; subst f4_; subst f5_))
        refine hK.out _ _ ⟨(blk_cell BK19.out 0).trans rfl, (blk_cell BK19.out 1).trans rfl, (blk_cell BK19.out 2).trans rfl, (blk_cell BK19.out 3).trans rfl⟩ (fun hHeld => ?_)
        clear hK K
        refine norm_ (a' := ?_) ?_ ?_
        rotate_left
        ·show Act.put _ (some 40) _ = _
         simp only [Act.put, List.setIfInBounds_toArray, List.set_cons_zero, List.set_cons_succ, i64_w, i32_w]
         rfl
        refine one_ (i := 11) (N := some 41) #[true, true, true, true, true, true, true, true, true, true, true, true, true, true, false, false, false, false] rfl rfl (one_of HT_.out (by kernel_rfl)) (by decide) (fun K hK => ?_)
        refine goesV_ Try.func72 (by kernel_rfl) rfl #[.slice Ao46 y29.length co46] (by rfl) rfl rfl (by (try simp only [List.map_toArray, List.map_cons, List.map_nil]); first | done | rfl | (simp only [List.length_drop, List.length_take]; rfl)) ?_
        with_reducible refine (slices_Concat_Lbyte_byte.calls k1 _ _ y29 t32 _ ?side1 ?side2 A29.out).mono ?_
        (case side1 => repeat (first | exact (Kd.N_reads' HO31.out).2.2 | (with_reducible refine ca_ ?_ _) | (with_reducible refine cn_ ?_ _) | (with_reducible refine cd_ ?_)))
        (case side2 => exact (Kd.N_reads' HO31.out).2.1)
        rintro e w47 ⟨v33, rfl, ho0, hb⟩
        refine ⟨_, rfl, ?_⟩
        have n0_ := Aside0.mk (Kd.N_elder' (by (with_reducible repeat (first | apply Kd.N_alloc | apply Kd.N_drewN | apply Kd.N_drew)); exact HO31.out) (Kd.R_base ho0) hb)
        have n1_ := Aside0.mk (Kd.R_lower ho0 (below_size (by repeat (with_reducible first | exact HB.out | apply ba_ | apply bn_ | apply bd_ | refine bs_ ?_ GE1.out | refine bs_ ?_ GE19.out))))
        have n2_ := Aside0.mk (blk_below (g := gb1) (o := .cells #[.int .i64 a0_0, .int .i64 a0_1, .slice (some ad18) l0_2.length c0_2, .slice A0_3 l0_3.length c0_3] 30 (0, 0)) (by (with_reducible repeat (first | refine kn_ ?_ _ | refine kd_ ?_ | refine ka_ ?_ _)); exact BK1.out) hb)
        have n3_ := Aside0.mk (blk_below (g := gb19) (o := .cells #[.string ((rd_T24 l0_2 x26_1).f0), .int .i64 ((rd_T24 l0_2 x26_1).f1), .string ((rd_T24 l0_2 x26_1).f2), .bool ((rd_T24 l0_2 x26_1).f3)] 24 (0, 0)) (by (with_reducible repeat (first | refine kn_ ?_ _ | refine kd_ ?_ | refine ka_ ?_ _)); exact BK19.out) hb)
        have n4_ := Aside0.mk (below_step (by repeat (with_reducible first | exact HB.out | apply ba_ | apply bn_ | apply bd_ | refine bs_ ?_ GE1.out | refine bs_ ?_ GE19.out)) hb)
        clear HO31
        clear BK1
        clear BK19
        clear HB
        have HO31 := n0_
        have HO34 := n1_
        have BK1 := n2_
        have BK19 := n3_
        have HB := n4_
        clear n0_ n1_ n2_ n3_ n4_
        clear hb ho0
        refine hK.out _ _ ⟨(blk_cell BK19.out 0).trans rfl, (blk_cell BK19.out 1).trans rfl, (blk_cell BK19.out 2).trans rfl, (blk_cell BK19.out 3).trans rfl⟩ (fun hHeld => ?_)
        clear hK K
        refine norm_ (a' := ?_) ?_ ?_
        rotate_left
        ·show Act.put _ (some 41) _ = _
         simp only [Act.put, List.setIfInBounds_toArray, List.set_cons_zero, List.set_cons_succ, i64_w, i32_w]
         rfl
        refine one_ (i := 14) (N := some 44) #[true, true, true, true, true, true, true, true, true, true, true, true, true, true, true, false, false, false] rfl rfl (one_of HT_.out (by kernel_rfl)) (by decide) (fun K hK => ?_)
        refine goesV_ Try.func75 (by kernel_rfl) rfl #[.bool ((rd_T24 l0_2 x26_1).f3)] (by rfl) rfl rfl (by (try simp only [List.map_toArray, List.map_cons, List.map_nil]); first | done | rfl | (simp only [List.length_drop, List.length_take]; rfl)) ?_
        with_reducible refine (txn_flag.calls ((rd_T24 l0_2 x26_1).f3) t35 _ A30.out).mono ?_
        rintro e w' ⟨rfl, ⟨nd, rfl⟩⟩
        refine ⟨_, rfl, ?_⟩
        refine hK.out _ _ ⟨(blk_cell BK19.out 0).trans rfl, (blk_cell BK19.out 1).trans rfl, (blk_cell BK19.out 2).trans rfl, (blk_cell BK19.out 3).trans rfl⟩ (fun hHeld => ?_)
        clear hK K
        refine norm_ (a' := ?_) ?_ ?_
        rotate_left
        ·show Act.put _ (some 44) _ = _
         simp only [Act.put, List.setIfInBounds_toArray, List.set_cons_zero, List.set_cons_succ, i64_w, i32_w]
         rfl
        refine one_ (i := 15) (N := some 45) #[true, true, true, true, true, true, true, true, true, true, true, true, true, true, true, true, false, false] rfl rfl (one_of HT_.out (by kernel_rfl)) (by decide) (fun K hK => ?_)
        refine value_ (w1 := ?_) (v := ?_) (by rfl) rfl ?_ ?_
        rotate_left 2
        ·go_simp
         constructor
         ·rfl
         ·rfl
        refine hK.out _ _ ⟨(blk_cell (blk_alloc BK19.out _) 0).trans rfl, (blk_cell (blk_alloc BK19.out _) 1).trans rfl, (blk_cell (blk_alloc BK19.out _) 2).trans rfl, (blk_cell (blk_alloc BK19.out _) 3).trans rfl⟩ (fun hHeld => ?_)
        clear hK K
        refine norm_ (a' := ?_) ?_ ?_
        rotate_left
        ·show Act.put _ (some 45) _ = _
         simp only [Act.put, List.setIfInBounds_toArray, List.set_cons_zero, List.set_cons_succ, i64_w, i32_w]
         rfl
        refine one_ (i := 16) (N := some 46) #[true, true, true, true, true, true, true, true, true, true, true, true, true, true, true, true, true, false] rfl rfl (one_of HT_.out (by kernel_rfl)) (by decide) (fun K hK => ?_)
        refine Kd.R_append_step (Kd.int .u8) (w0 := w) w.heap.size (by rfl) (.tmp 41) (.tmp 45) 33 5 (.int .u8 0) 1 rfl Try.underlying33 info5 rfl (by decide) (by omega) v33 t32 t35 [.int .u8 t35] (fun _ => True) (fun _ => False) rfl rfl ?aP (fun _ hk => hk.elim) ?aF ?aO ?aB ?aS ?aL ?_
        (case aP => exact rfl)
        (case aB => exact (by repeat (with_reducible first | exact HB.out | apply ba_ | apply bn_ | apply bd_ | refine bs_ ?_ GE1.out | refine bs_ ?_ GE19.out)))
        (case aF => exact (fun _ _ => trivial))
        (case aO => exact (by (with_reducible repeat (first | apply ra_ | apply rn_ | apply rd_)); exact HO34.out))
        (case aS => exact (below_size (by repeat (with_reducible first | exact HB.out | apply ba_ | apply bn_ | apply bd_ | refine bs_ ?_ GE1.out | refine bs_ ?_ GE19.out))))
        (case aL => have := LMc31.out; omega)
        intro v37 w48 ho hb hg hat
        rw [← Ny36.out] at ho
        have n0_ := Aside0.mk (blk_grown (g := gb1) (o := .cells #[.int .i64 a0_0, .int .i64 a0_1, .slice (some ad18) l0_2.length c0_2, .slice A0_3 l0_3.length c0_3] 30 (0, 0)) (by (with_reducible repeat (first | refine kn_ ?_ _ | refine kd_ ?_ | refine ka_ ?_ _)); exact BK1.out) hg (Kd.R_ne HO34.out BK1.out (by decide)))
        have n1_ := Aside0.mk (blk_grown (g := gb19) (o := .cells #[.string ((rd_T24 l0_2 x26_1).f0), .int .i64 ((rd_T24 l0_2 x26_1).f1), .string ((rd_T24 l0_2 x26_1).f2), .bool ((rd_T24 l0_2 x26_1).f3)] 24 (0, 0)) (by (with_reducible repeat (first | refine kn_ ?_ _ | refine kd_ ?_ | refine ka_ ?_ _)); exact BK19.out) hg (Kd.R_ne HO34.out BK19.out (by decide)))
        have n2_ := Aside0.mk (Kd.N_afterv (ok := (fun k_ => k_ ≠ gb1 ∧ k_ ≠ gb19)) (by (with_reducible repeat (first | apply Kd.N_alloc | apply Kd.N_drewN | apply Kd.N_drew)); exact HO31.out) hg hat)
        have n3_ := Aside0.mk (hb)
        have n4_ := Aside0.mk (ho)
        clear BK1
        clear BK19
        clear HO31
        clear HB
        clear HO34
        have BK1 := n0_
        have BK19 := n1_
        have HO31 := n2_
        have HB := n3_
        have HO38 := n4_
        clear n0_ n1_ n2_ n3_ n4_
        clear ho hb hg hat
        refine hK.out _ _ ⟨(blk_cell BK19.out 0).trans rfl, (blk_cell BK19.out 1).trans rfl, (blk_cell BK19.out 2).trans rfl, (blk_cell BK19.out 3).trans rfl⟩ (fun hHeld => ?_)
        clear hK K
        refine norm_ (a' := ?_) ?_ ?_
        rotate_left
        ·show Act.put _ (some 46) _ = _
         simp only [Act.put, List.setIfInBounds_toArray, List.set_cons_zero, List.set_cons_succ, i64_w, i32_w]
         rfl
        refine pure_ (i := 17) (N := some 3) (v := ?_) (a' := ?_) #[true, true, true, true, true, true, true, true, true, true, true, true, true, true, true, true, true, true] rfl rfl (any_of HT_.out (by kernel_rfl)) (fun _ _ _ h => h) (Or.inl ⟨by rfl, ?_⟩) ?_ ?_
        rotate_left
        ·intro w'
         go_simp
         with_reducible rfl
        rotate_left
        ·simp only [Act.put, List.setIfInBounds_toArray, List.set_cons_zero, List.set_cons_succ, i64_w, i32_w]
         rfl
        refine done_ (done_of HT_.out (by kernel_rfl)) ?_
        try go_wp2
        go_roundg k1
        case measure => have := HK1.out; omega
        case rel => exact ⟨(y36), (wrap64 (x26_1 + 1)), (by first | rfl | (simp; done) | (simp [*]; done)), H', ⟨by have := HK1.out; omega⟩, ⟨by (with_reducible repeat (first | apply ra_ | apply rn_ | apply rd_)); exact HO38.out⟩, ⟨by (with_reducible repeat (first | refine kn_ ?_ _ | refine kd_ ?_ | refine ka_ ?_ _)); exact BK1.out⟩, ⟨by repeat (with_reducible first | exact HB.out | apply ba_ | apply bn_ | apply bd_ | refine bs_ ?_ GE1.out | refine bs_ ?_ GE19.out)⟩⟩
       ·rw [if_neg c31] at H
        exact absurd H (by simp)
      ·rw [if_neg c25] at H
       exact absurd H (by simp)
     ·rw [if_neg c24] at H
      exact absurd H (by simp)
    ·rw [if_neg c23] at H
     have c23b0 : decide (x26_1 < (l0_2.length : Int)) = false := decide_eq_false c23
     clear c23
     replace H := Option.bind_eq_some_iff.mp H
     obtain ⟨t39, A490, H⟩ := H
     (try dsimp only at H)
     have A49 := Aside0.mk A490
     clear A490
     by_cases c50 : x3_1.length + t39.length < 140737488355328
     ·rw [if_pos c50] at H
      have LMc50 := Aside0.mk c50
      clear c50
      obtain ⟨y42, hy42⟩ : ∃ y_ : List Int, y_ = (x3_1 ++ t39) := ⟨_, rfl⟩
      replace H : (txn_Put.l1 k1 y42 l0_3 (l0_3.length : Int) 0) = some r := by first | (rw [hy42]; with_reducible exact H) | (have H2_ := (Option.bind_some _ _).symm.trans H; rw [hy42]; with_reducible exact H2_) | (have H2_ := (Option.bind_some _ _).symm.trans H; with_reducible exact H2_) | with_reducible exact H | (rw [hy42]; exact H) | exact H
      have Ny42 := Aside0.mk hy42
      clear hy42
      have H' := Aside0.mk H
      clear H
      have hcz51_0 : wr.cell? ⟨gb1, 0, none⟩ = some (.int .i64 a0_0) := (blk_cell BK1.out 0).trans rfl
      have hcz51_1 : wr.cell? ⟨gb1, 1, none⟩ = some (.int .i64 a0_1) := (blk_cell BK1.out 1).trans rfl
      have hcz51_2 : wr.cell? ⟨gb1, 2, none⟩ = some (.slice A0_2 l0_2.length c0_2) := (blk_cell BK1.out 2).trans rfl
      have hcz51_3 : wr.cell? ⟨gb1, 3, none⟩ = some (.slice A0_3 l0_3.length c0_3) := (blk_cell BK1.out 3).trans rfl
      have hfz51_0 := blk_frozen BK1.out 0
      have hfz51_1 := blk_frozen BK1.out 1
      have hfz51_2 := blk_frozen BK1.out 2
      have hfz51_3 := blk_frozen BK1.out 3
      go_wp2_with (first | ((with_reducible refine gate_callee (f := 73) rfl ?_); refine goesM_ (some 52) Try.func73 #[.int .i64 (l0_3.length : Int)] ?_; (with_reducible refine (num_Put.calls k1 (l0_3.length : Int) t39 _ A49.out).mono ?_); rintro e w52 ⟨v40, rfl, ho0, hb⟩; refine ⟨_, rfl, ?_⟩; have n0_ := Aside0.mk (Kd.R_elder' (by (with_reducible repeat (first | apply ra_ | apply rn_ | apply rd_)); exact HO_3.out) (Kd.R_base ho0) hb); have n1_ := Aside0.mk (Kd.R_lower (Kd.R_new' ho0 (Kd.R_lt (by (with_reducible repeat (first | apply ra_ | apply rn_ | apply rd_)); exact HO_3.out))) (below_size (by repeat (with_reducible first | exact HB.out | apply ba_ | apply bn_ | apply bd_ | refine bs_ ?_ GE1.out)))); have n2_ := Aside0.mk (blk_below (g := gb1) (o := .cells #[.int .i64 a0_0, .int .i64 a0_1, .slice A0_2 l0_2.length c0_2, .slice A0_3 l0_3.length c0_3] 30 (0, 0)) (by (with_reducible repeat (first | refine kn_ ?_ _ | refine kd_ ?_ | refine ka_ ?_ _)); exact BK1.out) hb); have n3_ := Aside0.mk (below_step (by repeat (with_reducible first | exact HB.out | apply ba_ | apply bn_ | apply bd_ | refine bs_ ?_ GE1.out)) hb); clear HO_3; clear BK1; clear HB; have HO_3 := n0_; have HO41 := n1_; have BK1 := n2_; have HB := n3_; clear n0_ n1_ n2_ n3_; clear hb ho0; obtain ⟨Ao54, co54, eo54⟩ := Kd.R_slice HO41.out; subst eo54) | ((with_reducible refine gate_builtin (b := .append) (xs := #[.tmp 48, .tmp 52]) rfl ?_); at_builtin; refine Kd.R_append_rows (Kd.int .u8) (w0 := w) w.heap.size rfl (.tmp 48) (.tmp 52) 33 5 (.int .u8 0) 1 rfl Try.underlying33 info5 rfl (by decide) (by omega) u3 x3_1 t39 _ _ _ (fun k_ => some k_ ≠ (.slice Ao54 t39.length co54 : Value).ownBlock) (fun _ => False) rfl rfl ?aO ?aR (fun _ _ h => h) (fun _ h => h.elim) ?aF ?aB ?aS ?aL ?_; (case aR => repeat (first | exact (Kd.R_reads' HO41.out).2.2 | (with_reducible refine ca_ ?_ _) | (with_reducible refine cn_ ?_ _) | (with_reducible refine cd_ ?_))); (case aB => exact (by repeat (with_reducible first | exact HB.out | apply ba_ | apply bn_ | apply bd_ | refine bs_ ?_ GE1.out))); (case aF => exact (fun k_ hk => Kd.fresh' (Kd.R_lt (by (with_reducible repeat (first | apply ra_ | apply rn_ | apply rd_)); exact HO41.out)) k_ hk)); (case aO => exact (by (with_reducible repeat (first | apply ra_ | apply rn_ | apply rd_)); exact Kd.R_mono HO_3.out (fun _ hk => hk.2))); (case aS => exact (below_size (by repeat (with_reducible first | exact HB.out | apply ba_ | apply bn_ | apply bd_ | refine bs_ ?_ GE1.out)))); (case aL => have := LMc50.out; omega); intro v43 w53 ho hb hg hat; rw [← Ny42.out] at ho; have n0_ := Aside0.mk (blk_grown (g := gb1) (o := .cells #[.int .i64 a0_0, .int .i64 a0_1, .slice A0_2 l0_2.length c0_2, .slice A0_3 l0_3.length c0_3] 30 (0, 0)) (by (with_reducible repeat (first | refine kn_ ?_ _ | refine kd_ ?_ | refine ka_ ?_ _)); exact BK1.out) hg (Kd.R_ne HO_3.out BK1.out (by decide))); have n1_ := Aside0.mk (Kd.R_after (ok := (fun _ => True)) (by (with_reducible repeat (first | apply ra_ | apply rn_ | apply rd_)); exact HO41.out) hg hat); have n2_ := Aside0.mk (hb); have n3_ := Aside0.mk (ho); clear BK1; clear HO41; clear HB; clear HO_3; have BK1 := n0_; have HO41 := n1_; have HB := n2_; have HO44 := n3_; clear n0_ n1_ n2_ n3_; clear ho hb hg hat; have hcz55_0 : w53.cell? ⟨gb1, 0, none⟩ = some (.int .i64 a0_0) := (blk_cell BK1.out 0).trans rfl; have hcz55_1 : w53.cell? ⟨gb1, 1, none⟩ = some (.int .i64 a0_1) := (blk_cell BK1.out 1).trans rfl; have hcz55_2 : w53.cell? ⟨gb1, 2, none⟩ = some (.slice A0_2 l0_2.length c0_2) := (blk_cell BK1.out 2).trans rfl; have hcz55_3 : w53.cell? ⟨gb1, 3, none⟩ = some (.slice A0_3 l0_3.length c0_3) := (blk_cell BK1.out 3).trans rfl; have hfz55_0 := blk_frozen BK1.out 0; have hfz55_1 := blk_frozen BK1.out 1; have hfz55_2 := blk_frozen BK1.out 2; have hfz55_3 := blk_frozen BK1.out 3))
      go_loopg [3, 57] k1 (fun kq v3 v57 w' => ∃ (x3_2 : List Int) (x57_2 : Int), v57 = .int .i64 x57_2 ∧ Aside0 (txn_Put.l1 kq x3_2 l0_3 (l0_3.length : Int) x57_2 = some r) ∧ Aside0 (kq ≤ k1) ∧ Aside0 (Kd.R (Kd.int .u8) 5 w' w.heap.size (fun _ => True) v3 x3_2) ∧ Aside0 (w'.heap[gb1]? = some (.cells #[.int .i64 a0_0, .int .i64 a0_1, (.slice A0_2 l0_2.length c0_2), (.slice A0_3 l0_3.length c0_3)] 30 (0, 0))) ∧ Aside0 (Below w.heap.size w w'))
      case atStart => exact ⟨(y42), (0), (by first | rfl | (simp; done) | (simp [*]; done)), H', ⟨Nat.le_refl _⟩, ⟨by (with_reducible repeat (first | apply ra_ | apply rn_ | apply rd_)); exact Kd.R_mono HO44.out (fun _ hk => trivial)⟩, ⟨by (with_reducible repeat (first | refine kn_ ?_ _ | refine kd_ ?_ | refine ka_ ?_ _)); exact BK1.out⟩, ⟨by repeat (with_reducible first | exact HB.out | apply ba_ | apply bn_ | apply bd_ | refine bs_ ?_ GE1.out)⟩⟩
      case round =>
       clear H'
       try clear c1
       try clear p1
       try clear q1
       try clear hx1
       try clear c2
       try clear p2
       try clear c3
       try clear c5
       try clear p6
       try clear c7
       try clear c18
       try clear p18
       try clear q18
       try clear hx18
       try clear c19
       try clear c23
       try clear c23b0
       try clear c24
       try clear c24b0
       try clear c25
       try clear c25b0
       try clear c31
       try clear c33
       try clear c50
       try clear hcz22_0
       try clear hcz22_1
       try clear hcz22_2
       try clear hcz22_3
       try clear hcz34_0
       try clear hcz34_1
       try clear hcz34_2
       try clear hcz34_3
       try clear hcz51_0
       try clear hcz51_1
       try clear hcz51_2
       try clear hcz51_3
       try clear hcz55_0
       try clear hcz55_1
       try clear hcz55_2
       try clear hcz55_3
       try clear hcz9_0
       try clear hcz9_1
       try clear hcz9_2
       try clear hcz9_3
       try clear hfz22_0
       try clear hfz22_1
       try clear hfz22_2
       try clear hfz22_3
       try clear hfz34_0
       try clear hfz34_1
       try clear hfz34_2
       try clear hfz34_3
       try clear hfz51_0
       try clear hfz51_1
       try clear hfz51_2
       try clear hfz51_3
       try clear hfz55_0
       try clear hfz55_1
       try clear hfz55_2
       try clear hfz55_3
       try clear hfz9_0
       try clear hfz9_1
       try clear hfz9_2
       try clear hfz9_3
       try clear hx18_0
       try clear hx18_1
       try clear hx18_2
       try clear hx18_3
       try clear p18
       try clear p2
       try clear q18
       obtain ⟨x3_2, x57_2, rfl, HA, HK2, HO_3, BK1, HB⟩ := hrel
       cases gk with
       | zero => exact absurd HA.out (by simp [txn_Put.l1])
       | succ k2 =>
        have H := HA.out
        clear HA
        simp only [txn_Put.l1] at H
        by_cases c56 : x57_2 < (l0_3.length : Int)
        ·rw [if_pos c56] at H
         have c56b0 : decide (x57_2 < (l0_3.length : Int)) = true := decide_eq_true c56
         clear c56
         by_cases c57 : 0 ≤ x57_2
         ·rw [if_pos c57] at H
          have c57b0 : decide (0 ≤ x57_2) = true := decide_eq_true c57
          clear c57
          by_cases c58 : x57_2 < (l0_3.length : Int)
          ·rw [if_pos c58] at H
           have c58b0 : decide (x57_2 < (l0_3.length : Int)) = true := decide_eq_true c58
           clear c58
           replace H := Option.bind_eq_some_iff.mp H
           obtain ⟨t47, A590, H⟩ := H
           (try dsimp only at H)
           have A59 := Aside0.mk A590
           clear A590
           replace H := Option.bind_eq_some_iff.mp H
           obtain ⟨t50, A600, H⟩ := H
           (try dsimp only at H)
           have A60 := Aside0.mk A600
           clear A600
           obtain ⟨y53, hy53⟩ : ∃ y_ : List (List Int), y_ = (([x3_2, t47, t50] : List (List Int))) := ⟨_, rfl⟩
           replace H : ((slices_Concat_Lbyte_byte.f k2 y53).bind fun t56 => ((txn_flag.f ((rd_T27 l0_3 x57_2).f2)).bind fun t59 => (if t56.length < 140737488355328 then (txn_Put.l1 k2 (t56 ++ [t59]) l0_3 (l0_3.length : Int) (wrap64 (x57_2 + 1))) else (none)))) = some r := by first | (rw [hy53]; with_reducible exact H) | (have H2_ := (Option.bind_some _ _).symm.trans H; rw [hy53]; with_reducible exact H2_) | (have H2_ := (Option.bind_some _ _).symm.trans H; with_reducible exact H2_) | with_reducible exact H | (rw [hy53]; exact H) | exact H
           have Ny53 := Aside0.mk hy53
           clear hy53
           replace H := Option.bind_eq_some_iff.mp H
           obtain ⟨t56, A610, H⟩ := H
           (try dsimp only at H)
           have A61 := Aside0.mk A610
           clear A610
           replace H := Option.bind_eq_some_iff.mp H
           obtain ⟨t59, A620, H⟩ := H
           (try dsimp only at H)
           have A62 := Aside0.mk A620
           clear A620
           by_cases c63 : t56.length < 140737488355328
           ·rw [if_pos c63] at H
            have LMc63 := Aside0.mk c63
            clear c63
            obtain ⟨y60, hy60⟩ : ∃ y_ : List Int, y_ = (t56 ++ [t59]) := ⟨_, rfl⟩
            replace H : (txn_Put.l1 k2 y60 l0_3 (l0_3.length : Int) (wrap64 (x57_2 + 1))) = some r := by first | (rw [hy60]; with_reducible exact H) | (have H2_ := (Option.bind_some _ _).symm.trans H; rw [hy60]; with_reducible exact H2_) | (have H2_ := (Option.bind_some _ _).symm.trans H; with_reducible exact H2_) | with_reducible exact H | (rw [hy60]; exact H) | exact H
            have Ny60 := Aside0.mk hy60
            clear hy60
            have H' := Aside0.mk H
            clear H
            have p45 : 0 ≤ (x57_2 : Int) := of_decide_eq_true (by first | (with_reducible assumption) | assumption)
            have q45 : x57_2 < (l0_3.length : Int) := of_decide_eq_true (by first | (with_reducible assumption) | assumption)
            obtain ⟨ad45, e45, hx45_0, hx45_1, hx45_2⟩ := at_T27 HR0_3.out x57_2 p45 q45
            cases e45
            replace hx45_0 := (HB.out.cell (World.block_lt_of_cell? w _ hx45_0)).trans hx45_0
            replace hx45_1 := (HB.out.cell (World.block_lt_of_cell? w _ hx45_1)).trans hx45_1
            replace hx45_2 := (HB.out.cell (World.block_lt_of_cell? w _ hx45_2)).trans hx45_2
            replace p45 := eq_true p45
            replace q45 := eq_true q45
            try go_wp2_with (first | ((with_reducible refine gate_dst (N := 7) rfl ?_); refine box_event ?hg (N := 7) ?hd (cs := #[.string (⟨#[]⟩ : ByteArray), .string (⟨#[]⟩ : ByteArray), .bool false]) (t := 27) ?hr ?_; (case hd => rfl); (case hg => rfl); (case hr => first | (go_simp; done) | (go_simp; rfl)); intro gb46 hg w64 hbox hb; have n0_ := Aside0.mk (Kd.R_below (by (with_reducible repeat (first | apply ra_ | apply rn_ | apply rd_)); exact HO_3.out) hb); have n1_ := Aside0.mk (blk_below (g := gb1) (o := .cells #[.int .i64 a0_0, .int .i64 a0_1, .slice A0_2 l0_2.length c0_2, .slice (some ad45) l0_3.length c0_3] 30 (0, 0)) (by (with_reducible repeat (first | refine kn_ ?_ _ | refine kd_ ?_ | refine ka_ ?_ _)); exact BK1.out) hb); have n2_ := Aside0.mk (below_step (by repeat (with_reducible first | exact HB.out | apply ba_ | apply bn_ | apply bd_ | refine bs_ ?_ GE1.out)) hb); have n3_ := Aside0.mk (hbox); have n4_ := Aside0.mk ((by rw [hg]; exact (below_size (by repeat (with_reducible first | exact HB.out | apply ba_ | apply bn_ | apply bd_ | refine bs_ ?_ GE1.out))) : w.heap.size ≤ gb46)); have n5_ := Aside0.mk ((by rw [hg]; exact (below_size (by repeat (with_reducible first | exact HB.out | apply ba_ | apply bn_ | apply bd_ | refine bs_ ?_ GE1.out))) : w.heap.size ≤ gb46)); have n6_ := Aside0.mk ((by rw [hg]; exact Nat.ne_of_lt (blk_lt (g := gb1) (o := .cells #[.int .i64 a0_0, .int .i64 a0_1, .slice A0_2 l0_2.length c0_2, .slice (some ad45) l0_3.length c0_3] 30 (0, 0)) (by (with_reducible repeat (first | refine kn_ ?_ _ | refine kd_ ?_ | refine ka_ ?_ _)); exact BK1.out)) : gb1 ≠ gb46)); have n7_ := Aside0.mk ((by rw [hg]; exact Nat.ne_of_gt (blk_lt (g := gb1) (o := .cells #[.int .i64 a0_0, .int .i64 a0_1, .slice A0_2 l0_2.length c0_2, .slice (some ad45) l0_3.length c0_3] 30 (0, 0)) (by (with_reducible repeat (first | refine kn_ ?_ _ | refine kd_ ?_ | refine ka_ ?_ _)); exact BK1.out)) : gb46 ≠ gb1)); clear HO_3; clear BK1; clear HB; have HO_3 := n0_; have BK1 := n1_; have HB := n2_; have BK46 := n3_; have GW46 := n4_; have GE46 := n5_; have NB1_46 := n6_; have NB46_1 := n7_; clear n0_ n1_ n2_ n3_ n4_ n5_ n6_ n7_; clear hb hbox hg; have hnb65 := NB46_1.out; have hnc65 := NB1_46.out; have hcz66_0 : w64.cell? ⟨gb46, 0, none⟩ = some (.string (⟨#[]⟩ : ByteArray)) := (blk_cell BK46.out 0).trans rfl; have hcz66_1 : w64.cell? ⟨gb46, 1, none⟩ = some (.string (⟨#[]⟩ : ByteArray)) := (blk_cell BK46.out 1).trans rfl; have hcz66_2 : w64.cell? ⟨gb46, 2, none⟩ = some (.bool false) := (blk_cell BK46.out 2).trans rfl; have hfz66_0 := blk_frozen BK46.out 0; have hfz66_1 := blk_frozen BK46.out 1; have hfz66_2 := blk_frozen BK46.out 2))
            have n0_ : Aside0 (Kd.R (Kd.int .u8) 5 (((w64.setCell ⟨gb46, 0, none⟩ (.string ((rd_T27 l0_3 x57_2).f0))).setCell ⟨gb46, 1, none⟩ (.string ((rd_T27 l0_3 x57_2).f1))).setCell ⟨gb46, 2, none⟩ (.bool ((rd_T27 l0_3 x57_2).f2))) w.heap.size (fun _ => True) u3 x3_2) := ⟨by (with_reducible repeat (first | apply ra_ | apply rn_ | apply rd_)); exact Kd.R_mono (Kd.R_far (p := ⟨gb46, 2, none⟩) (Kd.R_far (p := ⟨gb46, 1, none⟩) (Kd.R_far (p := ⟨gb46, 0, none⟩) (Kd.R_types HO_3.out BK46.out (by decide)) (fun _ hk => hk.2) (.string ((rd_T27 l0_3 x57_2).f0))) (fun _ hk => hk.2) (.string ((rd_T27 l0_3 x57_2).f1))) (fun _ hk => hk.2) (.bool ((rd_T27 l0_3 x57_2).f2))) (fun _ hk => trivial)⟩
            have n1_ : Aside0 ((((w64.setCell ⟨gb46, 0, none⟩ (.string ((rd_T27 l0_3 x57_2).f0))).setCell ⟨gb46, 1, none⟩ (.string ((rd_T27 l0_3 x57_2).f1))).setCell ⟨gb46, 2, none⟩ (.bool ((rd_T27 l0_3 x57_2).f2))).heap[gb1]? = some (.cells #[.int .i64 a0_0, .int .i64 a0_1, .slice A0_2 l0_2.length c0_2, .slice (some ad45) l0_3.length c0_3] 30 (0, 0))) := ⟨by (with_reducible repeat (first | refine kn_ ?_ _ | refine kd_ ?_ | refine ka_ ?_ _)); refine blk_far ?_ NB1_46.out _; (with_reducible repeat (first | refine kn_ ?_ _ | refine kd_ ?_ | refine ka_ ?_ _)); refine blk_far ?_ NB1_46.out _; (with_reducible repeat (first | refine kn_ ?_ _ | refine kd_ ?_ | refine ka_ ?_ _)); refine blk_far ?_ NB1_46.out _; (with_reducible repeat (first | refine kn_ ?_ _ | refine kd_ ?_ | refine ka_ ?_ _)); exact BK1.out⟩
            have n2_ : Aside0 ((((w64.setCell ⟨gb46, 0, none⟩ (.string ((rd_T27 l0_3 x57_2).f0))).setCell ⟨gb46, 1, none⟩ (.string ((rd_T27 l0_3 x57_2).f1))).setCell ⟨gb46, 2, none⟩ (.bool ((rd_T27 l0_3 x57_2).f2))).heap[gb46]? = some (.cells #[.string ((rd_T27 l0_3 x57_2).f0), .string ((rd_T27 l0_3 x57_2).f1), .bool ((rd_T27 l0_3 x57_2).f2)] 27 (0, 0))) := ⟨by (with_reducible repeat (first | refine kn_ ?_ _ | refine kd_ ?_ | refine ka_ ?_ _)); refine blk_put (cs := #[.string ((rd_T27 l0_3 x57_2).f0), .string ((rd_T27 l0_3 x57_2).f1), .bool false]) ?_ 2 _ rfl; (with_reducible repeat (first | refine kn_ ?_ _ | refine kd_ ?_ | refine ka_ ?_ _)); refine blk_put (cs := #[.string ((rd_T27 l0_3 x57_2).f0), .string (⟨#[]⟩ : ByteArray), .bool false]) ?_ 1 _ rfl; (with_reducible repeat (first | refine kn_ ?_ _ | refine kd_ ?_ | refine ka_ ?_ _)); refine blk_put (cs := #[.string (⟨#[]⟩ : ByteArray), .string (⟨#[]⟩ : ByteArray), .bool false]) ?_ 0 _ rfl; (with_reducible repeat (first | refine kn_ ?_ _ | refine kd_ ?_ | refine ka_ ?_ _)); exact BK46.out⟩
            have n3_ : Aside0 (Below w.heap.size w (((w64.setCell ⟨gb46, 0, none⟩ (.string ((rd_T27 l0_3 x57_2).f0))).setCell ⟨gb46, 1, none⟩ (.string ((rd_T27 l0_3 x57_2).f1))).setCell ⟨gb46, 2, none⟩ (.bool ((rd_T27 l0_3 x57_2).f2)))) := ⟨by repeat (with_reducible first | exact HB.out | apply ba_ | apply bn_ | apply bd_ | refine bs_ ?_ GE1.out | refine bs_ ?_ GE46.out)⟩
            (try clear HO_3)
            (try clear BK1)
            (try clear BK46)
            (try clear HB)
            generalize (((w64.setCell ⟨gb46, 0, none⟩ (.string ((rd_T27 l0_3 x57_2).f0))).setCell ⟨gb46, 1, none⟩ (.string ((rd_T27 l0_3 x57_2).f1))).setCell ⟨gb46, 2, none⟩ (.bool ((rd_T27 l0_3 x57_2).f2))) = w67 at n0_ n1_ n2_ n3_ ⊢
            have HO_3 := n0_
            have BK1 := n1_
            have BK46 := n2_
            have HB := n3_
            clear n0_ n1_ n2_ n3_
            have n0_ := Aside0.mk (Kd.R_drew HO_3.out)
            have n1_ := Aside0.mk (blk_drew BK1.out)
            have n2_ := Aside0.mk (blk_drew BK46.out)
            have n3_ := Aside0.mk (below_drew1 HB.out)
            clear HO_3
            clear BK1
            clear BK46
            clear HB
            have HO_3 := n0_
            have BK1 := n1_
            have BK46 := n2_
            have HB := n3_
            clear n0_ n1_ n2_ n3_
            refine start_ (n := 15) (S := fun w' => w'.cell? ⟨gb46, 0, none⟩ = some (.string ((rd_T27 l0_3 x57_2).f0)) ∧ w'.cell? ⟨gb46, 1, none⟩ = some (.string ((rd_T27 l0_3 x57_2).f1)) ∧ w'.cell? ⟨gb46, 2, none⟩ = some (.bool ((rd_T27 l0_3 x57_2).f2))) (ds := []) #[false, false, false, false, false, false, false, false, false, false, false, false, false, false, false] (by kernel_rfl) rfl rfl ⟨(blk_cell BK46.out 0).trans rfl, (blk_cell BK46.out 1).trans rfl, (blk_cell BK46.out 2).trans rfl⟩ (fun hHeld => ?_); refine with_tabW txn_Put.tab13 txn_Put.bits13 (fun HT_ HW_ => ?_)
            generalize w67.drew = w68 at HO_3 BK1 BK46 HB hHeld ⊢
            refine pure_ (i := 0) (N := some 61) (v := ?_) (a' := ?_) #[true, false, false, false, false, false, false, false, false, false, false, false, false, false, false] rfl rfl (any_of HT_.out (by kernel_rfl)) (fun _ _ _ h => h) (Or.inl ⟨by rfl, ?_⟩) ?_ ?_
            rotate_left
            ·intro w'
             go_simp
             with_reducible rfl
            rotate_left
            ·simp only [Act.put, List.setIfInBounds_toArray, List.set_cons_zero, List.set_cons_succ, i64_w, i32_w]
             rfl
            refine pure_ (i := 1) (N := some 62) (v := ?_) (a' := ?_) #[true, true, false, false, false, false, false, false, false, false, false, false, false, false, false] rfl rfl (any_of HT_.out (by kernel_rfl)) (fun _ _ _ h => h) (Or.inl ⟨by rfl, ?_⟩) ?_ ?_
            rotate_left
            ·intro w'
             go_simp
             with_reducible rfl
            rotate_left
            ·simp only [Act.put, List.setIfInBounds_toArray, List.set_cons_zero, List.set_cons_succ, i64_w, i32_w]
             rfl
            refine pure_ (i := 4) (N := some 65) (v := ?_) (a' := ?_) #[true, true, false, false, true, false, false, false, false, false, false, false, false, false, false] rfl rfl (any_of HT_.out (by kernel_rfl)) (fun _ _ _ h => h) (Or.inl ⟨by rfl, ?_⟩) ?_ ?_
            rotate_left
            ·intro w'
             go_simp
             with_reducible rfl
            rotate_left
            ·simp only [Act.put, List.setIfInBounds_toArray, List.set_cons_zero, List.set_cons_succ, i64_w, i32_w]
             rfl
            refine pure_ (i := 9) (N := some 70) (v := ?_) (a' := ?_) #[true, true, false, false, true, false, false, false, false, true, false, false, false, false, false] rfl rfl (any_of HT_.out (by kernel_rfl)) (fun _ _ _ h => h) (Or.inl ⟨by rfl, ?_⟩) ?_ ?_
            rotate_left
            ·intro w'
             go_simp
             with_reducible rfl
            rotate_left
            ·simp only [Act.put, List.setIfInBounds_toArray, List.set_cons_zero, List.set_cons_succ, i64_w, i32_w]
             rfl
            refine take_ (i := 2) (N := some 63) (v := ?_) (a' := ?_) #[true, true, true, false, true, false, false, false, false, true, false, false, false, false, false] rfl rfl (take_ofW HT_.out HW_.out (by kernel_rfl)) (fun _ _ _ h => h) (Or.inl ⟨by rfl, ?_⟩) hHeld ?_ ?_
            rotate_left
            ·rintro w' ⟨s0, s1, s2⟩
             go_simp
             with_reducible rfl
            rotate_left
            ·simp only [Act.put, List.setIfInBounds_toArray, List.set_cons_zero, List.set_cons_succ, i64_w, i32_w]
             rfl
            refine take_ (i := 5) (N := some 66) (v := ?_) (a' := ?_) #[true, true, true, false, true, true, false, false, false, true, false, false, false, false, false] rfl rfl (take_ofW HT_.out HW_.out (by kernel_rfl)) (fun _ _ _ h => h) (Or.inl ⟨by rfl, ?_⟩) hHeld ?_ ?_
            rotate_left
            ·rintro w' ⟨s0, s1, s2⟩
             go_simp
             with_reducible rfl
            rotate_left
            ·simp only [Act.put, List.setIfInBounds_toArray, List.set_cons_zero, List.set_cons_succ, i64_w, i32_w]
             rfl
            refine take_ (i := 10) (N := some 71) (v := ?_) (a' := ?_) #[true, true, true, false, true, true, false, false, false, true, true, false, false, false, false] rfl rfl (take_ofW HT_.out HW_.out (by kernel_rfl)) (fun _ _ _ h => h) (Or.inl ⟨by rfl, ?_⟩) hHeld ?_ ?_
            rotate_left
            ·rintro w' ⟨s0, s1, s2⟩
             go_simp
             with_reducible rfl
            rotate_left
            ·simp only [Act.put, List.setIfInBounds_toArray, List.set_cons_zero, List.set_cons_succ, i64_w, i32_w]
             rfl
            refine one_ (i := 3) (N := some 64) #[true, true, true, true, true, true, false, false, false, true, true, false, false, false, false] rfl rfl (one_of HT_.out (by kernel_rfl)) (by decide) (fun K hK => ?_)
            refine goesV_ Try.func74 (by kernel_rfl) rfl #[.string ((rd_T27 l0_3 x57_2).f0)] (by rfl) rfl rfl (by (try simp only [List.map_toArray, List.map_cons, List.map_nil]); first | done | rfl | (simp only [List.length_drop, List.length_take]; rfl)) ?_
            with_reducible refine (num_PutText.calls k2 ((rd_T27 l0_3 x57_2).f0) t47 _ A59.out).mono ?_
            rintro e w69 ⟨v48, rfl, ho0, hb⟩
            refine ⟨_, rfl, ?_⟩
            have n0_ := Aside0.mk (Kd.R_elder' (by (with_reducible repeat (first | apply ra_ | apply rn_ | apply rd_)); exact HO_3.out) (Kd.R_base ho0) hb)
            have n1_ := Aside0.mk (Kd.R_lower (Kd.R_new' ho0 (Kd.R_lt (by (with_reducible repeat (first | apply ra_ | apply rn_ | apply rd_)); exact HO_3.out))) (below_size (by repeat (with_reducible first | exact HB.out | apply ba_ | apply bn_ | apply bd_ | refine bs_ ?_ GE1.out | refine bs_ ?_ GE46.out))))
            have n2_ := Aside0.mk (blk_below (g := gb1) (o := .cells #[.int .i64 a0_0, .int .i64 a0_1, .slice A0_2 l0_2.length c0_2, .slice (some ad45) l0_3.length c0_3] 30 (0, 0)) (by (with_reducible repeat (first | refine kn_ ?_ _ | refine kd_ ?_ | refine ka_ ?_ _)); exact BK1.out) hb)
            have n3_ := Aside0.mk (blk_below (g := gb46) (o := .cells #[.string ((rd_T27 l0_3 x57_2).f0), .string ((rd_T27 l0_3 x57_2).f1), .bool ((rd_T27 l0_3 x57_2).f2)] 27 (0, 0)) (by (with_reducible repeat (first | refine kn_ ?_ _ | refine kd_ ?_ | refine ka_ ?_ _)); exact BK46.out) hb)
            have n4_ := Aside0.mk (below_step (by repeat (with_reducible first | exact HB.out | apply ba_ | apply bn_ | apply bd_ | refine bs_ ?_ GE1.out | refine bs_ ?_ GE46.out)) hb)
            clear HO_3
            clear BK1
            clear BK46
            clear HB
            have HO_3 := n0_
            have HO49 := n1_
            have BK1 := n2_
            have BK46 := n3_
            have HB := n4_
            clear n0_ n1_ n2_ n3_ n4_
            clear hb ho0
            refine hK.out _ _ ⟨(blk_cell BK46.out 0).trans rfl, (blk_cell BK46.out 1).trans rfl, (blk_cell BK46.out 2).trans rfl⟩ (fun hHeld => ?_)
            clear hK K
            refine norm_ (a' := ?_) ?_ ?_
            rotate_left
            ·show Act.put _ (some 64) _ = _
             simp only [Act.put, List.setIfInBounds_toArray, List.set_cons_zero, List.set_cons_succ, i64_w, i32_w]
             rfl
            refine one_ (i := 6) (N := some 67) #[true, true, true, true, true, true, true, false, false, true, true, false, false, false, false] rfl rfl (one_of HT_.out (by kernel_rfl)) (by decide) (fun K hK => ?_)
            refine goesV_ Try.func74 (by kernel_rfl) rfl #[.string ((rd_T27 l0_3 x57_2).f1)] (by rfl) rfl rfl (by (try simp only [List.map_toArray, List.map_cons, List.map_nil]); first | done | rfl | (simp only [List.length_drop, List.length_take]; rfl)) ?_
            with_reducible refine (num_PutText.calls k2 ((rd_T27 l0_3 x57_2).f1) t50 _ A60.out).mono ?_
            rintro e w70 ⟨v51, rfl, ho0, hb⟩
            refine ⟨_, rfl, ?_⟩
            have n0_ := Aside0.mk (Kd.R_elder' (by (with_reducible repeat (first | apply ra_ | apply rn_ | apply rd_)); exact HO_3.out) (Kd.R_base ho0) hb)
            have n1_ := Aside0.mk (Kd.R_elder' (by (with_reducible repeat (first | apply ra_ | apply rn_ | apply rd_)); exact HO49.out) (Kd.R_base ho0) hb)
            have n2_ := Aside0.mk (Kd.R_lower (Kd.R_new' (Kd.R_new' ho0 (Kd.R_lt (by (with_reducible repeat (first | apply ra_ | apply rn_ | apply rd_)); exact HO_3.out))) (Kd.R_lt (by (with_reducible repeat (first | apply ra_ | apply rn_ | apply rd_)); exact HO49.out))) (below_size (by repeat (with_reducible first | exact HB.out | apply ba_ | apply bn_ | apply bd_ | refine bs_ ?_ GE1.out | refine bs_ ?_ GE46.out))))
            have n3_ := Aside0.mk (blk_below (g := gb1) (o := .cells #[.int .i64 a0_0, .int .i64 a0_1, .slice A0_2 l0_2.length c0_2, .slice (some ad45) l0_3.length c0_3] 30 (0, 0)) (by (with_reducible repeat (first | refine kn_ ?_ _ | refine kd_ ?_ | refine ka_ ?_ _)); exact BK1.out) hb)
            have n4_ := Aside0.mk (blk_below (g := gb46) (o := .cells #[.string ((rd_T27 l0_3 x57_2).f0), .string ((rd_T27 l0_3 x57_2).f1), .bool ((rd_T27 l0_3 x57_2).f2)] 27 (0, 0)) (by (with_reducible repeat (first | refine kn_ ?_ _ | refine kd_ ?_ | refine ka_ ?_ _)); exact BK46.out) hb)
            have n5_ := Aside0.mk (below_step (by repeat (with_reducible first | exact HB.out | apply ba_ | apply bn_ | apply bd_ | refine bs_ ?_ GE1.out | refine bs_ ?_ GE46.out)) hb)
            clear HO_3
            clear HO49
            clear BK1
            clear BK46
            clear HB
            have HO_3 := n0_
            have HO49 := n1_
            have HO52 := n2_
            have BK1 := n3_
            have BK46 := n4_
            have HB := n5_
            clear n0_ n1_ n2_ n3_ n4_ n5_
            clear hb ho0
            obtain ⟨Ao71, co71, eo71⟩ := Kd.R_slice HO_3.out
            (first | subst eo71 | (injection eo71 with f1_ f2_ f3_; have f4_ := f1_.symm; have f5_ := f3_.symm; clear f1_ f2_ f3_; subst f4_; subst f5_))
            obtain ⟨Ao72, co72, eo72⟩ := Kd.R_slice HO49.out
            (first | subst eo72 | (injection eo72 with f1_ f2_ f3_; have f4_ := f1_.symm; have f5_ := f3_.symm; clear f1_ f2_ f3_; subst f4_; subst f5_))
            obtain ⟨Ao73, co73, eo73⟩ := Kd.R_slice HO52.out
            (first | subst eo73 | (injection eo73 with f1_ f2_ f3_; have f4_ := f1_.symm; have f5_ := f3_.symm; clear f1_ f2_ f3_; subst f4_; subst f5_))
            refine hK.out _ _ ⟨(blk_cell BK46.out 0).trans rfl, (blk_cell BK46.out 1).trans rfl, (blk_cell BK46.out 2).trans rfl⟩ (fun hHeld => ?_)
            clear hK K
            refine norm_ (a' := ?_) ?_ ?_
            rotate_left
            ·show Act.put _ (some 67) _ = _
             simp only [Act.put, List.setIfInBounds_toArray, List.set_cons_zero, List.set_cons_succ, i64_w, i32_w]
             rfl
            refine one_ (i := 7) (N := some 68) #[true, true, true, true, true, true, true, true, false, true, true, false, false, false, false] rfl rfl (one_of HT_.out (by kernel_rfl)) (by decide) (fun K hK => ?_)
            refine Kd.N_lit_step (Kd.slice 5 (Kd.int .u8)) _ 33 ?hg (N' := 68) ?hd (xs := ([x3_2, t47, t50] : List (List Int))) (inner := [.slice Ao71 x3_2.length co71, .slice Ao72 t47.length co72, .slice Ao73 t50.length co73]) (ok := (fun k_ => k_ ≠ gb1 ∧ k_ ≠ gb46)) (okp := (fun k_ => k_ ≠ gb1 ∧ k_ ≠ gb46)) ?hr ?hp (fun _ hk => hk) ((show ∀ k_, w70.heap.size ≤ k_ → (fun k_ => k_ ≠ gb1 ∧ k_ ≠ gb46) k_ from fun k_ hk => ⟨Kd.freshB (g := gb1) (o := .cells #[.int .i64 a0_0, .int .i64 a0_1, .slice A0_2 l0_2.length c0_2, .slice (some ad45) l0_3.length c0_3] 30 (0, 0)) (by (with_reducible repeat (first | refine kn_ ?_ _ | refine kd_ ?_ | refine ka_ ?_ _)); exact BK1.out) k_ hk, Kd.freshB (g := gb46) (o := .cells #[.string ((rd_T27 l0_3 x57_2).f0), .string ((rd_T27 l0_3 x57_2).f1), .bool ((rd_T27 l0_3 x57_2).f2)] 27 (0, 0)) (by (with_reducible repeat (first | refine kn_ ?_ _ | refine kd_ ?_ | refine ka_ ?_ _)); exact BK46.out) k_ hk⟩) _ (Nat.le_refl _)) (Below.refl _ _) (Nat.le_refl _) (by simp) ?_; (case hd => rfl); (case hg => rfl); (case hr => first | (go_simp; done) | (go_simp; rfl)); (case hp => exact (Reps.one (show Kd.FK (Kd.slice 5 (Kd.int .u8)) _ _ x3_2 [.slice Ao71 x3_2.length co71] from (Kd.FK_slice_mk (Kd.R_reads' (Kd.R_mono (ok' := (fun k_ => k_ ≠ gb1 ∧ k_ ≠ gb46)) (Kd.R_types (Kd.R_types (HO_3.out) BK1.out (by decide)) BK46.out (by decide)) (fun k_ hk => ⟨hk.1.2, hk.2⟩))).2.1 (Kd.R_F (Kd.R_mono (ok' := (fun k_ => k_ ≠ gb1 ∧ k_ ≠ gb46)) (Kd.R_types (Kd.R_types (HO_3.out) BK1.out (by decide)) BK46.out (by decide)) (fun k_ hk => ⟨hk.1.2, hk.2⟩))))) (Reps.one (show Kd.FK (Kd.slice 5 (Kd.int .u8)) _ _ t47 [.slice Ao72 t47.length co72] from (Kd.FK_slice_mk (Kd.R_reads' (Kd.R_mono (ok' := (fun k_ => k_ ≠ gb1 ∧ k_ ≠ gb46)) (Kd.R_types (Kd.R_types (HO49.out) BK1.out (by decide)) BK46.out (by decide)) (fun k_ hk => ⟨hk.1.2, hk.2⟩))).2.1 (Kd.R_F (Kd.R_mono (ok' := (fun k_ => k_ ≠ gb1 ∧ k_ ≠ gb46)) (Kd.R_types (Kd.R_types (HO49.out) BK1.out (by decide)) BK46.out (by decide)) (fun k_ hk => ⟨hk.1.2, hk.2⟩))))) (Reps.one (show Kd.FK (Kd.slice 5 (Kd.int .u8)) _ _ t50 [.slice Ao73 t50.length co73] from (Kd.FK_slice_mk (Kd.R_reads' (Kd.R_mono (ok' := (fun k_ => k_ ≠ gb1 ∧ k_ ≠ gb46)) (Kd.R_types (Kd.R_types (HO52.out) BK1.out (by decide)) BK46.out (by decide)) (fun k_ hk => ⟨hk.1.2, hk.2⟩))).2.1 (Kd.R_F (Kd.R_mono (ok' := (fun k_ => k_ ≠ gb1 ∧ k_ ≠ gb46)) (Kd.R_types (Kd.R_types (HO52.out) BK1.out (by decide)) BK46.out (by decide)) (fun k_ hk => ⟨hk.1.2, hk.2⟩))))) (Reps.none _ _)))))
            intro v54 w74 ho75 hb hg_ hnew_
            clear hg_ hnew_
            (first | rw [← Ny53.out] at ho75 | (simp only [Int.reduceToNat] at ho75; rw [← Ny53.out] at ho75))
            have n0_ := Aside0.mk (Kd.N_lower ho75 (below_size (by repeat (with_reducible first | exact HB.out | apply ba_ | apply bn_ | apply bd_ | refine bs_ ?_ GE1.out | refine bs_ ?_ GE46.out))))
            have n1_ := Aside0.mk (blk_below (g := gb1) (o := .cells #[.int .i64 a0_0, .int .i64 a0_1, .slice A0_2 l0_2.length c0_2, .slice (some ad45) l0_3.length c0_3] 30 (0, 0)) (by (with_reducible repeat (first | refine kn_ ?_ _ | refine kd_ ?_ | refine ka_ ?_ _)); exact BK1.out) hb)
            have n2_ := Aside0.mk (blk_below (g := gb46) (o := .cells #[.string ((rd_T27 l0_3 x57_2).f0), .string ((rd_T27 l0_3 x57_2).f1), .bool ((rd_T27 l0_3 x57_2).f2)] 27 (0, 0)) (by (with_reducible repeat (first | refine kn_ ?_ _ | refine kd_ ?_ | refine ka_ ?_ _)); exact BK46.out) hb)
            have n3_ := Aside0.mk (below_step (by repeat (with_reducible first | exact HB.out | apply ba_ | apply bn_ | apply bd_ | refine bs_ ?_ GE1.out | refine bs_ ?_ GE46.out)) hb)
            clear BK1
            clear BK46
            clear HB
            clear HO49
            clear HO52
            clear HO_3
            have HO55 := n0_
            have BK1 := n1_
            have BK46 := n2_
            have HB := n3_
            clear n0_ n1_ n2_ n3_
            clear hb ho75
            obtain ⟨Ao76, co76, eo76⟩ := Kd.N_slice HO55.out
            (first | subst eo76 | (injection eo76 with f1_ f2_ f3_; have f4_ := f1_.symm; have f5_ := f3_.symm; clear f1_ f2_ f3_; subst f4_; subst f5_))
            refine hK.out _ _ ⟨(blk_cell BK46.out 0).trans rfl, (blk_cell BK46.out 1).trans rfl, (blk_cell BK46.out 2).trans rfl⟩ (fun hHeld => ?_)
            clear hK K
            refine norm_ (a' := ?_) ?_ ?_
            rotate_left
            ·show Act.put _ (some 68) _ = _
             simp only [Act.put, List.setIfInBounds_toArray, List.set_cons_zero, List.set_cons_succ, i64_w, i32_w]
             rfl
            refine one_ (i := 8) (N := some 69) #[true, true, true, true, true, true, true, true, true, true, true, false, false, false, false] rfl rfl (one_of HT_.out (by kernel_rfl)) (by decide) (fun K hK => ?_)
            refine goesV_ Try.func72 (by kernel_rfl) rfl #[.slice Ao76 y53.length co76] (by rfl) rfl rfl (by (try simp only [List.map_toArray, List.map_cons, List.map_nil]); first | done | rfl | (simp only [List.length_drop, List.length_take]; rfl)) ?_
            with_reducible refine (slices_Concat_Lbyte_byte.calls k2 _ _ y53 t56 _ ?side1 ?side2 A61.out).mono ?_
            (case side1 => repeat (first | exact (Kd.N_reads' HO55.out).2.2 | (with_reducible refine ca_ ?_ _) | (with_reducible refine cn_ ?_ _) | (with_reducible refine cd_ ?_)))
            (case side2 => exact (Kd.N_reads' HO55.out).2.1)
            rintro e w77 ⟨v57, rfl, ho0, hb⟩
            refine ⟨_, rfl, ?_⟩
            have n0_ := Aside0.mk (Kd.N_elder' (by (with_reducible repeat (first | apply Kd.N_alloc | apply Kd.N_drewN | apply Kd.N_drew)); exact HO55.out) (Kd.R_base ho0) hb)
            have n1_ := Aside0.mk (Kd.R_lower ho0 (below_size (by repeat (with_reducible first | exact HB.out | apply ba_ | apply bn_ | apply bd_ | refine bs_ ?_ GE1.out | refine bs_ ?_ GE46.out))))
            have n2_ := Aside0.mk (blk_below (g := gb1) (o := .cells #[.int .i64 a0_0, .int .i64 a0_1, .slice A0_2 l0_2.length c0_2, .slice (some ad45) l0_3.length c0_3] 30 (0, 0)) (by (with_reducible repeat (first | refine kn_ ?_ _ | refine kd_ ?_ | refine ka_ ?_ _)); exact BK1.out) hb)
            have n3_ := Aside0.mk (blk_below (g := gb46) (o := .cells #[.string ((rd_T27 l0_3 x57_2).f0), .string ((rd_T27 l0_3 x57_2).f1), .bool ((rd_T27 l0_3 x57_2).f2)] 27 (0, 0)) (by (with_reducible repeat (first | refine kn_ ?_ _ | refine kd_ ?_ | refine ka_ ?_ _)); exact BK46.out) hb)
            have n4_ := Aside0.mk (below_step (by repeat (with_reducible first | exact HB.out | apply ba_ | apply bn_ | apply bd_ | refine bs_ ?_ GE1.out | refine bs_ ?_ GE46.out)) hb)
            clear HO55
            clear BK1
            clear BK46
            clear HB
            have HO55 := n0_
            have HO58 := n1_
            have BK1 := n2_
            have BK46 := n3_
            have HB := n4_
            clear n0_ n1_ n2_ n3_ n4_
            clear hb ho0
            refine hK.out _ _ ⟨(blk_cell BK46.out 0).trans rfl, (blk_cell BK46.out 1).trans rfl, (blk_cell BK46.out 2).trans rfl⟩ (fun hHeld => ?_)
            clear hK K
            refine norm_ (a' := ?_) ?_ ?_
            rotate_left
            ·show Act.put _ (some 69) _ = _
             simp only [Act.put, List.setIfInBounds_toArray, List.set_cons_zero, List.set_cons_succ, i64_w, i32_w]
             rfl
            refine one_ (i := 11) (N := some 72) #[true, true, true, true, true, true, true, true, true, true, true, true, false, false, false] rfl rfl (one_of HT_.out (by kernel_rfl)) (by decide) (fun K hK => ?_)
            refine goesV_ Try.func75 (by kernel_rfl) rfl #[.bool ((rd_T27 l0_3 x57_2).f2)] (by rfl) rfl rfl (by (try simp only [List.map_toArray, List.map_cons, List.map_nil]); first | done | rfl | (simp only [List.length_drop, List.length_take]; rfl)) ?_
            with_reducible refine (txn_flag.calls ((rd_T27 l0_3 x57_2).f2) t59 _ A62.out).mono ?_
            rintro e w' ⟨rfl, ⟨nd, rfl⟩⟩
            refine ⟨_, rfl, ?_⟩
            refine hK.out _ _ ⟨(blk_cell BK46.out 0).trans rfl, (blk_cell BK46.out 1).trans rfl, (blk_cell BK46.out 2).trans rfl⟩ (fun hHeld => ?_)
            clear hK K
            refine norm_ (a' := ?_) ?_ ?_
            rotate_left
            ·show Act.put _ (some 72) _ = _
             simp only [Act.put, List.setIfInBounds_toArray, List.set_cons_zero, List.set_cons_succ, i64_w, i32_w]
             rfl
            refine one_ (i := 12) (N := some 73) #[true, true, true, true, true, true, true, true, true, true, true, true, true, false, false] rfl rfl (one_of HT_.out (by kernel_rfl)) (by decide) (fun K hK => ?_)
            refine value_ (w1 := ?_) (v := ?_) (by rfl) rfl ?_ ?_
            rotate_left 2
            ·go_simp
             constructor
             ·rfl
             ·rfl
            refine hK.out _ _ ⟨(blk_cell (blk_alloc BK46.out _) 0).trans rfl, (blk_cell (blk_alloc BK46.out _) 1).trans rfl, (blk_cell (blk_alloc BK46.out _) 2).trans rfl⟩ (fun hHeld => ?_)
            clear hK K
            refine norm_ (a' := ?_) ?_ ?_
            rotate_left
            ·show Act.put _ (some 73) _ = _
             simp only [Act.put, List.setIfInBounds_toArray, List.set_cons_zero, List.set_cons_succ, i64_w, i32_w]
             rfl
            refine one_ (i := 13) (N := some 74) #[true, true, true, true, true, true, true, true, true, true, true, true, true, true, false] rfl rfl (one_of HT_.out (by kernel_rfl)) (by decide) (fun K hK => ?_)
            refine Kd.R_append_step (Kd.int .u8) (w0 := w) w.heap.size (by rfl) (.tmp 69) (.tmp 73) 33 5 (.int .u8 0) 1 rfl Try.underlying33 info5 rfl (by decide) (by omega) v57 t56 t59 [.int .u8 t59] (fun _ => True) (fun _ => False) rfl rfl ?aP (fun _ hk => hk.elim) ?aF ?aO ?aB ?aS ?aL ?_
            (case aP => exact rfl)
            (case aB => exact (by repeat (with_reducible first | exact HB.out | apply ba_ | apply bn_ | apply bd_ | refine bs_ ?_ GE1.out | refine bs_ ?_ GE46.out)))
            (case aF => exact (fun _ _ => trivial))
            (case aO => exact (by (with_reducible repeat (first | apply ra_ | apply rn_ | apply rd_)); exact HO58.out))
            (case aS => exact (below_size (by repeat (with_reducible first | exact HB.out | apply ba_ | apply bn_ | apply bd_ | refine bs_ ?_ GE1.out | refine bs_ ?_ GE46.out))))
            (case aL => have := LMc63.out; omega)
            intro v61 w78 ho hb hg hat
            rw [← Ny60.out] at ho
            have n0_ := Aside0.mk (blk_grown (g := gb1) (o := .cells #[.int .i64 a0_0, .int .i64 a0_1, .slice A0_2 l0_2.length c0_2, .slice (some ad45) l0_3.length c0_3] 30 (0, 0)) (by (with_reducible repeat (first | refine kn_ ?_ _ | refine kd_ ?_ | refine ka_ ?_ _)); exact BK1.out) hg (Kd.R_ne HO58.out BK1.out (by decide)))
            have n1_ := Aside0.mk (blk_grown (g := gb46) (o := .cells #[.string ((rd_T27 l0_3 x57_2).f0), .string ((rd_T27 l0_3 x57_2).f1), .bool ((rd_T27 l0_3 x57_2).f2)] 27 (0, 0)) (by (with_reducible repeat (first | refine kn_ ?_ _ | refine kd_ ?_ | refine ka_ ?_ _)); exact BK46.out) hg (Kd.R_ne HO58.out BK46.out (by decide)))
            have n2_ := Aside0.mk (Kd.N_afterv (ok := (fun k_ => k_ ≠ gb1 ∧ k_ ≠ gb46)) (by (with_reducible repeat (first | apply Kd.N_alloc | apply Kd.N_drewN | apply Kd.N_drew)); exact HO55.out) hg hat)
            have n3_ := Aside0.mk (hb)
            have n4_ := Aside0.mk (ho)
            clear BK1
            clear BK46
            clear HO55
            clear HB
            clear HO58
            have BK1 := n0_
            have BK46 := n1_
            have HO55 := n2_
            have HB := n3_
            have HO62 := n4_
            clear n0_ n1_ n2_ n3_ n4_
            clear ho hb hg hat
            refine hK.out _ _ ⟨(blk_cell BK46.out 0).trans rfl, (blk_cell BK46.out 1).trans rfl, (blk_cell BK46.out 2).trans rfl⟩ (fun hHeld => ?_)
            clear hK K
            refine norm_ (a' := ?_) ?_ ?_
            rotate_left
            ·show Act.put _ (some 74) _ = _
             simp only [Act.put, List.setIfInBounds_toArray, List.set_cons_zero, List.set_cons_succ, i64_w, i32_w]
             rfl
            refine pure_ (i := 14) (N := some 3) (v := ?_) (a' := ?_) #[true, true, true, true, true, true, true, true, true, true, true, true, true, true, true] rfl rfl (any_of HT_.out (by kernel_rfl)) (fun _ _ _ h => h) (Or.inl ⟨by rfl, ?_⟩) ?_ ?_
            rotate_left
            ·intro w'
             go_simp
             with_reducible rfl
            rotate_left
            ·simp only [Act.put, List.setIfInBounds_toArray, List.set_cons_zero, List.set_cons_succ, i64_w, i32_w]
             rfl
            refine done_ (done_of HT_.out (by kernel_rfl)) ?_
            try go_wp2
            go_roundg k2
            case measure => have := HK1.out; have := HK2.out; omega
            case rel => exact ⟨(y60), (wrap64 (x57_2 + 1)), (by first | rfl | (simp; done) | (simp [*]; done)), H', ⟨by have := HK1.out; have := HK2.out; omega⟩, ⟨by (with_reducible repeat (first | apply ra_ | apply rn_ | apply rd_)); exact HO62.out⟩, ⟨by (with_reducible repeat (first | refine kn_ ?_ _ | refine kd_ ?_ | refine ka_ ?_ _)); exact BK1.out⟩, ⟨by repeat (with_reducible first | exact HB.out | apply ba_ | apply bn_ | apply bd_ | refine bs_ ?_ GE1.out | refine bs_ ?_ GE46.out)⟩⟩
           ·rw [if_neg c63] at H
            exact absurd H (by simp)
          ·rw [if_neg c58] at H
           exact absurd H (by simp)
         ·rw [if_neg c57] at H
          exact absurd H (by simp)
        ·rw [if_neg c56] at H
         have c56b0 : decide (x57_2 < (l0_3.length : Int)) = false := decide_eq_false c56
         clear c56
         obtain rfl := Option.some.inj H
         go_wp2
         go_ret
         exact ⟨_, by first | rfl | (simp [errW_none, errW_some] <;> rfl) | (simp [*, errW_none, errW_some] <;> rfl), by (with_reducible repeat (first | apply ra_ | apply rn_ | apply rd_)); exact HO_3.out, by repeat (with_reducible first | exact HB.out | apply ba_ | apply bn_ | apply bd_ | refine bs_ ?_ GE1.out)⟩
     ·rw [if_neg c50] at H
      exact absurd H (by simp)
 ·replace c3 := Bool.eq_false_iff.mpr c3
  subst c3
  have H1 : (some ([] : List Int)) = some r := by rw [if_neg (show ¬ (false = true) by decide)] at H; exact H
  clear H
  have H := H1
  clear H1
  obtain rfl := Option.some.inj H
  go_enter Try.func19, Try.ntmps19
  go_wp2_with (first | ((with_reducible refine gate_dst (N := 1) rfl ?_); refine box_event ?hg (N := 1) ?hd (cs := #[.int .i64 a0_0, .int .i64 a0_1, .slice A0_2 l0_2.length c0_2, .slice A0_3 l0_3.length c0_3]) (t := 30) ?hr ?_; (case hd => rfl); (case hg => rfl); (case hr => first | (go_simp; done) | (go_simp; rfl)); intro gb1 hg w79 hbox hb; have n0_ := Aside0.mk (below_step (by repeat (with_reducible first | exact HB.out | apply ba_ | apply bn_ | apply bd_)) hb); have n1_ := Aside0.mk (hbox); have n2_ := Aside0.mk ((by rw [hg]; exact (below_size (by repeat (with_reducible first | exact HB.out | apply ba_ | apply bn_ | apply bd_))) : w.heap.size ≤ gb1)); have n3_ := Aside0.mk ((by rw [hg]; exact (below_size (by repeat (with_reducible first | exact HB.out | apply ba_ | apply bn_ | apply bd_))) : w.heap.size ≤ gb1)); clear HB; have HB := n0_; have BK1 := n1_; have GW1 := n2_; have GE1 := n3_; clear n0_ n1_ n2_ n3_; clear hb hbox hg; have hcz80_0 : w79.cell? ⟨gb1, 0, none⟩ = some (.int .i64 a0_0) := (blk_cell BK1.out 0).trans rfl; have hcz80_1 : w79.cell? ⟨gb1, 1, none⟩ = some (.int .i64 a0_1) := (blk_cell BK1.out 1).trans rfl; have hcz80_2 : w79.cell? ⟨gb1, 2, none⟩ = some (.slice A0_2 l0_2.length c0_2) := (blk_cell BK1.out 2).trans rfl; have hcz80_3 : w79.cell? ⟨gb1, 3, none⟩ = some (.slice A0_3 l0_3.length c0_3) := (blk_cell BK1.out 3).trans rfl; have hfz80_0 := blk_frozen BK1.out 0; have hfz80_1 := blk_frozen BK1.out 1; have hfz80_2 := blk_frozen BK1.out 2; have hfz80_3 := blk_frozen BK1.out 3) | ((with_reducible refine gate_callee (f := 18) rfl ?_); refine goesM_ (some 9) Try.func18 #[.agg #[.int .i64 a0_0, .int .i64 a0_1, .slice A0_2 l0_2.length c0_2, .slice A0_3 l0_3.length c0_3]] ?_; (with_reducible refine (txn_May.calls k a0_0 a0_1 _ _ l0_2 _ _ l0_3 false _ ?side1 ?side2 ?side3 ?side4 A2.out).mono ?_); (case side1 => repeat (first | exact (Kd.C_below HR0_2.out HB.out) | (with_reducible refine ca_ ?_ _) | (with_reducible refine cn_ ?_ _) | (with_reducible refine cd_ ?_))); (case side2 => exact HC0_2.out); (case side3 => repeat (first | exact (Kd.C_below HR0_3.out HB.out) | (with_reducible refine ca_ ?_ _) | (with_reducible refine cn_ ?_ _) | (with_reducible refine cd_ ?_))); (case side4 => exact HC0_3.out); rintro e w81 ⟨rfl, hb⟩; refine ⟨_, rfl, ?_⟩; have n0_ := Aside0.mk (blk_below (g := gb1) (o := .cells #[.int .i64 a0_0, .int .i64 a0_1, .slice A0_2 l0_2.length c0_2, .slice A0_3 l0_3.length c0_3] 30 (0, 0)) (by (with_reducible repeat (first | refine kn_ ?_ _ | refine kd_ ?_ | refine ka_ ?_ _)); exact BK1.out) hb); have n1_ := Aside0.mk (below_step (by repeat (with_reducible first | exact HB.out | apply ba_ | apply bn_ | apply bd_ | refine bs_ ?_ GE1.out)) hb); clear BK1; clear HB; have BK1 := n0_; have HB := n1_; clear n0_ n1_; clear hb))
  go_ret
  exact ⟨_, by first | rfl | (simp [errW_none, errW_some] <;> rfl) | (simp [*, errW_none, errW_some] <;> rfl), by first | exact Kd.R_nil _ _ _ _ _ | exact Kd.N_nil _ _ _ _ _ | exact Kd.V_nil _ _ _ _ _ | exact Kd.Q_nil _ _ _ _ _ | exact Kd.S_nil _ _ _ _ _, by repeat (with_reducible first | exact HB.out | apply ba_ | apply bn_ | apply bd_ | refine bs_ ?_ GE1.out)⟩
def num_result.f (a0 : Int) (a1 : Int) (a2 : Bool) : Option (Int × Int × Bool) := if a2 = true then (some (a0, a1, true)) else (some (0, 0, false))
set_option maxHeartbeats 8000000 in
set_option maxRecDepth 100000 in
theorem num_result.calls (a0 : Int) (a1 : Int) (a2 : Bool) (r1 : Int) (r2 : Int) (r3 : Bool) (w : World) (h : num_result.f a0 a1 a2 = some (r1, r2, r3)) :
  Calls Try.prog 175 #[.int .i64 a0, .int .i64 a1, .bool a2] w fun e w' => e = .returned (.tuple #[.int .i64 r1, .int .i64 r2, .bool r3]) ∧ Drawn0 w w' := by
 have H : (if a2 = true then (some (a0, a1, true)) else (some (0, 0, false))) = some (r1, r2, r3) := h
 clear h
 by_cases c4 : a2 = true
 ·subst c4
  have H1 : (some (a0, a1, true)) = some (r1, r2, r3) := by rw [if_pos rfl] at H; exact H
  clear H
  have H := H1
  clear H1
  simp only [Option.some.injEq, Prod.mk.injEq] at H
  obtain ⟨rfl, rfl, rfl⟩ := H
  go_enter Try.func175, Try.ntmps175
  go_wp2
  go_ret3
  exact ⟨by first | rfl | (simp; done) | (simp [*]; done), by repeat (first | exact Drawn0.refl _ | apply Drawn0.step)⟩
 ·replace c4 := Bool.eq_false_iff.mpr c4
  subst c4
  have H1 : (some (0, 0, false)) = some (r1, r2, r3) := by rw [if_neg (show ¬ (false = true) by decide)] at H; exact H
  clear H
  have H := H1
  clear H1
  simp only [Option.some.injEq, Prod.mk.injEq] at H
  obtain ⟨rfl, rfl, rfl⟩ := H
  go_enter Try.func175, Try.ntmps175
  go_wp2
  go_ret3
  exact ⟨by first | rfl | (simp; done) | (simp [*]; done), by repeat (first | exact Drawn0.refl _ | apply Drawn0.step)⟩
def num_Take.l0 : Nat → Int → List Int → Int → Int → Option (Int × Int × Bool)
 | 0, _, _, _, _ => none
 | k + 1, x2, x11, x12, x13 => if x13 < x12 then (if 0 ≤ x13 then (if x13 < (x11.length : Int) then (if 0 ≤ (wrap64 (7 * x13)) then (if (Go.bits .and .u8 (rd x11 x13) 128) = 0 then (if x13 = 0 then ((num_result.f (Go.bits .or .i64 x2 (shl .i64 (wrap64 (Go.bits .and .u8 (rd x11 x13) 127)) (wrap64 (7 * x13)))) (wrap64 (x13 + 1)) true).bind fun bt6 => (some (bt6.1, bt6.2.1, bt6.2.2))) else ((num_result.f (Go.bits .or .i64 x2 (shl .i64 (wrap64 (Go.bits .and .u8 (rd x11 x13) 127)) (wrap64 (7 * x13)))) (wrap64 (x13 + 1)) (decide ((rd x11 x13) > 0))).bind fun bt9 => (some (bt9.1, bt9.2.1, bt9.2.2)))) else (num_Take.l0 k (Go.bits .or .i64 x2 (shl .i64 (wrap64 (Go.bits .and .u8 (rd x11 x13) 127)) (wrap64 (7 * x13)))) x11 x12 (wrap64 (x13 + 1)))) else (none)) else (none)) else (none)) else (some (0, 0, false))
def num_Take.f (k : Nat) (l0 : List Int) : Option (Int × Int × Bool) := if 0 ≤ (mn (l0.length : Int) 9) then (if (mn (l0.length : Int) 9) ≤ (l0.length : Int) then ((some (l0.take ((mn (l0.length : Int) 9) : Int).toNat : List Int)).bind fun y1 => (num_Take.l0 k 0 y1 (y1.length : Int) 0)) else (none)) else (none)
theorem num_Take.mono_l : ∀ k, (∀ y0 y1 y2 y3, LeO (num_Take.l0 k y0 y1 y2 y3) (num_Take.l0 (k + 1) y0 y1 y2 y3))
 | 0 => fun _ _ _ _ r h => by simp [num_Take.l0] at h
 | k + 1 => by
  have ih0 := num_Take.mono_l k
  ·intro y0 y1 y2 y3
   unfold num_Take.l0
   repeat' first
   | (with_reducible exact ih0 _ _ _ _)
   | (with_reducible exact LeO.refl _)
   | (with_reducible exact LeO.none _)
   | (with_reducible refine LeO.ite ?_ ?_)
   | (with_reducible refine LeO.bind ?_ (fun _ => ?_))
theorem num_Take.mono : ∀ a0 k, LeO (num_Take.f k a0) (num_Take.f (k + 1) a0) := by
 intro a0 k
 have ih0 := num_Take.mono_l k
 unfold num_Take.f
 repeat' first
   | (with_reducible exact ih0 _ _ _ _)
   | (with_reducible exact LeO.refl _)
   | (with_reducible exact LeO.none _)
   | (with_reducible refine LeO.ite ?_ ?_)
   | (with_reducible refine LeO.bind ?_ (fun _ => ?_))
set_option maxHeartbeats 8000000 in
set_option maxRecDepth 100000 in
theorem num_Take.calls (k : Nat) (A0 : Option Addr) (c0 : Nat) (l0 : List Int) (r1 : Int) (r2 : Int) (r3 : Bool) (w : World) (hr0 : Kd.C (Kd.int .u8) w A0 l0.length l0) (hc0 : l0.length ≤ c0) (h : num_Take.f k l0 = some (r1, r2, r3)) :
  Calls Try.prog 154 #[.slice A0 l0.length c0] w fun e w' => e = .returned (.tuple #[.int .i64 r1, .int .i64 r2, .bool r3]) ∧ Below w.heap.size w w' := by
 have HR0 := Aside0.mk hr0
 have HC0 := Aside0.mk hc0
 clear hr0 hc0
 have HB := Aside0.mk (Below.refl w.heap.size w)
 have H : (if 0 ≤ (mn (l0.length : Int) 9) then (if (mn (l0.length : Int) 9) ≤ (l0.length : Int) then ((some (l0.take ((mn (l0.length : Int) 9) : Int).toNat : List Int)).bind fun y1 => (num_Take.l0 k 0 y1 (y1.length : Int) 0)) else (none)) else (none)) = some (r1, r2, r3) := h
 clear h
 obtain ⟨ji2, hji2⟩ : ∃ j_ : Int, (mn (l0.length : Int) 9) = j_ := ⟨_, rfl⟩
 replace H : (if 0 ≤ (ji2) then (if (ji2) ≤ (l0.length : Int) then ((some (l0.take ((ji2) : Int).toNat : List Int)).bind fun y1 => (num_Take.l0 k 0 y1 (y1.length : Int) 0)) else (none)) else (none)) = some (r1, r2, r3) := by first | (rw [hji2] at H; exact H) | (simp only [hji2] at H ⊢; exact H)
 (try (have hji2h : ji2 ≤ 9 := by (rw [← hji2]; unfold mn; (repeat' split) <;> omega)))
 (try (have hji2g : ji2 ≤ 64 := by omega))
 (try (have hji2l : 0 ≤ ji2 := by (rw [← hji2]; unfold mn; (repeat' split) <;> omega)))
 (try (have hji2m : 0 ≤ ji2 := by omega))
 have hji2_ : (if 9 < (l0.length : Int) then 9 else (l0.length : Int)) = ji2 := hji2
 by_cases c3 : 0 ≤ (ji2)
 ·rw [if_pos c3] at H
  have c3b0 := eq_true c3
  have c3b1 : decide (0 ≤ (ji2)) = true := decide_eq_true c3
  clear c3
  by_cases c4 : (ji2) ≤ (l0.length : Int)
  ·rw [if_pos c4] at H
   have c4b0 := eq_true c4
   have c4b1 : decide ((ji2) ≤ (l0.length : Int)) = true := decide_eq_true c4
   clear c4
   obtain ⟨y1, hy1⟩ : ∃ y_ : List Int, y_ = (l0.take ((ji2) : Int).toNat) := ⟨_, rfl⟩
   replace H : (num_Take.l0 k 0 y1 (y1.length : Int) 0) = some (r1, r2, r3) := by first | (rw [hy1]; with_reducible exact H) | (have H2_ := (Option.bind_some _ _).symm.trans H; rw [hy1]; with_reducible exact H2_) | (have H2_ := (Option.bind_some _ _).symm.trans H; with_reducible exact H2_) | with_reducible exact H | (rw [hy1]; exact H) | exact H
   have Ny1 := Aside0.mk hy1
   clear hy1
   have H' := Aside0.mk H
   clear H
   have q5 : ((ji2) : Int) ≤ ((l0.length : Int) : Int) := of_decide_eq_true (by first | (with_reducible assumption) | assumption)
   obtain ⟨i05, hi05, _, hsz5, _⟩ := info_parts info5
   have hroom5 : l0.length ≤ c0 := HC0.out
   have hC5 : Kd.C (Kd.int .u8) _ A0 l0.length l0 := HR0.out
   have hcut5 := cut_to (P := Try.prog) 33 5 .i64 Try.underlying33 hi05 A0 l0.length c0 (ji2) (of_decide_eq_true (by first | (with_reducible assumption) | assumption)) q5 hroom5
   have hr5 := Kd.C_take (m := ((ji2) : Int).toNat) hC5 (by omega)
   have hy5 : y1.length = ((ji2) : Int).toNat := (by rw [Ny1.out, List.length_take]; omega)
   rw [← Ny1.out] at hr5
   rw [← hy5] at hcut5
   have HR4 := Aside0.mk hr5
   have HC4 := Aside0.mk (show y1.length ≤ c0 from by omega)
   clear hr5 hC5 hroom5 hi05 hsz5
   have KY5 := Aside0.mk hy5
   clear hy5
   replace q5 := eq_true q5
   go_enter Try.func154, Try.ntmps154
   go_wp2
   go_loopg [2, 13] k (fun kq v2 v13 w' => ∃ (x2_1 : Int) (x13_1 : Int), v2 = .int .i64 x2_1 ∧ v13 = .int .i64 x13_1 ∧ Aside0 (num_Take.l0 kq x2_1 y1 (y1.length : Int) x13_1 = some (r1, r2, r3)) ∧ Aside0 (kq ≤ k) ∧ Aside0 (Below w.heap.size w w'))
   case atStart => exact ⟨(0), (0), (by first | rfl | (simp; done) | (simp [*]; done)), (by first | rfl | (simp; done) | (simp [*]; done)), H', ⟨Nat.le_refl _⟩, ⟨by repeat (with_reducible first | exact HB.out | apply ba_ | apply bn_ | apply bd_)⟩⟩
   case round =>
    clear H'
    try clear c1
    try clear p2
    try clear c3
    try clear c3b0
    try clear c3b1
    try clear c4
    try clear c4b0
    try clear c4b1
    try clear q5
    try clear q5
    obtain ⟨x2_1, x13_1, rfl, rfl, HA, HK1, HB⟩ := hrel
    cases gk with
    | zero => exact absurd HA.out (by simp [num_Take.l0])
    | succ k1 =>
     have H := HA.out
     clear HA
     simp only [num_Take.l0] at H
     by_cases c6 : x13_1 < (y1.length : Int)
     ·rw [if_pos c6] at H
      have c6b0 : decide (x13_1 < (y1.length : Int)) = true := decide_eq_true c6
      clear c6
      by_cases c7 : 0 ≤ x13_1
      ·rw [if_pos c7] at H
       have c7b0 : decide (0 ≤ x13_1) = true := decide_eq_true c7
       clear c7
       by_cases c8 : x13_1 < (y1.length : Int)
       ·rw [if_pos c8] at H
        have c8b0 : decide (x13_1 < (y1.length : Int)) = true := decide_eq_true c8
        clear c8
        obtain ⟨ji9, hji9⟩ : ∃ j_ : Int, (wrap64 (7 * x13_1)) = j_ := ⟨_, rfl⟩
        replace H : (if 0 ≤ (ji9) then (if (Go.bits .and .u8 (rd y1 x13_1) 128) = 0 then (if x13_1 = 0 then ((num_result.f (Go.bits .or .i64 x2_1 (shl .i64 (wrap64 (Go.bits .and .u8 (rd y1 x13_1) 127)) (ji9))) (wrap64 (x13_1 + 1)) true).bind fun bt6 => (some (bt6.1, bt6.2.1, bt6.2.2))) else ((num_result.f (Go.bits .or .i64 x2_1 (shl .i64 (wrap64 (Go.bits .and .u8 (rd y1 x13_1) 127)) (ji9))) (wrap64 (x13_1 + 1)) (decide ((rd y1 x13_1) > 0))).bind fun bt9 => (some (bt9.1, bt9.2.1, bt9.2.2)))) else (num_Take.l0 k1 (Go.bits .or .i64 x2_1 (shl .i64 (wrap64 (Go.bits .and .u8 (rd y1 x13_1) 127)) (ji9))) y1 (y1.length : Int) (wrap64 (x13_1 + 1)))) else (none)) = some (r1, r2, r3) := by first | (rw [hji9] at H; exact H) | (simp only [hji9] at H ⊢; exact H)
        have hji9w : (IntKind.i64.wrap (7 * x13_1)) = ji9 := (i64_w _).trans hji9
        by_cases c10 : 0 ≤ (ji9)
        ·rw [if_pos c10] at H
         have c10b0 := eq_true c10
         have c10b1 : decide (0 ≤ (ji9)) = true := decide_eq_true c10
         clear c10
         obtain ⟨ji11, hji11⟩ : ∃ j_ : Int, (shl .i64 (wrap64 (Go.bits .and .u8 (rd y1 x13_1) 127)) (ji9)) = j_ := ⟨_, rfl⟩
         replace H : (if (Go.bits .and .u8 (rd y1 x13_1) 128) = 0 then (if x13_1 = 0 then ((num_result.f (Go.bits .or .i64 x2_1 (ji11)) (wrap64 (x13_1 + 1)) true).bind fun bt6 => (some (bt6.1, bt6.2.1, bt6.2.2))) else ((num_result.f (Go.bits .or .i64 x2_1 (ji11)) (wrap64 (x13_1 + 1)) (decide ((rd y1 x13_1) > 0))).bind fun bt9 => (some (bt9.1, bt9.2.1, bt9.2.2)))) else (num_Take.l0 k1 (Go.bits .or .i64 x2_1 (ji11)) y1 (y1.length : Int) (wrap64 (x13_1 + 1)))) = some (r1, r2, r3) := by first | (rw [hji11] at H; exact H) | (simp only [hji11] at H ⊢; exact H)
         have hji11_ : (IntKind.i64.wrap ((wrap64 (Go.bits .and .u8 (rd y1 x13_1) 127)) * 2 ^ min (ji9).toNat 64)) = ji11 := hji11
         have hji11z : (ji9) ≤ 64 → (IntKind.i64.wrap ((wrap64 (Go.bits .and .u8 (rd y1 x13_1) 127)) * 2 ^ (ji9).toNat)) = ji11 := shl_small hji11
         have hji11y : (wrap64 ((wrap64 (Go.bits .and .u8 (rd y1 x13_1) 127)) * 2 ^ min (ji9).toNat 64)) = ji11 := (i64_w _).symm.trans hji11_
         have hji11x : (ji9) ≤ 64 → (wrap64 ((wrap64 (Go.bits .and .u8 (rd y1 x13_1) 127)) * 2 ^ (ji9).toNat)) = ji11 := fun h_ => (i64_w _).symm.trans (hji11z h_)
         by_cases c12 : (Go.bits .and .u8 (rd y1 x13_1) 128) = 0
         ·rw [if_pos c12] at H
          have c12b0 : ((Go.bits .and .u8 (rd y1 x13_1) 128) == 0) = true := beq_iff_eq.mpr c12
          have c12b1 : ((Go.bits .and .u8 (rd y1 x13_1) 128) != 0) = false := bne_eq_false_iff_eq.mpr c12
          clear c12
          by_cases c13 : x13_1 = 0
          ·rw [if_pos c13] at H
           have c13b0 : (x13_1 == 0) = true := beq_iff_eq.mpr c13
           have c13b1 : (x13_1 != 0) = false := bne_eq_false_iff_eq.mpr c13
           clear c13
           replace H := Option.bind_eq_some_iff.mp H
           obtain ⟨⟨t6, t7, t8⟩, A140, H⟩ := H
           (try dsimp only at H)
           have A14 := Aside0.mk A140
           clear A140
           simp only [Option.some.injEq, Prod.mk.injEq] at H
           obtain ⟨rfl, rfl, rfl⟩ := H
           have p5 : 0 ≤ (x13_1 : Int) := of_decide_eq_true (by first | (with_reducible assumption) | assumption)
           have q5 : x13_1 < (y1.length : Int) := of_decide_eq_true (by first | (with_reducible assumption) | assumption)
           obtain ⟨ad5, e5, hx5_0⟩ := Kd.at_int HR4.out x13_1 p5 q5
           cases e5
           replace hx5_0 := (HB.out.cell (World.block_lt_of_cell? w _ hx5_0)).trans hx5_0
           replace p5 := eq_true p5
           replace q5 := eq_true q5
           go_wp2_with (first | ((with_reducible refine gate_callee (f := 175) rfl ?_); refine goesL_ (some 38) rfl rfl Try.func175 (by kernel_rfl) rfl #[.int .i64 (Go.bits .or .i64 x2_1 (ji11)), .int .i64 (wrap64 (x13_1 + 1)), .bool true] rfl (by (try simp only [List.map_toArray, List.map_cons, List.map_nil]); first | done | (simp only [hji11]; rfl) | rfl | (simp only [List.length_drop, List.length_take]; rfl)) ?_; (with_reducible refine (num_result.calls (Go.bits .or .i64 x2_1 (ji11)) (wrap64 (x13_1 + 1)) true t6 t7 t8 _ A14.out).mono ?_); rintro e w' ⟨rfl, ⟨nd, rfl⟩⟩; refine ⟨_, rfl, ?_⟩))
           go_ret3
           exact ⟨by first | rfl | (simp [errW_none, errW_some] <;> rfl) | (simp only [← hji2, ← hji9, ← hji11]; first | rfl | (simp [errW_none, errW_some] <;> rfl)) | (simp [*, errW_none, errW_some] <;> rfl), by repeat (with_reducible first | exact HB.out | apply ba_ | apply bn_ | apply bd_)⟩
          ·rw [if_neg c13] at H
           have c13b0 : (x13_1 == 0) = false := beq_eq_false_iff_ne.mpr c13
           have c13b1 : (x13_1 != 0) = true := bne_iff_ne.mpr c13
           replace H := Option.bind_eq_some_iff.mp H
           obtain ⟨⟨t9, t10, t11⟩, A150, H⟩ := H
           (try dsimp only at H)
           have A15 := Aside0.mk A150
           clear A150
           simp only [Option.some.injEq, Prod.mk.injEq] at H
           obtain ⟨rfl, rfl, rfl⟩ := H
           have p5 : 0 ≤ (x13_1 : Int) := of_decide_eq_true (by first | (with_reducible assumption) | assumption)
           have q5 : x13_1 < (y1.length : Int) := of_decide_eq_true (by first | (with_reducible assumption) | assumption)
           obtain ⟨ad5, e5, hx5_0⟩ := Kd.at_int HR4.out x13_1 p5 q5
           cases e5
           replace hx5_0 := (HB.out.cell (World.block_lt_of_cell? w _ hx5_0)).trans hx5_0
           replace p5 := eq_true p5
           replace q5 := eq_true q5
           go_wp2_with (first | ((with_reducible refine gate_callee (f := 175) rfl ?_); refine goesL_ (some 38) rfl rfl Try.func175 (by kernel_rfl) rfl #[.int .i64 (Go.bits .or .i64 x2_1 (ji11)), .int .i64 (wrap64 (x13_1 + 1)), .bool (decide ((rd y1 x13_1) > 0))] rfl (by (try simp only [List.map_toArray, List.map_cons, List.map_nil]); first | done | (simp only [hji11]; rfl) | rfl | (simp only [List.length_drop, List.length_take]; rfl)) ?_; (with_reducible refine (num_result.calls (Go.bits .or .i64 x2_1 (ji11)) (wrap64 (x13_1 + 1)) (decide ((rd y1 x13_1) > 0)) t9 t10 t11 _ A15.out).mono ?_); rintro e w' ⟨rfl, ⟨nd, rfl⟩⟩; refine ⟨_, rfl, ?_⟩))
           go_ret3
           exact ⟨by first | rfl | (simp [errW_none, errW_some] <;> rfl) | (simp only [← hji2, ← hji9, ← hji11]; first | rfl | (simp [errW_none, errW_some] <;> rfl)) | (simp [*, errW_none, errW_some] <;> rfl), by repeat (with_reducible first | exact HB.out | apply ba_ | apply bn_ | apply bd_)⟩
         ·rw [if_neg c12] at H
          have c12b0 : ((Go.bits .and .u8 (rd y1 x13_1) 128) == 0) = false := beq_eq_false_iff_ne.mpr c12
          have c12b1 : ((Go.bits .and .u8 (rd y1 x13_1) 128) != 0) = true := bne_iff_ne.mpr c12
          have H' := Aside0.mk H
          clear H
          have p5 : 0 ≤ (x13_1 : Int) := of_decide_eq_true (by first | (with_reducible assumption) | assumption)
          have q5 : x13_1 < (y1.length : Int) := of_decide_eq_true (by first | (with_reducible assumption) | assumption)
          obtain ⟨ad5, e5, hx5_0⟩ := Kd.at_int HR4.out x13_1 p5 q5
          cases e5
          replace hx5_0 := (HB.out.cell (World.block_lt_of_cell? w _ hx5_0)).trans hx5_0
          replace p5 := eq_true p5
          replace q5 := eq_true q5
          go_wp2
          go_roundg k1
          case measure => have := HK1.out; omega
          case rel => exact ⟨(Go.bits .or .i64 x2_1 (ji11)), (wrap64 (x13_1 + 1)), (by first | rfl | (simp; done) | (simp only [← hji11] <;> (first | rfl | simp)) | (simp [*]; done)), (by first | rfl | (simp; done) | (simp [*]; done)), H', ⟨by have := HK1.out; omega⟩, ⟨by repeat (with_reducible first | exact HB.out | apply ba_ | apply bn_ | apply bd_)⟩⟩
        ·rw [if_neg c10] at H
         exact absurd H (by simp)
       ·rw [if_neg c8] at H
        exact absurd H (by simp)
      ·rw [if_neg c7] at H
       exact absurd H (by simp)
     ·rw [if_neg c6] at H
      have c6b0 : decide (x13_1 < (y1.length : Int)) = false := decide_eq_false c6
      clear c6
      simp only [Option.some.injEq, Prod.mk.injEq] at H
      obtain ⟨rfl, rfl, rfl⟩ := H
      go_wp2
      go_ret3
      exact ⟨by first | rfl | (simp [errW_none, errW_some] <;> rfl) | (simp only [← hji2]; first | rfl | (simp [errW_none, errW_some] <;> rfl)) | (simp [*, errW_none, errW_some] <;> rfl), by repeat (with_reducible first | exact HB.out | apply ba_ | apply bn_ | apply bd_)⟩
  ·rw [if_neg c4] at H
   exact absurd H (by simp)
 ·rw [if_neg c3] at H
  exact absurd H (by simp)
def num_TakeText.f (k : Nat) (l0 : List Int) : Option (ByteArray × Int × Bool) := (num_Take.f k l0).bind fun bt1 => (if bt1.2.2 = true then (if bt1.1 > 255 then (some ((⟨#[]⟩ : ByteArray), 0, false)) else (if bt1.1 > (wrap64 ((l0.length : Int) - bt1.2.1)) then (some ((⟨#[]⟩ : ByteArray), 0, false)) else (if 0 ≤ bt1.2.1 then (if bt1.2.1 ≤ (wrap64 (bt1.2.1 + bt1.1)) then (if (wrap64 (bt1.2.1 + bt1.1)) ≤ (l0.length : Int) then (some (strOfNums ((l0.take ((wrap64 (bt1.2.1 + bt1.1)) : Int).toNat).drop (bt1.2.1 : Int).toNat), wrap64 (bt1.2.1 + bt1.1), true)) else (none)) else (none)) else (none)))) else (some ((⟨#[]⟩ : ByteArray), 0, false)))
theorem num_TakeText.mono : ∀ a0 k, LeO (num_TakeText.f k a0) (num_TakeText.f (k + 1) a0) := by
 intro a0 k
 unfold num_TakeText.f
 repeat' first
   | (with_reducible exact num_Take.mono _ _)
   | (with_reducible exact LeO.refl _)
   | (with_reducible exact LeO.none _)
   | (with_reducible refine LeO.ite ?_ ?_)
   | (with_reducible refine LeO.bind ?_ (fun _ => ?_))
set_option maxHeartbeats 8000000 in
set_option maxRecDepth 100000 in
theorem num_TakeText.calls (k : Nat) (A0 : Option Addr) (c0 : Nat) (l0 : List Int) (r1 : ByteArray) (r2 : Int) (r3 : Bool) (w : World) (hr0 : Kd.C (Kd.int .u8) w A0 l0.length l0) (hc0 : l0.length ≤ c0) (h : num_TakeText.f k l0 = some (r1, r2, r3)) :
  Calls Try.prog 156 #[.slice A0 l0.length c0] w fun e w' => e = .returned (.tuple #[.string r1, .int .i64 r2, .bool r3]) ∧ Below w.heap.size w w' := by
 have HR0 := Aside0.mk hr0
 have HC0 := Aside0.mk hc0
 clear hr0 hc0
 have HB := Aside0.mk (Below.refl w.heap.size w)
 have H : ((num_Take.f k l0).bind fun bt1 => (if bt1.2.2 = true then (if bt1.1 > 255 then (some ((⟨#[]⟩ : ByteArray), 0, false)) else (if bt1.1 > (wrap64 ((l0.length : Int) - bt1.2.1)) then (some ((⟨#[]⟩ : ByteArray), 0, false)) else (if 0 ≤ bt1.2.1 then (if bt1.2.1 ≤ (wrap64 (bt1.2.1 + bt1.1)) then (if (wrap64 (bt1.2.1 + bt1.1)) ≤ (l0.length : Int) then (some (strOfNums ((l0.take ((wrap64 (bt1.2.1 + bt1.1)) : Int).toNat).drop (bt1.2.1 : Int).toNat), wrap64 (bt1.2.1 + bt1.1), true)) else (none)) else (none)) else (none)))) else (some ((⟨#[]⟩ : ByteArray), 0, false)))) = some (r1, r2, r3) := h
 clear h
 replace H := Option.bind_eq_some_iff.mp H
 obtain ⟨⟨t1, t2, t3⟩, A20, H⟩ := H
 (try dsimp only at H)
 have A2 := Aside0.mk A20
 clear A20
 by_cases c3 : t3 = true
 ·subst c3
  have H1 : (if t1 > 255 then (some ((⟨#[]⟩ : ByteArray), 0, false)) else (if t1 > (wrap64 ((l0.length : Int) - t2)) then (some ((⟨#[]⟩ : ByteArray), 0, false)) else (if 0 ≤ t2 then (if t2 ≤ (wrap64 (t2 + t1)) then (if (wrap64 (t2 + t1)) ≤ (l0.length : Int) then (some (strOfNums ((l0.take ((wrap64 (t2 + t1)) : Int).toNat).drop (t2 : Int).toNat), wrap64 (t2 + t1), true)) else (none)) else (none)) else (none)))) = some (r1, r2, r3) := by rw [if_pos rfl] at H; exact H
  clear H
  have H := H1
  clear H1
  by_cases c4 : t1 > 255
  ·rw [if_pos c4] at H
   have c4b0 : decide (255 < t1) = true := decide_eq_true c4
   clear c4
   simp only [Option.some.injEq, Prod.mk.injEq] at H
   obtain ⟨rfl, rfl, rfl⟩ := H
   go_enter Try.func156, Try.ntmps156
   go_wp2_with (first | ((with_reducible refine gate_callee (f := 154) rfl ?_); refine goesM_ (some 8) Try.func154 #[.slice A0 l0.length c0] ?_; (with_reducible refine (num_Take.calls k _ _ l0 t1 t2 true _ ?side1 ?side2 A2.out).mono ?_); (case side1 => repeat (first | exact HR0.out | (with_reducible refine ca_ ?_ _) | (with_reducible refine cn_ ?_ _) | (with_reducible refine cd_ ?_))); (case side2 => exact HC0.out); rintro e w5 ⟨rfl, hb⟩; refine ⟨_, rfl, ?_⟩; have n0_ := Aside0.mk (below_step (by repeat (with_reducible first | exact HB.out | apply ba_ | apply bn_ | apply bd_)) hb); clear HB; have HB := n0_; clear n0_; clear hb))
   go_ret3
   exact ⟨by first | rfl | (simp [errW_none, errW_some] <;> rfl) | (simp [*, errW_none, errW_some] <;> rfl), by repeat (with_reducible first | exact HB.out | apply ba_ | apply bn_ | apply bd_)⟩
  ·rw [if_neg c4] at H
   have c4b0 : decide (255 < t1) = false := decide_eq_false c4
   clear c4
   by_cases c6 : t1 > (wrap64 ((l0.length : Int) - t2))
   ·rw [if_pos c6] at H
    have c6b0 : decide ((wrap64 ((l0.length : Int) - t2)) < t1) = true := decide_eq_true c6
    clear c6
    simp only [Option.some.injEq, Prod.mk.injEq] at H
    obtain ⟨rfl, rfl, rfl⟩ := H
    go_enter Try.func156, Try.ntmps156
    go_wp2_with (first | ((with_reducible refine gate_callee (f := 154) rfl ?_); refine goesM_ (some 8) Try.func154 #[.slice A0 l0.length c0] ?_; (with_reducible refine (num_Take.calls k _ _ l0 t1 t2 true _ ?side1 ?side2 A2.out).mono ?_); (case side1 => repeat (first | exact HR0.out | (with_reducible refine ca_ ?_ _) | (with_reducible refine cn_ ?_ _) | (with_reducible refine cd_ ?_))); (case side2 => exact HC0.out); rintro e w7 ⟨rfl, hb⟩; refine ⟨_, rfl, ?_⟩; have n0_ := Aside0.mk (below_step (by repeat (with_reducible first | exact HB.out | apply ba_ | apply bn_ | apply bd_)) hb); clear HB; have HB := n0_; clear n0_; clear hb))
    go_ret3
    exact ⟨by first | rfl | (simp [errW_none, errW_some] <;> rfl) | (simp [*, errW_none, errW_some] <;> rfl), by repeat (with_reducible first | exact HB.out | apply ba_ | apply bn_ | apply bd_)⟩
   ·rw [if_neg c6] at H
    have c6b0 : decide ((wrap64 ((l0.length : Int) - t2)) < t1) = false := decide_eq_false c6
    clear c6
    by_cases c8 : 0 ≤ t2
    ·rw [if_pos c8] at H
     have c8b0 := eq_true c8
     have c8b1 : decide (0 ≤ t2) = true := decide_eq_true c8
     clear c8
     by_cases c9 : t2 ≤ (wrap64 (t2 + t1))
     ·rw [if_pos c9] at H
      have c9b0 := eq_true c9
      have c9b1 : decide (t2 ≤ (wrap64 (t2 + t1))) = true := decide_eq_true c9
      by_cases c10 : (wrap64 (t2 + t1)) ≤ (l0.length : Int)
      ·rw [if_pos c10] at H
       have c10b0 := eq_true c10
       have c10b1 : decide ((wrap64 (t2 + t1)) ≤ (l0.length : Int)) = true := decide_eq_true c10
       obtain ⟨y4, hy4⟩ : ∃ y_ : List Int, y_ = ((l0.take ((wrap64 (t2 + t1)) : Int).toNat).drop (t2 : Int).toNat) := ⟨_, rfl⟩
       replace H : (some (strOfNums y4, wrap64 (t2 + t1), true)) = some (r1, r2, r3) := by first | (rw [hy4]; with_reducible exact H) | (have H2_ := (Option.bind_some _ _).symm.trans H; rw [hy4]; with_reducible exact H2_) | (have H2_ := (Option.bind_some _ _).symm.trans H; with_reducible exact H2_) | with_reducible exact H | (rw [hy4]; exact H) | exact H
       have Ny4 := Aside0.mk hy4
       clear hy4
       simp only [Option.some.injEq, Prod.mk.injEq] at H
       obtain ⟨rfl, rfl, rfl⟩ := H
       go_enter Try.func156, Try.ntmps156
       go_wp2_with (first | ((with_reducible refine gate_callee (f := 154) rfl ?_); refine goesM_ (some 8) Try.func154 #[.slice A0 l0.length c0] ?_; (with_reducible refine (num_Take.calls k _ _ l0 t1 t2 true _ ?side1 ?side2 A2.out).mono ?_); (case side1 => repeat (first | exact HR0.out | (with_reducible refine ca_ ?_ _) | (with_reducible refine cn_ ?_ _) | (with_reducible refine cd_ ?_))); (case side2 => exact HC0.out); rintro e w11 ⟨rfl, hb⟩; refine ⟨_, rfl, ?_⟩; have n0_ := Aside0.mk (below_step (by repeat (with_reducible first | exact HB.out | apply ba_ | apply bn_ | apply bd_)) hb); clear HB; have HB := n0_; clear n0_; clear hb; have q12 : ((wrap64 (t2 + t1)) : Int) ≤ ((l0.length : Int) : Int) := of_decide_eq_true (by first | (with_reducible assumption) | assumption); obtain ⟨i012, hi012, _, hsz12, _⟩ := info_parts info5; have hroom12 : l0.length ≤ c0 := HC0.out; have hC12 : Kd.C (Kd.int .u8) _ A0 l0.length l0 := HR0.out; have ql12 : (t2 : Int) ≤ ((wrap64 (t2 + t1)) : Int) := of_decide_eq_true (by first | (with_reducible assumption) | assumption); have q012 : (0 : Int) ≤ (t2 : Int) := of_decide_eq_true (by first | (with_reducible assumption) | assumption); have hcut12 := cut_mid (P := Try.prog) 33 5 .i64 .i64 Try.underlying33 hi012 1 hsz12 A0 l0.length c0 t2 (wrap64 (t2 + t1)) q012 ql12 q12 hroom12; have hr12 := Kd.C_mid (lo := (t2 : Int).toNat) (hi := ((wrap64 (t2 + t1)) : Int).toNat) (c := c0) hC12 (by omega) (by omega) hroom12; obtain ⟨A12, hA12⟩ : ∃ A1, A1 = (if c0 = (t2 : Int).toNat then A0 else (A0 : Option Addr).map (·.add ((t2 : Int).toNat * 1))) := ⟨_, rfl⟩; obtain ⟨c12, hc12⟩ : ∃ c1, c1 = c0 - (t2 : Int).toNat := ⟨_, rfl⟩; have hy12 : y4.length = ((wrap64 (t2 + t1)) : Int).toNat - (t2 : Int).toNat := (by rw [Ny4.out, List.length_drop, List.length_take] <;> omega); rw [show ((l0).take ((wrap64 (t2 + t1)) : Int).toNat).drop (t2 : Int).toNat = y4 from Ny4.out.symm] at hr12; replace hr12 : Kd.C (Kd.int .u8) _ A12 y4.length y4 := (by rw [hA12]; exact hr12); rw [← hy12, ← hA12, ← hc12] at hcut12; have HR7 := Aside0.mk hr12; have HC7 := Aside0.mk (show y4.length ≤ c12 from by rw [hy12, hc12]; exact Nat.sub_le_sub_right (Nat.le_trans (by omega) hroom12) _); clear hr12 hC12 hroom12 hi012 hsz12 hc12; have KY12 := Aside0.mk hy12; have KA12 := Aside0.mk hA12; clear hy12 hA12; replace q12 := eq_true q12; have hcv13 := Kd.C_string (P := Try.prog) (A := A12) (c := c12) Try.underlying33 Try.underlying5 Try.underlying9 (Kd.C_below HR7.out HB.out)))
       go_ret3
       exact ⟨by first | rfl | (simp [errW_none, errW_some] <;> rfl) | (simp [*, errW_none, errW_some] <;> rfl), by repeat (with_reducible first | exact HB.out | apply ba_ | apply bn_ | apply bd_)⟩
      ·rw [if_neg c10] at H
       exact absurd H (by simp)
     ·rw [if_neg c9] at H
      exact absurd H (by simp)
    ·rw [if_neg c8] at H
     exact absurd H (by simp)
 ·replace c3 := Bool.eq_false_iff.mpr c3
  subst c3
  have H1 : (some ((⟨#[]⟩ : ByteArray), 0, false)) = some (r1, r2, r3) := by rw [if_neg (show ¬ (false = true) by decide)] at H; exact H
  clear H
  have H := H1
  clear H1
  simp only [Option.some.injEq, Prod.mk.injEq] at H
  obtain ⟨rfl, rfl, rfl⟩ := H
  go_enter Try.func156, Try.ntmps156
  go_wp2_with (first | ((with_reducible refine gate_callee (f := 154) rfl ?_); refine goesM_ (some 8) Try.func154 #[.slice A0 l0.length c0] ?_; (with_reducible refine (num_Take.calls k _ _ l0 t1 t2 false _ ?side1 ?side2 A2.out).mono ?_); (case side1 => repeat (first | exact HR0.out | (with_reducible refine ca_ ?_ _) | (with_reducible refine cn_ ?_ _) | (with_reducible refine cd_ ?_))); (case side2 => exact HC0.out); rintro e w14 ⟨rfl, hb⟩; refine ⟨_, rfl, ?_⟩; have n0_ := Aside0.mk (below_step (by repeat (with_reducible first | exact HB.out | apply ba_ | apply bn_ | apply bd_)) hb); clear HB; have HB := n0_; clear n0_; clear hb))
  go_ret3
  exact ⟨by first | rfl | (simp [errW_none, errW_some] <;> rfl) | (simp [*, errW_none, errW_some] <;> rfl), by repeat (with_reducible first | exact HB.out | apply ba_ | apply bn_ | apply bd_)⟩
end Go.Proofs.Ytnlfhbohcgjcbaa.PA
namespace Go.Proofs.Ytnlfhbohcgjcbaa.PA
open Go.RowKit Go.Proofs.YtnlfhbohcgjcbaaW.PrintWords Go.Proofs.YtnlfhbohcgjcbaaW.PrintLast Go.Proofs.YtnlfhbohcgjcbaaW.PrintMore
set_option linter.unusedVariables false
set_option linter.unusedSimpArgs false
/-- The reader at block g: bytes, how far, whether there was too little. -/
def Rd (W : World) (g : Nat) (A0 : Option Addr) (c0 : Nat) (f0 : List Int) (f1 : Int) (f2 : Bool) : Prop := W.heap[g]? = some (.cells #[.slice A0 f0.length c0, .int .i64 f1, .bool f2] 177 (0, 0))
theorem Rd.c0 {W : World} {g : Nat} {A0 : Option Addr} {c0 : Nat} {f0 : List Int} {f1 : Int} {f2 : Bool} (h : Rd W g A0 c0 f0 f1 f2) : W.cell? ⟨g, 0, none⟩ = some (.slice A0 f0.length c0) := (blk_cell h 0).trans rfl
theorem Rd.c1 {W : World} {g : Nat} {A0 : Option Addr} {c0 : Nat} {f0 : List Int} {f1 : Int} {f2 : Bool} (h : Rd W g A0 c0 f0 f1 f2) : W.cell? ⟨g, 1, none⟩ = some (.int .i64 f1) := (blk_cell h 1).trans rfl
theorem Rd.c2 {W : World} {g : Nat} {A0 : Option Addr} {c0 : Nat} {f0 : List Int} {f1 : Int} {f2 : Bool} (h : Rd W g A0 c0 f0 f1 f2) : W.cell? ⟨g, 2, none⟩ = some (.bool f2) := (blk_cell h 2).trans rfl
theorem Rd.set_1 {W : World} {g : Nat} {A0 : Option Addr} {c0 : Nat} {f0 : List Int} {f1 : Int} {f2 : Bool} (h : Rd W g A0 c0 f0 f1 f2) (x : Int) : Rd (W.setCell ⟨g, 1, none⟩ (.int .i64 x)) g A0 c0 f0 x f2 := by
 unfold Rd at h ⊢
 simpa using blk_set h 1 (.int .i64 x)
theorem Rd.set_2 {W : World} {g : Nat} {A0 : Option Addr} {c0 : Nat} {f0 : List Int} {f1 : Int} {f2 : Bool} (h : Rd W g A0 c0 f0 f1 f2) (x : Bool) : Rd (W.setCell ⟨g, 2, none⟩ (.bool x)) g A0 c0 f0 f1 x := by
 unfold Rd at h ⊢
 simpa using blk_set h 2 (.bool x)
theorem Rd.below {W W1 : World} {g : Nat} {A0 : Option Addr} {c0 : Nat} {f0 : List Int} {f1 : Int} {f2 : Bool} (h : Rd W g A0 c0 f0 f1 f2) (hw : Below W.heap.size W W1) : Rd W1 g A0 c0 f0 f1 f2 := blk_grown h (grown_of_below hw none) (by simp)
theorem Rd.drew {W : World} {g : Nat} {A0 : Option Addr} {c0 : Nat} {f0 : List Int} {f1 : Int} {f2 : Bool} (h : Rd W g A0 c0 f0 f1 f2) : Rd W.drew g A0 c0 f0 f1 f2 := h
theorem Rd.drewN {W : World} {g : Nat} {A0 : Option Addr} {c0 : Nat} {f0 : List Int} {f1 : Int} {f2 : Bool} (h : Rd W g A0 c0 f0 f1 f2) (m : Nat) : Rd (W.drewN m) g A0 c0 f0 f1 f2 := h
set_option maxHeartbeats 2000000 in
set_option maxRecDepth 100000 in
theorem goes_calls (g : Nat) (A0 : Option Addr) (c0 : Nat) (l : List Int) (n : Int) (bad : Bool) (a1 : Int) (a2 : Bool) (w0 w : World) (hI : Rd w g A0 c0 l n bad) (hg : w0.heap.size ≤ g) (hB : Below w0.heap.size w0 w) :
  Calls Try.prog 155 #[.pointer (some ⟨g, 0, none⟩), .int .i64 a1, .bool a2] w fun e w' => e = .returned (.tuple #[]) ∧ Rd w' g A0 c0 l (wrap64 (n + a1)) (bad || !a2) ∧ Below w0.heap.size w0 w' ∧ KeepBut w w' g none := by
 have HI0 := Aside0.mk hI
 have HK := Aside0.mk (KeepBut.refl w g none)
 have HB := Aside0.mk hB
 have hc1 := hI.c1
 have hc2 := hI.c2
 have hf1 := blk_frozen hI 1
 have hf2 := blk_frozen hI 2
 clear hB hI
 cases bad
 all_goals
  go_enter Try.func155, Try.ntmps155
  go_wp2
  first | go_end0 | ((try simp only [Exit.inBlock, Exit.then]); refine bodyPost_ret (results_none rfl _ _ _) rfl ?_)
  exact ⟨rfl, by first | exact (HI0.out.set_2 (!a2)).set_1 _ | exact (HI0.out.set_2 true).set_1 _, by repeat (first | (with_reducible first | exact HB.out | apply below_alloc | apply pw_below_drewN | apply below_drew1 | refine below_set ?_ hg) | exact HB.out), by repeat (first | (with_reducible first | exact HK.out | apply KeepBut.set_ | apply keep_drewN | apply keep_drew | apply keep_alloc) | exact HK.out)⟩
def reader_num.f (k : Nat) (l : List Int) (n : Int) (bad : Bool) : Option (Int × Int × Bool) :=
 if 0 ≤ n ∧ n ≤ (l.length : Int) then (num_Take.f k (l.drop n.toNat)).bind fun p => some (p.1, wrap64 (n + p.2.1), bad || !p.2.2) else none
def reader_text.f (k : Nat) (l : List Int) (n : Int) (bad : Bool) : Option (ByteArray × Int × Bool) :=
 if 0 ≤ n ∧ n ≤ (l.length : Int) then (num_TakeText.f k (l.drop n.toNat)).bind fun p => some (p.1, wrap64 (n + p.2.1), bad || !p.2.2) else none
set_option maxHeartbeats 4000000 in
set_option maxRecDepth 100000 in
theorem reader_num.calls (k : Nat) (g : Nat) (A0 : Option Addr) (c0 : Nat) (l : List Int) (n : Int) (bad : Bool) (r1 r2 : Int) (r3 : Bool) (w0 w : World) (hI : Rd w g A0 c0 l n bad) (hr0 : Kd.C (Kd.int .u8) w0 A0 l.length l) (hc0 : l.length ≤ c0) (hg : w0.heap.size ≤ g) (hB : Below w0.heap.size w0 w) (h : reader_num.f k l n bad = some (r1, r2, r3)) :
  Calls Try.prog 119 #[.pointer (some ⟨g, 0, none⟩)] w fun e w' => e = .returned (.int .i64 r1) ∧ Rd w' g A0 c0 l r2 r3 ∧ Below w0.heap.size w0 w' ∧ KeepBut w w' g none := by
 unfold reader_num.f at h
 by_cases hn : 0 ≤ n ∧ n ≤ (l.length : Int)
 ·rw [if_pos hn] at h
  obtain ⟨hn0, hn1⟩ := hn
  obtain ⟨⟨v, m, ok⟩, ht, h2⟩ := Option.bind_eq_some_iff.1 h
  simp only [Option.some.injEq, Prod.mk.injEq] at h2
  obtain ⟨rfl, rfl, rfl⟩ := h2
  clear h
  have hc1 := hI.c1
  have hc0' := hI.c0
  have HC := Aside0.mk (Kd.C_below hr0 hB)
  obtain ⟨i0, hi0, _, hsz, _⟩ := info_parts info5
  obtain ⟨A', hcut, hA, hcc⟩ := print_drop_of (P := Try.prog) (Value.int .u8) 0 33 5 .i64 Try.underlying33 hi0 hsz A0 c0 l n hn0 hn1 hc0
  have HR := Aside0.mk (Kd.C_of_reads (h1 := fun _ => rfl) (hA _ (Kd.reads_of_C HC.out)))
  obtain ⟨y, hy⟩ : ∃ y : List Int, l.drop n.toNat = y := ⟨_, rfl⟩
  rw [hy] at hcut HR ht hcc
  have HCC := Aside0.mk hcc
  have HR : Aside0 (Kd.C (Kd.int .u8) w A' y.length y) := ⟨HR.out⟩
  have HT := Aside0.mk (num_Take.calls k A' _ y v m ok w.drew (Kd.C_drew HR.out) hcc ht)
  have HB := Aside0.mk hB
  have HI := Aside0.mk hI
  clear hA hcc hi0 hsz hB hI ht hr0 hy hc0 HC
  go_enter Try.func119, Try.ntmps119
  go_wp2_with fail
  go_region_held3 (fun w' => w'.cell? ⟨g, 0, none⟩ = some (.slice A0 l.length c0) ∧ w'.cell? ⟨g, 1, none⟩ = some (.int .i64 n))
   (first | exact ⟨hc0', hc1⟩ | exact ⟨hc0'', hc1'⟩) (first | (go_at_call 154; (with_reducible refine HT.out.mono ?_); rintro e w1 ⟨rfl, hb⟩; have hc0'' := pw_cell_below hb hc0'; have hc1' := pw_cell_below hb hc1))
  have hb0 : Below w.heap.size w w1 := below_step (below_drew1 (Below.refl _ _)) hb
  have HG := Aside0.mk (goes_calls g A0 c0 l n bad m ok w0 w1 (HI.out.below hb0) hg (below_step HB.out hb0))
  clear HT hcut HI HR HCC hc0' hc1
  go_wp2_with fail
  refine HG.out.mono ?_
  rintro e w2 ⟨rfl, h1, h2, h3⟩
  go_wp2_with fail
  go_ret
  exact ⟨rfl, h1, h2, KeepBut.trans (KeepBut.of_below hb0 g none) h3 (.inl rfl)⟩
 ·rw [if_neg hn] at h
  cases h
set_option maxHeartbeats 4000000 in
set_option maxRecDepth 100000 in
theorem reader_text.calls (k : Nat) (g : Nat) (A0 : Option Addr) (c0 : Nat) (l : List Int) (n : Int) (bad : Bool) (r1 : ByteArray) (r2 : Int) (r3 : Bool) (w0 w : World) (hI : Rd w g A0 c0 l n bad) (hr0 : Kd.C (Kd.int .u8) w0 A0 l.length l) (hc0 : l.length ≤ c0) (hg : w0.heap.size ≤ g) (hB : Below w0.heap.size w0 w) (h : reader_text.f k l n bad = some (r1, r2, r3)) :
  Calls Try.prog 120 #[.pointer (some ⟨g, 0, none⟩)] w fun e w' => e = .returned (.string r1) ∧ Rd w' g A0 c0 l r2 r3 ∧ Below w0.heap.size w0 w' ∧ KeepBut w w' g none := by
 unfold reader_text.f at h
 by_cases hn : 0 ≤ n ∧ n ≤ (l.length : Int)
 ·rw [if_pos hn] at h
  obtain ⟨hn0, hn1⟩ := hn
  obtain ⟨⟨v, m, ok⟩, ht, h2⟩ := Option.bind_eq_some_iff.1 h
  simp only [Option.some.injEq, Prod.mk.injEq] at h2
  obtain ⟨rfl, rfl, rfl⟩ := h2
  clear h
  have hc1 := hI.c1
  have hc0' := hI.c0
  have HC := Aside0.mk (Kd.C_below hr0 hB)
  obtain ⟨i0, hi0, _, hsz, _⟩ := info_parts info5
  obtain ⟨A', hcut, hA, hcc⟩ := print_drop_of (P := Try.prog) (Value.int .u8) 0 33 5 .i64 Try.underlying33 hi0 hsz A0 c0 l n hn0 hn1 hc0
  have HR := Aside0.mk (Kd.C_of_reads (h1 := fun _ => rfl) (hA _ (Kd.reads_of_C HC.out)))
  obtain ⟨y, hy⟩ : ∃ y : List Int, l.drop n.toNat = y := ⟨_, rfl⟩
  rw [hy] at hcut HR ht hcc
  have HCC := Aside0.mk hcc
  have HR : Aside0 (Kd.C (Kd.int .u8) w A' y.length y) := ⟨HR.out⟩
  have HT := Aside0.mk (num_TakeText.calls k A' _ y v m ok w.drew (Kd.C_drew HR.out) hcc ht)
  have HB := Aside0.mk hB
  have HI := Aside0.mk hI
  clear hA hcc hi0 hsz hB hI ht hr0 hy hc0 HC
  go_enter Try.func120, Try.ntmps120
  go_wp2_with fail
  go_region_held3 (fun w' => w'.cell? ⟨g, 0, none⟩ = some (.slice A0 l.length c0) ∧ w'.cell? ⟨g, 1, none⟩ = some (.int .i64 n))
   (first | exact ⟨hc0', hc1⟩ | exact ⟨hc0'', hc1'⟩) (first | (go_at_call 156; (with_reducible refine HT.out.mono ?_); rintro e w1 ⟨rfl, hb⟩; have hc0'' := pw_cell_below hb hc0'; have hc1' := pw_cell_below hb hc1))
  have hb0 : Below w.heap.size w w1 := below_step (below_drew1 (Below.refl _ _)) hb
  have HG := Aside0.mk (goes_calls g A0 c0 l n bad m ok w0 w1 (HI.out.below hb0) hg (below_step HB.out hb0))
  clear HT hcut HI HR HCC hc0' hc1
  go_wp2_with fail
  refine HG.out.mono ?_
  rintro e w2 ⟨rfl, h1, h2, h3⟩
  go_wp2_with fail
  go_ret
  exact ⟨rfl, h1, h2, KeepBut.trans (KeepBut.of_below hb0 g none) h3 (.inl rfl)⟩
 ·rw [if_neg hn] at h
  cases h
end Go.Proofs.Ytnlfhbohcgjcbaa.PA
namespace Go.Proofs.Ytnlfhbohcgjcbaa.PA
open Go.RowKit Go.Proofs.YtnlfhbohcgjcbaaW.PrintWords Go.Proofs.YtnlfhbohcgjcbaaW.PrintLast Go.Proofs.YtnlfhbohcgjcbaaW.PrintMore
attribute [local go_sem] max2_int min2_int max_two min_two max_three min_three max_four min_four
set_option linter.unusedVariables false
set_option linter.unusedSimpArgs false
def bytes_Equal.f (l0 : List Int) (l1 : List Int) : Option (Bool) := some ((strOfNums l0).toList == (strOfNums l1).toList)
set_option maxHeartbeats 8000000 in
set_option maxRecDepth 100000 in
theorem bytes_Equal.calls (A0 : Option Addr) (c0 : Nat) (l0 : List Int) (A1 : Option Addr) (c1 : Nat) (l1 : List Int) (r : Bool) (w : World) (hr0 : Kd.C (Kd.int .u8) w A0 l0.length l0) (hc0 : l0.length ≤ c0) (hr1 : Kd.C (Kd.int .u8) w A1 l1.length l1) (hc1 : l1.length ≤ c1) (h : bytes_Equal.f l0 l1 = some r) :
  Calls Try.prog 157 #[.slice A0 l0.length c0, .slice A1 l1.length c1] w fun e w' => e = .returned (.bool r) ∧ Drawn0 w w' := by
 have HR0 := Aside0.mk hr0
 have HC0 := Aside0.mk hc0
 clear hr0 hc0
 have HR1 := Aside0.mk hr1
 have HC1 := Aside0.mk hc1
 clear hr1 hc1
 have H : (some ((strOfNums l0).toList == (strOfNums l1).toList)) = some r := h
 clear h
 obtain rfl := Option.some.inj H
 have hcv3 := Kd.C_string (P := Try.prog) (A := A0) (c := c0) Try.underlying33 Try.underlying5 Try.underlying9 HR0.out
 have hcv4 := Kd.C_string (P := Try.prog) (A := A1) (c := c1) Try.underlying33 Try.underlying5 Try.underlying9 HR1.out
 go_enter Try.func157, Try.ntmps157
 go_wp2
 go_ret
 exact ⟨by first | rfl | (simp; done) | (simp [*]; done), by repeat (first | exact Drawn0.refl _ | apply Drawn0.step)⟩
def bytes_HasPrefix.f (l0 : List Int) (l1 : List Int) : Option (Bool) := if (l0.length : Int) ≥ (l1.length : Int) then (if 0 ≤ (l1.length : Int) then (if (l1.length : Int) ≤ (l0.length : Int) then ((bytes_Equal.f (l0.take ((l1.length : Int) : Int).toNat) l1).bind fun t5 => (some t5)) else (none)) else (none)) else (some false)
set_option maxHeartbeats 8000000 in
set_option maxRecDepth 100000 in
theorem bytes_HasPrefix.calls (A0 : Option Addr) (c0 : Nat) (l0 : List Int) (A1 : Option Addr) (c1 : Nat) (l1 : List Int) (r : Bool) (w : World) (hr0 : Kd.C (Kd.int .u8) w A0 l0.length l0) (hc0 : l0.length ≤ c0) (hr1 : Kd.C (Kd.int .u8) w A1 l1.length l1) (hc1 : l1.length ≤ c1) (h : bytes_HasPrefix.f l0 l1 = some r) :
  Calls Try.prog 121 #[.slice A0 l0.length c0, .slice A1 l1.length c1] w fun e w' => e = .returned (.bool r) ∧ Drawn0 w w' := by
 have HR0 := Aside0.mk hr0
 have HC0 := Aside0.mk hc0
 clear hr0 hc0
 have HR1 := Aside0.mk hr1
 have HC1 := Aside0.mk hc1
 clear hr1 hc1
 have H : (if (l0.length : Int) ≥ (l1.length : Int) then (if 0 ≤ (l1.length : Int) then (if (l1.length : Int) ≤ (l0.length : Int) then ((bytes_Equal.f (l0.take ((l1.length : Int) : Int).toNat) l1).bind fun t5 => (some t5)) else (none)) else (none)) else (some false)) = some r := h
 clear h
 by_cases c3 : (l0.length : Int) ≥ (l1.length : Int)
 ·rw [if_pos c3] at H
  have c3b0 : decide ((l1.length : Int) ≤ (l0.length : Int)) = true := decide_eq_true c3
  have c3b1 : decide (l1.length ≤ l0.length) = true := decide_eq_true (Int.ofNat_le.mp c3)
  clear c3
  by_cases c4 : 0 ≤ (l1.length : Int)
  ·rw [if_pos c4] at H
   have c4b0 := eq_true c4
   have c4b1 : decide (0 ≤ (l1.length : Int)) = true := decide_eq_true c4
   clear c4
   by_cases c5 : (l1.length : Int) ≤ (l0.length : Int)
   ·rw [if_pos c5] at H
    have c5b0 := eq_true c5
    have c5b1 : decide ((l1.length : Int) ≤ (l0.length : Int)) = true := decide_eq_true c5
    clear c5
    obtain ⟨y1, hy1⟩ : ∃ y_ : List Int, y_ = (l0.take ((l1.length : Int) : Int).toNat) := ⟨_, rfl⟩
    replace H : ((bytes_Equal.f y1 l1).bind fun t5 => (some t5)) = some r := by first | (rw [hy1]; with_reducible exact H) | (have H2_ := (Option.bind_some _ _).symm.trans H; rw [hy1]; with_reducible exact H2_) | (have H2_ := (Option.bind_some _ _).symm.trans H; with_reducible exact H2_) | with_reducible exact H | (rw [hy1]; exact H) | exact H
    have Ny1 := Aside0.mk hy1
    clear hy1
    replace H := Option.bind_eq_some_iff.mp H
    obtain ⟨t5, A60, H⟩ := H
    (try dsimp only at H)
    have A6 := Aside0.mk A60
    clear A60
    obtain rfl := Option.some.inj H
    have q7 : ((l1.length : Int) : Int) ≤ ((l0.length : Int) : Int) := of_decide_eq_true (by first | (with_reducible assumption) | assumption)
    obtain ⟨i07, hi07, _, hsz7, _⟩ := info_parts info5
    have hroom7 : l0.length ≤ c0 := HC0.out
    have hC7 : Kd.C (Kd.int .u8) _ A0 l0.length l0 := HR0.out
    have hcut7 := cut_to (P := Try.prog) 33 5 .i64 Try.underlying33 hi07 A0 l0.length c0 (l1.length : Int) (of_decide_eq_true (by first | (with_reducible assumption) | assumption)) q7 hroom7
    have hr7 := Kd.C_take (m := ((l1.length : Int) : Int).toNat) hC7 (by omega)
    have hy7 : y1.length = ((l1.length : Int) : Int).toNat := (by rw [Ny1.out, List.length_take]; omega)
    rw [← Ny1.out] at hr7
    rw [← hy7] at hcut7
    have HR4 := Aside0.mk hr7
    have HC4 := Aside0.mk (show y1.length ≤ c0 from by omega)
    clear hr7 hC7 hroom7 hi07 hsz7
    have KY7 := Aside0.mk hy7
    clear hy7
    replace q7 := eq_true q7
    go_enter Try.func121, Try.ntmps121
    go_wp2_with (first | (go_at_call 157; (with_reducible refine (bytes_Equal.calls _ _ y1 _ _ l1 t5 _ ?side1 ?side2 ?side3 ?side4 A6.out).mono ?_); (case side1 => repeat (first | exact HR4.out | (with_reducible refine ca_ ?_ _) | (with_reducible refine cn_ ?_ _) | (with_reducible refine cd_ ?_))); (case side2 => exact HC4.out); (case side3 => repeat (first | exact HR1.out | (with_reducible refine ca_ ?_ _) | (with_reducible refine cn_ ?_ _) | (with_reducible refine cd_ ?_))); (case side4 => exact HC1.out); rintro e w' ⟨rfl, ⟨nd, rfl⟩⟩))
    go_ret
    exact ⟨by first | rfl | (simp; done) | (simp [*]; done), by repeat (first | exact Drawn0.refl _ | apply Drawn0.step)⟩
   ·rw [if_neg c5] at H
    exact absurd H (by simp)
  ·rw [if_neg c4] at H
   exact absurd H (by simp)
 ·rw [if_neg c3] at H
  have c3b0 : decide ((l1.length : Int) ≤ (l0.length : Int)) = false := decide_eq_false c3
  have c3b1 : decide (l1.length ≤ l0.length) = false := decide_eq_false (fun h => c3 (Int.ofNat_le.mpr h))
  clear c3
  obtain rfl := Option.some.inj H
  go_enter Try.func121, Try.ntmps121
  go_wp2
  go_ret
  exact ⟨by first | rfl | (simp; done) | (simp [*]; done), by repeat (first | exact Drawn0.refl _ | apply Drawn0.step)⟩
end Go.Proofs.Ytnlfhbohcgjcbaa.PA
