/- What the laws' proofs stand on, part 6: words, the walks of the functions that they reach, and plain laws of what these compute. (printed by this session's own programs, myprint.py and prune.py, over the kit's print.py and its words; Lean checks it) -/
import Derived.Test.YtmfnipkfpjpjeaaDoorQR0
import Derived.Test.YtmfnipkfpjpjeaaDoorQR1
import Derived.Test.YtmfnipkfpjpjeaaDoorQR2
import Derived.Test.YtmfnipkfpjpjeaaDoorQR3
import Derived.Test.YtmfnipkfpjpjeaaDoorQR4
import Derived.Test.YtmfnipkfpjpjeaaDoorQR5
import Derived.Deep.Slices
import Derived.Lib.DecodeN
import Derived.Shelf.Unicode.DecodeSlow
section
namespace Go.Proofs.YtmfnipkfpjpjeaaDoor.PR
open Go.RowKit Go.Proofs.YtmfnipkfpjpjeaaDoorW.PrintWords Go.Proofs.YtmfnipkfpjpjeaaDoorW.PrintLast Go.Proofs.YtmfnipkfpjpjeaaDoorW.PrintMore
attribute [local go_sem] max2_int min2_int max_two min_two max_three min_three max_four min_four   
set_option linter.unusedVariables false
set_option linter.unusedSimpArgs false
def laws_eqMarkS.l0 : Nat → List (S56) → List (S56) → Int → Option (Bool)
 | 0, _, _, _ => none
 | k + 1, x0, x1, x5 => if x5 < (x0.length : Int) then (if 0 ≤ x5 then (if x5 < (x1.length : Int) then ((laws_eqMark.f ((rd_T56 x0 x5).f0) ((rd_T56 x0 x5).f1) ((rd_T56 x0 x5).f2) ((rd_T56 x1 x5).f0) ((rd_T56 x1 x5).f1) ((rd_T56 x1 x5).f2)).bind fun t258 => (if t258 = true then (laws_eqMarkS.l0 k x0 x1 (wrap64 (x5 + 1))) else (some false))) else (none)) else (none)) else (some true)
def laws_eqMarkS.f (k : Nat) (l0 : List (S56)) (l1 : List (S56)) : Option (Bool) := if (l0.length : Int) = (l1.length : Int) then (laws_eqMarkS.l0 k l0 l1 0) else (some false)
theorem laws_eqMarkS.mono_l : ∀ k, (∀ y0 y1 y2, LeO (laws_eqMarkS.l0 k y0 y1 y2) (laws_eqMarkS.l0 (k + 1) y0 y1 y2))
 | 0 => fun _ _ _ r h => by simp [laws_eqMarkS.l0] at h
 | k + 1 => by
  have ih0 := laws_eqMarkS.mono_l k
  ·
   intro y0 y1 y2
   unfold laws_eqMarkS.l0
   repeat' first
   | (with_reducible exact ih0 _ _ _)
   | (with_reducible exact LeO.refl _)
   | (with_reducible exact LeO.none _)
   | (with_reducible refine LeO.ite ?_ ?_)
   | (with_reducible refine LeO.bind ?_ (fun _ => ?_))
   | exact ih0 _ _ _
   | exact LeO.none _
   | refine LeO.ite ?_ ?_
   | refine LeO.bind ?_ (fun _ => ?_)
theorem laws_eqMarkS.mono : ∀ a0 a1 k, LeO (laws_eqMarkS.f k a0 a1) (laws_eqMarkS.f (k + 1) a0 a1) := by
 intro a0 a1 k
 have ih0 := laws_eqMarkS.mono_l k
 unfold laws_eqMarkS.f
 repeat' first
   | (with_reducible exact ih0 _ _ _)
   | (with_reducible exact LeO.refl _)
   | (with_reducible exact LeO.none _)
   | (with_reducible refine LeO.ite ?_ ?_)
   | (with_reducible refine LeO.bind ?_ (fun _ => ?_))
   | exact ih0 _ _ _
   | exact LeO.none _
   | refine LeO.ite ?_ ?_
   | refine LeO.bind ?_ (fun _ => ?_)
def laws_eqMarkS.T6 : Bool × List (List Nat × List Nat) := (true, [([], []), ([], []), ([0, 1], [0, 1]), ([2], [2]), ([], []), ([], []), ([4, 5], [4, 5]), ([6], [6]), ([3, 7], [3, 7]), ([8], [8])])
def laws_eqMarkS.B6 : List Nat := [0, 0, 3, 7, 0, 0, 48, 112, 255, 511]
theorem laws_eqMarkS.tab6 : rtab .any (opsOf Tryd.f61 6) = laws_eqMarkS.T6 := by kernel_rfl
theorem laws_eqMarkS.bits6 : waitsOk laws_eqMarkS.T6.2 laws_eqMarkS.B6 = true := by kernel_rfl
set_option maxHeartbeats 8000000 in
set_option maxRecDepth 100000 in
theorem laws_eqMarkS.calls (k : Nat) (A0 : Option Addr) (c0 : Nat) (l0 : List (S56)) (A1 : Option Addr) (c1 : Nat) (l1 : List (S56)) (r : Bool) (w : World) (hr0 : Kd.C k56 w A0 l0.length l0) (hc0 : l0.length ≤ c0) (hr1 : Kd.C k56 w A1 l1.length l1) (hc1 : l1.length ≤ c1) (h : laws_eqMarkS.f k l0 l1 = some r) :
  Calls Tryd.prog 61 #[.slice A0 l0.length c0, .slice A1 l1.length c1] w fun e w' => e = .returned (.bool r) ∧ Below w.heap.size w w' := by
 have hu56 := Tryd.underlying56
 have HR0 := Aside0.mk hr0
 have HC0 := Aside0.mk hc0
 clear hr0 hc0
 have HR1 := Aside0.mk hr1
 have HC1 := Aside0.mk hc1
 clear hr1 hc1
 have HB := Aside0.mk (Below.refl w.heap.size w)
 have H : (if (l0.length : Int) = (l1.length : Int) then (laws_eqMarkS.l0 k l0 l1 0) else (some false)) = some r := h
 clear h
 by_cases c3 : (l0.length : Int) = (l1.length : Int)
 ·
  rw [if_pos c3] at H
  have c3b0 : ((l0.length : Int) == (l1.length : Int)) = true := beq_iff_eq.mpr c3
  have c3b1 : ((l0.length : Int) != (l1.length : Int)) = false := bne_eq_false_iff_eq.mpr c3
  have c3b2 : (l0.length == l1.length) = true := by first | simpa using c3 | (simp at c3 ⊢; omega)
  clear c3
  have H' := Aside0.mk H
  clear H
  go_enter Tryd.func61, Tryd.ntmps61
  go_wp2
  go_loopg [5] k (fun kq v5 w' => ∃ (x5_1 : Int), v5 = .int .i64 x5_1 ∧ Aside0 (laws_eqMarkS.l0 kq l0 l1 x5_1 = some r) ∧ Aside0 (kq ≤ k) ∧ Aside0 (Below w.heap.size w w'))
  case atStart => exact ⟨(0), (by first | rfl | (simp; done) | (simp [*]; done)), H', ⟨Nat.le_refl _⟩, ⟨by repeat (first | (with_reducible first | exact HB.out | apply below_alloc | apply pw_below_drewN | apply below_drew1) | exact HB.out)⟩⟩
  case round =>
   clear H'
   try clear c1
   try clear p2
   try clear c3
   try clear c3b0
   try clear c3b1
   try clear c3b2
   obtain ⟨x5_1, rfl, HA, HK1, HB⟩ := hrel
   cases gk with
   | zero => exact absurd HA.out (by simp [laws_eqMarkS.l0])
   | succ k1 =>
    have H := HA.out
    clear HA
    simp only [laws_eqMarkS.l0] at H
    by_cases c4 : x5_1 < (l0.length : Int)
    ·
     rw [if_pos c4] at H
     have c4b0 : decide (x5_1 < (l0.length : Int)) = true := decide_eq_true c4
     clear c4
     by_cases c5 : 0 ≤ x5_1
     ·
      rw [if_pos c5] at H
      have c5b0 : decide (0 ≤ x5_1) = true := decide_eq_true c5
      clear c5
      by_cases c6 : x5_1 < (l1.length : Int)
      ·
       rw [if_pos c6] at H
       have c6b0 : decide (x5_1 < (l1.length : Int)) = true := decide_eq_true c6
       clear c6
       replace H := Option.bind_eq_some_iff.mp H
       obtain ⟨t258, A70, H⟩ := H
       replace H : (if t258 = true then (laws_eqMarkS.l0 k1 l0 l1 (wrap64 (x5_1 + 1))) else (some false)) = some r := H
       have A7 := Aside0.mk A70
       clear A70
       by_cases c8 : t258 = true
       ·
        subst c8
        have H1 : (laws_eqMarkS.l0 k1 l0 l1 (wrap64 (x5_1 + 1))) = some r := by rw [if_pos rfl] at H; exact H
        clear H
        have H := H1
        clear H1
        have H' := Aside0.mk H
        clear H
        try go_wp2
        have n0_ := Aside0.mk (below_drew1 HB.out)
        clear HB
        have HB := n0_
        clear n0_
        have p256 : 0 ≤ (x5_1 : Int) := of_decide_eq_true (by first | (with_reducible assumption) | assumption)
        have q256 : x5_1 < (l0.length : Int) := of_decide_eq_true (by first | (with_reducible assumption) | assumption)
        obtain ⟨ad256, e256, hx256_0, hx256_1, hx256_2⟩ := at_T56 HR0.out x5_1 p256 q256
        have hw256_2 := hx256_2
        have hw256_1 := hx256_1
        have hw256_0 := hx256_0
        cases e256
        replace hx256_0 := (HB.out.cell (World.block_lt_of_cell? _ _ hx256_0)).trans hx256_0
        replace hx256_1 := (HB.out.cell (World.block_lt_of_cell? _ _ hx256_1)).trans hx256_1
        replace hx256_2 := (HB.out.cell (World.block_lt_of_cell? _ _ hx256_2)).trans hx256_2
        replace p256 := eq_true p256
        replace q256 := eq_true q256
        have p257 : 0 ≤ (x5_1 : Int) := of_decide_eq_true (by first | (with_reducible assumption) | assumption)
        have q257 : x5_1 < (l1.length : Int) := of_decide_eq_true (by first | (with_reducible assumption) | assumption)
        obtain ⟨ad257, e257, hx257_0, hx257_1, hx257_2⟩ := at_T56 HR1.out x5_1 p257 q257
        have hw257_2 := hx257_2
        have hw257_1 := hx257_1
        have hw257_0 := hx257_0
        cases e257
        replace hx257_0 := (HB.out.cell (World.block_lt_of_cell? _ _ hx257_0)).trans hx257_0
        replace hx257_1 := (HB.out.cell (World.block_lt_of_cell? _ _ hx257_1)).trans hx257_1
        replace hx257_2 := (HB.out.cell (World.block_lt_of_cell? _ _ hx257_2)).trans hx257_2
        replace p257 := eq_true p257
        replace q257 := eq_true q257
        refine start_ (n := 10) (S := fun w' => w'.cell? (ad256.add ((x5_1).toNat * 3)) = some (.string ((rd_T56 l0 x5_1).f0)) ∧ w'.cell? ⟨(ad256.add ((x5_1).toNat * 3)).block, (ad256.add ((x5_1).toNat * 3)).off + 1, none⟩ = some (.int .i64 ((rd_T56 l0 x5_1).f1)) ∧ w'.cell? ⟨(ad256.add ((x5_1).toNat * 3)).block, (ad256.add ((x5_1).toNat * 3)).off + 2, none⟩ = some (.bool ((rd_T56 l0 x5_1).f2)) ∧ w'.cell? (ad257.add ((x5_1).toNat * 3)) = some (.string ((rd_T56 l1 x5_1).f0)) ∧ w'.cell? ⟨(ad257.add ((x5_1).toNat * 3)).block, (ad257.add ((x5_1).toNat * 3)).off + 1, none⟩ = some (.int .i64 ((rd_T56 l1 x5_1).f1)) ∧ w'.cell? ⟨(ad257.add ((x5_1).toNat * 3)).block, (ad257.add ((x5_1).toNat * 3)).off + 2, none⟩ = some (.bool ((rd_T56 l1 x5_1).f2))) (ds := []) #[false, false, false, false, false, false, false, false, false, false] (by kernel_rfl) rfl rfl ⟨((HB.out.cell (World.block_lt_of_cell? _ _ hw256_0)).trans hw256_0), ((HB.out.cell (World.block_lt_of_cell? _ _ hw256_1)).trans hw256_1), ((HB.out.cell (World.block_lt_of_cell? _ _ hw256_2)).trans hw256_2), ((HB.out.cell (World.block_lt_of_cell? _ _ hw257_0)).trans hw257_0), ((HB.out.cell (World.block_lt_of_cell? _ _ hw257_1)).trans hw257_1), ((HB.out.cell (World.block_lt_of_cell? _ _ hw257_2)).trans hw257_2)⟩ (fun hHeld => ?_); refine with_tabW laws_eqMarkS.tab6 laws_eqMarkS.bits6 (fun HT_ HW_ => ?_)
        generalize wr.drew = w9 at HB hx256_0 hx256_1 hx256_2 hx257_0 hx257_1 hx257_2 hHeld ⊢
        refine pure_ (i := 0) (N := some 17) (v := ?_) (a' := ?_) #[true, false, false, false, false, false, false, false, false, false] rfl rfl (any_of HT_.out (by kernel_rfl)) (fun _ _ _ h => h) (Or.inl ⟨by rfl, ?_⟩) ?_ ?_
        rotate_left
        ·
         intro w'
         go_simp
         with_reducible rfl
        rotate_left
        ·
         simp only [Act.put, List.setIfInBounds_toArray, List.set_cons_zero, List.set_cons_succ, i64_w, i32_w]
         rfl
        refine pure_ (i := 1) (N := some 18) (v := ?_) (a' := ?_) #[true, true, false, false, false, false, false, false, false, false] rfl rfl (any_of HT_.out (by kernel_rfl)) (fun _ _ _ h => h) (Or.inl ⟨by rfl, ?_⟩) ?_ ?_
        rotate_left
        ·
         intro w'
         go_simp
         with_reducible rfl
        rotate_left
        ·
         simp only [Act.put, List.setIfInBounds_toArray, List.set_cons_zero, List.set_cons_succ, i64_w, i32_w]
         rfl
        refine pure_ (i := 2) (N := some 19) (v := ?_) (a' := ?_) #[true, true, true, false, false, false, false, false, false, false] rfl rfl (any_of HT_.out (by kernel_rfl)) (fun _ _ _ h => h) (Or.inl ⟨by rfl, ?_⟩) ?_ ?_
        rotate_left
        ·
         intro w'
         go_simp
         with_reducible rfl
        rotate_left
        ·
         simp only [Act.put, List.setIfInBounds_toArray, List.set_cons_zero, List.set_cons_succ, i64_w, i32_w]
         rfl
        refine pure_ (i := 4) (N := some 21) (v := ?_) (a' := ?_) #[true, true, true, false, true, false, false, false, false, false] rfl rfl (any_of HT_.out (by kernel_rfl)) (fun _ _ _ h => h) (Or.inl ⟨by rfl, ?_⟩) ?_ ?_
        rotate_left
        ·
         intro w'
         go_simp
         with_reducible rfl
        rotate_left
        ·
         simp only [Act.put, List.setIfInBounds_toArray, List.set_cons_zero, List.set_cons_succ, i64_w, i32_w]
         rfl
        refine pure_ (i := 5) (N := some 22) (v := ?_) (a' := ?_) #[true, true, true, false, true, true, false, false, false, false] rfl rfl (any_of HT_.out (by kernel_rfl)) (fun _ _ _ h => h) (Or.inl ⟨by rfl, ?_⟩) ?_ ?_
        rotate_left
        ·
         intro w'
         go_simp
         with_reducible rfl
        rotate_left
        ·
         simp only [Act.put, List.setIfInBounds_toArray, List.set_cons_zero, List.set_cons_succ, i64_w, i32_w]
         rfl
        refine pure_ (i := 6) (N := some 23) (v := ?_) (a' := ?_) #[true, true, true, false, true, true, true, false, false, false] rfl rfl (any_of HT_.out (by kernel_rfl)) (fun _ _ _ h => h) (Or.inl ⟨by rfl, ?_⟩) ?_ ?_
        rotate_left
        ·
         intro w'
         go_simp
         with_reducible rfl
        rotate_left
        ·
         simp only [Act.put, List.setIfInBounds_toArray, List.set_cons_zero, List.set_cons_succ, i64_w, i32_w]
         rfl
        refine take_ (i := 3) (N := some 20) (v := ?_) (a' := ?_) #[true, true, true, true, true, true, true, false, false, false] rfl rfl (take_ofW HT_.out HW_.out (by kernel_rfl)) (fun _ _ _ h => h) (Or.inl ⟨by rfl, ?_⟩) hHeld ?_ ?_
        rotate_left
        ·
         rintro w' ⟨s0, s1, s2, s3, s4, s5⟩
         go_simp
         with_reducible rfl
        rotate_left
        ·
         simp only [Act.put, List.setIfInBounds_toArray, List.set_cons_zero, List.set_cons_succ, i64_w, i32_w]
         rfl
        refine take_ (i := 7) (N := some 24) (v := ?_) (a' := ?_) #[true, true, true, true, true, true, true, true, false, false] rfl rfl (take_ofW HT_.out HW_.out (by kernel_rfl)) (fun _ _ _ h => h) (Or.inl ⟨by rfl, ?_⟩) hHeld ?_ ?_
        rotate_left
        ·
         rintro w' ⟨s0, s1, s2, s3, s4, s5⟩
         go_simp
         with_reducible rfl
        rotate_left
        ·
         simp only [Act.put, List.setIfInBounds_toArray, List.set_cons_zero, List.set_cons_succ, i64_w, i32_w]
         rfl
        refine one_ (i := 8) (N := some 25) #[true, true, true, true, true, true, true, true, true, false] rfl rfl (one_of HT_.out (by kernel_rfl)) (by decide) (fun K hK => ?_)
        refine goes_ Tryd.func98 (by kernel_rfl) rfl #[.agg #[.string ((rd_T56 l0 x5_1).f0), .int .i64 ((rd_T56 l0 x5_1).f1), .bool ((rd_T56 l0 x5_1).f2)], .agg #[.string ((rd_T56 l1 x5_1).f0), .int .i64 ((rd_T56 l1 x5_1).f1), .bool ((rd_T56 l1 x5_1).f2)]] (by rfl) rfl rfl (by (try simp only [List.map_toArray, List.map_cons, List.map_nil]); first | done | rfl | (simp only [List.length_drop, List.length_take]; rfl)) ?_
        with_reducible refine (laws_eqMark.calls ((rd_T56 l0 x5_1).f0) ((rd_T56 l0 x5_1).f1) ((rd_T56 l0 x5_1).f2) ((rd_T56 l1 x5_1).f0) ((rd_T56 l1 x5_1).f1) ((rd_T56 l1 x5_1).f2) true _ A7.out).mono ?_
        rintro e w10 ⟨rfl, hb⟩
        refine ⟨_, rfl, ?_⟩
        have n0_ := Aside0.mk (below_step (by repeat (first | (with_reducible first | exact HB.out | apply below_alloc | apply pw_below_drewN | apply below_drew1) | exact HB.out)) hb)
        clear HB
        have HB := n0_
        clear n0_
        (try clear hb)
        (try clear hb2)
        (try clear hk)
        (try clear hi)
        refine hK.out _ _ ⟨((HB.out.cell (World.block_lt_of_cell? _ _ hw256_0)).trans hw256_0), ((HB.out.cell (World.block_lt_of_cell? _ _ hw256_1)).trans hw256_1), ((HB.out.cell (World.block_lt_of_cell? _ _ hw256_2)).trans hw256_2), ((HB.out.cell (World.block_lt_of_cell? _ _ hw257_0)).trans hw257_0), ((HB.out.cell (World.block_lt_of_cell? _ _ hw257_1)).trans hw257_1), ((HB.out.cell (World.block_lt_of_cell? _ _ hw257_2)).trans hw257_2)⟩ (fun hHeld => ?_)
        clear hK K
        refine norm_ (a' := ?_) ?_ ?_
        rotate_left
        ·
         show Act.put _ (some 25) _ = _
         simp only [Act.put, List.setIfInBounds_toArray, List.set_cons_zero, List.set_cons_succ, i64_w, i32_w]
         rfl
        refine pure_ (i := 9) (N := some 26) (v := ?_) (a' := ?_) #[true, true, true, true, true, true, true, true, true, true] rfl rfl (any_of HT_.out (by kernel_rfl)) (fun _ _ _ h => h) (Or.inl ⟨by rfl, ?_⟩) ?_ ?_
        rotate_left
        ·
         intro w'
         go_simp
         with_reducible rfl
        rotate_left
        ·
         simp only [Act.put, List.setIfInBounds_toArray, List.set_cons_zero, List.set_cons_succ, i64_w, i32_w]
         rfl
        refine done_ (done_of HT_.out (by kernel_rfl)) ?_
        try go_wp2
        go_roundg k1
        case measure => have := HK1.out; omega
        case rel => exact ⟨(wrap64 (x5_1 + 1)), (by first | rfl | (simp; done) | (simp [*]; done)), H', ⟨by have := HK1.out; omega⟩, ⟨by repeat (first | (with_reducible first | exact HB.out | apply below_alloc | apply pw_below_drewN | apply below_drew1) | exact HB.out)⟩⟩
       ·
        replace c8 := Bool.eq_false_iff.mpr c8
        subst c8
        have H1 : (some false) = some r := by rw [if_neg (show ¬ (false = true) by decide)] at H; exact H
        clear H
        have H := H1
        clear H1
        obtain rfl := Option.some.inj H
        try go_wp2
        have n0_ := Aside0.mk (below_drew1 HB.out)
        clear HB
        have HB := n0_
        clear n0_
        have p256 : 0 ≤ (x5_1 : Int) := of_decide_eq_true (by first | (with_reducible assumption) | assumption)
        have q256 : x5_1 < (l0.length : Int) := of_decide_eq_true (by first | (with_reducible assumption) | assumption)
        obtain ⟨ad256, e256, hx256_0, hx256_1, hx256_2⟩ := at_T56 HR0.out x5_1 p256 q256
        have hw256_2 := hx256_2
        have hw256_1 := hx256_1
        have hw256_0 := hx256_0
        cases e256
        replace hx256_0 := (HB.out.cell (World.block_lt_of_cell? _ _ hx256_0)).trans hx256_0
        replace hx256_1 := (HB.out.cell (World.block_lt_of_cell? _ _ hx256_1)).trans hx256_1
        replace hx256_2 := (HB.out.cell (World.block_lt_of_cell? _ _ hx256_2)).trans hx256_2
        replace p256 := eq_true p256
        replace q256 := eq_true q256
        have p257 : 0 ≤ (x5_1 : Int) := of_decide_eq_true (by first | (with_reducible assumption) | assumption)
        have q257 : x5_1 < (l1.length : Int) := of_decide_eq_true (by first | (with_reducible assumption) | assumption)
        obtain ⟨ad257, e257, hx257_0, hx257_1, hx257_2⟩ := at_T56 HR1.out x5_1 p257 q257
        have hw257_2 := hx257_2
        have hw257_1 := hx257_1
        have hw257_0 := hx257_0
        cases e257
        replace hx257_0 := (HB.out.cell (World.block_lt_of_cell? _ _ hx257_0)).trans hx257_0
        replace hx257_1 := (HB.out.cell (World.block_lt_of_cell? _ _ hx257_1)).trans hx257_1
        replace hx257_2 := (HB.out.cell (World.block_lt_of_cell? _ _ hx257_2)).trans hx257_2
        replace p257 := eq_true p257
        replace q257 := eq_true q257
        refine start_ (n := 10) (S := fun w' => w'.cell? (ad256.add ((x5_1).toNat * 3)) = some (.string ((rd_T56 l0 x5_1).f0)) ∧ w'.cell? ⟨(ad256.add ((x5_1).toNat * 3)).block, (ad256.add ((x5_1).toNat * 3)).off + 1, none⟩ = some (.int .i64 ((rd_T56 l0 x5_1).f1)) ∧ w'.cell? ⟨(ad256.add ((x5_1).toNat * 3)).block, (ad256.add ((x5_1).toNat * 3)).off + 2, none⟩ = some (.bool ((rd_T56 l0 x5_1).f2)) ∧ w'.cell? (ad257.add ((x5_1).toNat * 3)) = some (.string ((rd_T56 l1 x5_1).f0)) ∧ w'.cell? ⟨(ad257.add ((x5_1).toNat * 3)).block, (ad257.add ((x5_1).toNat * 3)).off + 1, none⟩ = some (.int .i64 ((rd_T56 l1 x5_1).f1)) ∧ w'.cell? ⟨(ad257.add ((x5_1).toNat * 3)).block, (ad257.add ((x5_1).toNat * 3)).off + 2, none⟩ = some (.bool ((rd_T56 l1 x5_1).f2))) (ds := []) #[false, false, false, false, false, false, false, false, false, false] (by kernel_rfl) rfl rfl ⟨((HB.out.cell (World.block_lt_of_cell? _ _ hw256_0)).trans hw256_0), ((HB.out.cell (World.block_lt_of_cell? _ _ hw256_1)).trans hw256_1), ((HB.out.cell (World.block_lt_of_cell? _ _ hw256_2)).trans hw256_2), ((HB.out.cell (World.block_lt_of_cell? _ _ hw257_0)).trans hw257_0), ((HB.out.cell (World.block_lt_of_cell? _ _ hw257_1)).trans hw257_1), ((HB.out.cell (World.block_lt_of_cell? _ _ hw257_2)).trans hw257_2)⟩ (fun hHeld => ?_); refine with_tabW laws_eqMarkS.tab6 laws_eqMarkS.bits6 (fun HT_ HW_ => ?_)
        generalize wr.drew = w11 at HB hx256_0 hx256_1 hx256_2 hx257_0 hx257_1 hx257_2 hHeld ⊢
        refine pure_ (i := 0) (N := some 17) (v := ?_) (a' := ?_) #[true, false, false, false, false, false, false, false, false, false] rfl rfl (any_of HT_.out (by kernel_rfl)) (fun _ _ _ h => h) (Or.inl ⟨by rfl, ?_⟩) ?_ ?_
        rotate_left
        ·
         intro w'
         go_simp
         with_reducible rfl
        rotate_left
        ·
         simp only [Act.put, List.setIfInBounds_toArray, List.set_cons_zero, List.set_cons_succ, i64_w, i32_w]
         rfl
        refine pure_ (i := 1) (N := some 18) (v := ?_) (a' := ?_) #[true, true, false, false, false, false, false, false, false, false] rfl rfl (any_of HT_.out (by kernel_rfl)) (fun _ _ _ h => h) (Or.inl ⟨by rfl, ?_⟩) ?_ ?_
        rotate_left
        ·
         intro w'
         go_simp
         with_reducible rfl
        rotate_left
        ·
         simp only [Act.put, List.setIfInBounds_toArray, List.set_cons_zero, List.set_cons_succ, i64_w, i32_w]
         rfl
        refine pure_ (i := 2) (N := some 19) (v := ?_) (a' := ?_) #[true, true, true, false, false, false, false, false, false, false] rfl rfl (any_of HT_.out (by kernel_rfl)) (fun _ _ _ h => h) (Or.inl ⟨by rfl, ?_⟩) ?_ ?_
        rotate_left
        ·
         intro w'
         go_simp
         with_reducible rfl
        rotate_left
        ·
         simp only [Act.put, List.setIfInBounds_toArray, List.set_cons_zero, List.set_cons_succ, i64_w, i32_w]
         rfl
        refine pure_ (i := 4) (N := some 21) (v := ?_) (a' := ?_) #[true, true, true, false, true, false, false, false, false, false] rfl rfl (any_of HT_.out (by kernel_rfl)) (fun _ _ _ h => h) (Or.inl ⟨by rfl, ?_⟩) ?_ ?_
        rotate_left
        ·
         intro w'
         go_simp
         with_reducible rfl
        rotate_left
        ·
         simp only [Act.put, List.setIfInBounds_toArray, List.set_cons_zero, List.set_cons_succ, i64_w, i32_w]
         rfl
        refine pure_ (i := 5) (N := some 22) (v := ?_) (a' := ?_) #[true, true, true, false, true, true, false, false, false, false] rfl rfl (any_of HT_.out (by kernel_rfl)) (fun _ _ _ h => h) (Or.inl ⟨by rfl, ?_⟩) ?_ ?_
        rotate_left
        ·
         intro w'
         go_simp
         with_reducible rfl
        rotate_left
        ·
         simp only [Act.put, List.setIfInBounds_toArray, List.set_cons_zero, List.set_cons_succ, i64_w, i32_w]
         rfl
        refine pure_ (i := 6) (N := some 23) (v := ?_) (a' := ?_) #[true, true, true, false, true, true, true, false, false, false] rfl rfl (any_of HT_.out (by kernel_rfl)) (fun _ _ _ h => h) (Or.inl ⟨by rfl, ?_⟩) ?_ ?_
        rotate_left
        ·
         intro w'
         go_simp
         with_reducible rfl
        rotate_left
        ·
         simp only [Act.put, List.setIfInBounds_toArray, List.set_cons_zero, List.set_cons_succ, i64_w, i32_w]
         rfl
        refine take_ (i := 3) (N := some 20) (v := ?_) (a' := ?_) #[true, true, true, true, true, true, true, false, false, false] rfl rfl (take_ofW HT_.out HW_.out (by kernel_rfl)) (fun _ _ _ h => h) (Or.inl ⟨by rfl, ?_⟩) hHeld ?_ ?_
        rotate_left
        ·
         rintro w' ⟨s0, s1, s2, s3, s4, s5⟩
         go_simp
         with_reducible rfl
        rotate_left
        ·
         simp only [Act.put, List.setIfInBounds_toArray, List.set_cons_zero, List.set_cons_succ, i64_w, i32_w]
         rfl
        refine take_ (i := 7) (N := some 24) (v := ?_) (a' := ?_) #[true, true, true, true, true, true, true, true, false, false] rfl rfl (take_ofW HT_.out HW_.out (by kernel_rfl)) (fun _ _ _ h => h) (Or.inl ⟨by rfl, ?_⟩) hHeld ?_ ?_
        rotate_left
        ·
         rintro w' ⟨s0, s1, s2, s3, s4, s5⟩
         go_simp
         with_reducible rfl
        rotate_left
        ·
         simp only [Act.put, List.setIfInBounds_toArray, List.set_cons_zero, List.set_cons_succ, i64_w, i32_w]
         rfl
        refine one_ (i := 8) (N := some 25) #[true, true, true, true, true, true, true, true, true, false] rfl rfl (one_of HT_.out (by kernel_rfl)) (by decide) (fun K hK => ?_)
        refine goes_ Tryd.func98 (by kernel_rfl) rfl #[.agg #[.string ((rd_T56 l0 x5_1).f0), .int .i64 ((rd_T56 l0 x5_1).f1), .bool ((rd_T56 l0 x5_1).f2)], .agg #[.string ((rd_T56 l1 x5_1).f0), .int .i64 ((rd_T56 l1 x5_1).f1), .bool ((rd_T56 l1 x5_1).f2)]] (by rfl) rfl rfl (by (try simp only [List.map_toArray, List.map_cons, List.map_nil]); first | done | rfl | (simp only [List.length_drop, List.length_take]; rfl)) ?_
        with_reducible refine (laws_eqMark.calls ((rd_T56 l0 x5_1).f0) ((rd_T56 l0 x5_1).f1) ((rd_T56 l0 x5_1).f2) ((rd_T56 l1 x5_1).f0) ((rd_T56 l1 x5_1).f1) ((rd_T56 l1 x5_1).f2) false _ A7.out).mono ?_
        rintro e w12 ⟨rfl, hb⟩
        refine ⟨_, rfl, ?_⟩
        have n0_ := Aside0.mk (below_step (by repeat (first | (with_reducible first | exact HB.out | apply below_alloc | apply pw_below_drewN | apply below_drew1) | exact HB.out)) hb)
        clear HB
        have HB := n0_
        clear n0_
        (try clear hb)
        (try clear hb2)
        (try clear hk)
        (try clear hi)
        refine hK.out _ _ ⟨((HB.out.cell (World.block_lt_of_cell? _ _ hw256_0)).trans hw256_0), ((HB.out.cell (World.block_lt_of_cell? _ _ hw256_1)).trans hw256_1), ((HB.out.cell (World.block_lt_of_cell? _ _ hw256_2)).trans hw256_2), ((HB.out.cell (World.block_lt_of_cell? _ _ hw257_0)).trans hw257_0), ((HB.out.cell (World.block_lt_of_cell? _ _ hw257_1)).trans hw257_1), ((HB.out.cell (World.block_lt_of_cell? _ _ hw257_2)).trans hw257_2)⟩ (fun hHeld => ?_)
        clear hK K
        refine norm_ (a' := ?_) ?_ ?_
        rotate_left
        ·
         show Act.put _ (some 25) _ = _
         simp only [Act.put, List.setIfInBounds_toArray, List.set_cons_zero, List.set_cons_succ, i64_w, i32_w]
         rfl
        refine pure_ (i := 9) (N := some 26) (v := ?_) (a' := ?_) #[true, true, true, true, true, true, true, true, true, true] rfl rfl (any_of HT_.out (by kernel_rfl)) (fun _ _ _ h => h) (Or.inl ⟨by rfl, ?_⟩) ?_ ?_
        rotate_left
        ·
         intro w'
         go_simp
         with_reducible rfl
        rotate_left
        ·
         simp only [Act.put, List.setIfInBounds_toArray, List.set_cons_zero, List.set_cons_succ, i64_w, i32_w]
         rfl
        refine done_ (done_of HT_.out (by kernel_rfl)) ?_
        try go_wp2
        go_ret
        exact ⟨by first | rfl | (simp [errW_none, errW_some] <;> rfl) | (simp [*, errW_none, errW_some] <;> rfl), by repeat (first | (with_reducible first | exact HB.out | apply below_alloc | apply pw_below_drewN | apply below_drew1) | exact HB.out)⟩
      ·
       rw [if_neg c6] at H
       exact absurd H (by simp)
     ·
      rw [if_neg c5] at H
      exact absurd H (by simp)
    ·
     rw [if_neg c4] at H
     have c4b0 : decide (x5_1 < (l0.length : Int)) = false := decide_eq_false c4
     clear c4
     obtain rfl := Option.some.inj H
     go_wp2
     go_ret
     exact ⟨by first | rfl | (simp [errW_none, errW_some] <;> rfl) | (simp [*, errW_none, errW_some] <;> rfl), by repeat (first | (with_reducible first | exact HB.out | apply below_alloc | apply pw_below_drewN | apply below_drew1) | exact HB.out)⟩
 ·
  rw [if_neg c3] at H
  have c3b0 : ((l0.length : Int) == (l1.length : Int)) = false := beq_eq_false_iff_ne.mpr c3
  have c3b1 : ((l0.length : Int) != (l1.length : Int)) = true := bne_iff_ne.mpr c3
  have c3b2 : (l0.length == l1.length) = false := by first | simpa using c3 | (simp at c3 ⊢; omega)
  obtain rfl := Option.some.inj H
  go_enter Tryd.func61, Tryd.ntmps61
  go_wp2
  go_ret
  exact ⟨by first | rfl | (simp [errW_none, errW_some] <;> rfl) | (simp [*, errW_none, errW_some] <;> rfl), by repeat (first | (with_reducible first | exact HB.out | apply below_alloc | apply pw_below_drewN | apply below_drew1) | exact HB.out)⟩
def laws_eqRope.f (k : Nat) (l0_0 : List (S30)) (l0_1 : List (S56)) (l1_0 : List (S30)) (l1_1 : List (S56)) : Option (Bool) := (laws_eqRopeNodeS.f k l0_0 l1_0).bind fun t261 => (if t261 = true then ((laws_eqMarkS.f k l0_1 l1_1).bind fun t262 => (if t262 = true then (some true) else (some false))) else (some false))
theorem laws_eqRope.mono : ∀ a0 a1 a2 a3 k, LeO (laws_eqRope.f k a0 a1 a2 a3) (laws_eqRope.f (k + 1) a0 a1 a2 a3) := by
 intro a0 a1 a2 a3 k
 unfold laws_eqRope.f
 repeat' first
   | (with_reducible exact laws_eqMarkS.mono _ _ _)
   | (with_reducible exact laws_eqRopeNodeS.mono _ _ _)
   | (with_reducible exact LeO.refl _)
   | (with_reducible exact LeO.none _)
   | (with_reducible refine LeO.ite ?_ ?_)
   | (with_reducible refine LeO.bind ?_ (fun _ => ?_))
   | exact laws_eqMarkS.mono _ _ _
   | exact laws_eqRopeNodeS.mono _ _ _
   | exact LeO.none _
   | refine LeO.ite ?_ ?_
   | refine LeO.bind ?_ (fun _ => ?_)
set_option maxHeartbeats 8000000 in
set_option maxRecDepth 100000 in
theorem laws_eqRope.calls (k : Nat) (A0_0 : Option Addr) (c0_0 : Nat) (l0_0 : List (S30)) (A0_1 : Option Addr) (c0_1 : Nat) (l0_1 : List (S56)) (A1_0 : Option Addr) (c1_0 : Nat) (l1_0 : List (S30)) (A1_1 : Option Addr) (c1_1 : Nat) (l1_1 : List (S56)) (r : Bool) (w : World) (hr0_0 : Kd.C k30 w A0_0 l0_0.length l0_0) (hc0_0 : l0_0.length ≤ c0_0) (hr0_1 : Kd.C k56 w A0_1 l0_1.length l0_1) (hc0_1 : l0_1.length ≤ c0_1) (hr1_0 : Kd.C k30 w A1_0 l1_0.length l1_0) (hc1_0 : l1_0.length ≤ c1_0) (hr1_1 : Kd.C k56 w A1_1 l1_1.length l1_1) (hc1_1 : l1_1.length ≤ c1_1) (h : laws_eqRope.f k l0_0 l0_1 l1_0 l1_1 = some r) :
  Calls Tryd.prog 24 #[.agg #[.slice A0_0 l0_0.length c0_0, .slice A0_1 l0_1.length c0_1], .agg #[.slice A1_0 l1_0.length c1_0, .slice A1_1 l1_1.length c1_1]] w fun e w' => e = .returned (.bool r) ∧ Below w.heap.size w w' := by
 have hu27 := Tryd.underlying27
 have HR0_0 := Aside0.mk hr0_0
 have HC0_0 := Aside0.mk hc0_0
 clear hr0_0 hc0_0
 have HR0_1 := Aside0.mk hr0_1
 have HC0_1 := Aside0.mk hc0_1
 clear hr0_1 hc0_1
 have HR1_0 := Aside0.mk hr1_0
 have HC1_0 := Aside0.mk hc1_0
 clear hr1_0 hc1_0
 have HR1_1 := Aside0.mk hr1_1
 have HC1_1 := Aside0.mk hc1_1
 clear hr1_1 hc1_1
 have HB := Aside0.mk (Below.refl w.heap.size w)
 have H : ((laws_eqRopeNodeS.f k l0_0 l1_0).bind fun t261 => (if t261 = true then ((laws_eqMarkS.f k l0_1 l1_1).bind fun t262 => (if t262 = true then (some true) else (some false))) else (some false))) = some r := h
 clear h
 replace H := Option.bind_eq_some_iff.mp H
 obtain ⟨t261, A30, H⟩ := H
 replace H : (if t261 = true then ((laws_eqMarkS.f k l0_1 l1_1).bind fun t262 => (if t262 = true then (some true) else (some false))) else (some false)) = some r := H
 have A3 := Aside0.mk A30
 clear A30
 by_cases c4 : t261 = true
 ·
  subst c4
  have H1 : ((laws_eqMarkS.f k l0_1 l1_1).bind fun t262 => (if t262 = true then (some true) else (some false))) = some r := by rw [if_pos rfl] at H; exact H
  clear H
  have H := H1
  clear H1
  replace H := Option.bind_eq_some_iff.mp H
  obtain ⟨t262, A50, H⟩ := H
  replace H : (if t262 = true then (some true) else (some false)) = some r := H
  have A5 := Aside0.mk A50
  clear A50
  by_cases c6 : t262 = true
  ·
   subst c6
   have H1 : (some true) = some r := by rw [if_pos rfl] at H; exact H
   clear H
   have H := H1
   clear H1
   obtain rfl := Option.some.inj H
   go_enter Tryd.func24, Tryd.ntmps24
   go_wp2_with (first | ((with_reducible refine gate_dst (N := 2) rfl ?_); refine box_event ?hg (N := 2) ?hd (cs := #[.slice A0_0 l0_0.length c0_0, .slice A0_1 l0_1.length c0_1]) (t := 27) ?hr ?_; (case hd => rfl); (case hg => rfl); (case hr => first | (go_simp; done) | (go_simp; rfl)); intro gb259 hg w7 hbox hb; have n0_ := Aside0.mk (below_step (by repeat (first | (with_reducible first | exact HB.out | apply below_alloc | apply pw_below_drewN | apply below_drew1) | exact HB.out)) hb); have n1_ := Aside0.mk (hbox); have n2_ := Aside0.mk ((by rw [hg]; exact (below_size (by repeat (first | (with_reducible first | exact HB.out | apply below_alloc | apply pw_below_drewN | apply below_drew1) | exact HB.out))) : w.heap.size ≤ gb259)); have n3_ := Aside0.mk ((by rw [hg]; exact (below_size (by repeat (first | (with_reducible first | exact HB.out | apply below_alloc | apply pw_below_drewN | apply below_drew1) | exact HB.out))) : w.heap.size ≤ gb259)); clear HB; have HB := n0_; have BK259 := n1_; have GW259 := n2_; have GE259 := n3_; clear n0_ n1_ n2_ n3_; clear hb hbox hg) | ((with_reducible refine gate_dst (N := 3) rfl ?_); refine box_event ?hg (N := 3) ?hd (cs := #[.slice A1_0 l1_0.length c1_0, .slice A1_1 l1_1.length c1_1]) (t := 27) ?hr ?_; (case hd => rfl); (case hg => rfl); (case hr => first | (go_simp; done) | (go_simp; rfl)); intro gb260 hg w8 hbox hb; have n0_ := Aside0.mk (blk_below (g := gb259) (o := .cells #[.slice A0_0 l0_0.length c0_0, .slice A0_1 l0_1.length c0_1] 27 (0, 0)) (by (with_reducible repeat (first | refine blk_drewN ?_ _ | refine blk_drew ?_ | refine blk_alloc ?_ _)); exact BK259.out) hb); have n1_ := Aside0.mk (below_step (by repeat (first | (with_reducible first | exact HB.out | apply below_alloc | apply pw_below_drewN | apply below_drew1 | refine below_set ?_ GE259.out) | exact HB.out)) hb); have n2_ := Aside0.mk (hbox); have n3_ := Aside0.mk ((by rw [hg]; exact (below_size (by repeat (first | (with_reducible first | exact HB.out | apply below_alloc | apply pw_below_drewN | apply below_drew1 | refine below_set ?_ GE259.out) | exact HB.out))) : w.heap.size ≤ gb260)); have n4_ := Aside0.mk ((by rw [hg]; exact (below_size (by repeat (first | (with_reducible first | exact HB.out | apply below_alloc | apply pw_below_drewN | apply below_drew1 | refine below_set ?_ GE259.out) | exact HB.out))) : w.heap.size ≤ gb260)); have n5_ := Aside0.mk ((by rw [hg]; exact Nat.ne_of_lt (blk_lt (g := gb259) (o := .cells #[.slice A0_0 l0_0.length c0_0, .slice A0_1 l0_1.length c0_1] 27 (0, 0)) (by (with_reducible repeat (first | refine blk_drewN ?_ _ | refine blk_drew ?_ | refine blk_alloc ?_ _)); exact BK259.out)) : gb259 ≠ gb260)); have n6_ := Aside0.mk ((by rw [hg]; exact Nat.ne_of_gt (blk_lt (g := gb259) (o := .cells #[.slice A0_0 l0_0.length c0_0, .slice A0_1 l0_1.length c0_1] 27 (0, 0)) (by (with_reducible repeat (first | refine blk_drewN ?_ _ | refine blk_drew ?_ | refine blk_alloc ?_ _)); exact BK259.out)) : gb260 ≠ gb259)); clear BK259; clear HB; have BK259 := n0_; have HB := n1_; have BK260 := n2_; have GW260 := n3_; have GE260 := n4_; have NB259_260 := n5_; have NB260_259 := n6_; clear n0_ n1_ n2_ n3_ n4_ n5_ n6_; clear hb hbox hg; have hnb9 := NB259_260.out; have hnc9 := NB260_259.out; have hcz10_0 : w8.cell? ⟨gb259, 0, none⟩ = some (.slice A0_0 l0_0.length c0_0) := (blk_cell BK259.out 0).trans rfl; have hcz10_1 : w8.cell? ⟨gb259, 1, none⟩ = some (.slice A0_1 l0_1.length c0_1) := (blk_cell BK259.out 1).trans rfl; have hfz10_0 := blk_frozen BK259.out 0; have hfz10_1 := blk_frozen BK259.out 1; have hcz11_0 : w8.cell? ⟨gb260, 0, none⟩ = some (.slice A1_0 l1_0.length c1_0) := (blk_cell BK260.out 0).trans rfl; have hcz11_1 : w8.cell? ⟨gb260, 1, none⟩ = some (.slice A1_1 l1_1.length c1_1) := (blk_cell BK260.out 1).trans rfl; have hfz11_0 := blk_frozen BK260.out 0; have hfz11_1 := blk_frozen BK260.out 1) | ((with_reducible refine gate_callee (f := 60) rfl ?_); refine goesL_ (some 9) rfl rfl Tryd.func60 (by kernel_rfl) rfl #[.slice A0_0 l0_0.length c0_0, .slice A1_0 l1_0.length c1_0] rfl (by (try simp only [List.map_toArray, List.map_cons, List.map_nil]); first | done | rfl | (simp only [List.length_drop, List.length_take]; rfl)) ?_; (with_reducible refine (laws_eqRopeNodeS.calls k _ _ l0_0 _ _ l1_0 true _ ?side1 ?side2 ?side3 ?side4 A3.out).mono ?_); (case side1 => repeat (first | exact (Kd.C_below HR0_0.out HB.out) | (with_reducible refine Kd.C_alloc ?_ _) | (with_reducible refine Kd.C_drewN ?_ _) | (with_reducible refine Kd.C_drew ?_))); (case side2 => exact HC0_0.out); (case side3 => repeat (first | exact (Kd.C_below HR1_0.out HB.out) | (with_reducible refine Kd.C_alloc ?_ _) | (with_reducible refine Kd.C_drewN ?_ _) | (with_reducible refine Kd.C_drew ?_))); (case side4 => exact HC1_0.out); rintro e w12 ⟨rfl, hb⟩; refine ⟨_, rfl, ?_⟩; have n0_ := Aside0.mk (blk_below (g := gb259) (o := .cells #[.slice A0_0 l0_0.length c0_0, .slice A0_1 l0_1.length c0_1] 27 (0, 0)) (by (with_reducible repeat (first | refine blk_drewN ?_ _ | refine blk_drew ?_ | refine blk_alloc ?_ _)); exact BK259.out) hb); have n1_ := Aside0.mk (blk_below (g := gb260) (o := .cells #[.slice A1_0 l1_0.length c1_0, .slice A1_1 l1_1.length c1_1] 27 (0, 0)) (by (with_reducible repeat (first | refine blk_drewN ?_ _ | refine blk_drew ?_ | refine blk_alloc ?_ _)); exact BK260.out) hb); have n2_ := Aside0.mk (below_step (by repeat (first | (with_reducible first | exact HB.out | apply below_alloc | apply pw_below_drewN | apply below_drew1 | refine below_set ?_ GE259.out | refine below_set ?_ GE260.out) | exact HB.out)) hb); clear BK259; clear BK260; clear HB; have BK259 := n0_; have BK260 := n1_; have HB := n2_; clear n0_ n1_ n2_; (try clear hb); (try clear hb2); (try clear hk); (try clear hi); have hcz13_0 : w12.cell? ⟨gb259, 0, none⟩ = some (.slice A0_0 l0_0.length c0_0) := (blk_cell BK259.out 0).trans rfl; have hcz13_1 : w12.cell? ⟨gb259, 1, none⟩ = some (.slice A0_1 l0_1.length c0_1) := (blk_cell BK259.out 1).trans rfl; have hfz13_0 := blk_frozen BK259.out 0; have hfz13_1 := blk_frozen BK259.out 1; have hcz14_0 : w12.cell? ⟨gb260, 0, none⟩ = some (.slice A1_0 l1_0.length c1_0) := (blk_cell BK260.out 0).trans rfl; have hcz14_1 : w12.cell? ⟨gb260, 1, none⟩ = some (.slice A1_1 l1_1.length c1_1) := (blk_cell BK260.out 1).trans rfl; have hfz14_0 := blk_frozen BK260.out 0; have hfz14_1 := blk_frozen BK260.out 1) | ((with_reducible refine gate_callee (f := 61) rfl ?_); refine goesL_ (some 15) rfl rfl Tryd.func61 (by kernel_rfl) rfl #[.slice A0_1 l0_1.length c0_1, .slice A1_1 l1_1.length c1_1] rfl (by (try simp only [List.map_toArray, List.map_cons, List.map_nil]); first | done | rfl | (simp only [List.length_drop, List.length_take]; rfl)) ?_; (with_reducible refine (laws_eqMarkS.calls k _ _ l0_1 _ _ l1_1 true _ ?side1 ?side2 ?side3 ?side4 A5.out).mono ?_); (case side1 => repeat (first | exact (Kd.C_below HR0_1.out HB.out) | (with_reducible refine Kd.C_alloc ?_ _) | (with_reducible refine Kd.C_drewN ?_ _) | (with_reducible refine Kd.C_drew ?_))); (case side2 => exact HC0_1.out); (case side3 => repeat (first | exact (Kd.C_below HR1_1.out HB.out) | (with_reducible refine Kd.C_alloc ?_ _) | (with_reducible refine Kd.C_drewN ?_ _) | (with_reducible refine Kd.C_drew ?_))); (case side4 => exact HC1_1.out); rintro e w15 ⟨rfl, hb⟩; refine ⟨_, rfl, ?_⟩; have n0_ := Aside0.mk (blk_below (g := gb259) (o := .cells #[.slice A0_0 l0_0.length c0_0, .slice A0_1 l0_1.length c0_1] 27 (0, 0)) (by (with_reducible repeat (first | refine blk_drewN ?_ _ | refine blk_drew ?_ | refine blk_alloc ?_ _)); exact BK259.out) hb); have n1_ := Aside0.mk (blk_below (g := gb260) (o := .cells #[.slice A1_0 l1_0.length c1_0, .slice A1_1 l1_1.length c1_1] 27 (0, 0)) (by (with_reducible repeat (first | refine blk_drewN ?_ _ | refine blk_drew ?_ | refine blk_alloc ?_ _)); exact BK260.out) hb); have n2_ := Aside0.mk (below_step (by repeat (first | (with_reducible first | exact HB.out | apply below_alloc | apply pw_below_drewN | apply below_drew1 | refine below_set ?_ GE259.out | refine below_set ?_ GE260.out) | exact HB.out)) hb); clear BK259; clear BK260; clear HB; have BK259 := n0_; have BK260 := n1_; have HB := n2_; clear n0_ n1_ n2_; (try clear hb); (try clear hb2); (try clear hk); (try clear hi)))
   go_ret
   exact ⟨by first | rfl | (simp [errW_none, errW_some] <;> rfl) | (simp [*, errW_none, errW_some] <;> rfl), by repeat (first | (with_reducible first | exact HB.out | apply below_alloc | apply pw_below_drewN | apply below_drew1 | refine below_set ?_ GE259.out | refine below_set ?_ GE260.out) | exact HB.out)⟩
  ·
   replace c6 := Bool.eq_false_iff.mpr c6
   subst c6
   have H1 : (some false) = some r := by rw [if_neg (show ¬ (false = true) by decide)] at H; exact H
   clear H
   have H := H1
   clear H1
   obtain rfl := Option.some.inj H
   go_enter Tryd.func24, Tryd.ntmps24
   go_wp2_with (first | ((with_reducible refine gate_dst (N := 2) rfl ?_); refine box_event ?hg (N := 2) ?hd (cs := #[.slice A0_0 l0_0.length c0_0, .slice A0_1 l0_1.length c0_1]) (t := 27) ?hr ?_; (case hd => rfl); (case hg => rfl); (case hr => first | (go_simp; done) | (go_simp; rfl)); intro gb259 hg w16 hbox hb; have n0_ := Aside0.mk (below_step (by repeat (first | (with_reducible first | exact HB.out | apply below_alloc | apply pw_below_drewN | apply below_drew1) | exact HB.out)) hb); have n1_ := Aside0.mk (hbox); have n2_ := Aside0.mk ((by rw [hg]; exact (below_size (by repeat (first | (with_reducible first | exact HB.out | apply below_alloc | apply pw_below_drewN | apply below_drew1) | exact HB.out))) : w.heap.size ≤ gb259)); have n3_ := Aside0.mk ((by rw [hg]; exact (below_size (by repeat (first | (with_reducible first | exact HB.out | apply below_alloc | apply pw_below_drewN | apply below_drew1) | exact HB.out))) : w.heap.size ≤ gb259)); clear HB; have HB := n0_; have BK259 := n1_; have GW259 := n2_; have GE259 := n3_; clear n0_ n1_ n2_ n3_; clear hb hbox hg) | ((with_reducible refine gate_dst (N := 3) rfl ?_); refine box_event ?hg (N := 3) ?hd (cs := #[.slice A1_0 l1_0.length c1_0, .slice A1_1 l1_1.length c1_1]) (t := 27) ?hr ?_; (case hd => rfl); (case hg => rfl); (case hr => first | (go_simp; done) | (go_simp; rfl)); intro gb260 hg w17 hbox hb; have n0_ := Aside0.mk (blk_below (g := gb259) (o := .cells #[.slice A0_0 l0_0.length c0_0, .slice A0_1 l0_1.length c0_1] 27 (0, 0)) (by (with_reducible repeat (first | refine blk_drewN ?_ _ | refine blk_drew ?_ | refine blk_alloc ?_ _)); exact BK259.out) hb); have n1_ := Aside0.mk (below_step (by repeat (first | (with_reducible first | exact HB.out | apply below_alloc | apply pw_below_drewN | apply below_drew1 | refine below_set ?_ GE259.out) | exact HB.out)) hb); have n2_ := Aside0.mk (hbox); have n3_ := Aside0.mk ((by rw [hg]; exact (below_size (by repeat (first | (with_reducible first | exact HB.out | apply below_alloc | apply pw_below_drewN | apply below_drew1 | refine below_set ?_ GE259.out) | exact HB.out))) : w.heap.size ≤ gb260)); have n4_ := Aside0.mk ((by rw [hg]; exact (below_size (by repeat (first | (with_reducible first | exact HB.out | apply below_alloc | apply pw_below_drewN | apply below_drew1 | refine below_set ?_ GE259.out) | exact HB.out))) : w.heap.size ≤ gb260)); have n5_ := Aside0.mk ((by rw [hg]; exact Nat.ne_of_lt (blk_lt (g := gb259) (o := .cells #[.slice A0_0 l0_0.length c0_0, .slice A0_1 l0_1.length c0_1] 27 (0, 0)) (by (with_reducible repeat (first | refine blk_drewN ?_ _ | refine blk_drew ?_ | refine blk_alloc ?_ _)); exact BK259.out)) : gb259 ≠ gb260)); have n6_ := Aside0.mk ((by rw [hg]; exact Nat.ne_of_gt (blk_lt (g := gb259) (o := .cells #[.slice A0_0 l0_0.length c0_0, .slice A0_1 l0_1.length c0_1] 27 (0, 0)) (by (with_reducible repeat (first | refine blk_drewN ?_ _ | refine blk_drew ?_ | refine blk_alloc ?_ _)); exact BK259.out)) : gb260 ≠ gb259)); clear BK259; clear HB; have BK259 := n0_; have HB := n1_; have BK260 := n2_; have GW260 := n3_; have GE260 := n4_; have NB259_260 := n5_; have NB260_259 := n6_; clear n0_ n1_ n2_ n3_ n4_ n5_ n6_; clear hb hbox hg; have hnb18 := NB259_260.out; have hnc18 := NB260_259.out; have hcz19_0 : w17.cell? ⟨gb259, 0, none⟩ = some (.slice A0_0 l0_0.length c0_0) := (blk_cell BK259.out 0).trans rfl; have hcz19_1 : w17.cell? ⟨gb259, 1, none⟩ = some (.slice A0_1 l0_1.length c0_1) := (blk_cell BK259.out 1).trans rfl; have hfz19_0 := blk_frozen BK259.out 0; have hfz19_1 := blk_frozen BK259.out 1; have hcz20_0 : w17.cell? ⟨gb260, 0, none⟩ = some (.slice A1_0 l1_0.length c1_0) := (blk_cell BK260.out 0).trans rfl; have hcz20_1 : w17.cell? ⟨gb260, 1, none⟩ = some (.slice A1_1 l1_1.length c1_1) := (blk_cell BK260.out 1).trans rfl; have hfz20_0 := blk_frozen BK260.out 0; have hfz20_1 := blk_frozen BK260.out 1) | ((with_reducible refine gate_callee (f := 60) rfl ?_); refine goesL_ (some 9) rfl rfl Tryd.func60 (by kernel_rfl) rfl #[.slice A0_0 l0_0.length c0_0, .slice A1_0 l1_0.length c1_0] rfl (by (try simp only [List.map_toArray, List.map_cons, List.map_nil]); first | done | rfl | (simp only [List.length_drop, List.length_take]; rfl)) ?_; (with_reducible refine (laws_eqRopeNodeS.calls k _ _ l0_0 _ _ l1_0 true _ ?side1 ?side2 ?side3 ?side4 A3.out).mono ?_); (case side1 => repeat (first | exact (Kd.C_below HR0_0.out HB.out) | (with_reducible refine Kd.C_alloc ?_ _) | (with_reducible refine Kd.C_drewN ?_ _) | (with_reducible refine Kd.C_drew ?_))); (case side2 => exact HC0_0.out); (case side3 => repeat (first | exact (Kd.C_below HR1_0.out HB.out) | (with_reducible refine Kd.C_alloc ?_ _) | (with_reducible refine Kd.C_drewN ?_ _) | (with_reducible refine Kd.C_drew ?_))); (case side4 => exact HC1_0.out); rintro e w21 ⟨rfl, hb⟩; refine ⟨_, rfl, ?_⟩; have n0_ := Aside0.mk (blk_below (g := gb259) (o := .cells #[.slice A0_0 l0_0.length c0_0, .slice A0_1 l0_1.length c0_1] 27 (0, 0)) (by (with_reducible repeat (first | refine blk_drewN ?_ _ | refine blk_drew ?_ | refine blk_alloc ?_ _)); exact BK259.out) hb); have n1_ := Aside0.mk (blk_below (g := gb260) (o := .cells #[.slice A1_0 l1_0.length c1_0, .slice A1_1 l1_1.length c1_1] 27 (0, 0)) (by (with_reducible repeat (first | refine blk_drewN ?_ _ | refine blk_drew ?_ | refine blk_alloc ?_ _)); exact BK260.out) hb); have n2_ := Aside0.mk (below_step (by repeat (first | (with_reducible first | exact HB.out | apply below_alloc | apply pw_below_drewN | apply below_drew1 | refine below_set ?_ GE259.out | refine below_set ?_ GE260.out) | exact HB.out)) hb); clear BK259; clear BK260; clear HB; have BK259 := n0_; have BK260 := n1_; have HB := n2_; clear n0_ n1_ n2_; (try clear hb); (try clear hb2); (try clear hk); (try clear hi); have hcz22_0 : w21.cell? ⟨gb259, 0, none⟩ = some (.slice A0_0 l0_0.length c0_0) := (blk_cell BK259.out 0).trans rfl; have hcz22_1 : w21.cell? ⟨gb259, 1, none⟩ = some (.slice A0_1 l0_1.length c0_1) := (blk_cell BK259.out 1).trans rfl; have hfz22_0 := blk_frozen BK259.out 0; have hfz22_1 := blk_frozen BK259.out 1; have hcz23_0 : w21.cell? ⟨gb260, 0, none⟩ = some (.slice A1_0 l1_0.length c1_0) := (blk_cell BK260.out 0).trans rfl; have hcz23_1 : w21.cell? ⟨gb260, 1, none⟩ = some (.slice A1_1 l1_1.length c1_1) := (blk_cell BK260.out 1).trans rfl; have hfz23_0 := blk_frozen BK260.out 0; have hfz23_1 := blk_frozen BK260.out 1) | ((with_reducible refine gate_callee (f := 61) rfl ?_); refine goesL_ (some 15) rfl rfl Tryd.func61 (by kernel_rfl) rfl #[.slice A0_1 l0_1.length c0_1, .slice A1_1 l1_1.length c1_1] rfl (by (try simp only [List.map_toArray, List.map_cons, List.map_nil]); first | done | rfl | (simp only [List.length_drop, List.length_take]; rfl)) ?_; (with_reducible refine (laws_eqMarkS.calls k _ _ l0_1 _ _ l1_1 false _ ?side1 ?side2 ?side3 ?side4 A5.out).mono ?_); (case side1 => repeat (first | exact (Kd.C_below HR0_1.out HB.out) | (with_reducible refine Kd.C_alloc ?_ _) | (with_reducible refine Kd.C_drewN ?_ _) | (with_reducible refine Kd.C_drew ?_))); (case side2 => exact HC0_1.out); (case side3 => repeat (first | exact (Kd.C_below HR1_1.out HB.out) | (with_reducible refine Kd.C_alloc ?_ _) | (with_reducible refine Kd.C_drewN ?_ _) | (with_reducible refine Kd.C_drew ?_))); (case side4 => exact HC1_1.out); rintro e w24 ⟨rfl, hb⟩; refine ⟨_, rfl, ?_⟩; have n0_ := Aside0.mk (blk_below (g := gb259) (o := .cells #[.slice A0_0 l0_0.length c0_0, .slice A0_1 l0_1.length c0_1] 27 (0, 0)) (by (with_reducible repeat (first | refine blk_drewN ?_ _ | refine blk_drew ?_ | refine blk_alloc ?_ _)); exact BK259.out) hb); have n1_ := Aside0.mk (blk_below (g := gb260) (o := .cells #[.slice A1_0 l1_0.length c1_0, .slice A1_1 l1_1.length c1_1] 27 (0, 0)) (by (with_reducible repeat (first | refine blk_drewN ?_ _ | refine blk_drew ?_ | refine blk_alloc ?_ _)); exact BK260.out) hb); have n2_ := Aside0.mk (below_step (by repeat (first | (with_reducible first | exact HB.out | apply below_alloc | apply pw_below_drewN | apply below_drew1 | refine below_set ?_ GE259.out | refine below_set ?_ GE260.out) | exact HB.out)) hb); clear BK259; clear BK260; clear HB; have BK259 := n0_; have BK260 := n1_; have HB := n2_; clear n0_ n1_ n2_; (try clear hb); (try clear hb2); (try clear hk); (try clear hi)))
   go_ret
   exact ⟨by first | rfl | (simp [errW_none, errW_some] <;> rfl) | (simp [*, errW_none, errW_some] <;> rfl), by repeat (first | (with_reducible first | exact HB.out | apply below_alloc | apply pw_below_drewN | apply below_drew1 | refine below_set ?_ GE259.out | refine below_set ?_ GE260.out) | exact HB.out)⟩
 ·
  replace c4 := Bool.eq_false_iff.mpr c4
  subst c4
  have H1 : (some false) = some r := by rw [if_neg (show ¬ (false = true) by decide)] at H; exact H
  clear H
  have H := H1
  clear H1
  obtain rfl := Option.some.inj H
  go_enter Tryd.func24, Tryd.ntmps24
  go_wp2_with (first | ((with_reducible refine gate_dst (N := 2) rfl ?_); refine box_event ?hg (N := 2) ?hd (cs := #[.slice A0_0 l0_0.length c0_0, .slice A0_1 l0_1.length c0_1]) (t := 27) ?hr ?_; (case hd => rfl); (case hg => rfl); (case hr => first | (go_simp; done) | (go_simp; rfl)); intro gb259 hg w25 hbox hb; have n0_ := Aside0.mk (below_step (by repeat (first | (with_reducible first | exact HB.out | apply below_alloc | apply pw_below_drewN | apply below_drew1) | exact HB.out)) hb); have n1_ := Aside0.mk (hbox); have n2_ := Aside0.mk ((by rw [hg]; exact (below_size (by repeat (first | (with_reducible first | exact HB.out | apply below_alloc | apply pw_below_drewN | apply below_drew1) | exact HB.out))) : w.heap.size ≤ gb259)); have n3_ := Aside0.mk ((by rw [hg]; exact (below_size (by repeat (first | (with_reducible first | exact HB.out | apply below_alloc | apply pw_below_drewN | apply below_drew1) | exact HB.out))) : w.heap.size ≤ gb259)); clear HB; have HB := n0_; have BK259 := n1_; have GW259 := n2_; have GE259 := n3_; clear n0_ n1_ n2_ n3_; clear hb hbox hg) | ((with_reducible refine gate_dst (N := 3) rfl ?_); refine box_event ?hg (N := 3) ?hd (cs := #[.slice A1_0 l1_0.length c1_0, .slice A1_1 l1_1.length c1_1]) (t := 27) ?hr ?_; (case hd => rfl); (case hg => rfl); (case hr => first | (go_simp; done) | (go_simp; rfl)); intro gb260 hg w26 hbox hb; have n0_ := Aside0.mk (blk_below (g := gb259) (o := .cells #[.slice A0_0 l0_0.length c0_0, .slice A0_1 l0_1.length c0_1] 27 (0, 0)) (by (with_reducible repeat (first | refine blk_drewN ?_ _ | refine blk_drew ?_ | refine blk_alloc ?_ _)); exact BK259.out) hb); have n1_ := Aside0.mk (below_step (by repeat (first | (with_reducible first | exact HB.out | apply below_alloc | apply pw_below_drewN | apply below_drew1 | refine below_set ?_ GE259.out) | exact HB.out)) hb); have n2_ := Aside0.mk (hbox); have n3_ := Aside0.mk ((by rw [hg]; exact (below_size (by repeat (first | (with_reducible first | exact HB.out | apply below_alloc | apply pw_below_drewN | apply below_drew1 | refine below_set ?_ GE259.out) | exact HB.out))) : w.heap.size ≤ gb260)); have n4_ := Aside0.mk ((by rw [hg]; exact (below_size (by repeat (first | (with_reducible first | exact HB.out | apply below_alloc | apply pw_below_drewN | apply below_drew1 | refine below_set ?_ GE259.out) | exact HB.out))) : w.heap.size ≤ gb260)); have n5_ := Aside0.mk ((by rw [hg]; exact Nat.ne_of_lt (blk_lt (g := gb259) (o := .cells #[.slice A0_0 l0_0.length c0_0, .slice A0_1 l0_1.length c0_1] 27 (0, 0)) (by (with_reducible repeat (first | refine blk_drewN ?_ _ | refine blk_drew ?_ | refine blk_alloc ?_ _)); exact BK259.out)) : gb259 ≠ gb260)); have n6_ := Aside0.mk ((by rw [hg]; exact Nat.ne_of_gt (blk_lt (g := gb259) (o := .cells #[.slice A0_0 l0_0.length c0_0, .slice A0_1 l0_1.length c0_1] 27 (0, 0)) (by (with_reducible repeat (first | refine blk_drewN ?_ _ | refine blk_drew ?_ | refine blk_alloc ?_ _)); exact BK259.out)) : gb260 ≠ gb259)); clear BK259; clear HB; have BK259 := n0_; have HB := n1_; have BK260 := n2_; have GW260 := n3_; have GE260 := n4_; have NB259_260 := n5_; have NB260_259 := n6_; clear n0_ n1_ n2_ n3_ n4_ n5_ n6_; clear hb hbox hg; have hnb27 := NB259_260.out; have hnc27 := NB260_259.out; have hcz28_0 : w26.cell? ⟨gb259, 0, none⟩ = some (.slice A0_0 l0_0.length c0_0) := (blk_cell BK259.out 0).trans rfl; have hcz28_1 : w26.cell? ⟨gb259, 1, none⟩ = some (.slice A0_1 l0_1.length c0_1) := (blk_cell BK259.out 1).trans rfl; have hfz28_0 := blk_frozen BK259.out 0; have hfz28_1 := blk_frozen BK259.out 1; have hcz29_0 : w26.cell? ⟨gb260, 0, none⟩ = some (.slice A1_0 l1_0.length c1_0) := (blk_cell BK260.out 0).trans rfl; have hcz29_1 : w26.cell? ⟨gb260, 1, none⟩ = some (.slice A1_1 l1_1.length c1_1) := (blk_cell BK260.out 1).trans rfl; have hfz29_0 := blk_frozen BK260.out 0; have hfz29_1 := blk_frozen BK260.out 1) | ((with_reducible refine gate_callee (f := 60) rfl ?_); refine goesL_ (some 9) rfl rfl Tryd.func60 (by kernel_rfl) rfl #[.slice A0_0 l0_0.length c0_0, .slice A1_0 l1_0.length c1_0] rfl (by (try simp only [List.map_toArray, List.map_cons, List.map_nil]); first | done | rfl | (simp only [List.length_drop, List.length_take]; rfl)) ?_; (with_reducible refine (laws_eqRopeNodeS.calls k _ _ l0_0 _ _ l1_0 false _ ?side1 ?side2 ?side3 ?side4 A3.out).mono ?_); (case side1 => repeat (first | exact (Kd.C_below HR0_0.out HB.out) | (with_reducible refine Kd.C_alloc ?_ _) | (with_reducible refine Kd.C_drewN ?_ _) | (with_reducible refine Kd.C_drew ?_))); (case side2 => exact HC0_0.out); (case side3 => repeat (first | exact (Kd.C_below HR1_0.out HB.out) | (with_reducible refine Kd.C_alloc ?_ _) | (with_reducible refine Kd.C_drewN ?_ _) | (with_reducible refine Kd.C_drew ?_))); (case side4 => exact HC1_0.out); rintro e w30 ⟨rfl, hb⟩; refine ⟨_, rfl, ?_⟩; have n0_ := Aside0.mk (blk_below (g := gb259) (o := .cells #[.slice A0_0 l0_0.length c0_0, .slice A0_1 l0_1.length c0_1] 27 (0, 0)) (by (with_reducible repeat (first | refine blk_drewN ?_ _ | refine blk_drew ?_ | refine blk_alloc ?_ _)); exact BK259.out) hb); have n1_ := Aside0.mk (blk_below (g := gb260) (o := .cells #[.slice A1_0 l1_0.length c1_0, .slice A1_1 l1_1.length c1_1] 27 (0, 0)) (by (with_reducible repeat (first | refine blk_drewN ?_ _ | refine blk_drew ?_ | refine blk_alloc ?_ _)); exact BK260.out) hb); have n2_ := Aside0.mk (below_step (by repeat (first | (with_reducible first | exact HB.out | apply below_alloc | apply pw_below_drewN | apply below_drew1 | refine below_set ?_ GE259.out | refine below_set ?_ GE260.out) | exact HB.out)) hb); clear BK259; clear BK260; clear HB; have BK259 := n0_; have BK260 := n1_; have HB := n2_; clear n0_ n1_ n2_; (try clear hb); (try clear hb2); (try clear hk); (try clear hi)))
  go_ret
  exact ⟨by first | rfl | (simp [errW_none, errW_some] <;> rfl) | (simp [*, errW_none, errW_some] <;> rfl), by repeat (first | (with_reducible first | exact HB.out | apply below_alloc | apply pw_below_drewN | apply below_drew1 | refine below_set ?_ GE259.out | refine below_set ?_ GE260.out) | exact HB.out)⟩
end Go.Proofs.YtmfnipkfpjpjeaaDoor.PR
end
section
namespace Go.Proofs.YtmfnipkfpjpjeaaDoor.PR
open Go.RowKit Go.Proofs.YtmfnipkfpjpjeaaDoorW.PrintWords Go.Proofs.YtmfnipkfpjpjeaaDoorW.PrintLast Go.Deep
set_option linter.unusedVariables false
theorem choose_elem {α : Type} (z : α) {n : Nat} {p : Nat → α → Prop} (h : ∀ i, i < n → ∃ x, p i x) : ∃ f : Nat → α, ∀ i, i < n → p i (f i) := by
  refine ⟨fun i => if hi : i < n then Classical.choose (h i hi) else z, fun i hi => ?_⟩
  simp only [hi, dif_pos]
  exact Classical.choose_spec (h i hi)
theorem read_slice {α : Type} {H : Type} {enc : TypeId × Value → H} {P : Program} {w : World} {base : Nat} {sp : Nat → Bool} {held : Bool} (K : Kd α) (z : α) (t e : TypeId) (ht : P.underlying t = some (.slice e)) (hc : P.cellsOf e = K.sz) (good : α → Prop)
    (elem : ∀ n cs x, DataW.trod enc P w base sp held n e cs = some x → ∃ y, K.K w y cs ∧ good y) {fuel : Nat} {cs : List Value} {x : DataW H × List MemPlace} (h : DataW.trod enc P w base sp held fuel t cs = some x) :
    ∃ A c, ∃ l : List α, cs = [.slice A l.length c] ∧ l.length ≤ c ∧ c ≤ maxLen ∧ K.C w A l.length l ∧ ∀ y ∈ l, good y := by
  rcases open_slice ht h with ⟨rfl, _⟩ | ⟨a, len, cap, m, n, D, Pl, rfl, _, hl, hm, hmm, _, hx⟩
  · exact ⟨none, 0, [], rfl, Nat.le_refl _, Nat.zero_le _, ⟨rfl, by simp, fun h0 => absurd h0 (by simp)⟩, by simp⟩
  · have hlm : len ≤ m := by rw [hmm]; split <;> omega
    obtain ⟨f, hf⟩ := choose_elem z (n := len) (p := fun i y => ∃ cs', cs'.length = K.sz ∧ K.K w y cs' ∧ (∀ j u, cs'[j]? = some u → w.cell? (a.add (i * K.sz + j)) = some u) ∧ good y) (fun i hi => by
      obtain ⟨cs', h1, h2⟩ := hx i (by omega)
      rw [hc] at h1
      obtain ⟨y, hy, hg⟩ := elem _ _ _ h2
      obtain ⟨_, h3, h4⟩ := World.cells?_some h1
      refine ⟨y, cs', K.K_len hy, hy, fun j u hu => ?_, hg⟩
      have hj : j < cs'.length := by
        rcases Nat.lt_or_ge j cs'.length with hj | hj
        · exact hj
        · rw [List.getElem?_eq_none hj] at hu; cases hu
      have h5 := h4 j (by omega)
      rw [hu] at h5
      rw [Addr.add_add] at h5
      exact h5)
    refine ⟨some a, cap, (List.range len).map f, by simp, by simpa using hl, hm, ⟨rfl, ?_, fun _ => ⟨a, rfl, fun j p hp => ?_⟩⟩, fun y hy => ?_⟩
    · have : maxLen ≤ 9223372036854775807 := by decide
      simp only [List.length_map, List.length_range]; omega
    · rw [List.getElem?_map] at hp
      have hj : j < len := by
        rcases Nat.lt_or_ge j len with hj | hj
        · exact hj
        · rw [List.getElem?_eq_none (by simpa using hj)] at hp; cases hp
      rw [List.getElem?_range hj] at hp
      simp only [Option.map_some, Option.some.injEq] at hp
      subst hp
      obtain ⟨c, h1, h2, h3, _⟩ := hf j hj
      exact ⟨c, h1, h2, h3⟩
    · simp only [List.mem_map, List.mem_range] at hy
      obtain ⟨i, hi, rfl⟩ := hy
      obtain ⟨_, _, _, _, hg⟩ := hf i hi
      exact hg
def good122 (y : S122) : Prop := y.f0.size ≤ maxLen ∧ (Lit.int .i64 y.f1).wf = true ∧ (Lit.int .i64 y.f2).wf = true ∧ (Lit.int .i64 y.f3).wf = true ∧ (Lit.int .i64 y.f4).wf = true
set_option maxRecDepth 100000 in
theorem elem122 {H : Type} {enc : TypeId × Value → H} {w : World} {base : Nat} {sp : Nat → Bool} {held : Bool} (n : Nat) (cs : List Value) (x : DataW H × List MemPlace) (h : DataW.trod enc Tryd.prog w base sp held n 122 cs = some x) : ∃ y : S122, k122.K w y cs ∧ good122 y := by
  obtain ⟨xs, n', rfl, _, hl, hxl, hall⟩ := DataW.trod_struct Tryd.underlying122 h
  replace hl := hl.trans (show Tryd.prog.cellsOf 122 = 5 by kernel_rfl)
  match cs, hl with
  | [c0, c1, c2, c3, c4], _ =>
    have hx : ∀ i, i < 5 → ∃ y, xs[i]? = some y := fun i hi => ⟨xs[i]'(by rw [hxl]; exact hi), List.getElem?_eq_getElem _⟩
    obtain ⟨y0, e0⟩ := hx 0 (by decide)
    have h0 := (hall 0 _ rfl).trans e0
    have z0 : Tryd.prog.cellsOf 9 = 1 := by kernel_rfl
    replace h0 : DataW.trod enc Tryd.prog w base sp held n' 9 (List.take (Tryd.prog.cellsOf 9) (List.drop 0 [c0, c1, c2, c3, c4])) = some y0 := h0
    rw [z0] at h0
    replace h0 : DataW.trod enc Tryd.prog w base sp held n' 9 [c0] = some y0 := h0
    obtain ⟨s0, q0, _, hs0⟩ := DataW.trod_string Tryd.underlying9 h0
    simp only [List.cons.injEq, and_true] at q0
    obtain ⟨y1, e1⟩ := hx 1 (by decide)
    have h1 := (hall 1 _ rfl).trans e1
    have z1 : Tryd.prog.cellsOf 2 = 1 := by kernel_rfl
    replace h1 : DataW.trod enc Tryd.prog w base sp held n' 2 (List.take (Tryd.prog.cellsOf 2) (List.drop 1 [c0, c1, c2, c3, c4])) = some y1 := h1
    rw [z1] at h1
    replace h1 : DataW.trod enc Tryd.prog w base sp held n' 2 [c1] = some y1 := h1
    obtain ⟨s1, q1, _, hs1⟩ := DataW.trod_int Tryd.underlying2 h1
    simp only [List.cons.injEq, and_true] at q1
    obtain ⟨y2, e2⟩ := hx 2 (by decide)
    have h2 := (hall 2 _ rfl).trans e2
    have z2 : Tryd.prog.cellsOf 2 = 1 := by kernel_rfl
    replace h2 : DataW.trod enc Tryd.prog w base sp held n' 2 (List.take (Tryd.prog.cellsOf 2) (List.drop 2 [c0, c1, c2, c3, c4])) = some y2 := h2
    rw [z2] at h2
    replace h2 : DataW.trod enc Tryd.prog w base sp held n' 2 [c2] = some y2 := h2
    obtain ⟨s2, q2, _, hs2⟩ := DataW.trod_int Tryd.underlying2 h2
    simp only [List.cons.injEq, and_true] at q2
    obtain ⟨y3, e3⟩ := hx 3 (by decide)
    have h3 := (hall 3 _ rfl).trans e3
    have z3 : Tryd.prog.cellsOf 2 = 1 := by kernel_rfl
    replace h3 : DataW.trod enc Tryd.prog w base sp held n' 2 (List.take (Tryd.prog.cellsOf 2) (List.drop 3 [c0, c1, c2, c3, c4])) = some y3 := h3
    rw [z3] at h3
    replace h3 : DataW.trod enc Tryd.prog w base sp held n' 2 [c3] = some y3 := h3
    obtain ⟨s3, q3, _, hs3⟩ := DataW.trod_int Tryd.underlying2 h3
    simp only [List.cons.injEq, and_true] at q3
    obtain ⟨y4, e4⟩ := hx 4 (by decide)
    have h4 := (hall 4 _ rfl).trans e4
    have z4 : Tryd.prog.cellsOf 2 = 1 := by kernel_rfl
    replace h4 : DataW.trod enc Tryd.prog w base sp held n' 2 (List.take (Tryd.prog.cellsOf 2) (List.drop 4 [c0, c1, c2, c3, c4])) = some y4 := h4
    rw [z4] at h4
    replace h4 : DataW.trod enc Tryd.prog w base sp held n' 2 [c4] = some y4 := h4
    obtain ⟨s4, q4, _, hs4⟩ := DataW.trod_int Tryd.underlying2 h4
    simp only [List.cons.injEq, and_true] at q4
    subst q0
    subst q1
    subst q2
    subst q3
    subst q4
    exact ⟨⟨s0, s1, s2, s3, s4⟩, k122_mk w ⟨s0, s1, s2, s3, s4⟩, ⟨hs0, hs1, hs2, hs3, hs4⟩⟩
def good124 (y : S124) : Prop := y.f0.size ≤ maxLen ∧ (Lit.int .i64 y.f1).wf = true ∧ True
set_option maxRecDepth 100000 in
theorem elem124 {H : Type} {enc : TypeId × Value → H} {w : World} {base : Nat} {sp : Nat → Bool} {held : Bool} (n : Nat) (cs : List Value) (x : DataW H × List MemPlace) (h : DataW.trod enc Tryd.prog w base sp held n 124 cs = some x) : ∃ y : S124, k124.K w y cs ∧ good124 y := by
  obtain ⟨xs, n', rfl, _, hl, hxl, hall⟩ := DataW.trod_struct Tryd.underlying124 h
  replace hl := hl.trans (show Tryd.prog.cellsOf 124 = 3 by kernel_rfl)
  match cs, hl with
  | [c0, c1, c2], _ =>
    have hx : ∀ i, i < 3 → ∃ y, xs[i]? = some y := fun i hi => ⟨xs[i]'(by rw [hxl]; exact hi), List.getElem?_eq_getElem _⟩
    obtain ⟨y0, e0⟩ := hx 0 (by decide)
    have h0 := (hall 0 _ rfl).trans e0
    have z0 : Tryd.prog.cellsOf 9 = 1 := by kernel_rfl
    replace h0 : DataW.trod enc Tryd.prog w base sp held n' 9 (List.take (Tryd.prog.cellsOf 9) (List.drop 0 [c0, c1, c2])) = some y0 := h0
    rw [z0] at h0
    replace h0 : DataW.trod enc Tryd.prog w base sp held n' 9 [c0] = some y0 := h0
    obtain ⟨s0, q0, _, hs0⟩ := DataW.trod_string Tryd.underlying9 h0
    simp only [List.cons.injEq, and_true] at q0
    obtain ⟨y1, e1⟩ := hx 1 (by decide)
    have h1 := (hall 1 _ rfl).trans e1
    have z1 : Tryd.prog.cellsOf 2 = 1 := by kernel_rfl
    replace h1 : DataW.trod enc Tryd.prog w base sp held n' 2 (List.take (Tryd.prog.cellsOf 2) (List.drop 1 [c0, c1, c2])) = some y1 := h1
    rw [z1] at h1
    replace h1 : DataW.trod enc Tryd.prog w base sp held n' 2 [c1] = some y1 := h1
    obtain ⟨s1, q1, _, hs1⟩ := DataW.trod_int Tryd.underlying2 h1
    simp only [List.cons.injEq, and_true] at q1
    obtain ⟨y2, e2⟩ := hx 2 (by decide)
    have h2 := (hall 2 _ rfl).trans e2
    have z2 : Tryd.prog.cellsOf 4 = 1 := by kernel_rfl
    replace h2 : DataW.trod enc Tryd.prog w base sp held n' 4 (List.take (Tryd.prog.cellsOf 4) (List.drop 2 [c0, c1, c2])) = some y2 := h2
    rw [z2] at h2
    replace h2 : DataW.trod enc Tryd.prog w base sp held n' 4 [c2] = some y2 := h2
    obtain ⟨s2, q2, _⟩ := DataW.trod_bool Tryd.underlying4 h2
    have hs2 := trivial
    simp only [List.cons.injEq, and_true] at q2
    subst q0
    subst q1
    subst q2
    exact ⟨⟨s0, s1, s2⟩, k124_mk w ⟨s0, s1, s2⟩, ⟨hs0, hs1, hs2⟩⟩
end Go.Proofs.YtmfnipkfpjpjeaaDoor.PR
end
section
namespace Go.Proofs.YtmfnipkfpjpjeaaDoor.PR
open Go.RowKit Go.Proofs.YtmfnipkfpjpjeaaDoorW.PrintWords Go.Proofs.YtmfnipkfpjpjeaaDoorW.PrintLast Go.Proofs.YtmfnipkfpjpjeaaDoorW.PrintMore
set_option linter.unusedVariables false
set_option linter.unusedSimpArgs false
theorem Ev.succ {α : Type} {g : Nat → Option α} {r : α} (h : Ev (fun k => g (k + 1)) r) : Ev g r := by
  obtain ⟨K, hK⟩ := h
  refine ⟨K + 1, fun k hk => ?_⟩
  obtain ⟨m, rfl⟩ : ∃ m, k = m + 1 := ⟨k - 1, by omega⟩
  exact hK m (by omega)
theorem w64 {x : Int} (h1 : -9223372036854775808 ≤ x) (h2 : x ≤ 9223372036854775807) : wrap64 x = x := by unfold wrap64; omega
def gb (s : ByteArray) (i : Nat) : Nat := (s.get! i).toNat
theorem gb_lt (s : ByteArray) (i : Nat) : gb s i < 256 := (s.get! i).toNat_lt
theorem get!_eq (s : ByteArray) (i : Nat) (h : i < s.size) : s.get! i = s[i]'h := by
  cases s with | mk d => exact getElem!_pos d i h
theorem bt_gb (s : ByteArray) (i : Nat) (h : i < s.size) : bt s (i : Int) = (gb s i : Int) := by
  unfold bt gb
  rw [Int.toNat_natCast, dif_pos h, get!_eq s i h]
def dec (s : ByteArray) (i : Nat) : Nat × Nat := Lib.decodeN (s.size - i) (gb s i) (gb s (i + 1)) (gb s (i + 2)) (gb s (i + 3))
theorem strOfNums_size (l : List Int) : (strOfNums l).size = l.length := by simp [strOfNums, ByteArray.size]
def wr1 (x0 : Int) : ByteArray := if x0 < 128 then (strOfNums (([(x0) % 256] : List Int))) else (if x0 < 2048 then (strOfNums (([(wrap64 (192 + (wrap64 (Int.tdiv x0 64)))) % 256, (wrap64 (128 + (Int.tmod x0 64))) % 256] : List Int))) else (if x0 < 65536 then (strOfNums (([(wrap64 (224 + (wrap64 (Int.tdiv x0 4096)))) % 256, (wrap64 (128 + (Int.tmod (wrap64 (Int.tdiv x0 64)) 64))) % 256, (wrap64 (128 + (Int.tmod x0 64))) % 256] : List Int))) else (strOfNums (([(wrap64 (240 + (wrap64 (Int.tdiv x0 262144)))) % 256, (wrap64 (128 + (Int.tmod (wrap64 (Int.tdiv x0 4096)) 64))) % 256, (wrap64 (128 + (Int.tmod (wrap64 (Int.tdiv x0 64)) 64))) % 256, (wrap64 (128 + (Int.tmod x0 64))) % 256] : List Int)))))
def isPt (p : Int) : Bool := decide (0 ≤ p) && decide (p ≤ 1114111) && (decide (p < 55296) || decide (p > 57343))
def wr (p : Int) : ByteArray := if isPt p = true then wr1 p else wr1 65533
theorem isPoint_eq (p : Int) : spec_l01IsPoint.f p = some (isPt p) := by
  unfold spec_l01IsPoint.f isPt
  by_cases h0 : p ≥ 0
  · rw [if_pos h0]
    by_cases h1 : p ≤ 1114111
    · rw [if_pos h1]
      by_cases h2 : p < 55296
      · rw [if_pos h2]; simp [h1, h2]; omega
      · rw [if_neg h2]; simp [h1, h2]; omega
    · rw [if_neg h1]; simp [h1]
  · rw [if_neg h0]; simp; omega
theorem write_eq (k : Nat) (p : Int) : spec_l01Write.f (k + 1) p = some (wr p) := by
  unfold spec_l01Write.f
  rw [isPoint_eq]
  simp only [Option.bind_some]
  have hj : ∀ x, spec_l01Write.j0 (k + 1) x = some (wr1 x) := fun x => by
    simp only [spec_l01Write.j0, wr1]
    repeat' split
    all_goals rfl
  rw [hj, hj]
  unfold wr
  split <;> rfl
theorem wr1_size (p : Int) : (wr1 p).size = if p < 128 then 1 else if p < 2048 then 2 else if p < 65536 then 3 else 4 := by
  unfold wr1
  repeat' split
  all_goals simp [strOfNums_size]
theorem wr_size (p : Int) (h : isPt p = true) : (wr p).size = if p < 128 then 1 else if p < 2048 then 2 else if p < 65536 then 3 else 4 := by
  unfold wr; rw [if_pos h, wr1_size]
theorem next_step (s : ByteArray) (i n j : Nat) (p : Nat) (hs : s.size ≤ 1099511627776) (hj : j ≤ n) (hn : i + n < s.size) (hp : p < 2097152) (k : Nat) :
    spec_l01Next.l0 (k + 1) s i n p j = if 128 ≤ gb s (i + j) ∧ gb s (i + j) < 192 then spec_l01Next.l0 k s i n ((p * 64 + gb s (i + j) % 64 : Nat) : Int) ((j + 1 : Nat) : Int) else some (65533, 1, false) := by
  have hb := gb_lt s (i + j)
  have e1 : wrap64 ((i : Int) + (j : Int)) = ((i + j : Nat) : Int) := by rw [w64 (by omega) (by omega)]; omega
  have e2 := bt_gb s (i + j) (by omega)
  have e3 : wrap64 ((gb s (i + j) : Nat) : Int) = (gb s (i + j) : Int) := w64 (by omega) (by omega)
  simp only [spec_l01Next.l0, e1, e2, e3]
  rw [if_pos (by omega), if_pos (by omega), if_pos (by omega)]
  by_cases h1 : gb s (i + j) < 128
  · rw [if_pos (by omega), if_neg (by omega)]
  · rw [if_neg (by omega)]
    by_cases h2 : gb s (i + j) < 192
    · rw [if_neg (by omega), if_pos (by omega)]
      have e4 : wrap64 (wrap64 ((p : Int) * 64) + ((gb s (i + j) : Nat) : Int).tmod 64) = ((p * 64 + gb s (i + j) % 64 : Nat) : Int) := by
        rw [w64 (x := (p : Int) * 64) (by omega) (by omega), Int.tmod_eq_emod_of_nonneg (by omega), w64 (by omega) (by omega)]; omega
      have e5 : wrap64 ((j : Int) + 1) = ((j + 1 : Nat) : Int) := by rw [w64 (by omega) (by omega)]; omega
      rw [e4, e5]
    · rw [if_pos (by omega), if_neg (by omega)]
theorem next_end (s : ByteArray) (i n : Nat) (p : Nat) (hn : n ≤ 3) (k : Nat) :
    spec_l01Next.l0 (k + 2) s i n p ((n + 1 : Nat) : Int) = if isPt p = true ∧ (wr p).size = n + 1 then some ((p : Int), ((n + 1 : Nat) : Int), true) else some (65533, 1, false) := by
  have e1 : wrap64 ((n : Int) + 1) = ((n + 1 : Nat) : Int) := by rw [w64 (by omega) (by omega)]; omega
  rw [spec_l01Next.l0, if_neg (by omega), isPoint_eq, Option.bind_some, write_eq, Option.bind_some, e1]
  by_cases h1 : isPt p = true
  · rw [if_pos h1]
    by_cases h2 : (wr p).size = n + 1
    · rw [if_pos (by omega), if_pos ⟨h1, h2⟩]
    · rw [if_neg (by omega), if_neg (fun h => h2 h.2)]
  · rw [if_neg h1, if_neg (fun h => h1 h.1)]
theorem next_j2 (s : ByteArray) (i n : Nat) (p : Nat) (hs : s.size ≤ 1099511627776) (hi : i < s.size) (hn : n ≤ 3) (k : Nat) :
    spec_l01Next.j2 (k + 1) s i n p = if i + n < s.size then spec_l01Next.l0 k s i n p 1 else some (65533, 1, false) := by
  have e1 : wrap64 ((i : Int) + (n : Int)) = ((i + n : Nat) : Int) := by rw [w64 (by omega) (by omega)]; omega
  simp only [spec_l01Next.j2, e1]
  by_cases h : i + n < s.size
  · rw [if_neg (by omega), if_pos h]
  · rw [if_pos (by omega), if_neg h]
theorem isPt_nat (p : Nat) : isPt (p : Int) = decide (p ≤ 1114111 ∧ (p < 55296 ∨ 57344 ≤ p)) := by
  unfold isPt
  rw [Bool.eq_iff_iff]
  simp only [Bool.and_eq_true, Bool.or_eq_true, decide_eq_true_eq]
  omega
theorem wr_size_nat (p : Nat) (h : isPt (p : Int) = true) : (wr (p : Int)).size = if p < 128 then 1 else if p < 2048 then 2 else if p < 65536 then 3 else 4 := by
  rw [wr_size _ h]
  repeat' split
  all_goals first | rfl | (exfalso; omega)
def nextV (s : ByteArray) (i : Nat) : Int × Int × Bool := (((dec s i).1 : Int), ((dec s i).2 : Int), decide ¬((dec s i).1 = 65533 ∧ (dec s i).2 = 1))
theorem next_one (s : ByteArray) (i : Nat) (hs : s.size ≤ 1099511627776) (hi : i < s.size) (p : Nat) (hp : p < 32) (k : Nat) :
    spec_l01Next.j2 (k + 5) s i ((1 : Nat) : Int) p = if 1 < s.size - i ∧ gb s (i + 1) / 64 = 2 ∧ 128 ≤ p * 64 + gb s (i + 1) % 64 then some (((p * 64 + gb s (i + 1) % 64 : Nat) : Int), 2, true) else some (65533, 1, false) := by
  have hb := gb_lt s (i + 1)
  rw [next_j2 s i 1 p hs hi (by omega)]
  by_cases h1 : i + 1 < s.size
  · rw [if_pos h1, show (1 : Int) = ((1 : Nat) : Int) from rfl, next_step s i 1 1 p hs (by omega) (by omega) (by omega)]
    by_cases h2 : 128 ≤ gb s (i + 1) ∧ gb s (i + 1) < 192
    · rw [if_pos h2, next_end s i 1 _ (by omega)]
      have hpt : isPt ((p * 64 + gb s (i + 1) % 64 : Nat) : Int) = true := by rw [isPt_nat]; simp; omega
      by_cases h3 : 128 ≤ p * 64 + gb s (i + 1) % 64
      · have hz := wr_size_nat _ hpt
        rw [if_neg (by omega), if_pos (by omega)] at hz
        rw [if_pos ⟨hpt, hz⟩, if_pos (by omega)]; rfl
      · have hz := wr_size_nat _ hpt
        rw [if_pos (by omega)] at hz
        rw [if_neg (fun h => by have := h.2; omega), if_neg (by omega)] <;> rfl
    · rw [if_neg h2, if_neg (by omega)] <;> rfl
  · rw [if_neg h1, if_neg (by omega)] <;> rfl
theorem next_two (s : ByteArray) (i : Nat) (hs : s.size ≤ 1099511627776) (hi : i < s.size) (p : Nat) (hp : p < 16) (k : Nat) :
    spec_l01Next.j2 (k + 6) s i ((2 : Nat) : Int) p = if (2 < s.size - i ∧ gb s (i + 1) / 64 = 2 ∧ gb s (i + 2) / 64 = 2) ∧ (p * 4096 + gb s (i + 1) % 64 * 64 + gb s (i + 2) % 64 ≥ 2048 ∧ (p * 4096 + gb s (i + 1) % 64 * 64 + gb s (i + 2) % 64 < 55296 ∨ 57344 ≤ p * 4096 + gb s (i + 1) % 64 * 64 + gb s (i + 2) % 64)) then some (((p * 4096 + gb s (i + 1) % 64 * 64 + gb s (i + 2) % 64 : Nat) : Int), 3, true) else some (65533, 1, false) := by
  have hb := gb_lt s (i + 1)
  have hc := gb_lt s (i + 2)
  rw [next_j2 s i 2 p hs hi (by omega)]
  by_cases h1 : i + 2 < s.size
  · rw [if_pos h1, show (1 : Int) = ((1 : Nat) : Int) from rfl, next_step s i 2 1 p hs (by omega) (by omega) (by omega)]
    by_cases h2 : 128 ≤ gb s (i + 1) ∧ gb s (i + 1) < 192
    · rw [if_pos h2, next_step s i 2 2 _ hs (by omega) (by omega) (by omega)]
      by_cases h3 : 128 ≤ gb s (i + 2) ∧ gb s (i + 2) < 192
      · rw [if_pos h3, next_end s i 2 _ (by omega)]
        have he : (p * 64 + gb s (i + 1) % 64) * 64 + gb s (i + 2) % 64 = p * 4096 + gb s (i + 1) % 64 * 64 + gb s (i + 2) % 64 := by omega
        rw [he]
        obtain ⟨q, hq⟩ : ∃ q, p * 4096 + gb s (i + 1) % 64 * 64 + gb s (i + 2) % 64 = q := ⟨_, rfl⟩
        rw [hq]
        by_cases hpt : isPt (q : Int) = true
        · have hpt2 := hpt
          rw [isPt_nat] at hpt2
          simp only [decide_eq_true_eq] at hpt2
          have hz := wr_size_nat _ hpt
          by_cases h4 : 2048 ≤ q
          · rw [if_neg (by omega), if_neg (by omega), if_pos (by omega)] at hz
            rw [if_pos ⟨hpt, hz⟩, if_pos (by omega)]; rfl
          · rw [if_neg (fun h => by have h2 := h.2; rw [hz] at h2; split at h2 <;> (try split at h2) <;> (try split at h2) <;> omega), if_neg (by omega)] <;> rfl
        · have hpt2 := hpt
          rw [isPt_nat] at hpt2
          simp only [decide_eq_true_eq] at hpt2
          rw [if_neg (fun h => hpt h.1), if_neg (by omega)] <;> rfl
      · rw [if_neg h3, if_neg (by omega)] <;> rfl
    · rw [if_neg h2, if_neg (by omega)] <;> rfl
  · rw [if_neg h1, if_neg (by omega)] <;> rfl
theorem next_three (s : ByteArray) (i : Nat) (hs : s.size ≤ 1099511627776) (hi : i < s.size) (p : Nat) (hp : p < 8) (k : Nat) :
    spec_l01Next.j2 (k + 7) s i ((3 : Nat) : Int) p = if (3 < s.size - i ∧ gb s (i + 1) / 64 = 2 ∧ gb s (i + 2) / 64 = 2 ∧ gb s (i + 3) / 64 = 2) ∧ (p * 262144 + gb s (i + 1) % 64 * 4096 + gb s (i + 2) % 64 * 64 + gb s (i + 3) % 64 ≥ 65536 ∧ p * 262144 + gb s (i + 1) % 64 * 4096 + gb s (i + 2) % 64 * 64 + gb s (i + 3) % 64 ≤ 1114111) then some (((p * 262144 + gb s (i + 1) % 64 * 4096 + gb s (i + 2) % 64 * 64 + gb s (i + 3) % 64 : Nat) : Int), 4, true) else some (65533, 1, false) := by
  have hb := gb_lt s (i + 1)
  have hc := gb_lt s (i + 2)
  have hd := gb_lt s (i + 3)
  rw [next_j2 s i 3 p hs hi (by omega)]
  by_cases h1 : i + 3 < s.size
  · rw [if_pos h1, show (1 : Int) = ((1 : Nat) : Int) from rfl, next_step s i 3 1 p hs (by omega) (by omega) (by omega)]
    by_cases h2 : 128 ≤ gb s (i + 1) ∧ gb s (i + 1) < 192
    · rw [if_pos h2, next_step s i 3 2 _ hs (by omega) (by omega) (by omega)]
      by_cases h3 : 128 ≤ gb s (i + 2) ∧ gb s (i + 2) < 192
      · rw [if_pos h3, next_step s i 3 3 _ hs (by omega) (by omega) (by omega)]
        by_cases h5 : 128 ≤ gb s (i + 3) ∧ gb s (i + 3) < 192
        · rw [if_pos h5, next_end s i 3 _ (by omega)]
          have he : ((p * 64 + gb s (i + 1) % 64) * 64 + gb s (i + 2) % 64) * 64 + gb s (i + 3) % 64 = p * 262144 + gb s (i + 1) % 64 * 4096 + gb s (i + 2) % 64 * 64 + gb s (i + 3) % 64 := by omega
          rw [he]
          obtain ⟨q, hq⟩ : ∃ q, p * 262144 + gb s (i + 1) % 64 * 4096 + gb s (i + 2) % 64 * 64 + gb s (i + 3) % 64 = q := ⟨_, rfl⟩
          rw [hq]
          by_cases hpt : isPt (q : Int) = true
          · have hpt2 := hpt
            rw [isPt_nat] at hpt2
            simp only [decide_eq_true_eq] at hpt2
            have hz := wr_size_nat _ hpt
            by_cases h4 : 65536 ≤ q
            · rw [if_neg (by omega), if_neg (by omega), if_neg (by omega)] at hz
              rw [if_pos ⟨hpt, hz⟩, if_pos (by omega)]; rfl
            · rw [if_neg (fun h => by have h2 := h.2; rw [hz] at h2; split at h2 <;> (try split at h2) <;> (try split at h2) <;> omega), if_neg (by omega)] <;> rfl
          · have hpt2 := hpt
            rw [isPt_nat] at hpt2
            simp only [decide_eq_true_eq] at hpt2
            rw [if_neg (fun h => hpt h.1), if_neg (by omega)] <;> rfl
        · rw [if_neg h5, if_neg (by omega)] <;> rfl
      · rw [if_neg h3, if_neg (by omega)] <;> rfl
    · rw [if_neg h2, if_neg (by omega)] <;> rfl
  · rw [if_neg h1, if_neg (by omega)] <;> rfl
theorem next_eq (s : ByteArray) (i : Nat) (hs : s.size ≤ 1099511627776) (hi : i < s.size) (k : Nat) : spec_l01Next.f (k + 10) s i = some (nextV s i) := by
  have hb0 := gb_lt s i
  have hb := gb_lt s (i + 1)
  have hc := gb_lt s (i + 2)
  have hd := gb_lt s (i + 3)
  have e2 := bt_gb s i hi
  have e3 : wrap64 ((gb s i : Nat) : Int) = (gb s i : Int) := w64 (by omega) (by omega)
  have m32 : ((gb s i : Nat) : Int).tmod 32 = ((gb s i % 32 : Nat) : Int) := by rw [Int.tmod_eq_emod_of_nonneg (by omega)]; omega
  have m16 : ((gb s i : Nat) : Int).tmod 16 = ((gb s i % 16 : Nat) : Int) := by rw [Int.tmod_eq_emod_of_nonneg (by omega)]; omega
  have m8 : ((gb s i : Nat) : Int).tmod 8 = ((gb s i % 8 : Nat) : Int) := by rw [Int.tmod_eq_emod_of_nonneg (by omega)]; omega
  have bad : ∀ V : Nat × Nat, V = (65533, 1) → (some (65533, 1, false) : Option (Int × Int × Bool)) = some ((V.1 : Int), (V.2 : Int), decide ¬(V.1 = 65533 ∧ V.2 = 1)) := by rintro V rfl; rfl
  have good : ∀ (V : Nat × Nat) (p n : Nat), V = (p, n) → n ≠ 1 → (some ((p : Int), (n : Int), true) : Option (Int × Int × Bool)) = some ((V.1 : Int), (V.2 : Int), decide ¬(V.1 = 65533 ∧ V.2 = 1)) := by rintro V p n rfl hn; simp [hn]
  unfold spec_l01Next.f nextV
  rw [if_pos (by omega), if_pos (by omega), e2, e3]
  by_cases h1 : gb s i < 128
  · rw [if_pos (by omega)]
    have : dec s i = (gb s i, 1) := by unfold dec Lib.decodeN; rw [if_pos h1]
    rw [this]
    simp; omega
  · rw [if_neg (by omega)]
    by_cases h2 : 194 ≤ gb s i ∧ gb s i < 224
    · rw [if_pos (by omega)]
      rw [spec_l01Next.j0, if_pos (by simp; omega), m32, show (1 : Int) = ((1 : Nat) : Int) from rfl, next_one s i hs hi _ (by omega)]
      by_cases h3 : 1 < s.size - i ∧ gb s (i + 1) / 64 = 2 ∧ 128 ≤ gb s i % 32 * 64 + gb s (i + 1) % 64
      · rw [if_pos h3]
        exact good _ _ 2 (by unfold dec Lib.decodeN; rw [if_neg h1, if_pos ⟨by omega, by omega, by omega⟩, if_pos (by omega)]) (by decide)
      · rw [if_neg h3]
        refine bad _ ?_
        unfold dec Lib.decodeN
        rw [if_neg h1]
        repeat' split
        all_goals first | rfl | (exfalso; omega)
    · by_cases h4 : 224 ≤ gb s i ∧ gb s i < 240
      · rw [if_pos (by omega)]
        rw [spec_l01Next.j0, if_neg (by simp; omega), if_pos (by omega), spec_l01Next.j1, if_pos (by simp; omega), m16, show (2 : Int) = ((2 : Nat) : Int) from rfl, next_two s i hs hi _ (by omega)]
        split
        · rename_i h5
          exact good _ _ 3 (by unfold dec Lib.decodeN; rw [if_neg h1, if_neg (by omega), if_pos ⟨by omega, ⟨by omega, by omega⟩, by omega, by omega⟩, if_pos (by omega)]) (by decide)
        · rename_i h5
          refine bad _ ?_
          unfold dec Lib.decodeN
          rw [if_neg h1]
          repeat' split
          all_goals first | rfl | (exfalso; omega)
      · by_cases h6 : 240 ≤ gb s i ∧ gb s i < 245
        · rw [if_pos (by omega)]
          rw [spec_l01Next.j0, if_neg (by simp; omega), if_pos (by omega), spec_l01Next.j1, if_neg (by simp; omega), if_pos (by omega), if_pos (by omega), m8, show (3 : Int) = ((3 : Nat) : Int) from rfl, next_three s i hs hi _ (by omega)]
          split
          · rename_i h5
            exact good _ _ 4 (by unfold dec Lib.decodeN; rw [if_neg h1, if_neg (by omega), if_neg (by omega), if_pos ⟨by omega, ⟨by omega, by omega⟩, ⟨by omega, by omega⟩, by omega, by omega⟩, if_pos (by omega)]) (by decide)
          · rename_i h5
            refine bad _ ?_
            unfold dec Lib.decodeN
            rw [if_neg h1]
            repeat' split
            all_goals first | rfl | (exfalso; omega)
        · have hbad : dec s i = (65533, 1) := by
            unfold dec Lib.decodeN
            rw [if_neg h1]
            repeat' split
            all_goals first | rfl | (exfalso; omega)
          rw [hbad]
          by_cases h7 : 194 ≤ gb s i
          · rw [if_pos (by omega)]
            rw [spec_l01Next.j0, if_neg (by simp; omega), if_pos (by omega), spec_l01Next.j1, if_neg (by simp; omega), if_pos (by omega), if_neg (by omega)]; rfl
          · rw [if_neg (by omega)]
            rw [spec_l01Next.j0, if_neg (by simp), if_neg (by omega), spec_l01Next.j1, if_neg (by simp), if_neg (by omega)]; rfl
theorem dec_size (s : ByteArray) (i : Nat) (h : i < s.size) : 1 ≤ (dec s i).2 ∧ i + (dec s i).2 ≤ s.size ∧ (dec s i).2 ≤ 4 := by
  unfold dec Lib.decodeN
  repeat' split
  all_goals (simp only; omega)
theorem gb_extract (s : ByteArray) (a b i : Nat) (h : a + i < b) (hb : b ≤ s.size) : gb (s.extract a b) i = gb s (a + i) := by
  have h1 : i < (s.extract a b).size := by rw [ByteArray.size_extract]; omega
  unfold gb
  rw [get!_eq _ _ h1, get!_eq _ _ (by omega), ByteArray.getElem_extract]
theorem decodeGo_dec (s : ByteArray) (h : 0 < s.size) : Lib.decodeGo s = dec s 0 := by
  unfold Lib.decodeGo dec
  rw [if_neg (by omega), Lib.decode_at]
  rfl
theorem decodeN_cut (n m b0 b1 b2 b3 c1 c2 c3 : Nat) (h1 : 1 < n → b1 = c1) (h2 : 2 < n → b2 = c2) (h3 : 3 < n → b3 = c3) (hnm : n = m ∨ (4 ≤ n ∧ 4 ≤ m)) : Lib.decodeN n b0 b1 b2 b3 = Lib.decodeN m b0 c1 c2 c3 := by
  have e1 : (1 < n ∧ b1 / 64 = 2) ↔ (1 < m ∧ c1 / 64 = 2) := ⟨fun h => ⟨by omega, h1 h.1 ▸ h.2⟩, fun h => ⟨by omega, by rw [h1 (by omega)]; exact h.2⟩⟩
  have e2 : (2 < n ∧ b2 / 64 = 2) ↔ (2 < m ∧ c2 / 64 = 2) := ⟨fun h => ⟨by omega, h2 h.1 ▸ h.2⟩, fun h => ⟨by omega, by rw [h2 (by omega)]; exact h.2⟩⟩
  have e3 : (3 < n ∧ b3 / 64 = 2) ↔ (3 < m ∧ c3 / 64 = 2) := ⟨fun h => ⟨by omega, h3 h.1 ▸ h.2⟩, fun h => ⟨by omega, by rw [h3 (by omega)]; exact h.2⟩⟩
  by_cases a1 : 1 < n
  · rw [h1 a1] at *
    by_cases a2 : 2 < n
    · rw [h2 a2] at *
      by_cases a3 : 3 < n
      · rw [h3 a3] at *
        unfold Lib.decodeN
        simp only [e1, e2, e3]
      · unfold Lib.decodeN
        have : ¬ 3 < m := by omega
        simp only [e1, e2, a3, this, false_and, and_false, if_false]
    · unfold Lib.decodeN
      have : ¬ 2 < m := by omega
      simp only [e1, a2, this, false_and, and_false, if_false]
  · unfold Lib.decodeN
    have : ¬ 1 < m := by omega
    simp only [a1, this, false_and, and_false, if_false]
theorem dec_window (s : ByteArray) (i j : Nat) (h : i < s.size) (hj : j = min s.size (i + 4)) : dec (s.extract i j) 0 = dec s i := by
  have hz : (s.extract i j).size = j - i := by rw [ByteArray.size_extract]; omega
  unfold dec
  rw [hz, gb_extract s i j 0 (by omega) (by omega)]
  refine decodeN_cut _ _ _ _ _ _ _ _ _ (fun h1 => gb_extract s i j 1 (by omega) (by omega)) (fun h1 => gb_extract s i j 2 (by omega) (by omega)) (fun h1 => gb_extract s i j 3 (by omega) (by omega)) (by omega)
theorem dec_tail (s : ByteArray) (i : Nat) (h : i < s.size) : Lib.decodeGo (s.extract i s.size) = dec s i := by
  have hz : (s.extract i s.size).size = s.size - i := by rw [ByteArray.size_extract]; omega
  rw [decodeGo_dec _ (by omega)]
  unfold dec
  rw [hz, gb_extract s i s.size 0 (by omega) (by omega)]
  exact decodeN_cut _ _ _ _ _ _ _ _ _ (fun h1 => gb_extract s i s.size 1 (by omega) (by omega)) (fun h1 => gb_extract s i s.size 2 (by omega) (by omega)) (fun h1 => gb_extract s i s.size 3 (by omega) (by omega)) (by omega)
theorem read_ev (s : ByteArray) (hs : s.size < 4398046511104) : ∀ (f i : Nat) (L : List S135), i ≤ s.size → s.size ≤ i + f → L.length ≤ i →
    ∃ M, Ev (fun k => impl_read.l0 k s L (i : Int)) (L ++ M) ∧ (i < s.size → ∃ y M', M = y :: M' ∧ y.f2 = ((i + (dec s i).2 : Nat) : Int)) := by
  intro f
  induction f with
  | zero =>
    intro i L h1 h2 h3
    refine ⟨[], Ev.succ (Ev.congr (fun k => ?_) (Ev.now _)), fun h => by omega⟩
    rw [impl_read.l0, if_neg (by omega), List.append_nil]
  | succ f ih =>
    intro i L h1 h2 h3
    by_cases h : i < s.size
    · have hd := dec_size s i h
      have e1 : Lib.decodeGo (s.extract (i : Int).toNat s.size) = dec s i := by rw [Int.toNat_natCast]; exact dec_tail s i h
      have e2 : wrap64 ((i : Int) + ((dec s i).2 : Int)) = ((i + (dec s i).2 : Nat) : Int) := by rw [w64 (by omega) (by omega)]; omega
      have go : ∀ y : S135, y.f2 = ((i + (dec s i).2 : Nat) : Int) → ∃ M, Ev (fun k => impl_read.l0 k s (L ++ [y]) ((i + (dec s i).2 : Nat) : Int)) (L ++ M) ∧ (i < s.size → ∃ y M', M = y :: M' ∧ y.f2 = ((i + (dec s i).2 : Nat) : Int)) := by
        intro y hy
        obtain ⟨M, hM, _⟩ := ih (i + (dec s i).2) (L ++ [y]) (by omega) (by omega) (by simp; omega)
        exact ⟨y :: M, by rw [List.append_assoc] at hM; exact hM, fun _ => ⟨y, M, rfl, hy⟩⟩
      have hL : L.length < 4398046511104 := by omega
      by_cases h5 : ((dec s i).1 : Int) = 65533
      · obtain ⟨M, hM, hh⟩ := go ⟨wrap64 ((dec s i).1 : Int), (i : Int), wrap64 ((i : Int) + ((dec s i).2 : Int)), (((dec s i).2 : Int) == 1)⟩ e2
        refine ⟨M, Ev.succ (Ev.congr (fun k => ?_) hM), hh⟩
        rw [impl_read.l0, if_pos (by omega), if_pos (by omega), if_pos (by omega)]
        simp only [utf8_DecodeRuneInString.f, Option.bind_some, e1]
        rw [if_pos h5, if_pos hL, e2]
      · obtain ⟨M, hM, hh⟩ := go ⟨wrap64 ((dec s i).1 : Int), (i : Int), wrap64 ((i : Int) + ((dec s i).2 : Int)), false⟩ e2
        refine ⟨M, Ev.succ (Ev.congr (fun k => ?_) hM), hh⟩
        rw [impl_read.l0, if_pos (by omega), if_pos (by omega), if_pos (by omega)]
        simp only [utf8_DecodeRuneInString.f, Option.bind_some, e1]
        rw [if_neg h5, if_pos hL, e2]
    · refine ⟨[], Ev.succ (Ev.congr (fun k => ?_) (Ev.now _)), fun h' => absurd h' h⟩
      rw [impl_read.l0, if_neg (by omega), List.append_nil]
theorem read_head (s : ByteArray) (i j : Nat) (hs : s.size ≤ 1099511627776) (h : i < s.size) (hj : j = min s.size (i + 4)) :
    ∃ y M, Ev (fun k => impl_read.f k (s.extract i j)) (y :: M) ∧ y.f2 = ((dec s i).2 : Int) := by
  have hz : (s.extract i j).size = j - i := by rw [ByteArray.size_extract]; omega
  obtain ⟨M, hM, hh⟩ := read_ev (s.extract i j) (by omega) (s.extract i j).size 0 [] (by omega) (by omega) (by simp)
  obtain ⟨y, M', rfl, hy⟩ := hh (by omega)
  rw [dec_window s i j h hj, Nat.zero_add] at hy
  exact ⟨y, M', hM, hy⟩
def cutL : Nat → ByteArray → Nat → Nat → Nat → Nat
  | 0, _, _, at_, _ => at_
  | f + 1, s, most, at_, i => if i ≤ most then cutL f s most i (i + (dec s i).2) else at_
def cut (s : ByteArray) : Nat := cutL (s.size + 2) s ((s.size + 1) / 2) 0 0
theorem most_eq (s : ByteArray) (hs : s.size ≤ 1099511627776) : wrap64 (Int.tdiv (wrap64 ((s.size : Int) + 1)) 2) = (((s.size + 1) / 2 : Nat) : Int) := by
  rw [w64 (x := (s.size : Int) + 1) (by omega) (by omega), Int.tdiv_eq_ediv_of_nonneg (by omega), w64 (by omega) (by omega)]
  omega
theorem spec_cut (s : ByteArray) (hs : s.size ≤ 1099511627776) (h64 : 64 < s.size) : Ev (fun k => spec_l20Cut.f k s) ((cut s : Nat) : Int) := by
  have key : ∀ (f i a : Nat), (s.size + 1) / 2 < i + f → i ≤ s.size + 4 → Ev (fun k => spec_l20Cut.l0 k s (((s.size + 1) / 2 : Nat) : Int) (a : Int) (i : Int)) ((cutL f s ((s.size + 1) / 2) a i : Nat) : Int) := by
    intro f
    induction f with
    | zero =>
      intro i a h1 h2
      refine Ev.succ (Ev.congr (fun k => ?_) (Ev.now _))
      rw [spec_l20Cut.l0]
      by_cases h3 : (i : Int) < s.size
      · rw [if_pos h3, if_neg (by omega)]; rfl
      · rw [if_neg h3]; rfl
    | succ f ih =>
      intro i a h1 h2
      rw [cutL]
      by_cases h3 : i ≤ (s.size + 1) / 2
      · rw [if_pos h3]
        have hi : i < s.size := by omega
        have hd := dec_size s i hi
        have e2 : wrap64 ((i : Int) + ((dec s i).2 : Int)) = ((i + (dec s i).2 : Nat) : Int) := by rw [w64 (by omega) (by omega)]; omega
        obtain ⟨K, hK⟩ := ih (i + (dec s i).2) i (by omega) (by omega)
        refine ⟨K + 11, fun k hk => ?_⟩
        obtain ⟨m, rfl⟩ : ∃ m, k = (m + 10) + 1 := ⟨k - 11, by omega⟩
        simp only []
        rw [spec_l20Cut.l0, if_pos (by omega), if_pos (by omega), next_eq s i hs hi, Option.bind_some]
        simp only [nextV]
        rw [e2]
        exact hK _ (by omega)
      · rw [if_neg h3]
        refine Ev.succ (Ev.congr (fun k => ?_) (Ev.now _))
        rw [spec_l20Cut.l0]
        by_cases h3 : (i : Int) < s.size
        · rw [if_pos h3, if_neg (by omega)]
        · rw [if_neg h3]
  have := key (s.size + 2) 0 0 (by omega) (by omega)
  refine Ev.congr (fun k => ?_) this
  simp only [spec_l20Cut.f, most_eq s hs]
  rfl
def treeRest (k : Nat) (x0 : List S30) (x1 : ByteArray) (x5 x6 x7 : Int) : Option (List S30) := if x0.length < 2932031007402 then (if 0 ≤ x7 then (if x7 ≤ (x1.size : Int) then ((impl_ropeTree.f k (x0 ++ [(⟨(⟨#[]⟩ : ByteArray), wrap64 ((x0.length : Int) + 1), 0, x5, x6⟩ : S30)]) (x1.extract 0 (x7 : Int).toNat)).bind fun t120 => (if 0 ≤ (x0.length : Int) then (if (x0.length : Int) < (t120.length : Int) then ((impl_ropeTree.f k (t120.set ((x0.length : Int) : Int).toNat (⟨(rd_T30 t120 (x0.length : Int)).f0, (rd_T30 t120 (x0.length : Int)).f1, (t120.length : Int), (rd_T30 t120 (x0.length : Int)).f3, (rd_T30 t120 (x0.length : Int)).f4⟩ : S30)) (x1.extract (x7 : Int).toNat x1.size)).bind fun t124 => (some t124)) else (none)) else (none))) else (none)) else (none)) else (none)
theorem tree_cut (x0 : List S30) (s : ByteArray) (x5 x6 : Int) (r : List S30) (hs : s.size ≤ 1099511627776) (h64 : 64 < s.size) : ∀ (f i a : Nat), (s.size + 1) / 2 < i + f →
    Ev (fun k => treeRest k x0 s x5 x6 ((cutL f s ((s.size + 1) / 2) a i : Nat) : Int)) r → Ev (fun k => impl_ropeTree.l0 k x0 s x5 x6 (a : Int) (i : Int)) r := by
  intro f
  induction f with
  | zero =>
    intro i a h1 hr
    refine Ev.succ (Ev.congr (fun k => ?_) hr)
    rw [impl_ropeTree.l0, most_eq s hs, if_neg (by omega)]
    rfl
  | succ f ih =>
    intro i a h1 hr
    rw [cutL] at hr
    by_cases h3 : i ≤ (s.size + 1) / 2
    · rw [if_pos h3] at hr
      have hi : i < s.size := by omega
      have hd := dec_size s i hi
      have e2 : wrap64 ((i : Int) + ((dec s i).2 : Int)) = ((i + (dec s i).2 : Nat) : Int) := by rw [w64 (by omega) (by omega)]; omega
      have e3 : mn (s.size : Int) (wrap64 ((i : Int) + 4)) = ((min s.size (i + 4) : Nat) : Int) := by
        rw [w64 (by omega) (by omega)]; unfold mn; split <;> omega
      obtain ⟨y, M, hM, hy⟩ := read_head s i (min s.size (i + 4)) hs hi rfl
      refine Ev.succ (Ev.congr (fun k => ?_) (Ev.bind (f := fun k t113 => if 0 < (t113.length : Int) then (impl_ropeTree.l0 k x0 s x5 x6 (i : Int) (wrap64 ((i : Int) + ((rd_T135 t113 0).f2)))) else (none)) hM (Ev.congr (fun k => ?_) (ih (i + (dec s i).2) i (by omega) hr))))
      · rw [impl_ropeTree.l0, most_eq s hs, if_pos (by omega), if_pos (by omega), e3, if_pos (by omega), if_pos (by omega), Int.toNat_natCast, Int.toNat_natCast]
      · simp only [List.length_cons]
        rw [if_pos (by omega)]
        have : (rd_T135 (y :: M) 0).f2 = ((dec s i).2 : Int) := by simp only [rd_T135]; exact hy
        rw [this, e2]
    · rw [if_neg h3] at hr
      refine Ev.succ (Ev.congr (fun k => ?_) hr)
      rw [impl_ropeTree.l0, most_eq s hs, if_neg (by omega)]
      rfl
theorem cutL_le (s : ByteArray) (most : Nat) : ∀ (f a i : Nat), a ≤ most → cutL f s most a i ≤ most
  | 0, _, _, h => h
  | f + 1, a, i, h => by
    rw [cutL]
    split
    · rename_i h2; exact cutL_le s most f i _ h2
    · exact h
theorem cutL_ge (s : ByteArray) (most : Nat) : ∀ (f a i : Nat), a ≤ i → a ≤ cutL f s most a i
  | 0, _, _, h => Nat.le_refl _
  | f + 1, a, i, h => by
    rw [cutL]
    split
    · exact Nat.le_trans h (cutL_ge s most f i _ (by omega))
    · exact Nat.le_refl _
theorem cut_pos (s : ByteArray) (h64 : 64 < s.size) : 1 ≤ cut s ∧ cut s < s.size := by
  have hd := dec_size s 0 (by omega)
  refine ⟨?_, ?_⟩
  · unfold cut
    rw [cutL, if_pos (by omega), cutL, if_pos (by omega)]
    refine Nat.le_trans ?_ (cutL_ge s _ _ _ _ (by omega))
    omega
  · have := cutL_le s ((s.size + 1) / 2) (s.size + 2) 0 0 (by omega)
    unfold cut
    omega
def ends (s : ByteArray) : Nat := Lib.countByte s.data.toList 10
theorem count_ends (s : ByteArray) : strings_Count.f s (⟨#[10]⟩ : ByteArray) = some ((ends s : Nat) : Int) := rfl
theorem gb_drop (s : ByteArray) (i : Nat) (h : i < s.size) : s.data.toList.drop i = UInt8.ofNat (gb s i) :: s.data.toList.drop (i + 1) := by
  have h2 : i < s.data.toList.length := by simpa using h
  rw [List.drop_eq_getElem_cons h2]
  congr 1
  unfold gb
  rw [get!_eq s i h]
  simp
  rfl
theorem spec_ends (s : ByteArray) (hs : s.size ≤ 1099511627776) : Ev (fun k => spec_l20Ends.f k s) ((ends s : Nat) : Int) := by
  have key : ∀ (f i a : Nat), i + f = s.size → a ≤ i → Ev (fun k => spec_l20Ends.l0 k s (a : Int) (i : Int)) ((a + Lib.countByte (s.data.toList.drop i) 10 : Nat) : Int) := by
    intro f
    induction f with
    | zero =>
      intro i a h1 h2
      refine Ev.succ (Ev.congr (fun k => ?_) (Ev.now _))
      have hz : s.data.toList.length = s.size := by simp
      rw [spec_l20Ends.l0, if_neg (by omega), List.drop_of_length_le (by omega)]
      simp [Lib.countByte]
    | succ f ih =>
      intro i a h1 h2
      have hi : i < s.size := by omega
      have e1 : wrap64 ((i : Int) + 1) = ((i + 1 : Nat) : Int) := by rw [w64 (by omega) (by omega)]; omega
      have e2 : wrap64 ((a : Int) + 1) = ((a + 1 : Nat) : Int) := by rw [w64 (by omega) (by omega)]; omega
      have hl := gb_lt s i
      rw [gb_drop s i hi]
      by_cases h3 : gb s i = 10
      · have : a + Lib.countByte (UInt8.ofNat (gb s i) :: s.data.toList.drop (i + 1)) 10 = (a + 1) + Lib.countByte (s.data.toList.drop (i + 1)) 10 := by
          rw [h3]; simp only [Lib.countByte]; rw [show (UInt8.ofNat 10) = 10 from rfl, List.count_cons_self]; omega
        rw [this]
        refine Ev.succ (Ev.congr (fun k => ?_) (ih (i + 1) (a + 1) (by omega) (by omega)))
        rw [spec_l20Ends.l0, if_pos (by omega), if_pos (by omega), bt_gb s i hi, if_pos (by omega), e1, e2]
      · have : a + Lib.countByte (UInt8.ofNat (gb s i) :: s.data.toList.drop (i + 1)) 10 = a + Lib.countByte (s.data.toList.drop (i + 1)) 10 := by
          simp only [Lib.countByte]
          rw [List.count_cons_of_ne]
          intro h4
          have h5 := congrArg UInt8.toNat h4
          rw [UInt8.toNat_ofNat_of_lt' hl] at h5
          exact h3 h5
        rw [this]
        refine Ev.succ (Ev.congr (fun k => ?_) (ih (i + 1) a (by omega) (by omega)))
        rw [spec_l20Ends.l0, if_pos (by omega), if_pos (by omega), bt_gb s i hi, if_neg (by omega), e1]
  have := key s.size 0 0 (by omega) (by omega)
  refine Ev.congr (fun k => rfl) (?_ : Ev (fun k => spec_l20Ends.l0 k s 0 0) _)
  simpa [ends] using this
theorem toList_nil (s : ByteArray) : s.toList = ([] : List UInt8) ↔ s.size = 0 := by
  rw [ByteArray.toList_eq, Array.toList_eq_nil_iff]
  exact ⟨fun h => by show s.data.size = 0; rw [h]; rfl, fun h => Array.eq_empty_of_size_eq_zero h⟩
def bld : Nat → Nat → ByteArray → List S30
  | 0, _, _ => []
  | f + 1, b, s => if s.size ≤ 64 then [⟨s, -1, -1, (s.size : Int), ((ends s : Nat) : Int)⟩] else
      (⟨⟨#[]⟩, ((b + 1 : Nat) : Int), ((b + 1 + (bld f (b + 1) (s.extract 0 (cut s))).length : Nat) : Int), (s.size : Int), ((ends s : Nat) : Int)⟩ : S30) :: (bld f (b + 1) (s.extract 0 (cut s)) ++ bld f (b + 1 + (bld f (b + 1) (s.extract 0 (cut s))).length) (s.extract (cut s) s.size))
theorem bld_len : ∀ (f b : Nat) (s : ByteArray), 0 < s.size → (bld f b s).length + 1 ≤ 2 * s.size
  | 0, b, s, h => by simp [bld]; omega
  | f + 1, b, s, h => by
    rw [bld]
    split
    · simp; omega
    · rename_i h64
      have hc := cut_pos s (by omega)
      have h1 := bld_len f (b + 1) (s.extract 0 (cut s)) (by rw [ByteArray.size_extract]; omega)
      have h2 := bld_len f (b + 1 + (bld f (b + 1) (s.extract 0 (cut s))).length) (s.extract (cut s) s.size) (by rw [ByteArray.size_extract]; omega)
      rw [ByteArray.size_extract] at h1 h2
      simp only [List.length_cons, List.length_append]
      omega
theorem rd_mid (out : List S30) (n : S30) (L : List S30) : rd_T30 (out ++ [n] ++ L) (out.length : Int) = n := by
  simp [rd_T30, List.getD_eq_getElem?_getD]
theorem set_mid (out : List S30) (n m : S30) (L : List S30) : (out ++ [n] ++ L).set ((out.length : Int)).toNat m = out ++ [m] ++ L := by
  rw [Int.toNat_natCast]
  simp
theorem impl_tree : ∀ (f : Nat) (s : ByteArray) (out : List S30), 0 < s.size → s.size ≤ f → s.size ≤ 1099511627776 → out.length + 2 * s.size < 2932031007402 → Ev (fun k => impl_ropeTree.f k out s) (out ++ bld f out.length s) := by
  intro f
  induction f with
  | zero => intro s out h1 h2; omega
  | succ f ih =>
    intro s out h1 h2 h3 h4
    by_cases h64 : s.size ≤ 64
    · refine Ev.succ (Ev.congr (fun k => ?_) (Ev.now _))
      rw [impl_ropeTree.f, count_ends, Option.bind_some, if_pos (by omega), if_pos (by omega), bld, if_pos h64]
    · have hc := cut_pos s (by omega)
      have z1 : (s.extract 0 (cut s)).size = cut s := by rw [ByteArray.size_extract]; omega
      have z2 : (s.extract (cut s) s.size).size = s.size - cut s := by rw [ByteArray.size_extract]; omega
      have l1 := bld_len f (out.length + 1) (s.extract 0 (cut s)) (by omega)
      have e1 : wrap64 ((out.length : Int) + 1) = ((out.length + 1 : Nat) : Int) := by rw [w64 (by omega) (by omega)]; omega
      have A := ih (s.extract 0 (cut s)) (out ++ [⟨⟨#[]⟩, ((out.length + 1 : Nat) : Int), 0, (s.size : Int), ((ends s : Nat) : Int)⟩]) (by omega) (by omega) (by omega) (by simp; omega)
      have el : (out ++ [(⟨⟨#[]⟩, ((out.length + 1 : Nat) : Int), 0, (s.size : Int), ((ends s : Nat) : Int)⟩ : S30)]).length = out.length + 1 := by simp
      rw [el] at A
      generalize hL : bld f (out.length + 1) (s.extract 0 (cut s)) = L at A l1
      have B := ih (s.extract (cut s) s.size) (out ++ [⟨⟨#[]⟩, ((out.length + 1 : Nat) : Int), ((out.length + 1 + L.length : Nat) : Int), (s.size : Int), ((ends s : Nat) : Int)⟩] ++ L) (by omega) (by omega) (by omega) (by simp; omega)
      have el2 : (out ++ [(⟨⟨#[]⟩, ((out.length + 1 : Nat) : Int), ((out.length + 1 + L.length : Nat) : Int), (s.size : Int), ((ends s : Nat) : Int)⟩ : S30)] ++ L).length = out.length + 1 + L.length := by simp; omega
      rw [el2] at B
      have hr : out ++ bld (f + 1) out.length s = (out ++ [⟨⟨#[]⟩, ((out.length + 1 : Nat) : Int), ((out.length + 1 + L.length : Nat) : Int), (s.size : Int), ((ends s : Nat) : Int)⟩] ++ L) ++ bld f (out.length + 1 + L.length) (s.extract (cut s) s.size) := by
        rw [bld, if_neg h64, hL]; simp
      rw [hr]
      refine Ev.succ (Ev.congr (fun k => ?_) (tree_cut out s (s.size : Int) ((ends s : Nat) : Int) _ h3 (by omega) (s.size + 2) 0 0 (by omega) ?_))
      · rw [impl_ropeTree.f, count_ends, Option.bind_some, if_neg (by omega)]; rfl
      · have ec : cutL (s.size + 2) s ((s.size + 1) / 2) 0 0 = cut s := rfl
        rw [ec]
        refine Ev.congr (fun k => ?_) (Ev.bind (f := fun k t120 => (if 0 ≤ (out.length : Int) then (if (out.length : Int) < (t120.length : Int) then ((impl_ropeTree.f k (t120.set ((out.length : Int) : Int).toNat (⟨(rd_T30 t120 (out.length : Int)).f0, (rd_T30 t120 (out.length : Int)).f1, (t120.length : Int), (rd_T30 t120 (out.length : Int)).f3, (rd_T30 t120 (out.length : Int)).f4⟩ : S30)) (s.extract (((cut s : Nat) : Int) : Int).toNat s.size)).bind fun t124 => (some t124)) else (none)) else (none))) A (Ev.congr (fun k => ?_) (Ev.bind (f := fun _ t => some t) B (Ev.now _))))
        · rw [treeRest, if_pos (by omega), if_pos (by omega), if_pos (by omega), e1, Int.toNat_natCast]
        · rw [if_pos (by omega), if_pos (by simp; omega), rd_mid, set_mid, Int.toNat_natCast]
          simp only [List.length_append, List.length_cons, List.length_nil, Nat.zero_add]
theorem spec_build : ∀ (f : Nat) (s : ByteArray) (out : List S30), 0 < s.size → s.size ≤ f → s.size ≤ 1099511627776 → out.length + 2 * s.size < 2932031007402 → Ev (fun k => spec_l20Build.f k out s) (out ++ bld f out.length s) := by
  intro f
  induction f with
  | zero => intro s out h1 h2; omega
  | succ f ih =>
    intro s out h1 h2 h3 h4
    have hne : ¬ s.toList = ([] : List UInt8) := by
      intro h
      have := (toList_nil s).1 h
      omega
    have hE := spec_ends s h3
    by_cases h64 : s.size ≤ 64
    · refine Ev.succ (Ev.congr (fun k => ?_) (Ev.bind (f := fun _ t176 => if (s.size : Int) ≤ 64 then (if out.length < 2932031007402 then (some (out ++ [(⟨s, (-1), (-1), (s.size : Int), t176⟩ : S30)])) else (none)) else none) hE (Ev.congr (fun k => ?_) (Ev.now _))))
      · rw [spec_l20Build.f, if_neg hne]
        simp only [show ((s.size : Int) ≤ 64) = True from eq_true (by omega), if_true]
      · rw [if_pos (by omega), if_pos (by omega), bld, if_pos h64]
    · have hc := cut_pos s (by omega)
      have z1 : (s.extract 0 (cut s)).size = cut s := by rw [ByteArray.size_extract]; omega
      have z2 : (s.extract (cut s) s.size).size = s.size - cut s := by rw [ByteArray.size_extract]; omega
      have l1 := bld_len f (out.length + 1) (s.extract 0 (cut s)) (by omega)
      have A := ih (s.extract 0 (cut s)) (out ++ [⟨⟨#[]⟩, ((out.length + 1 : Nat) : Int), -1, (s.size : Int), ((ends s : Nat) : Int)⟩]) (by omega) (by omega) (by omega) (by simp; omega)
      have el : (out ++ [(⟨⟨#[]⟩, ((out.length + 1 : Nat) : Int), -1, (s.size : Int), ((ends s : Nat) : Int)⟩ : S30)]).length = out.length + 1 := by simp
      rw [el] at A
      generalize hL : bld f (out.length + 1) (s.extract 0 (cut s)) = L at A l1
      have B := ih (s.extract (cut s) s.size) (out ++ [⟨⟨#[]⟩, ((out.length + 1 : Nat) : Int), ((out.length + 1 + L.length : Nat) : Int), (s.size : Int), ((ends s : Nat) : Int)⟩] ++ L) (by omega) (by omega) (by omega) (by simp; omega)
      have el2 : (out ++ [(⟨⟨#[]⟩, ((out.length + 1 : Nat) : Int), ((out.length + 1 + L.length : Nat) : Int), (s.size : Int), ((ends s : Nat) : Int)⟩ : S30)] ++ L).length = out.length + 1 + L.length := by simp; omega
      rw [el2] at B
      have hr : out ++ bld (f + 1) out.length s = (out ++ [⟨⟨#[]⟩, ((out.length + 1 : Nat) : Int), ((out.length + 1 + L.length : Nat) : Int), (s.size : Int), ((ends s : Nat) : Int)⟩] ++ L) ++ bld f (out.length + 1 + L.length) (s.extract (cut s) s.size) := by
        rw [bld, if_neg h64, hL]; simp
      rw [hr]
      have r0 : rd_T30 (out ++ [(⟨(⟨#[]⟩ : ByteArray), (-1), (-1), (s.size : Int), ((ends s : Nat) : Int)⟩ : S30)]) (out.length : Int) = ⟨(⟨#[]⟩ : ByteArray), (-1), (-1), (s.size : Int), ((ends s : Nat) : Int)⟩ := by
        have := rd_mid out (⟨(⟨#[]⟩ : ByteArray), (-1), (-1), (s.size : Int), ((ends s : Nat) : Int)⟩ : S30) []
        rwa [List.append_nil] at this
      have s0 : ∀ m : S30, (out ++ [(⟨(⟨#[]⟩ : ByteArray), (-1), (-1), (s.size : Int), ((ends s : Nat) : Int)⟩ : S30)]).set ((out.length : Int)).toNat m = out ++ [m] := by
        intro m
        have := set_mid out (⟨(⟨#[]⟩ : ByteArray), (-1), (-1), (s.size : Int), ((ends s : Nat) : Int)⟩ : S30) m []
        rwa [List.append_nil, List.append_nil] at this
      refine Ev.succ (Ev.congr (fun k => by rw [spec_l20Build.f, if_neg hne]) (Ev.bind hE (Ev.congr (fun k => by rw [if_neg (by omega)]) (Ev.bind (spec_cut s h3 (by omega)) (Ev.congr (fun k => by rw [if_pos (by omega), Option.bind_some, if_pos (by omega), if_pos (by simp; omega), if_pos (by omega), if_pos (by omega), r0, s0, Int.toNat_natCast]) (Ev.bind (a := out ++ [⟨⟨#[]⟩, ((out.length + 1 : Nat) : Int), -1, (s.size : Int), ((ends s : Nat) : Int)⟩] ++ L) (f := fun k t186 => (if (out.length : Int) < (t186.length : Int) then ((spec_l20Build.f k (t186.set ((out.length : Int) : Int).toNat (⟨(rd_T30 t186 (out.length : Int)).f0, (rd_T30 t186 (out.length : Int)).f1, (t186.length : Int), (rd_T30 t186 (out.length : Int)).f3, (rd_T30 t186 (out.length : Int)).f4⟩ : S30)) (s.extract (cut s) s.size)).bind fun t190 => (some t190)) else (none))) ?_ (Ev.congr (fun k => by rw [if_pos (by simp; omega), rd_mid, set_mid]) (Ev.bind ?_ (Ev.now _)))))))))
      · refine Ev.congr (fun k => ?_) A
        simp only [List.length_append, List.length_cons, List.length_nil, Nat.zero_add]
      · refine Ev.congr (fun k => ?_) B
        simp only [List.length_append, List.length_cons, List.length_nil, Nat.zero_add]
def textOf (l : List S30) : ByteArray := ⟨(ropeJoin l).toArray⟩
theorem textOf_size (l : List S30) : (textOf l).size = (ropeJoin l).length := by simp [textOf, ByteArray.size]
theorem strOfNums_bytes (l : List UInt8) : strOfNums (l.map fun b => (b.toNat : Int)) = ⟨l.toArray⟩ := by
  unfold strOfNums
  rw [List.map_map]
  congr 2
  conv => rhs; rw [← List.map_id l]
  apply List.map_congr_left
  intro b _
  simp
theorem impl_text (l : List S30) (m : List S56) (h : (ropeJoin l).length ≤ 140737488355328) : impl_ropeText.f l m = some (textOf l) := by
  unfold impl_ropeText.f
  rw [if_pos h]; rfl
theorem rd_nat (l : List S30) (i : Nat) (h : i < l.length) : rd_T30 l (i : Int) = l[i] := by simp [rd_T30, List.getD_eq_getElem?_getD, List.getElem?_eq_getElem h]
theorem spec_text (l : List S30) (h : (ropeJoin l).length < 140737488355328) (hl : l.length ≤ 1099511627776) : Ev (fun k => spec_l20Text.f k l) (textOf l) := by
  have key : ∀ (f i : Nat), i + f = l.length → Ev (fun k => spec_l20Text.l0 k l ((ropeJoin (l.take i)).map fun b => (b.toNat : Int)) (i : Int)) (textOf l) := by
    intro f
    induction f with
    | zero =>
      intro i hi
      refine Ev.succ (Ev.congr (fun k => ?_) (Ev.now _))
      rw [spec_l20Text.l0, if_neg (by omega), List.take_of_length_le (by omega), strOfNums_bytes]; rfl
    | succ f ih =>
      intro i hi
      have hi' : i < l.length := by omega
      have e1 : wrap64 ((i : Int) + 1) = ((i + 1 : Nat) : Int) := by rw [w64 (by omega) (by omega)]; omega
      have hj : ropeJoin (l.take (i + 1)) = ropeJoin (l.take i) ++ l[i].f0.data.toList := by
        rw [List.take_succ_eq_append_getElem hi']
        simp only [ropeJoin, List.flatMap_append, List.flatMap_cons, List.flatMap_nil, List.append_nil]
      have hz := ropeJoin_take_le l (i + 1)
      have hz2 : l[i].f0.data.toList.length = l[i].f0.size := by simp
      rw [hj, List.length_append] at hz
      refine Ev.succ (Ev.congr (fun k => ?_) (ih (i + 1) (by omega)))
      rw [spec_l20Text.l0, if_pos (by omega), if_pos (by omega), rd_nat l i hi', if_pos (by rw [List.length_map]; omega), e1, hj, List.map_append]
      rfl
  exact key l.length 0 (by omega)
def okAt (s : ByteArray) (i : Nat) : Bool := (decide (97 ≤ gb s i) && decide (gb s i ≤ 122)) || (decide (0 < i) && ((decide (48 ≤ gb s i) && decide (gb s i ≤ 57)) || decide (gb s i = 45)))
def okFrom : Nat → ByteArray → Nat → Bool
  | 0, _, _ => true
  | f + 1, s, i => okAt s i && okFrom f s (i + 1)
def nm (s : ByteArray) : Bool := (decide (1 ≤ s.size) && decide (s.size ≤ 20)) && okFrom s.size s 0
theorem impl_name (s : ByteArray) (hs : s.size ≤ 1099511627776) : Ev (fun k => impl_isName.f k s) (nm s) := by
  have key : ∀ (f i : Nat), i + f = s.size → Ev (fun k => impl_isName.l0 k s (s.size : Int) (i : Int)) (okFrom f s i && (decide (1 ≤ s.size) && decide (s.size ≤ 20))) := by
    intro f
    induction f with
    | zero =>
      intro i hi
      refine Ev.succ (Ev.congr (fun k => ?_) (Ev.now _))
      rw [impl_isName.l0, if_neg (by omega)]
      by_cases h1 : (s.size : Int) ≥ 1
      · rw [if_pos h1, okFrom, show decide (1 ≤ s.size) = true from decide_eq_true (by omega), Bool.true_and, Bool.true_and]
        congr 1
        rw [decide_eq_decide]; omega
      · rw [if_neg h1, okFrom, show decide (1 ≤ s.size) = false from decide_eq_false (by omega)]; simp
    | succ f ih =>
      intro i hi
      have hi' : i < s.size := by omega
      have e1 : wrap64 ((i : Int) + 1) = ((i + 1 : Nat) : Int) := by rw [w64 (by omega) (by omega)]; omega
      cases hok : okAt s i with
      | true =>
        rw [okFrom, hok, Bool.true_and]
        refine Ev.succ (Ev.congr (fun k => ?_) (ih (i + 1) (by omega)))
        rw [impl_isName.l0, if_pos (by omega), if_pos (by omega), if_pos (by omega), bt_gb s i hi', e1]
        simp only [okAt, Bool.or_eq_true, Bool.and_eq_true, decide_eq_true_eq] at hok
        repeat' split
        all_goals first | rfl | (exfalso; omega)
      | false =>
        rw [okFrom, hok, Bool.false_and, Bool.false_and]
        refine Ev.succ (Ev.congr (fun k => ?_) (Ev.now _))
        rw [impl_isName.l0, if_pos (by omega), if_pos (by omega), if_pos (by omega), bt_gb s i hi', e1]
        simp only [okAt, Bool.or_eq_false_iff, Bool.and_eq_false_iff, decide_eq_false_iff_not] at hok
        repeat' split
        all_goals first | rfl | (exfalso; omega)
  refine Ev.congr (fun k => rfl) (?_ : Ev (fun k => impl_isName.l0 k s (s.size : Int) 0) _)
  have := key s.size 0 (by omega)
  rw [nm, Bool.and_comm]
  exact this
theorem spec_name (s : ByteArray) (hs : s.size ≤ 1099511627776) : Ev (fun k => spec_l17IsName.f k s) (nm s) := by
  have key : ∀ (f i : Nat), 1 ≤ i → i + f = s.size → Ev (fun k => spec_l17IsName.l0 k s (i : Int)) (okFrom f s i) := by
    intro f
    induction f with
    | zero =>
      intro i h1 hi
      refine Ev.succ (Ev.congr (fun k => ?_) (Ev.now _))
      rw [spec_l17IsName.l0, if_neg (by omega)]; rfl
    | succ f ih =>
      intro i h1 hi
      have hi' : i < s.size := by omega
      have e1 : wrap64 ((i : Int) + 1) = ((i + 1 : Nat) : Int) := by rw [w64 (by omega) (by omega)]; omega
      cases hok : okAt s i with
      | true =>
        rw [okFrom, hok, Bool.true_and]
        refine Ev.succ (Ev.congr (fun k => ?_) (ih (i + 1) (by omega) (by omega)))
        rw [spec_l17IsName.l0, if_pos (by omega), if_pos (by omega), bt_gb s i hi', e1]
        simp only [okAt, Bool.or_eq_true, Bool.and_eq_true, decide_eq_true_eq] at hok
        repeat' split
        all_goals first | rfl | (exfalso; omega)
      | false =>
        rw [okFrom, hok, Bool.false_and]
        refine Ev.succ (Ev.congr (fun k => ?_) (Ev.now _))
        rw [spec_l17IsName.l0, if_pos (by omega), if_pos (by omega), bt_gb s i hi', e1]
        simp only [okAt, Bool.or_eq_false_iff, Bool.and_eq_false_iff, decide_eq_false_iff_not] at hok
        repeat' split
        all_goals first | rfl | (exfalso; omega)
  have hno : Ev (fun k => spec_l17IsName.j0 k s true) false := Ev.succ (Ev.congr (fun k => by rw [spec_l17IsName.j0, if_pos rfl]) (Ev.now _))
  by_cases h1 : (s.size : Int) < 1
  · refine Ev.congr (fun k => by rw [spec_l17IsName.f, if_pos h1]) ?_
    have : nm s = false := by unfold nm; rw [show decide (1 ≤ s.size) = false from decide_eq_false (by omega)]; rfl
    rw [this]; exact hno
  · by_cases h2 : (s.size : Int) > 20
    · refine Ev.congr (fun k => by rw [spec_l17IsName.f, if_neg h1, if_pos h2]) ?_
      have : nm s = false := by unfold nm; rw [show decide (s.size ≤ 20) = false from decide_eq_false (by omega), Bool.and_false]; rfl
      rw [this]; exact hno
    · have e : nm s = (okAt s 0 && okFrom (s.size - 1) s 1) := by
        unfold nm
        obtain ⟨n, hn⟩ : ∃ n, s.size = n + 1 := ⟨s.size - 1, by omega⟩
        rw [hn, okFrom]
        have : decide (1 ≤ n + 1) = true := by simp
        have h3 : decide (n + 1 ≤ 20) = true := by simp; omega
        rw [this, h3]; simp
      have b0 := bt_gb s 0 (by omega)
      simp only [Int.natCast_zero, Int.cast_ofNat_Int] at b0
      by_cases h3 : bt s 0 < 97
      · refine Ev.congr (fun k => by rw [spec_l17IsName.f, if_neg h1, if_neg h2, if_pos (by omega), if_pos h3]) ?_
        have : nm s = false := by rw [e]; have : okAt s 0 = false := by simp [okAt]; omega
                                  rw [this]; rfl
        rw [this]; exact hno
      · refine Ev.congr (fun k => by rw [spec_l17IsName.f, if_neg h1, if_neg h2, if_pos (by omega), if_neg h3]) ?_
        by_cases h4 : bt s 0 > 122
        · have : nm s = false := by rw [e]; have : okAt s 0 = false := by simp [okAt]; omega
                                    rw [this]; rfl
          rw [this, show decide (bt s 0 > 122) = true from decide_eq_true (by omega)]; exact hno
        · have : nm s = okFrom (s.size - 1) s 1 := by rw [e]; have : okAt s 0 = true := by simp [okAt]; omega
                                                      rw [this]; rfl
          rw [this, show decide (bt s 0 > 122) = false from decide_eq_false (by omega)]
          refine Ev.succ (Ev.congr (fun k => by rw [spec_l17IsName.j0, if_neg (by simp)]) ?_)
          exact key (s.size - 1) 1 (by omega) (by omega)
def mkAt (l : List S56) (n : Int) (i : Nat) : Bool := nm (rd_T56 l (i : Int)).f0 && (decide (0 ≤ (rd_T56 l (i : Int)).f1) && (decide ((rd_T56 l (i : Int)).f1 ≤ n) && (decide (i = 0) || Op.bytesLess ((rd_T56 l ((i - 1 : Nat) : Int)).f0).toList ((rd_T56 l (i : Int)).f0).toList)))
def mkFrom : Nat → List S56 → Int → Nat → Bool
  | 0, _, _, _ => true
  | f + 1, l, n, i => mkAt l n i && mkFrom f l n (i + 1)
def mkOK (l : List S56) (n : Int) : Bool := mkFrom l.length l n 0 && decide (l.length ≤ 100)
theorem rd_mem56 (l : List S56) (i : Nat) (h : i < l.length) : rd_T56 l (i : Int) ∈ l := by
  simp [rd_T56, List.getD_eq_getElem?_getD, List.getElem?_eq_getElem h]
theorem impl_marks (l : List S56) (n : Int) (hl : l.length ≤ 1099511627776) (hs : ∀ y ∈ l, y.f0.size ≤ 1099511627776) : Ev (fun k => impl_marksRight.f k l n) (mkOK l n) := by
  have key : ∀ (f i : Nat), i + f = l.length → Ev (fun k => impl_marksRight.l0 k l n l (l.length : Int) (i : Int)) (mkFrom f l n i && decide (l.length ≤ 100)) := by
    intro f
    induction f with
    | zero =>
      intro i hi
      refine Ev.succ (Ev.congr (fun k => ?_) (Ev.now _))
      rw [impl_marksRight.l0, if_neg (by omega), mkFrom, Bool.true_and]
      congr 1
      rw [decide_eq_decide]; omega
    | succ f ih =>
      intro i hi
      have hi' : i < l.length := by omega
      have e1 : wrap64 ((i : Int) + 1) = ((i + 1 : Nat) : Int) := by rw [w64 (by omega) (by omega)]; omega
      have N := impl_name (rd_T56 l (i : Int)).f0 (hs _ (rd_mem56 l i hi'))
      refine Ev.succ (Ev.congr (fun k => by rw [impl_marksRight.l0, if_pos (by omega), if_pos (by omega), if_pos (by omega)]) (Ev.bind N ?_))
      rw [mkFrom, mkAt]
      cases hn : nm (rd_T56 l (i : Int)).f0 with
      | false => exact Ev.congr (fun k => by rw [if_neg (by simp)]; rfl) (Ev.now _)
      | true =>
        refine Ev.congr (fun k => by rw [if_pos rfl]) ?_
        by_cases h1 : (rd_T56 l (i : Int)).f1 < 0
        · rw [show decide (0 ≤ (rd_T56 l (i : Int)).f1) = false from decide_eq_false (by omega)]
          exact Ev.congr (fun k => by rw [if_pos h1]; rfl) (Ev.now _)
        · refine Ev.congr (fun k => by rw [if_neg h1]) ?_
          rw [show decide (0 ≤ (rd_T56 l (i : Int)).f1) = true from decide_eq_true (by omega)]
          by_cases h2 : (rd_T56 l (i : Int)).f1 > n
          · rw [show decide ((rd_T56 l (i : Int)).f1 ≤ n) = false from decide_eq_false (by omega)]
            exact Ev.congr (fun k => by rw [if_pos h2]; rfl) (Ev.now _)
          · refine Ev.congr (fun k => by rw [if_neg h2]) ?_
            rw [show decide ((rd_T56 l (i : Int)).f1 ≤ n) = true from decide_eq_true (by omega)]
            by_cases h3 : (i : Int) > 0
            · have e2 : wrap64 ((i : Int) - 1) = ((i - 1 : Nat) : Int) := by rw [w64 (by omega) (by omega)]; omega
              refine Ev.congr (fun k => by rw [if_pos h3, e2, if_pos (by omega), if_pos (by omega)]) ?_
              rw [show decide (i = 0) = false from decide_eq_false (by omega)]
              cases hb : Op.bytesLess ((rd_T56 l ((i - 1 : Nat) : Int)).f0).toList ((rd_T56 l (i : Int)).f0).toList with
              | false => exact Ev.congr (fun k => by rw [if_neg (by simp)]; rfl) (Ev.now _)
              | true =>
                refine Ev.congr (fun k => by rw [if_pos rfl, e1]) ?_
                have := ih (i + 1) (by omega)
                simpa using this
            · refine Ev.congr (fun k => by rw [if_neg h3, e1]) ?_
              rw [show decide (i = 0) = true from decide_eq_true (by omega)]
              have := ih (i + 1) (by omega)
              simpa using this
  have := key l.length 0 (by omega)
  exact Ev.congr (fun k => rfl) this
def neAt (x y : List S30) (i : Nat) : Bool := (!((((rd_T30 x (i : Int)).f0).toList) == (((rd_T30 y (i : Int)).f0).toList)) || (!(((rd_T30 x (i : Int)).f1) == ((rd_T30 y (i : Int)).f1)) || (!(((rd_T30 x (i : Int)).f2) == ((rd_T30 y (i : Int)).f2)) || (!(((rd_T30 x (i : Int)).f3) == ((rd_T30 y (i : Int)).f3)) || (!(((rd_T30 x (i : Int)).f4) == ((rd_T30 y (i : Int)).f4)))))))
def eqFrom : Nat → List S30 → List S30 → Nat → Bool
  | 0, _, _, _ => true
  | f + 1, x, y, i => !(neAt x y i) && eqFrom f x y (i + 1)
def eqAll (x y : List S30) : Bool := decide (x.length = y.length) && eqFrom x.length x y 0
theorem impl_nodes (x y : List S30) (hl : x.length ≤ 1099511627776) : Ev (fun k => impl_RopeNode.f k x y) (eqAll x y) := by
  unfold eqAll
  by_cases hxy : x.length = y.length
  · rw [show decide (x.length = y.length) = true from by simpa using hxy, Bool.true_and]
    refine Ev.congr (fun k => by rw [impl_RopeNode.f, if_pos (by omega)]) (?_ : Ev (fun k => impl_RopeNode.l0 k x y (x.length : Int) 0) _)
    have key : ∀ (f i : Nat), i + f = x.length → Ev (fun k => impl_RopeNode.l0 k x y (x.length : Int) (i : Int)) (eqFrom f x y i) := by
      intro f
      induction f with
      | zero =>
        intro i hi
        refine Ev.succ (Ev.congr (fun k => ?_) (Ev.now _))
        rw [impl_RopeNode.l0, if_neg (by omega)]; rfl
      | succ f ih =>
        intro i hi
        have e1 : wrap64 ((i : Int) + 1) = ((i + 1 : Nat) : Int) := by rw [w64 (by omega) (by omega)]; omega
        rw [eqFrom]
        cases hn : neAt x y i with
        | true =>
          refine Ev.succ (Ev.congr (fun k => ?_) (Ev.now _))
          rw [impl_RopeNode.l0, if_pos (by omega), if_pos (by omega), if_pos (by omega), if_pos (by omega), if_pos (by have := hn; unfold neAt at this; exact this)]; rfl
        | false =>
          refine Ev.succ (Ev.congr (fun k => ?_) (ih (i + 1) (by omega)))
          rw [impl_RopeNode.l0, if_pos (by omega), if_pos (by omega), if_pos (by omega), if_pos (by omega), if_neg (by have := hn; unfold neAt at this; rw [this]; simp), e1]
    exact key x.length 0 (by omega)
  · rw [show decide (x.length = y.length) = false from by simpa using hxy, Bool.false_and]
    exact Ev.congr (fun k => by rw [impl_RopeNode.f, if_neg (by omega)]) (Ev.now _)
def tree (s : ByteArray) : List S30 := if s.size = 0 then [] else bld s.size 0 s
def fault (l : List S30) (m : List S56) : Int := if 65536 < (textOf l).size then 1 else if mkOK m ((textOf l).size : Int) = true ∧ eqAll (tree (textOf l)) l = true then 0 else 1
structure Small (l : List S30) (m : List S56) : Prop where
  hl : l.length ≤ 1048576
  ht : (ropeJoin l).length ≤ 1048576
  hm : m.length ≤ 1048576
  hn : ∀ y ∈ m, y.f0.size ≤ 1048576
theorem tree_len (s : ByteArray) : (tree s).length ≤ 2 * s.size := by
  unfold tree
  split
  · simp
  · have := bld_len s.size 0 s (by omega)
    omega
theorem impl_of (s : ByteArray) (m : List S56) (hs : s.size ≤ 1048576) : Ev (fun k => impl_ropeOf.f k s m) (tree s, m) := by
  unfold tree
  by_cases h : s.size = 0
  · rw [if_pos h]
    exact Ev.congr (fun k => by rw [impl_ropeOf.f, if_pos ((toList_nil s).2 h)]) (Ev.now _)
  · rw [if_neg h]
    have := impl_tree s.size s [] (by omega) (by omega) (by omega) (by simp; omega)
    exact Ev.congr (fun k => by rw [impl_ropeOf.f, if_neg (fun e => h ((toList_nil s).1 e))]) (Ev.bind this (Ev.now _))
theorem spec_of (s : ByteArray) (hs : s.size ≤ 1048576) : Ev (fun k => spec_l20Build.f k [] s) (tree s) := by
  unfold tree
  by_cases h : s.size = 0
  · rw [if_pos h]
    exact Ev.succ (Ev.congr (fun k => by rw [spec_l20Build.f, if_pos ((toList_nil s).2 h)]) (Ev.now _))
  · rw [if_neg h]
    have := spec_build s.size s [] (by omega) (by omega) (by omega) (by simp; omega)
    exact this
theorem impl_fault (l : List S30) (m : List S56) (h : Small l m) : Ev (fun k => impl_RopeFault.f k l m) (fault l m) := by
  have hz := textOf_size l
  have h1 := h.ht
  have h2 := h.hm
  have hn := h.hn
  refine Ev.congr (fun k => by rw [impl_RopeFault.f, impl_text l m (by omega), Option.bind_some, impl_long.f, Option.bind_some]) ?_
  unfold fault
  by_cases hL : 65536 < (textOf l).size
  · rw [if_pos hL]
    exact Ev.congr (fun k => by rw [if_pos (by simp; omega)]) (Ev.now _)
  · rw [if_neg hL]
    refine Ev.congr (fun k => by rw [if_neg (by simp; omega)]) (Ev.bind (impl_marks m ((textOf l).size : Int) (by omega) (fun y hy => by have := hn y hy; omega)) ?_)
    cases hm : mkOK m ((textOf l).size : Int) with
    | false => exact Ev.congr (fun k => by rw [if_neg (by simp), if_neg (by simp)]) (Ev.now _)
    | true =>
      have ht := tree_len (textOf l)
      refine Ev.congr (fun k => by rw [if_pos rfl]) (Ev.bind (impl_of (textOf l) [] (by omega)) (Ev.bind (impl_nodes (tree (textOf l)) l (by omega)) ?_))
      cases he : eqAll (tree (textOf l)) l with
      | false => exact Ev.congr (fun k => by rw [if_neg (by simp), if_neg (by simp)]) (Ev.now _)
      | true => exact Ev.congr (fun k => by rw [if_pos rfl, if_pos ⟨rfl, rfl⟩]) (Ev.now _)
theorem spec_fault (l : List S30) (m : List S56) (h : Small l m) : Ev (fun k => spec_RopeFault.f k l m) (fault l m) := by
  have hz := textOf_size l
  have h0 := h.hl
  have h1 := h.ht
  have h2 := h.hm
  have hs := h.hn
  have no : Ev (fun k => spec_RopeFault.j0 k (textOf l) true l m) 1 := Ev.succ (Ev.congr (fun k => by rw [spec_RopeFault.j0, if_pos rfl]) (Ev.now _))
  refine Ev.congr (fun k => by rw [spec_RopeFault.f]) (Ev.bind (spec_text l (by omega) (by omega)) ?_)
  unfold fault
  by_cases hL : 65536 < (textOf l).size
  · rw [if_pos hL]
    exact Ev.congr (fun k => by rw [if_pos (by omega)]) no
  · rw [if_neg hL]
    refine Ev.congr (fun k => by rw [if_neg (by omega)]) ?_
    by_cases hC : (m.length : Int) > 100
    · rw [show decide ((m.length : Int) > 100) = true from by simpa using hC, if_neg (by rintro ⟨h, _⟩; simp [mkOK] at h; omega)]
      exact no
    · rw [show decide ((m.length : Int) > 100) = false from by simpa using hC]
      have ht := tree_len (textOf l)
      refine Ev.succ (Ev.congr (fun k => by rw [spec_RopeFault.j0, if_neg (by simp)]) (Ev.bind (spec_of (textOf l) (by omega)) ?_))
      have hM : Ev (fun k => spec_RopeFault.l1 k (textOf l) 0 l m) (if mkOK m ((textOf l).size : Int) = true then 0 else 1) := by
        have key : ∀ (f i : Nat), i + f = m.length → Ev (fun k => spec_RopeFault.l1 k (textOf l) (i : Int) l m) (if mkFrom f m ((textOf l).size : Int) i = true then 0 else 1) := by
          intro f
          induction f with
          | zero =>
            intro i hi
            refine Ev.succ (Ev.congr (fun k => ?_) (Ev.now _))
            rw [spec_RopeFault.l1, if_neg (by omega), mkFrom]; rfl
          | succ f ih =>
            intro i hi
            have hi' : i < m.length := by omega
            have e1 : wrap64 ((i : Int) + 1) = ((i + 1 : Nat) : Int) := by rw [w64 (by omega) (by omega)]; omega
            have N := spec_name (rd_T56 m (i : Int)).f0 (by have := hs _ (rd_mem56 m i hi'); omega)
            have K : Ev (fun k => spec_l20Mark.f k ((rd_T56 m (i : Int)).f0) ((rd_T56 m (i : Int)).f1) ((rd_T56 m (i : Int)).f2) ((textOf l).size : Int)) (nm (rd_T56 m (i : Int)).f0 && (decide (0 ≤ (rd_T56 m (i : Int)).f1) && decide ((rd_T56 m (i : Int)).f1 ≤ ((textOf l).size : Int)))) := by
              refine Ev.congr (fun k => by rw [spec_l20Mark.f]) (Ev.bind N ?_)
              cases nm (rd_T56 m (i : Int)).f0 with
              | false => exact Ev.congr (fun k => by rw [if_neg (by simp)]; rfl) (Ev.now _)
              | true =>
                refine Ev.congr (fun k => by rw [if_pos rfl]) ?_
                by_cases h3 : (rd_T56 m (i : Int)).f1 ≥ 0
                · rw [show decide (0 ≤ (rd_T56 m (i : Int)).f1) = true from decide_eq_true (by omega)]
                  exact Ev.congr (fun k => by rw [if_pos h3]; rfl) (Ev.now _)
                · rw [show decide (0 ≤ (rd_T56 m (i : Int)).f1) = false from decide_eq_false (by omega)]
                  exact Ev.congr (fun k => by rw [if_neg h3]; rfl) (Ev.now _)
            refine Ev.succ (Ev.congr (fun k => by rw [spec_RopeFault.l1, if_pos (by omega), if_pos (by omega)]) (Ev.bind K ?_))
            rw [mkFrom, mkAt]
            cases hn : nm (rd_T56 m (i : Int)).f0 with
            | false => exact Ev.congr (fun k => by rw [if_neg (by simp), if_neg (by simp)]) (Ev.now _)
            | true =>
              by_cases h3 : 0 ≤ (rd_T56 m (i : Int)).f1
              · rw [show decide (0 ≤ (rd_T56 m (i : Int)).f1) = true from by simpa using h3]
                by_cases h4 : (rd_T56 m (i : Int)).f1 ≤ ((textOf l).size : Int)
                · rw [show decide ((rd_T56 m (i : Int)).f1 ≤ ((textOf l).size : Int)) = true from by simpa using h4]
                  refine Ev.congr (fun k => by rw [if_pos (show (true && (true && true)) = true from rfl)]) ?_
                  by_cases h5 : (i : Int) > 0
                  · have e2 : wrap64 ((i : Int) - 1) = ((i - 1 : Nat) : Int) := by rw [w64 (by omega) (by omega)]; omega
                    refine Ev.congr (fun k => by rw [if_pos h5, e2, if_pos (by omega), if_pos (by omega)]) ?_
                    rw [show decide (i = 0) = false from decide_eq_false (by omega)]
                    cases hb : Op.bytesLess ((rd_T56 m ((i - 1 : Nat) : Int)).f0).toList ((rd_T56 m (i : Int)).f0).toList with
                    | false => exact Ev.congr (fun k => by rw [if_neg (by simp), if_neg (by simp)]) (Ev.now _)
                    | true =>
                      refine Ev.congr (fun k => by rw [if_pos rfl, e1]) ?_
                      have := ih (i + 1) (by omega)
                      simpa using this
                  · refine Ev.congr (fun k => by rw [if_neg h5, e1]) ?_
                    rw [show decide (i = 0) = true from decide_eq_true (by omega)]
                    have := ih (i + 1) (by omega)
                    simpa using this
                · rw [show decide ((rd_T56 m (i : Int)).f1 ≤ ((textOf l).size : Int)) = false from by simpa using h4]
                  exact Ev.congr (fun k => by rw [if_neg (by simp), if_neg (by simp)]) (Ev.now _)
              · rw [show decide (0 ≤ (rd_T56 m (i : Int)).f1) = false from by simpa using h3]
                exact Ev.congr (fun k => by rw [if_neg (by simp), if_neg (by simp)]) (Ev.now _)
        have := key m.length 0 (by omega)
        rw [mkOK, show decide (m.length ≤ 100) = true from by simp; omega, Bool.and_true]
        exact this
      unfold eqAll
      by_cases hxy : (tree (textOf l)).length = l.length
      · refine Ev.congr (fun k => by rw [if_pos (by omega)]) ?_
        rw [show decide ((tree (textOf l)).length = l.length) = true from by simpa using hxy, Bool.true_and]
        have key : ∀ (f i : Nat), i + f = (tree (textOf l)).length → Ev (fun k => spec_RopeFault.l0 k (textOf l) (tree (textOf l)) (i : Int) l m) (if mkOK m ((textOf l).size : Int) = true ∧ eqFrom f (tree (textOf l)) l i = true then 0 else 1) := by
          intro f
          induction f with
          | zero =>
            intro i hi
            refine Ev.succ (Ev.congr (fun k => by rw [spec_RopeFault.l0, if_neg (by omega)]) ?_)
            simpa [eqFrom] using hM
          | succ f ih =>
            intro i hi
            have e1 : wrap64 ((i : Int) + 1) = ((i + 1 : Nat) : Int) := by rw [w64 (by omega) (by omega)]; omega
            rw [eqFrom]
            cases hn : neAt (tree (textOf l)) l i with
            | true =>
              refine Ev.succ (Ev.congr (fun k => ?_) (Ev.now _))
              rw [spec_RopeFault.l0, if_pos (by omega), if_pos (by omega), if_pos (by omega), if_pos (by have := hn; unfold neAt at this; exact this), if_neg (by simp)]
            | false =>
              have := ih (i + 1) (by omega)
              refine Ev.succ (Ev.congr (fun k => ?_) (by simpa using this))
              rw [spec_RopeFault.l0, if_pos (by omega), if_pos (by omega), if_pos (by omega), if_neg (by have := hn; unfold neAt at this; rw [this]; simp), e1]
              rfl
        exact key _ 0 (by omega)
      · refine Ev.congr (fun k => by rw [if_neg (by omega)]) ?_
        rw [show decide ((tree (textOf l)).length = l.length) = false from by simpa using hxy, Bool.false_and, if_neg (by simp)]
        exact Ev.now _
def toN (y : S122) : S30 := ⟨y.f0, y.f1, y.f2, y.f3, y.f4⟩
def toM (y : S124) : S56 := ⟨y.f0, y.f1, y.f2⟩
theorem rd122 (l : List S122) (i : Nat) (h : i < l.length) : rd_T122 l (i : Int) = l[i] := by simp [rd_T122, List.getD_eq_getElem?_getD, List.getElem?_eq_getElem h]
theorem rd124 (l : List S124) (i : Nat) (h : i < l.length) : rd_T124 l (i : Int) = l[i] := by simp [rd_T124, List.getD_eq_getElem?_getD, List.getElem?_eq_getElem h]
theorem set_step {α β : Type} (g : α → β) (z : β) (l : List α) (i : Nat) (h : i < l.length) (y : β) (hy : y = g l[i]) :
    (((l.take i).map g) ++ List.replicate (l.length - i) z).set i y = ((l.take (i + 1)).map g) ++ List.replicate (l.length - (i + 1)) z := by
  subst hy
  have hz : ((l.take i).map g).length = i := by simp; omega
  have e : l.length - i = (l.length - (i + 1)) + 1 := by omega
  rw [List.take_succ_eq_append_getElem h, List.map_append, List.append_assoc, e, List.replicate_succ]
  rw [List.set_append_right _ _ (by omega), hz, Nat.sub_self]
  rfl
theorem toNodes (l : List S122) (h : l.length ≤ 1048576) : Ev (fun k => laws_toRopeNodeS.f k l) (l.map toN) := by
  have key : ∀ (f i : Nat), i + f = l.length → Ev (fun k => laws_toRopeNodeS.l0 k l (((l.take i).map toN) ++ List.replicate (l.length - i) z30) (i : Int)) (l.map toN) := by
    intro f
    induction f with
    | zero =>
      intro i hi
      refine Ev.succ (Ev.congr (fun k => ?_) (Ev.now _))
      rw [laws_toRopeNodeS.l0, if_neg (by omega), List.take_of_length_le (by omega), show l.length - i = 0 from by omega]; simp
    | succ f ih =>
      intro i hi
      have e1 : wrap64 ((i : Int) + 1) = ((i + 1 : Nat) : Int) := by rw [w64 (by omega) (by omega)]; omega
      refine Ev.succ (Ev.congr (fun k => ?_) (ih (i + 1) (by omega)))
      rw [laws_toRopeNodeS.l0, if_pos (by omega), if_pos (by omega)]
      simp only [laws_toRopeNode.f, Option.bind_some]
      rw [if_pos (by simp; omega), e1, Int.toNat_natCast, set_step toN z30 l i (by omega) _ (by rw [rd122 l i (by omega)]; rfl)]
  have := key l.length 0 (by omega)
  refine Ev.congr (fun k => ?_) this
  rw [laws_toRopeNodeS.f, if_pos (by omega), if_pos (by omega)]
  simp
theorem toMarks (l : List S124) (h : l.length ≤ 1048576) : Ev (fun k => laws_toMarkS.f k l) (l.map toM) := by
  have key : ∀ (f i : Nat), i + f = l.length → Ev (fun k => laws_toMarkS.l0 k l (((l.take i).map toM) ++ List.replicate (l.length - i) z56) (i : Int)) (l.map toM) := by
    intro f
    induction f with
    | zero =>
      intro i hi
      refine Ev.succ (Ev.congr (fun k => ?_) (Ev.now _))
      rw [laws_toMarkS.l0, if_neg (by omega), List.take_of_length_le (by omega), show l.length - i = 0 from by omega]; simp
    | succ f ih =>
      intro i hi
      have e1 : wrap64 ((i : Int) + 1) = ((i + 1 : Nat) : Int) := by rw [w64 (by omega) (by omega)]; omega
      refine Ev.succ (Ev.congr (fun k => ?_) (ih (i + 1) (by omega)))
      rw [laws_toMarkS.l0, if_pos (by omega), if_pos (by omega)]
      simp only [laws_toMark.f, Option.bind_some]
      rw [if_pos (by simp; omega), e1, Int.toNat_natCast, set_step toM z56 l i (by omega) _ (by rw [rd124 l i (by omega)]; rfl)]
  have := key l.length 0 (by omega)
  refine Ev.congr (fun k => ?_) this
  rw [laws_toMarkS.f, if_pos (by omega), if_pos (by omega)]
  simp
theorem toRope_ev (l : List S122) (m : List S124) (h : l.length ≤ 1048576) (h' : m.length ≤ 1048576) : Ev (fun k => laws_toRope.f k l m) (l.map toN, m.map toM) :=
  Ev.congr (fun k => by rw [laws_toRope.f]) (Ev.bind (toNodes l h) (Ev.bind (f := fun _ t => some (l.map toN, t)) (toMarks m h') (Ev.now _)))
theorem eqNodes (x : List S30) (h : x.length ≤ 1048576) : Ev (fun k => laws_eqRopeNodeS.f k x x) true := by
  have key : ∀ (f i : Nat), i + f = x.length → Ev (fun k => laws_eqRopeNodeS.l0 k x x (i : Int)) true := by
    intro f
    induction f with
    | zero =>
      intro i hi
      refine Ev.succ (Ev.congr (fun k => ?_) (Ev.now _))
      rw [laws_eqRopeNodeS.l0, if_neg (by omega)]
    | succ f ih =>
      intro i hi
      have e1 : wrap64 ((i : Int) + 1) = ((i + 1 : Nat) : Int) := by rw [w64 (by omega) (by omega)]; omega
      refine Ev.succ (Ev.congr (fun k => ?_) (ih (i + 1) (by omega)))
      rw [laws_eqRopeNodeS.l0, if_pos (by omega), if_pos (by omega), if_pos (by omega)]
      simp only [laws_eqRopeNode.f, if_true, Option.bind_some]
      rw [e1]
  refine Ev.congr (fun k => ?_) (key x.length 0 (by omega))
  rw [laws_eqRopeNodeS.f, if_pos rfl]; rfl
theorem eqMarks (x : List S56) (h : x.length ≤ 1048576) : Ev (fun k => laws_eqMarkS.f k x x) true := by
  have key : ∀ (f i : Nat), i + f = x.length → Ev (fun k => laws_eqMarkS.l0 k x x (i : Int)) true := by
    intro f
    induction f with
    | zero =>
      intro i hi
      refine Ev.succ (Ev.congr (fun k => ?_) (Ev.now _))
      rw [laws_eqMarkS.l0, if_neg (by omega)]
    | succ f ih =>
      intro i hi
      have e1 : wrap64 ((i : Int) + 1) = ((i + 1 : Nat) : Int) := by rw [w64 (by omega) (by omega)]; omega
      refine Ev.succ (Ev.congr (fun k => ?_) (ih (i + 1) (by omega)))
      rw [laws_eqMarkS.l0, if_pos (by omega), if_pos (by omega), if_pos (by omega)]
      simp only [laws_eqMark.f, if_true, bne_self_eq_false, Bool.false_eq_true, if_false, Option.bind_some]
      rw [e1]
  refine Ev.congr (fun k => ?_) (key x.length 0 (by omega))
  rw [laws_eqMarkS.f, if_pos rfl]; rfl
theorem eqRope_ev (x : List S30) (y : List S56) (h : x.length ≤ 1048576) (h' : y.length ≤ 1048576) : Ev (fun k => laws_eqRope.f k x y x y) true :=
  Ev.congr (fun k => by rw [laws_eqRope.f]) (Ev.bind (eqNodes x h) (Ev.congr (fun k => by rw [if_pos rfl]) (Ev.bind (eqMarks y h') (Ev.congr (fun k => by rw [if_pos rfl]) (Ev.now _)))))
def sumN (l : List S122) : Nat := (l.map fun y => y.f0.size).sum
def sumM (l : List S124) : Nat := (l.map fun y => y.f0.size).sum
theorem szNodes (l : List S122) (a : Int) (ha : 0 ≤ a ∧ a ≤ 1048576) (hl : l.length ≤ 9223372036854775807) (hg : ∀ y ∈ l, y.f0.size ≤ 9223372036854775807) :
    Ev (fun k => laws_szRopeNodeS.f k l a) (if a - (l.length : Int) - (sumN l : Int) < 0 then -1 else a - (l.length : Int) - (sumN l : Int)) := by
  have e0 : wrap64 (a - (l.length : Int)) = a - (l.length : Int) := w64 (by omega) (by omega)
  by_cases h0 : a - (l.length : Int) < 0
  · rw [if_pos (by omega)]
    exact Ev.congr (fun k => by rw [laws_szRopeNodeS.f, e0, if_pos h0]) (Ev.now _)
  · refine Ev.congr (fun k => by rw [laws_szRopeNodeS.f, e0, if_neg h0]) (?_ : Ev (fun k => laws_szRopeNodeS.l0 k l (a - (l.length : Int)) 0) _)
    have key : ∀ (f i : Nat) (b : Int), i + f = l.length → 0 ≤ b → b ≤ 1048576 → Ev (fun k => laws_szRopeNodeS.l0 k l b (i : Int)) (if b - (sumN (l.drop i) : Int) < 0 then -1 else b - (sumN (l.drop i) : Int)) := by
      intro f
      induction f with
      | zero =>
        intro i b hi hb hb'
        rw [List.drop_of_length_le (by omega)]
        refine Ev.succ (Ev.congr (fun k => ?_) (Ev.now _))
        rw [laws_szRopeNodeS.l0, if_neg (by omega)]
        simp [sumN]; omega
      | succ f ih =>
        intro i b hi hb hb'
        have hi' : i < l.length := by omega
        have e1 : wrap64 ((i : Int) + 1) = ((i + 1 : Nat) : Int) := by rw [w64 (by omega) (by omega)]; omega
        have hs := hg l[i] (List.getElem_mem hi')
        have e2 : wrap64 (b - (l[i].f0.size : Int)) = b - (l[i].f0.size : Int) := w64 (by omega) (by omega)
        have e3 : sumN (l.drop i) = l[i].f0.size + sumN (l.drop (i + 1)) := by rw [List.drop_eq_getElem_cons hi']; simp only [sumN, List.map_cons, List.sum_cons]
        rw [e3]
        by_cases h1 : b - (l[i].f0.size : Int) < 0
        · rw [if_pos (by omega)]
          refine Ev.succ (Ev.congr (fun k => ?_) (Ev.now _))
          rw [laws_szRopeNodeS.l0, if_pos (by omega), if_pos (by omega), rd122 l i hi', laws_szRopeNode.f, e2, if_pos h1, Option.bind_some, if_pos (by decide)]
        · have := ih (i + 1) (b - (l[i].f0.size : Int)) (by omega) (by omega) (by omega)
          rw [show b - (l[i].f0.size : Int) - (sumN (l.drop (i + 1)) : Int) = b - ((l[i].f0.size + sumN (l.drop (i + 1)) : Nat) : Int) from by omega] at this
          refine Ev.succ (Ev.congr (fun k => ?_) this)
          rw [laws_szRopeNodeS.l0, if_pos (by omega), if_pos (by omega), rd122 l i hi', laws_szRopeNode.f, e2, if_neg h1, Option.bind_some, if_neg h1, e1]
    have := key l.length 0 (a - (l.length : Int)) (by omega) (by omega) (by omega)
    simpa using this
theorem szMarks (l : List S124) (a : Int) (ha : 0 ≤ a ∧ a ≤ 1048576) (hl : l.length ≤ 9223372036854775807) (hg : ∀ y ∈ l, y.f0.size ≤ 9223372036854775807) :
    Ev (fun k => laws_szMarkS.f k l a) (if a - (l.length : Int) - (sumM l : Int) < 0 then -1 else a - (l.length : Int) - (sumM l : Int)) := by
  have e0 : wrap64 (a - (l.length : Int)) = a - (l.length : Int) := w64 (by omega) (by omega)
  by_cases h0 : a - (l.length : Int) < 0
  · rw [if_pos (by omega)]
    exact Ev.congr (fun k => by rw [laws_szMarkS.f, e0, if_pos h0]) (Ev.now _)
  · refine Ev.congr (fun k => by rw [laws_szMarkS.f, e0, if_neg h0]) (?_ : Ev (fun k => laws_szMarkS.l0 k l (a - (l.length : Int)) 0) _)
    have key : ∀ (f i : Nat) (b : Int), i + f = l.length → 0 ≤ b → b ≤ 1048576 → Ev (fun k => laws_szMarkS.l0 k l b (i : Int)) (if b - (sumM (l.drop i) : Int) < 0 then -1 else b - (sumM (l.drop i) : Int)) := by
      intro f
      induction f with
      | zero =>
        intro i b hi hb hb'
        rw [List.drop_of_length_le (by omega)]
        refine Ev.succ (Ev.congr (fun k => ?_) (Ev.now _))
        rw [laws_szMarkS.l0, if_neg (by omega)]
        simp [sumM]; omega
      | succ f ih =>
        intro i b hi hb hb'
        have hi' : i < l.length := by omega
        have e1 : wrap64 ((i : Int) + 1) = ((i + 1 : Nat) : Int) := by rw [w64 (by omega) (by omega)]; omega
        have hs := hg l[i] (List.getElem_mem hi')
        have e2 : wrap64 (b - (l[i].f0.size : Int)) = b - (l[i].f0.size : Int) := w64 (by omega) (by omega)
        have e3 : sumM (l.drop i) = l[i].f0.size + sumM (l.drop (i + 1)) := by rw [List.drop_eq_getElem_cons hi']; simp only [sumM, List.map_cons, List.sum_cons]
        rw [e3]
        by_cases h1 : b - (l[i].f0.size : Int) < 0
        · rw [if_pos (by omega)]
          refine Ev.succ (Ev.congr (fun k => ?_) (Ev.now _))
          rw [laws_szMarkS.l0, if_pos (by omega), if_pos (by omega), rd124 l i hi', laws_szMark.f, e2, if_pos h1, Option.bind_some, if_pos (by decide)]
        · have := ih (i + 1) (b - (l[i].f0.size : Int)) (by omega) (by omega) (by omega)
          rw [show b - (l[i].f0.size : Int) - (sumM (l.drop (i + 1)) : Int) = b - ((l[i].f0.size + sumM (l.drop (i + 1)) : Nat) : Int) from by omega] at this
          refine Ev.succ (Ev.congr (fun k => ?_) this)
          rw [laws_szMarkS.l0, if_pos (by omega), if_pos (by omega), rd124 l i hi', laws_szMark.f, e2, if_neg h1, Option.bind_some, if_neg h1, e1]
    have := key l.length 0 (a - (l.length : Int)) (by omega) (by omega) (by omega)
    simpa using this
theorem szRope_ev (l : List S122) (m : List S124) (hl : l.length ≤ 9223372036854775807) (hg : ∀ y ∈ l, y.f0.size ≤ 9223372036854775807) (hl' : m.length ≤ 9223372036854775807) (hg' : ∀ y ∈ m, y.f0.size ≤ 9223372036854775807) :
    Ev (fun k => laws_szRope.f k l m 1048576) (-1) ∨ (∃ c, 0 ≤ c ∧ c ≤ 1048576 ∧ Ev (fun k => laws_szRope.f k l m 1048576) c) ∧ l.length + sumN l + m.length + sumM m ≤ 1048576 := by
  have A := szNodes l 1048576 (by omega) hl hg
  by_cases h1 : (1048576 : Int) - (l.length : Int) - (sumN l : Int) < 0
  · rw [if_pos h1] at A
    exact .inl (Ev.congr (fun k => by rw [laws_szRope.f]) (Ev.bind A (Ev.congr (fun k => by rw [if_pos (by decide)]) (Ev.now _))))
  · rw [if_neg h1] at A
    have B := szMarks m ((1048576 : Int) - (l.length : Int) - (sumN l : Int)) (by omega) hl' hg'
    by_cases h2 : (1048576 : Int) - (l.length : Int) - (sumN l : Int) - (m.length : Int) - (sumM m : Int) < 0
    · rw [if_pos h2] at B
      exact .inl (Ev.congr (fun k => by rw [laws_szRope.f]) (Ev.bind A (Ev.congr (fun k => by rw [if_neg h1]) (Ev.bind B (Ev.congr (fun k => by rw [if_pos (by decide)]) (Ev.now _))))))
    · rw [if_neg h2] at B
      refine .inr ⟨⟨(1048576 : Int) - (l.length : Int) - (sumN l : Int) - (m.length : Int) - (sumM m : Int), by omega, ?_, (Ev.congr (fun k => by rw [laws_szRope.f]) (Ev.bind A (Ev.congr (fun k => by rw [if_neg h1]) (Ev.bind B (Ev.congr (fun k => by rw [if_neg h2]) (Ev.now _))))))⟩, ?_⟩ <;> omega
theorem join_sum (l : List S122) : (ropeJoin (l.map toN)).length = sumN l := by
  simp [ropeJoin, sumN, List.length_flatMap, toN]
  rfl
theorem le_sumM (l : List S124) : ∀ y ∈ l, y.f0.size ≤ sumM l := by
  induction l with
  | nil => intro y hy; cases hy
  | cons a l ih =>
    intro y hy
    have e : sumM (a :: l) = a.f0.size + sumM l := by simp only [sumM, List.map_cons, List.sum_cons]
    rcases List.mem_cons.1 hy with rfl | hy
    · omega
    · have := ih y hy; omega
theorem small_of (l : List S122) (m : List S124) (h : l.length + sumN l + m.length + sumM m ≤ 1048576) : Small (l.map toN) (m.map toM) where
  hl := by simp; omega
  ht := by rw [join_sum]; omega
  hm := by simp; omega
  hn := by
    intro y hy
    obtain ⟨x, hx, rfl⟩ := List.mem_map.1 hy
    have := le_sumM m x hx
    show x.f0.size ≤ 1048576
    omega
end Go.Proofs.YtmfnipkfpjpjeaaDoor.PR
end
section
namespace Go.Proofs.YtmfnipkfpjpjeaaDoor.PR
open Go.RowKit Go.Proofs.YtmfnipkfpjpjeaaDoorW.PrintWords Go.Proofs.YtmfnipkfpjpjeaaDoorW.PrintLast Go.Proofs.YtmfnipkfpjpjeaaDoorW.PrintMore
set_option linter.unusedVariables false
theorem guard_of (l : List S122) (hl : l.length ≤ maxLen) (hg : ∀ y ∈ l, good122 y) (m : List S124) (hm : m.length ≤ maxLen) (hg' : ∀ y ∈ m, good124 y) :
    Ev (fun k => laws_szRope.f k l m 1048576) (-1) ∨ (∃ c, 0 ≤ c ∧ c ≤ 1048576 ∧ Ev (fun k => laws_szRope.f k l m 1048576) c) ∧ l.length + sumN l + m.length + sumM m ≤ 1048576 :=
  szRope_ev l m hl (fun y hy => (hg y hy).1) hm (fun y hy => (hg' y hy).1)
end Go.Proofs.YtmfnipkfpjpjeaaDoor.PR
end
