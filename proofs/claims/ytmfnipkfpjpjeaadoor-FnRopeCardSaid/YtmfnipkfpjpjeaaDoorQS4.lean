/- What the laws' proofs stand on, part 4: words, the walks of the functions that they reach, and plain laws of what these compute. (printed by this session's own programs, myprint.py and prune.py, over the kit's print.py and its words; Lean checks it) -/
import Derived.Test.YtmfnipkfpjpjeaaDoorQS0
import Derived.Test.YtmfnipkfpjpjeaaDoorQS1
import Derived.Test.YtmfnipkfpjpjeaaDoorQS2
import Derived.Test.YtmfnipkfpjpjeaaDoorQS3
section
namespace Go.Proofs.YtmfnipkfpjpjeaaDoor.PR
open Go.RowKit Go.Proofs.YtmfnipkfpjpjeaaDoorW.PrintWords Go.Proofs.YtmfnipkfpjpjeaaDoorW.PrintLast Go.Proofs.YtmfnipkfpjpjeaaDoorW.PrintMore
attribute [local go_sem] max2_int min2_int max_two min_two max_three min_three max_four min_four   
set_option linter.unusedVariables false
set_option linter.unusedSimpArgs false
def IsS106 (w0 W : World) (g : Nat) (f0 : List Int) (f1 : Int) (f2 : Int) (f3 : Int) : Prop := ∃ A0 c0, W.heap[g]? = some (.cells #[.slice A0 f0.length c0, .int .i64 f1, .int .u64 f2, .int .i64 f3] 106 (0, 0)) ∧ w0.heap.size ≤ g ∧ Kd.C (Kd.int .u8) w0 A0 f0.length f0
theorem IsS106.grown {w0 W : World} {g : Nat} {f0 : List Int} {f1 : Int} {f2 : Int} {f3 : Int} {W1 : World} {row : Option Nat} (h : IsS106 w0 W g f0 f1 f2 f3) (hw : W.grownBy W1 row) (hne : some g ≠ row) : IsS106 w0 W1 g f0 f1 f2 f3 := by
 obtain ⟨A0, c0, hb, hg, hr0⟩ := h
 exact ⟨A0, c0, blk_grown hb hw hne, hg, hr0⟩
theorem IsS106.below {w0 W : World} {g : Nat} {f0 : List Int} {f1 : Int} {f2 : Int} {f3 : Int} {W1 : World} (h : IsS106 w0 W g f0 f1 f2 f3) (hw : Below W.heap.size W W1) : IsS106 w0 W1 g f0 f1 f2 f3 := h.grown (grown_of_below hw none) (by simp)
theorem IsS106.alloc {w0 W : World} {g : Nat} {f0 : List Int} {f1 : Int} {f2 : Int} {f3 : Int} (h : IsS106 w0 W g f0 f1 f2 f3) (o : Obj) : IsS106 w0 (W.alloc o) g f0 f1 f2 f3 := h.below (below_alloc (Below.refl _ _) o)
theorem IsS106.drewN {w0 W : World} {g : Nat} {f0 : List Int} {f1 : Int} {f2 : Int} {f3 : Int} (h : IsS106 w0 W g f0 f1 f2 f3) (m : Nat) : IsS106 w0 (W.drewN m) g f0 f1 f2 f3 := h
theorem IsS106.drew {w0 W : World} {g : Nat} {f0 : List Int} {f1 : Int} {f2 : Int} {f3 : Int} (h : IsS106 w0 W g f0 f1 f2 f3) : IsS106 w0 W.drew g f0 f1 f2 f3 := h
theorem IsS106.apart {w0 W : World} {g : Nat} {f0 : List Int} {f1 : Int} {f2 : Int} {f3 : Int} {α : Type} {d : Kd α} {e : Nat} {base : Nat} {ok : Nat → Prop} {v : Value} {xs : List α} (h : IsS106 w0 W g f0 f1 f2 f3) (ho : d.R e W base ok v xs) (ht : ∀ q, q ∈ e :: d.E → q ≠ 106) : d.R e W base (fun k => ok k ∧ k ≠ g) v xs := by
 obtain ⟨A0, c0, hb, hg, hr0⟩ := h
 exact Kd.R_types ho hb ht
theorem IsS106.own_ne {w0 W : World} {g : Nat} {f0 : List Int} {f1 : Int} {f2 : Int} {f3 : Int} {α : Type} {d : Kd α} {e : Nat} {base : Nat} {ok : Nat → Prop} {v : Value} {xs : List α} (h : IsS106 w0 W g f0 f1 f2 f3) (ho : d.R e W base ok v xs) (ht : e ≠ 106) : some g ≠ v.ownBlock := by
 obtain ⟨A0, c0, hb, hg, hr0⟩ := h
 exact Kd.R_ne ho hb ht
theorem IsS106.ge {w0 W : World} {g : Nat} {f0 : List Int} {f1 : Int} {f2 : Int} {f3 : Int} (h : IsS106 w0 W g f0 f1 f2 f3) : w0.heap.size ≤ g := by
 obtain ⟨A0, c0, hb, hg, hr0⟩ := h
 exact hg
theorem cellS106_0 {W : World} {g : Nat} {A0 : Option Addr} {c0 : Nat} {f0 : List Int} {f1 : Int} {f2 : Int} {f3 : Int} (h : W.heap[g]? = some (.cells #[.slice A0 f0.length c0, .int .i64 f1, .int .u64 f2, .int .i64 f3] 106 (0, 0))) : W.cell? ⟨g, 0, none⟩ = some (.slice A0 f0.length c0) := (blk_cell h 0).trans rfl
theorem cellS106_1 {W : World} {g : Nat} {A0 : Option Addr} {c0 : Nat} {f0 : List Int} {f1 : Int} {f2 : Int} {f3 : Int} (h : W.heap[g]? = some (.cells #[.slice A0 f0.length c0, .int .i64 f1, .int .u64 f2, .int .i64 f3] 106 (0, 0))) : W.cell? ⟨g, 1, none⟩ = some (.int .i64 f1) := (blk_cell h 1).trans rfl
theorem IsS106.set_1 {w0 W : World} {g : Nat} {f0 : List Int} {f1 : Int} {f2 : Int} {f3 : Int} (h : IsS106 w0 W g f0 f1 f2 f3) (x : Int) : IsS106 w0 (W.setCell ⟨g, 1, none⟩ (.int .i64 x)) g f0 x f2 f3 := by
 obtain ⟨A0, c0, hb, hg, hr0⟩ := h
 exact ⟨A0, c0, by simpa using blk_set hb 1 (.int .i64 x), hg, hr0⟩
theorem cellS106_2 {W : World} {g : Nat} {A0 : Option Addr} {c0 : Nat} {f0 : List Int} {f1 : Int} {f2 : Int} {f3 : Int} (h : W.heap[g]? = some (.cells #[.slice A0 f0.length c0, .int .i64 f1, .int .u64 f2, .int .i64 f3] 106 (0, 0))) : W.cell? ⟨g, 2, none⟩ = some (.int .u64 f2) := (blk_cell h 2).trans rfl
theorem IsS106.set_2 {w0 W : World} {g : Nat} {f0 : List Int} {f1 : Int} {f2 : Int} {f3 : Int} (h : IsS106 w0 W g f0 f1 f2 f3) (x : Int) : IsS106 w0 (W.setCell ⟨g, 2, none⟩ (.int .u64 x)) g f0 f1 x f3 := by
 obtain ⟨A0, c0, hb, hg, hr0⟩ := h
 exact ⟨A0, c0, by simpa using blk_set hb 2 (.int .u64 x), hg, hr0⟩
theorem cellS106_3 {W : World} {g : Nat} {A0 : Option Addr} {c0 : Nat} {f0 : List Int} {f1 : Int} {f2 : Int} {f3 : Int} (h : W.heap[g]? = some (.cells #[.slice A0 f0.length c0, .int .i64 f1, .int .u64 f2, .int .i64 f3] 106 (0, 0))) : W.cell? ⟨g, 3, none⟩ = some (.int .i64 f3) := (blk_cell h 3).trans rfl
theorem IsS106.set_3 {w0 W : World} {g : Nat} {f0 : List Int} {f1 : Int} {f2 : Int} {f3 : Int} (h : IsS106 w0 W g f0 f1 f2 f3) (x : Int) : IsS106 w0 (W.setCell ⟨g, 3, none⟩ (.int .i64 x)) g f0 f1 f2 x := by
 obtain ⟨A0, c0, hb, hg, hr0⟩ := h
 exact ⟨A0, c0, by simpa using blk_set hb 3 (.int .i64 x), hg, hr0⟩
def spec_l01Source.l0 : Nat → List Int → Int → List Int → Int → Int → Int → Option (List Int × Int × Int × Int)
 | 0, _, _, _, _, _, _ => none
 | k + 1, x0, x4, x554000, x554001, x554002, x554003 => if x4 < (x0.length : Int) then (if x4 < 64 then (if 0 ≤ x4 then (spec_l01Source.l0 k x0 (wrap64 (x4 + 1)) x554000 x554001 (IntKind.u64.wrap ((Go.bits .xor .u64 x554002 (IntKind.u64.wrap (rd x0 x4))) * 1099511628211)) x554003) else (none)) else (if (wrap64 ((x0.length : Int) / 20)) > 12 then (some (x554000, x554001, x554002, 12)) else (some (x554000, x554001, x554002, wrap64 ((x0.length : Int) / 20))))) else (if (wrap64 ((x0.length : Int) / 20)) > 12 then (some (x554000, x554001, x554002, 12)) else (some (x554000, x554001, x554002, wrap64 ((x0.length : Int) / 20))))
def spec_l01Source.f (k : Nat) (l0 : List Int) : Option (List Int × Int × Int × Int) := spec_l01Source.l0 k l0 0 l0 0 88172645463325252 0
theorem spec_l01Source.mono_l : ∀ k, (∀ y0 y1 y2 y3 y4 y5, LeO (spec_l01Source.l0 k y0 y1 y2 y3 y4 y5) (spec_l01Source.l0 (k + 1) y0 y1 y2 y3 y4 y5))
 | 0 => fun _ _ _ _ _ _ r h => by simp [spec_l01Source.l0] at h
 | k + 1 => by
  have ih0 := spec_l01Source.mono_l k
  ·
   intro y0 y1 y2 y3 y4 y5
   unfold spec_l01Source.l0
   repeat' first
   | (with_reducible exact ih0 _ _ _ _ _ _)
   | (with_reducible exact LeO.refl _)
   | (with_reducible exact LeO.none _)
   | (with_reducible refine LeO.ite ?_ ?_)
   | (with_reducible refine LeO.bind ?_ (fun _ => ?_))
   | exact ih0 _ _ _ _ _ _
   | exact LeO.none _
   | refine LeO.ite ?_ ?_
   | refine LeO.bind ?_ (fun _ => ?_)
theorem spec_l01Source.mono : ∀ a0 k, LeO (spec_l01Source.f k a0) (spec_l01Source.f (k + 1) a0) := by
 intro a0 k
 have ih0 := spec_l01Source.mono_l k
 unfold spec_l01Source.f
 repeat' first
   | (with_reducible exact ih0 _ _ _ _ _ _)
   | (with_reducible exact LeO.refl _)
   | (with_reducible exact LeO.none _)
   | (with_reducible refine LeO.ite ?_ ?_)
   | (with_reducible refine LeO.bind ?_ (fun _ => ?_))
   | exact ih0 _ _ _ _ _ _
   | exact LeO.none _
   | refine LeO.ite ?_ ?_
   | refine LeO.bind ?_ (fun _ => ?_)
def spec_l01Source.T5 : Bool × List (List Nat × List Nat) := (true, [([], []), ([], []), ([1], [1]), ([2], [2]), ([3], [3]), ([], []), ([], []), ([5, 6], [5, 6]), ([7], [7]), ([8], [8]), ([4, 9], [4, 9]), ([10], [10]), ([0, 0, 1, 2, 3, 4, 5, 6, 7, 8, 9, 10, 11], [0]), ([12, 0, 1, 2, 3, 4, 5, 6, 7, 8, 9, 10, 11], [12]), ([13, 11, 0, 1, 2, 3, 4, 5, 6, 7, 8, 9, 10, 11], [11, 13])])
def spec_l01Source.B5 : List Nat := [0, 0, 2, 6, 14, 0, 0, 96, 224, 480, 1022, 2046, 4095, 8191, 16383]
theorem spec_l01Source.tab5 : rtab .any (opsOf Tryd.f45 5) = spec_l01Source.T5 := by kernel_rfl
theorem spec_l01Source.bits5 : waitsOk spec_l01Source.T5.2 spec_l01Source.B5 = true := by kernel_rfl
set_option maxHeartbeats 8000000 in
set_option maxRecDepth 100000 in
theorem spec_l01Source.calls (k : Nat) (A0 : Option Addr) (c0 : Nat) (l0 : List Int) (r1 : List Int) (r2 : Int) (r3 : Int) (r4 : Int) (w0 w : World) (hB : Below w0.heap.size w0 w) (hr0 : Kd.C (Kd.int .u8) w0 A0 l0.length l0) (hc0 : l0.length ≤ c0) (h : spec_l01Source.f k l0 = some (r1, r2, r3, r4)) :
  Calls Tryd.prog 45 #[.slice A0 l0.length c0] w fun e w' => ∃ g_ : Nat, e = .returned (.pointer (some ⟨g_, 0, none⟩)) ∧ IsS106 w0 w' g_ r1 r2 r3 r4 ∧ Below w0.heap.size w0 w' ∧ Below w.heap.size w w' := by
 have hu106 := Tryd.underlying106
 have HR0 := Aside0.mk hr0
 have HC0 := Aside0.mk hc0
 clear hr0 hc0
 have HBW := Aside0.mk (Below.refl w.heap.size w)
 have HW0 := Aside0.mk hB.size
 have HB := Aside0.mk hB
 clear hB
 have H : (spec_l01Source.l0 k l0 0 l0 0 88172645463325252 0) = some (r1, r2, r3, r4) := h
 clear h
 have H' := Aside0.mk H
 clear H
 go_enter Tryd.func45, Tryd.ntmps45
 go_wp2_with (first | ((with_reducible refine gate_dst (N := 7) rfl ?_); refine box_event ?hg (N := 7) ?hd (cs := #[.slice A0 l0.length c0, .int .i64 0, .int .u64 88172645463325252, .int .i64 0]) (t := 106) ?hr ?_; (case hd => rfl); (case hg => rfl); (case hr => first | (go_simp; done) | (go_simp; rfl)); intro gb553 hg w2 hbox hb; have n0_ := Aside0.mk (below_step HBW.out hb); have n1_ := Aside0.mk (below_step (by repeat (first | (with_reducible first | exact HB.out | apply below_alloc | apply pw_below_drewN | apply below_drew1) | exact HB.out)) hb); have n2_ := Aside0.mk (hbox); have n3_ := Aside0.mk ((by rw [hg]; exact (below_size (by repeat (first | (with_reducible first | exact HBW.out | apply below_alloc | apply pw_below_drewN | apply below_drew1) | exact HBW.out))) : w.heap.size ≤ gb553)); have n4_ := Aside0.mk ((Nat.le_trans HW0.out (by rw [hg]; exact (below_size (by repeat (first | (with_reducible first | exact HBW.out | apply below_alloc | apply pw_below_drewN | apply below_drew1) | exact HBW.out))) : w.heap.size ≤ gb553) : w0.heap.size ≤ gb553)); clear HBW; clear HB; have HBW := n0_; have HB := n1_; have BK553 := n2_; have GW553 := n3_; have GE553 := n4_; clear n0_ n1_ n2_ n3_ n4_; clear hb hbox hg))
 go_loopg [4] k (fun kq v4 w' => ∃ (x4_1 : Int) (x554002_1 : Int), v4 = .int .i64 x4_1 ∧ Aside0 (spec_l01Source.l0 kq l0 x4_1 l0 0 x554002_1 0 = some (r1, r2, r3, r4)) ∧ Aside0 (kq ≤ k) ∧ Aside0 (w'.heap[gb553]? = some (.cells #[(.slice A0 l0.length c0), .int .i64 0, .int .u64 x554002_1, .int .i64 0] 106 (0, 0))) ∧ Aside0 (Below w0.heap.size w0 w') ∧ Aside0 (Below w.heap.size w w'))
 case atStart => exact ⟨(0), (88172645463325252), (by first | rfl | (simp; done) | (simp [*]; done)), H', ⟨Nat.le_refl _⟩, ⟨by (with_reducible repeat (first | refine blk_drewN ?_ _ | refine blk_drew ?_ | refine blk_alloc ?_ _)); exact BK553.out⟩, ⟨by repeat (first | (with_reducible first | exact HB.out | apply below_alloc | apply pw_below_drewN | apply below_drew1 | refine below_set ?_ GE553.out) | exact HB.out)⟩, ⟨by repeat (first | (with_reducible first | exact HBW.out | apply below_alloc | apply pw_below_drewN | apply below_drew1 | refine below_set ?_ GW553.out) | exact HBW.out)⟩⟩
 case round =>
  clear H'
  try clear p2
  obtain ⟨x4_1, x554002_1, rfl, HA, HK1, BK553, HB, HBW⟩ := hrel
  cases gk with
  | zero => exact absurd HA.out (by simp [spec_l01Source.l0])
  | succ k1 =>
   have H := HA.out
   clear HA
   simp only [spec_l01Source.l0] at H
   by_cases c3 : x4_1 < (l0.length : Int)
   ·
    rw [if_pos c3] at H
    have c3b0 : decide (x4_1 < (l0.length : Int)) = true := decide_eq_true c3
    clear c3
    by_cases c4 : x4_1 < 64
    ·
     rw [if_pos c4] at H
     have c4b0 : decide (x4_1 < 64) = true := decide_eq_true c4
     clear c4
     by_cases c5 : 0 ≤ x4_1
     ·
      rw [if_pos c5] at H
      have c5b0 : decide (0 ≤ x4_1) = true := decide_eq_true c5
      clear c5
      have H' := Aside0.mk H
      clear H
      try go_wp2
      have n0_ := Aside0.mk (blk_drew BK553.out)
      have n1_ := Aside0.mk (below_drew1 HB.out)
      have n2_ := Aside0.mk (below_drew1 HBW.out)
      clear BK553
      clear HB
      clear HBW
      have BK553 := n0_
      have HB := n1_
      have HBW := n2_
      clear n0_ n1_ n2_
      have p554 : 0 ≤ (x4_1 : Int) := of_decide_eq_true (by first | (with_reducible assumption) | assumption)
      have q554 : x4_1 < (l0.length : Int) := of_decide_eq_true (by first | (with_reducible assumption) | assumption)
      obtain ⟨ad554, e554, hx554_0⟩ := Kd.at_int HR0.out x4_1 p554 q554
      have hw554_0 := hx554_0
      cases e554
      replace hx554_0 := pw_cell_below HB.out hx554_0
      replace p554 := eq_true p554
      replace q554 := eq_true q554
      refine start_ (n := 15) (S := fun w' => w'.cell? ⟨gb553, 0, none⟩ = some (.slice (some ad554) l0.length c0) ∧ w'.cell? ⟨gb553, 1, none⟩ = some (.int .i64 0) ∧ w'.cell? ⟨gb553, 2, none⟩ = some (.int .u64 x554002_1) ∧ w'.cell? ⟨gb553, 3, none⟩ = some (.int .i64 0) ∧ w'.cell? (ad554.add (x4_1).toNat) = some (.int .u8 (rd l0 x4_1))) (ds := [14]) #[false, false, false, false, false, false, false, false, false, false, false, false, false, false, false] (by kernel_rfl) rfl rfl ⟨(blk_cell BK553.out 0).trans rfl, (blk_cell BK553.out 1).trans rfl, (blk_cell BK553.out 2).trans rfl, (blk_cell BK553.out 3).trans rfl, ((HB.out.cell (World.block_lt_of_cell? _ _ hw554_0)).trans hw554_0)⟩ (fun hHeld => ?_); refine with_tabW spec_l01Source.tab5 spec_l01Source.bits5 (fun HT_ HW_ => ?_)
      generalize wr.drew = w6 at BK553 HB HBW hx554_0 hHeld ⊢
      refine pure_ (i := 0) (N := some 18) (v := ?_) (a' := ?_) #[true, false, false, false, false, false, false, false, false, false, false, false, false, false, false] rfl rfl (any_of HT_.out (by kernel_rfl)) (fun _ _ _ h => h) (Or.inl ⟨by rfl, ?_⟩) ?_ ?_
      rotate_left
      ·
       intro w'
       go_simp
       with_reducible rfl
      rotate_left
      ·
       simp only [Act.put, List.setIfInBounds_toArray, List.set_cons_zero, List.set_cons_succ, i64_w, i32_w]
       rfl
      refine pure_ (i := 1) (N := some 19) (v := ?_) (a' := ?_) #[true, true, false, false, false, false, false, false, false, false, false, false, false, false, false] rfl rfl (any_of HT_.out (by kernel_rfl)) (fun _ _ _ h => h) (Or.inl ⟨by rfl, ?_⟩) ?_ ?_
      rotate_left
      ·
       intro w'
       go_simp
       with_reducible rfl
      rotate_left
      ·
       simp only [Act.put, List.setIfInBounds_toArray, List.set_cons_zero, List.set_cons_succ, i64_w, i32_w]
       rfl
      refine pure_ (i := 2) (N := some 20) (v := ?_) (a' := ?_) #[true, true, true, false, false, false, false, false, false, false, false, false, false, false, false] rfl rfl (any_of HT_.out (by kernel_rfl)) (fun _ _ _ h => h) (Or.inl ⟨by rfl, ?_⟩) ?_ ?_
      rotate_left
      ·
       intro w'
       go_simp
       with_reducible rfl
      rotate_left
      ·
       simp only [Act.put, List.setIfInBounds_toArray, List.set_cons_zero, List.set_cons_succ, i64_w, i32_w]
       rfl
      refine pure_ (i := 3) (N := some 21) (v := ?_) (a' := ?_) #[true, true, true, true, false, false, false, false, false, false, false, false, false, false, false] rfl rfl (any_of HT_.out (by kernel_rfl)) (fun _ _ _ h => h) (Or.inl ⟨by rfl, ?_⟩) ?_ ?_
      rotate_left
      ·
       intro w'
       go_simp
       with_reducible rfl
      rotate_left
      ·
       simp only [Act.put, List.setIfInBounds_toArray, List.set_cons_zero, List.set_cons_succ, i64_w, i32_w]
       rfl
      refine pure_ (i := 5) (N := some 23) (v := ?_) (a' := ?_) #[true, true, true, true, false, true, false, false, false, false, false, false, false, false, false] rfl rfl (any_of HT_.out (by kernel_rfl)) (fun _ _ _ h => h) (Or.inl ⟨by rfl, ?_⟩) ?_ ?_
      rotate_left
      ·
       intro w'
       go_simp
       with_reducible rfl
      rotate_left
      ·
       simp only [Act.put, List.setIfInBounds_toArray, List.set_cons_zero, List.set_cons_succ, i64_w, i32_w]
       rfl
      refine pure_ (i := 6) (N := some 24) (v := ?_) (a' := ?_) #[true, true, true, true, false, true, true, false, false, false, false, false, false, false, false] rfl rfl (any_of HT_.out (by kernel_rfl)) (fun _ _ _ h => h) (Or.inl ⟨by rfl, ?_⟩) ?_ ?_
      rotate_left
      ·
       intro w'
       go_simp
       with_reducible rfl
      rotate_left
      ·
       simp only [Act.put, List.setIfInBounds_toArray, List.set_cons_zero, List.set_cons_succ, i64_w, i32_w]
       rfl
      refine pure_ (i := 7) (N := some 25) (v := ?_) (a' := ?_) #[true, true, true, true, false, true, true, true, false, false, false, false, false, false, false] rfl rfl (any_of HT_.out (by kernel_rfl)) (fun _ _ _ h => h) (Or.inl ⟨by rfl, ?_⟩) ?_ ?_
      rotate_left
      ·
       intro w'
       go_simp
       with_reducible rfl
      rotate_left
      ·
       simp only [Act.put, List.setIfInBounds_toArray, List.set_cons_zero, List.set_cons_succ, i64_w, i32_w]
       rfl
      refine take_ (i := 4) (N := some 22) (v := ?_) (a' := ?_) #[true, true, true, true, true, true, true, true, false, false, false, false, false, false, false] rfl rfl (take_ofW HT_.out HW_.out (by kernel_rfl)) (fun _ _ _ h => h) (Or.inl ⟨by rfl, ?_⟩) hHeld ?_ ?_
      rotate_left
      ·
       rintro w' ⟨s0, s1, s2, s3, s4⟩
       go_simp
       with_reducible rfl
      rotate_left
      ·
       simp only [Act.put, List.setIfInBounds_toArray, List.set_cons_zero, List.set_cons_succ, i64_w, i32_w]
       rfl
      refine take_ (i := 8) (N := some 26) (v := ?_) (a' := ?_) #[true, true, true, true, true, true, true, true, true, false, false, false, false, false, false] rfl rfl (take_ofW HT_.out HW_.out (by kernel_rfl)) (fun _ _ _ h => h) (Or.inl ⟨by rfl, ?_⟩) hHeld ?_ ?_
      rotate_left
      ·
       rintro w' ⟨s0, s1, s2, s3, s4⟩
       go_simp
       with_reducible rfl
      rotate_left
      ·
       simp only [Act.put, List.setIfInBounds_toArray, List.set_cons_zero, List.set_cons_succ, i64_w, i32_w]
       rfl
      refine pure_ (i := 9) (N := some 27) (v := ?_) (a' := ?_) #[true, true, true, true, true, true, true, true, true, true, false, false, false, false, false] rfl rfl (any_of HT_.out (by kernel_rfl)) (fun _ _ _ h => h) (Or.inl ⟨by rfl, ?_⟩) ?_ ?_
      rotate_left
      ·
       intro w'
       go_simp
       with_reducible rfl
      rotate_left
      ·
       simp only [Act.put, List.setIfInBounds_toArray, List.set_cons_zero, List.set_cons_succ, i64_w, i32_w]
       rfl
      refine pure_ (i := 10) (N := some 28) (v := ?_) (a' := ?_) #[true, true, true, true, true, true, true, true, true, true, true, false, false, false, false] rfl rfl (any_of HT_.out (by kernel_rfl)) (fun _ _ _ h => h) (Or.inl ⟨by rfl, ?_⟩) ?_ ?_
      rotate_left
      ·
       intro w'
       go_simp
       with_reducible rfl
      rotate_left
      ·
       simp only [Act.put, List.setIfInBounds_toArray, List.set_cons_zero, List.set_cons_succ, i64_w, i32_w]
       rfl
      refine pure_ (i := 11) (N := some 29) (v := ?_) (a' := ?_) #[true, true, true, true, true, true, true, true, true, true, true, true, false, false, false] rfl rfl (any_of HT_.out (by kernel_rfl)) (fun _ _ _ h => h) (Or.inl ⟨by rfl, ?_⟩) ?_ ?_
      rotate_left
      ·
       intro w'
       go_simp
       with_reducible rfl
      rotate_left
      ·
       simp only [Act.put, List.setIfInBounds_toArray, List.set_cons_zero, List.set_cons_succ, i64_w, i32_w]
       rfl
      refine pure_ (i := 12) (N := some 30) (v := ?_) (a' := ?_) #[true, true, true, true, true, true, true, true, true, true, true, true, true, false, false] rfl rfl (any_of HT_.out (by kernel_rfl)) (fun _ _ _ h => h) (Or.inl ⟨by rfl, ?_⟩) ?_ ?_
      rotate_left
      ·
       intro w'
       go_simp
       with_reducible rfl
      rotate_left
      ·
       simp only [Act.put, List.setIfInBounds_toArray, List.set_cons_zero, List.set_cons_succ, i64_w, i32_w]
       rfl
      refine pure_ (i := 13) (N := some 31) (v := ?_) (a' := ?_) #[true, true, true, true, true, true, true, true, true, true, true, true, true, true, false] rfl rfl (any_of HT_.out (by kernel_rfl)) (fun _ _ _ h => h) (Or.inl ⟨by rfl, ?_⟩) ?_ ?_
      rotate_left
      ·
       intro w'
       go_simp
       with_reducible rfl
      rotate_left
      ·
       simp only [Act.put, List.setIfInBounds_toArray, List.set_cons_zero, List.set_cons_succ, i64_w, i32_w]
       rfl
      refine last_ (i := 14) (N := none) #[true, true, true, true, true, true, true, true, true, true, true, true, true, true, true] rfl rfl (one_of HT_.out (by kernel_rfl)) (by decide) (fun K hK => ?_)
      have hs7 : w6.cell? ⟨gb553, 2, none⟩ = some (.int .u64 x554002_1) := (blk_cell BK553.out 2).trans rfl
      have hfs7 := blk_frozen BK553.out 2
      refine skip_ (w1 := ?_) (by rfl) rfl ?_ ?_
      rotate_left
      ·
       go_simp
       rfl
      refine hK.out _ _ ?_
      clear hK K
      refine done_ (done_of HT_.out (by kernel_rfl)) ?_
      try go_wp2
      go_roundg k1
      case measure => have := HK1.out; omega
      case rel => exact ⟨(wrap64 (x4_1 + 1)), (IntKind.u64.wrap ((Go.bits .xor .u64 x554002_1 (IntKind.u64.wrap (rd l0 x4_1))) * 1099511628211)), (by first | rfl | (simp; done) | (simp [*]; done)), H', ⟨by have := HK1.out; omega⟩, ⟨by (with_reducible repeat (first | refine blk_drewN ?_ _ | refine blk_drew ?_ | refine blk_alloc ?_ _)); refine blk_put (cs := #[.slice (some ad554) l0.length c0, .int .i64 0, .int .u64 x554002_1, .int .i64 0]) ?_ 2 _ rfl; (with_reducible repeat (first | refine blk_drewN ?_ _ | refine blk_drew ?_ | refine blk_alloc ?_ _)); exact BK553.out⟩, ⟨by repeat (first | (with_reducible first | exact HB.out | apply below_alloc | apply pw_below_drewN | apply below_drew1 | refine below_set ?_ GE553.out) | exact HB.out)⟩, ⟨by repeat (first | (with_reducible first | exact HBW.out | apply below_alloc | apply pw_below_drewN | apply below_drew1 | refine below_set ?_ GW553.out) | exact HBW.out)⟩⟩
     ·
      rw [if_neg c5] at H
      exact absurd H (by simp)
    ·
     rw [if_neg c4] at H
     have c4b0 : decide (x4_1 < 64) = false := decide_eq_false c4
     clear c4
     by_cases c8 : (wrap64 ((l0.length : Int) / 20)) > 12
     ·
      rw [if_pos c8] at H
      have c8b0 : decide (12 < (wrap64 ((l0.length : Int) / 20))) = true := decide_eq_true c8
      clear c8
      simp only [Option.some.injEq, Prod.mk.injEq] at H
      obtain ⟨rfl, rfl, rfl, rfl⟩ := H
      have hcz9_0 : wr.cell? ⟨gb553, 0, none⟩ = some (.slice A0 l0.length c0) := (blk_cell BK553.out 0).trans rfl
      have hcz9_1 : wr.cell? ⟨gb553, 1, none⟩ = some (.int .i64 0) := (blk_cell BK553.out 1).trans rfl
      have hcz9_2 : wr.cell? ⟨gb553, 2, none⟩ = some (.int .u64 x554002_1) := (blk_cell BK553.out 2).trans rfl
      have hcz9_3 : wr.cell? ⟨gb553, 3, none⟩ = some (.int .i64 0) := (blk_cell BK553.out 3).trans rfl
      have hfz9_0 := blk_frozen BK553.out 0
      have hfz9_1 := blk_frozen BK553.out 1
      have hfz9_2 := blk_frozen BK553.out 2
      have hfz9_3 := blk_frozen BK553.out 3
      go_wp2
      go_ret
      exact ⟨_, rfl, (show IsS106 w0 _ gb553 l0 0 x554002_1 12 from ⟨_, _, by (with_reducible repeat (first | refine blk_drewN ?_ _ | refine blk_drew ?_ | refine blk_alloc ?_ _)); refine blk_put (cs := #[.slice A0 l0.length c0, .int .i64 0, .int .u64 x554002_1, .int .i64 (wrap64 ((l0.length : Int) / 20))]) ?_ 3 _ rfl; (with_reducible repeat (first | refine blk_drewN ?_ _ | refine blk_drew ?_ | refine blk_alloc ?_ _)); refine blk_put (cs := #[.slice A0 l0.length c0, .int .i64 0, .int .u64 x554002_1, .int .i64 0]) ?_ 3 _ rfl; (with_reducible repeat (first | refine blk_drewN ?_ _ | refine blk_drew ?_ | refine blk_alloc ?_ _)); exact BK553.out, GE553.out, HR0.out⟩), by repeat (first | (with_reducible first | exact HB.out | apply below_alloc | apply pw_below_drewN | apply below_drew1 | refine below_set ?_ GE553.out) | exact HB.out), by repeat (first | (with_reducible first | exact HBW.out | apply below_alloc | apply pw_below_drewN | apply below_drew1 | refine below_set ?_ GW553.out) | exact HBW.out)⟩
     ·
      rw [if_neg c8] at H
      have c8b0 : decide (12 < (wrap64 ((l0.length : Int) / 20))) = false := decide_eq_false c8
      clear c8
      simp only [Option.some.injEq, Prod.mk.injEq] at H
      obtain ⟨rfl, rfl, rfl, rfl⟩ := H
      have hcz10_0 : wr.cell? ⟨gb553, 0, none⟩ = some (.slice A0 l0.length c0) := (blk_cell BK553.out 0).trans rfl
      have hcz10_1 : wr.cell? ⟨gb553, 1, none⟩ = some (.int .i64 0) := (blk_cell BK553.out 1).trans rfl
      have hcz10_2 : wr.cell? ⟨gb553, 2, none⟩ = some (.int .u64 x554002_1) := (blk_cell BK553.out 2).trans rfl
      have hcz10_3 : wr.cell? ⟨gb553, 3, none⟩ = some (.int .i64 0) := (blk_cell BK553.out 3).trans rfl
      have hfz10_0 := blk_frozen BK553.out 0
      have hfz10_1 := blk_frozen BK553.out 1
      have hfz10_2 := blk_frozen BK553.out 2
      have hfz10_3 := blk_frozen BK553.out 3
      go_wp2
      go_ret
      exact ⟨_, rfl, (show IsS106 w0 _ gb553 l0 0 x554002_1 (wrap64 ((l0.length : Int) / 20)) from ⟨_, _, by (with_reducible repeat (first | refine blk_drewN ?_ _ | refine blk_drew ?_ | refine blk_alloc ?_ _)); refine blk_put (cs := #[.slice A0 l0.length c0, .int .i64 0, .int .u64 x554002_1, .int .i64 0]) ?_ 3 _ rfl; (with_reducible repeat (first | refine blk_drewN ?_ _ | refine blk_drew ?_ | refine blk_alloc ?_ _)); exact BK553.out, GE553.out, HR0.out⟩), by repeat (first | (with_reducible first | exact HB.out | apply below_alloc | apply pw_below_drewN | apply below_drew1 | refine below_set ?_ GE553.out) | exact HB.out), by repeat (first | (with_reducible first | exact HBW.out | apply below_alloc | apply pw_below_drewN | apply below_drew1 | refine below_set ?_ GW553.out) | exact HBW.out)⟩
   ·
    rw [if_neg c3] at H
    have c3b0 : decide (x4_1 < (l0.length : Int)) = false := decide_eq_false c3
    clear c3
    by_cases c11 : (wrap64 ((l0.length : Int) / 20)) > 12
    ·
     rw [if_pos c11] at H
     have c11b0 : decide (12 < (wrap64 ((l0.length : Int) / 20))) = true := decide_eq_true c11
     clear c11
     simp only [Option.some.injEq, Prod.mk.injEq] at H
     obtain ⟨rfl, rfl, rfl, rfl⟩ := H
     have hcz12_0 : wr.cell? ⟨gb553, 0, none⟩ = some (.slice A0 l0.length c0) := (blk_cell BK553.out 0).trans rfl
     have hcz12_1 : wr.cell? ⟨gb553, 1, none⟩ = some (.int .i64 0) := (blk_cell BK553.out 1).trans rfl
     have hcz12_2 : wr.cell? ⟨gb553, 2, none⟩ = some (.int .u64 x554002_1) := (blk_cell BK553.out 2).trans rfl
     have hcz12_3 : wr.cell? ⟨gb553, 3, none⟩ = some (.int .i64 0) := (blk_cell BK553.out 3).trans rfl
     have hfz12_0 := blk_frozen BK553.out 0
     have hfz12_1 := blk_frozen BK553.out 1
     have hfz12_2 := blk_frozen BK553.out 2
     have hfz12_3 := blk_frozen BK553.out 3
     go_wp2
     go_ret
     exact ⟨_, rfl, (show IsS106 w0 _ gb553 l0 0 x554002_1 12 from ⟨_, _, by (with_reducible repeat (first | refine blk_drewN ?_ _ | refine blk_drew ?_ | refine blk_alloc ?_ _)); refine blk_put (cs := #[.slice A0 l0.length c0, .int .i64 0, .int .u64 x554002_1, .int .i64 (wrap64 ((l0.length : Int) / 20))]) ?_ 3 _ rfl; (with_reducible repeat (first | refine blk_drewN ?_ _ | refine blk_drew ?_ | refine blk_alloc ?_ _)); refine blk_put (cs := #[.slice A0 l0.length c0, .int .i64 0, .int .u64 x554002_1, .int .i64 0]) ?_ 3 _ rfl; (with_reducible repeat (first | refine blk_drewN ?_ _ | refine blk_drew ?_ | refine blk_alloc ?_ _)); exact BK553.out, GE553.out, HR0.out⟩), by repeat (first | (with_reducible first | exact HB.out | apply below_alloc | apply pw_below_drewN | apply below_drew1 | refine below_set ?_ GE553.out) | exact HB.out), by repeat (first | (with_reducible first | exact HBW.out | apply below_alloc | apply pw_below_drewN | apply below_drew1 | refine below_set ?_ GW553.out) | exact HBW.out)⟩
    ·
     rw [if_neg c11] at H
     have c11b0 : decide (12 < (wrap64 ((l0.length : Int) / 20))) = false := decide_eq_false c11
     clear c11
     simp only [Option.some.injEq, Prod.mk.injEq] at H
     obtain ⟨rfl, rfl, rfl, rfl⟩ := H
     have hcz13_0 : wr.cell? ⟨gb553, 0, none⟩ = some (.slice A0 l0.length c0) := (blk_cell BK553.out 0).trans rfl
     have hcz13_1 : wr.cell? ⟨gb553, 1, none⟩ = some (.int .i64 0) := (blk_cell BK553.out 1).trans rfl
     have hcz13_2 : wr.cell? ⟨gb553, 2, none⟩ = some (.int .u64 x554002_1) := (blk_cell BK553.out 2).trans rfl
     have hcz13_3 : wr.cell? ⟨gb553, 3, none⟩ = some (.int .i64 0) := (blk_cell BK553.out 3).trans rfl
     have hfz13_0 := blk_frozen BK553.out 0
     have hfz13_1 := blk_frozen BK553.out 1
     have hfz13_2 := blk_frozen BK553.out 2
     have hfz13_3 := blk_frozen BK553.out 3
     go_wp2
     go_ret
     exact ⟨_, rfl, (show IsS106 w0 _ gb553 l0 0 x554002_1 (wrap64 ((l0.length : Int) / 20)) from ⟨_, _, by (with_reducible repeat (first | refine blk_drewN ?_ _ | refine blk_drew ?_ | refine blk_alloc ?_ _)); refine blk_put (cs := #[.slice A0 l0.length c0, .int .i64 0, .int .u64 x554002_1, .int .i64 0]) ?_ 3 _ rfl; (with_reducible repeat (first | refine blk_drewN ?_ _ | refine blk_drew ?_ | refine blk_alloc ?_ _)); exact BK553.out, GE553.out, HR0.out⟩), by repeat (first | (with_reducible first | exact HB.out | apply below_alloc | apply pw_below_drewN | apply below_drew1 | refine below_set ?_ GE553.out) | exact HB.out), by repeat (first | (with_reducible first | exact HBW.out | apply below_alloc | apply pw_below_drewN | apply below_drew1 | refine below_set ?_ GW553.out) | exact HBW.out)⟩
def mixA (m : Int) : Int := Go.bits .xor .u64 m (IntKind.u64.wrap (m * 8192))
def mixB (m : Int) : Int := Go.bits .xor .u64 m (m / 128)
def mixC (m : Int) : Int := Go.bits .xor .u64 m (IntKind.u64.wrap (m * 131072))
def mixN (m : Int) : Int := mixC (mixB (mixA m))
def spec_l01Src_n.f (s0 : List Int) (s1 s2 s3 : Int) (a1 : Int) : Option (Int × Int × Int × Int) :=
 if a1 ≤ 1 then some (0, s1, s2, s3)
 else if a1 ≤ 9223372036854775807 then
  if s1 < (s0.length : Int) then
   if 0 ≤ s1 then some (wrap64 (Int.tmod (IntKind.u64.wrap (IntKind.u64.wrap (rd s0 s1) + mixN s2 / 1048576)) a1), wrap64 (s1 + 1), mixN s2, s3) else none
  else some (wrap64 (Int.tmod (IntKind.u64.wrap (mixN s2 / 1048576)) a1), s1, mixN s2, s3)
 else none
set_option maxHeartbeats 8000000 in
set_option maxRecDepth 100000 in
theorem spec_l01Src_n.calls (g : Nat) (s0_0 : List Int) (s0_1 s0_2 s0_3 : Int) (a1 : Int) (r1 r2 r3 r4 : Int) (w0 w : World) (hI : IsS106 w0 w g s0_0 s0_1 s0_2 s0_3) (hB : Below w0.heap.size w0 w) (h : spec_l01Src_n.f s0_0 s0_1 s0_2 s0_3 a1 = some (r1, r2, r3, r4)) :
  Calls Tryd.prog 79 #[.pointer (some ⟨g, 0, none⟩), .int .i64 a1] w fun e w' => e = .returned (.int .i64 r1) ∧ IsS106 w0 w' g s0_0 r2 r3 r4 ∧ Below w0.heap.size w0 w' ∧ KeepBut w w' g none := by
 have hu106 := Tryd.underlying106
 unfold spec_l01Src_n.f at h
 by_cases c1 : a1 ≤ 1
 ·
  rw [if_pos c1] at h
  simp only [Option.some.injEq, Prod.mk.injEq] at h
  obtain ⟨rfl, rfl, rfl, rfl⟩ := h
  have HI := Aside0.mk hI
  have HB := Aside0.mk hB
  clear hI hB
  go_enter Tryd.func79, Tryd.ntmps79
  go_wp2
  go_ret
  exact ⟨rfl, HI.out, HB.out, KeepBut.refl _ _ _⟩
 ·
  rw [if_neg c1] at h
  by_cases c2 : a1 ≤ 9223372036854775807
  ·
   rw [if_pos c2] at h
   have d1 : decide (a1 ≤ 1) = false := decide_eq_false c1
   have hz : (a1 == 0) = false := by rw [beq_eq_false_iff_ne]; omega
   have hlo : 1 ≤ a1 := by omega
   have HB := Aside0.mk hB
   obtain ⟨A0, c0, hb, hg, hr⟩ := hI
   have h0 := cellS106_0 hb
   have h1 := cellS106_1 hb
   have h2 := cellS106_2 hb
   have h3 := cellS106_3 hb
   have f1 := blk_frozen hb 1
   have f2 := blk_frozen hb 2
   have HI := Aside0.mk (show IsS106 w0 w g s0_0 s0_1 s0_2 s0_3 from ⟨A0, c0, hb, hg, hr⟩)
   by_cases c3 : s0_1 < (s0_0.length : Int)
   ·
    rw [if_pos c3] at h
    by_cases c4 : 0 ≤ s0_1
    ·
     rw [if_pos c4] at h
     simp only [Option.some.injEq, Prod.mk.injEq] at h
     obtain ⟨rfl, rfl, rfl, rfl⟩ := h
     obtain ⟨ad, e, hx⟩ := Kd.at_int hr s0_1 c4 c3
     cases e
     replace hx := pw_cell_below hB hx
     have d3 : decide (s0_1 < (s0_0.length : Int)) = true := decide_eq_true c3
     clear hb hg hr hB
     go_enter Tryd.func79, Tryd.ntmps79
     go_wp2
     go_quiet (fail)
     go_wp2
     go_quiet (fail)
     go_wp2
     generalize hW : World.setCell _ _ _ = w1
     have hI1 : IsS106 w0 w1 g s0_0 (wrap64 (s0_1 + 1)) s0_2 s0_3 := by rw [← hW]; exact IsS106.set_1 (IsS106.drewN HI.out _) _
     have hB1 : Below w0.heap.size w0 w1 := by rw [← hW]; exact below_set (pw_below_drewN HB.out _) HI.out.ge
     have hK1 : KeepBut w w1 g none := by rw [← hW]; exact (keep_drewN (KeepBut.refl w g none) _).set_ _ _
     obtain ⟨A2, c2_, hb2, hg2, hr2⟩ := hI1
     have k2 := cellS106_2 hb2
     have q2 := blk_frozen hb2 2
     have HI2 := Aside0.mk (show IsS106 w0 w1 g s0_0 (wrap64 (s0_1 + 1)) (s0_2) s0_3 from ⟨A2, c2_, hb2, hg2, hr2⟩)
     have HB2 := Aside0.mk hB1
     have HK2 := Aside0.mk hK1
     clear hb2 hg2 hr2 hB1 hK1
     go_region
     generalize hW : World.drew _ = w2
     have hI2 := IsS106.drew (IsS106.set_2 HI2.out (mixA (s0_2)))
     have hB2 := below_drew (below_set (j := 2) (v := .int .u64 (mixA (s0_2))) HB2.out HI2.out.ge)
     have hK2 := keep_drew (HK2.out.set_ 2 (.int .u64 (mixA (s0_2))))
     simp only [mixA, mixB, mixC] at hI2 hB2 hK2
     rw [hW] at hI2 hB2 hK2
     clear hW k2 q2 HI2 HB2 HK2
     obtain ⟨v2, hv2⟩ : ∃ x, x = mixA (s0_2) := ⟨_, rfl⟩
     have HV2 := Aside0.mk hv2
     simp only [mixA, mixB, mixC] at hv2
     rw [← hv2] at hI2
     clear hv2
     go_wp2
     obtain ⟨A3, c3_, hb3, hg3, hr3⟩ := hI2
     have k2 := cellS106_2 hb3
     have q2 := blk_frozen hb3 2
     have HI3 := Aside0.mk (show IsS106 w0 w2 g s0_0 (wrap64 (s0_1 + 1)) (v2) s0_3 from ⟨A3, c3_, hb3, hg3, hr3⟩)
     have HB3 := Aside0.mk hB2
     have HK3 := Aside0.mk hK2
     clear hb3 hg3 hr3 hB2 hK2
     go_region
     generalize hW : World.drew _ = w3
     have hI3 := IsS106.drew (IsS106.set_2 HI3.out (mixB (v2)))
     have hB3 := below_drew (below_set (j := 2) (v := .int .u64 (mixB (v2))) HB3.out HI3.out.ge)
     have hK3 := keep_drew (HK3.out.set_ 2 (.int .u64 (mixB (v2))))
     simp only [mixA, mixB, mixC] at hI3 hB3 hK3
     rw [hW] at hI3 hB3 hK3
     clear hW k2 q2 HI3 HB3 HK3
     obtain ⟨v3, hv3⟩ : ∃ x, x = mixB (v2) := ⟨_, rfl⟩
     have HV3 := Aside0.mk hv3
     simp only [mixA, mixB, mixC] at hv3
     rw [← hv3] at hI3
     clear hv3
     go_wp2
     obtain ⟨A4, c4_, hb4, hg4, hr4⟩ := hI3
     have k2 := cellS106_2 hb4
     have q2 := blk_frozen hb4 2
     have HI4 := Aside0.mk (show IsS106 w0 w3 g s0_0 (wrap64 (s0_1 + 1)) (v3) s0_3 from ⟨A4, c4_, hb4, hg4, hr4⟩)
     have HB4 := Aside0.mk hB3
     have HK4 := Aside0.mk hK3
     clear hb4 hg4 hr4 hB3 hK3
     go_region
     generalize hW : World.drew _ = w4
     have hI4 := IsS106.drew (IsS106.set_2 HI4.out (mixC (v3)))
     have hB4 := below_drew (below_set (j := 2) (v := .int .u64 (mixC (v3))) HB4.out HI4.out.ge)
     have hK4 := keep_drew (HK4.out.set_ 2 (.int .u64 (mixC (v3))))
     simp only [mixA, mixB, mixC] at hI4 hB4 hK4
     rw [hW] at hI4 hB4 hK4
     clear hW k2 q2 HI4 HB4 HK4
     obtain ⟨v4, hv4⟩ : ∃ x, x = mixC (v3) := ⟨_, rfl⟩
     have HV4 := Aside0.mk hv4
     simp only [mixA, mixB, mixC] at hv4
     rw [← hv4] at hI4
     clear hv4
     obtain ⟨A5, c5_, hb5, hg5, hr5⟩ := hI4
     have k2 := cellS106_2 hb5
     have HI5 := Aside0.mk (show IsS106 w0 w4 g s0_0 (wrap64 (s0_1 + 1)) v4 s0_3 from ⟨A5, c5_, hb5, hg5, hr5⟩)
     have HB5 := Aside0.mk hB4
     have HK5 := Aside0.mk hK4
     clear hb5 hg5 hr5 hB4 hK4
     go_wp2
     go_ret
     have hv : v4 = mixN s0_2 := by rw [HV4.out, HV3.out, HV2.out]; rfl
     rw [← hv]
     exact ⟨by simp, HI5.out, HB5.out, HK5.out⟩
    ·
     rw [if_neg c4] at h
     cases h
   ·
    rw [if_neg c3] at h
    simp only [Option.some.injEq, Prod.mk.injEq] at h
    obtain ⟨rfl, rfl, rfl, rfl⟩ := h
    have d3 : decide (s0_1 < (s0_0.length : Int)) = false := decide_eq_false c3
    clear hb hg hr hB
    go_enter Tryd.func79, Tryd.ntmps79
    go_wp2
    go_quiet (fail)
    go_wp2
    generalize hW : World.drewN _ _ = w1
    have hI1 : IsS106 w0 w1 g s0_0 s0_1 s0_2 s0_3 := by rw [← hW]; exact IsS106.drewN HI.out _
    have hB1 : Below w0.heap.size w0 w1 := by rw [← hW]; exact pw_below_drewN HB.out _
    have hK1 : KeepBut w w1 g none := by rw [← hW]; exact keep_drewN (KeepBut.refl w g none) _
    obtain ⟨A2, c2_, hb2, hg2, hr2⟩ := hI1
    have k2 := cellS106_2 hb2
    have q2 := blk_frozen hb2 2
    have HI2 := Aside0.mk (show IsS106 w0 w1 g s0_0 s0_1 (s0_2) s0_3 from ⟨A2, c2_, hb2, hg2, hr2⟩)
    have HB2 := Aside0.mk hB1
    have HK2 := Aside0.mk hK1
    clear hb2 hg2 hr2 hB1 hK1
    go_region
    generalize hW : World.drew _ = w2
    have hI2 := IsS106.drew (IsS106.set_2 HI2.out (mixA (s0_2)))
    have hB2 := below_drew (below_set (j := 2) (v := .int .u64 (mixA (s0_2))) HB2.out HI2.out.ge)
    have hK2 := keep_drew (HK2.out.set_ 2 (.int .u64 (mixA (s0_2))))
    simp only [mixA, mixB, mixC] at hI2 hB2 hK2
    rw [hW] at hI2 hB2 hK2
    clear hW k2 q2 HI2 HB2 HK2
    obtain ⟨v2, hv2⟩ : ∃ x, x = mixA (s0_2) := ⟨_, rfl⟩
    have HV2 := Aside0.mk hv2
    simp only [mixA, mixB, mixC] at hv2
    rw [← hv2] at hI2
    clear hv2
    go_wp2
    obtain ⟨A3, c3_, hb3, hg3, hr3⟩ := hI2
    have k2 := cellS106_2 hb3
    have q2 := blk_frozen hb3 2
    have HI3 := Aside0.mk (show IsS106 w0 w2 g s0_0 s0_1 (v2) s0_3 from ⟨A3, c3_, hb3, hg3, hr3⟩)
    have HB3 := Aside0.mk hB2
    have HK3 := Aside0.mk hK2
    clear hb3 hg3 hr3 hB2 hK2
    go_region
    generalize hW : World.drew _ = w3
    have hI3 := IsS106.drew (IsS106.set_2 HI3.out (mixB (v2)))
    have hB3 := below_drew (below_set (j := 2) (v := .int .u64 (mixB (v2))) HB3.out HI3.out.ge)
    have hK3 := keep_drew (HK3.out.set_ 2 (.int .u64 (mixB (v2))))
    simp only [mixA, mixB, mixC] at hI3 hB3 hK3
    rw [hW] at hI3 hB3 hK3
    clear hW k2 q2 HI3 HB3 HK3
    obtain ⟨v3, hv3⟩ : ∃ x, x = mixB (v2) := ⟨_, rfl⟩
    have HV3 := Aside0.mk hv3
    simp only [mixA, mixB, mixC] at hv3
    rw [← hv3] at hI3
    clear hv3
    go_wp2
    obtain ⟨A4, c4_, hb4, hg4, hr4⟩ := hI3
    have k2 := cellS106_2 hb4
    have q2 := blk_frozen hb4 2
    have HI4 := Aside0.mk (show IsS106 w0 w3 g s0_0 s0_1 (v3) s0_3 from ⟨A4, c4_, hb4, hg4, hr4⟩)
    have HB4 := Aside0.mk hB3
    have HK4 := Aside0.mk hK3
    clear hb4 hg4 hr4 hB3 hK3
    go_region
    generalize hW : World.drew _ = w4
    have hI4 := IsS106.drew (IsS106.set_2 HI4.out (mixC (v3)))
    have hB4 := below_drew (below_set (j := 2) (v := .int .u64 (mixC (v3))) HB4.out HI4.out.ge)
    have hK4 := keep_drew (HK4.out.set_ 2 (.int .u64 (mixC (v3))))
    simp only [mixA, mixB, mixC] at hI4 hB4 hK4
    rw [hW] at hI4 hB4 hK4
    clear hW k2 q2 HI4 HB4 HK4
    obtain ⟨v4, hv4⟩ : ∃ x, x = mixC (v3) := ⟨_, rfl⟩
    have HV4 := Aside0.mk hv4
    simp only [mixA, mixB, mixC] at hv4
    rw [← hv4] at hI4
    clear hv4
    obtain ⟨A5, c5_, hb5, hg5, hr5⟩ := hI4
    have k2 := cellS106_2 hb5
    have HI5 := Aside0.mk (show IsS106 w0 w4 g s0_0 s0_1 v4 s0_3 from ⟨A5, c5_, hb5, hg5, hr5⟩)
    have HB5 := Aside0.mk hB4
    have HK5 := Aside0.mk hK4
    clear hb5 hg5 hr5 hB4 hK4
    go_wp2
    go_ret
    have hv : v4 = mixN s0_2 := by rw [HV4.out, HV3.out, HV2.out]; rfl
    rw [← hv]
    exact ⟨by simp, HI5.out, HB5.out, HK5.out⟩
  ·
   rw [if_neg c2] at h
   cases h
def spec_l01Src_pick.f (s0_0 : List Int) (s0_1 : Int) (s0_2 : Int) (s0_3 : Int) (l1 : List ByteArray) : Option (ByteArray × Int × Int × Int) := (spec_l01Src_n.f s0_0 s0_1 s0_2 s0_3 (l1.length : Int)).bind fun bt555 => (if 0 ≤ bt555.1 then (if bt555.1 < (l1.length : Int) then (some (rdOf ByteArray.empty l1 bt555.1, bt555.2.1, bt555.2.2.1, bt555.2.2.2)) else (none)) else (none))
set_option maxHeartbeats 8000000 in
set_option maxRecDepth 100000 in
theorem spec_l01Src_pick.calls (g : Nat) (s0_0 : List Int) (s0_1 : Int) (s0_2 : Int) (s0_3 : Int) (A1 : Option Addr) (c1 : Nat) (l1 : List ByteArray) (r1 : ByteArray) (r2 : Int) (r3 : Int) (r4 : Int) (w0 w : World) (hI : IsS106 w0 w g s0_0 s0_1 s0_2 s0_3) (hB : Below w0.heap.size w0 w) (hr1 : Kd.C Kd.string w A1 l1.length l1) (hc1 : l1.length ≤ c1) (hf1 : ∀ ad, A1 = some ad → 0 < l1.length → ad.block ≠ g) (h : spec_l01Src_pick.f s0_0 s0_1 s0_2 s0_3 l1 = some (r1, r2, r3, r4)) :
  Calls Tryd.prog 80 #[.pointer (some ⟨g, 0, none⟩), .slice A1 l1.length c1] w fun e w' => e = .returned (.string r1) ∧ IsS106 w0 w' g s0_0 r2 r3 r4 ∧ Below w0.heap.size w0 w' ∧ KeepBut w w' g none := by
 have HR1 := Aside0.mk hr1
 have HC1 := Aside0.mk hc1
 clear hr1 hc1
 have HI0 := Aside0.mk hI
 have HK := Aside0.mk (KeepBut.refl w g none)
 have HL := Aside0.mk hB.size
 clear hI
 have HW0 := Aside0.mk hB.size
 have HB := Aside0.mk hB
 clear hB
 have H : ((spec_l01Src_n.f s0_0 s0_1 s0_2 s0_3 (l1.length : Int)).bind fun bt555 => (if 0 ≤ bt555.1 then (if bt555.1 < (l1.length : Int) then (some (rdOf ByteArray.empty l1 bt555.1, bt555.2.1, bt555.2.2.1, bt555.2.2.2)) else (none)) else (none))) = some (r1, r2, r3, r4) := h
 clear h
 replace H := Option.bind_eq_some_iff.mp H
 obtain ⟨⟨t555, t556, t557, t558⟩, A30, H⟩ := H
 replace H : (if 0 ≤ t555 then (if t555 < (l1.length : Int) then (some (rdOf ByteArray.empty l1 t555, t556, t557, t558)) else (none)) else (none)) = some (r1, r2, r3, r4) := H
 have A3 := Aside0.mk A30
 clear A30
 by_cases c4 : 0 ≤ t555
 ·
  rw [if_pos c4] at H
  have c4b0 : decide (0 ≤ t555) = true := decide_eq_true c4
  clear c4
  by_cases c5 : t555 < (l1.length : Int)
  ·
   rw [if_pos c5] at H
   have c5b0 : decide (t555 < (l1.length : Int)) = true := decide_eq_true c5
   clear c5
   simp only [Option.some.injEq, Prod.mk.injEq] at H
   obtain ⟨rfl, rfl, rfl, rfl⟩ := H
   go_enter Tryd.func80, Tryd.ntmps80
   go_wp2_with (first | ((with_reducible refine gate_callee (f := 79) rfl ?_); refine goesL_ (some 9) rfl rfl Tryd.func79 (by kernel_rfl) rfl #[.pointer (some ⟨g, 0, none⟩), .int .i64 (l1.length : Int)] rfl (by (try simp only [List.map_toArray, List.map_cons, List.map_nil]); first | done | rfl | (simp only [List.length_drop, List.length_take]; rfl)) ?_; (with_reducible refine (spec_l01Src_n.calls g s0_0 s0_1 s0_2 s0_3 (l1.length : Int) t555 t556 t557 t558 w0 _ ?side1 ?side2 A3.out).mono ?_); (case side1 => repeat (first | (with_reducible first | exact HI0.out | apply IsS106.alloc | apply IsS106.drewN | apply IsS106.drew | apply IsS106.set_1 | apply IsS106.set_2 | apply IsS106.set_3) | exact HI0.out)); (case side2 => repeat (first | (with_reducible first | exact HB.out | apply below_alloc | apply pw_below_drewN | apply below_drew1 | refine below_set ?_ (IsS106.ge HI0.out)) | exact HB.out)); rintro e w6 ⟨rfl, hi, hb, hk⟩; refine ⟨_, rfl, ?_⟩; have n0_ := Aside0.mk (KeepBut.trans (by repeat (first | (with_reducible first | exact HK.out | apply KeepBut.set_ | apply keep_drewN | apply keep_drew | apply keep_alloc) | exact HK.out)) hk (.inl rfl)); have n1_ := Aside0.mk (hb); have n2_ := Aside0.mk (hi); clear HK; clear HB; clear HI0; have HK := n0_; have HB := n1_; have HI0 := n2_; clear n0_ n1_ n2_; (try clear hb); (try clear hb2); (try clear hk); (try clear hi); have p559 : 0 ≤ (t555 : Int) := of_decide_eq_true (by first | (with_reducible assumption) | assumption); have q559 : t555 < (l1.length : Int) := of_decide_eq_true (by first | (with_reducible assumption) | assumption); obtain ⟨ad559, e559, hx559_0⟩ := Kd.at_string HR1.out t555 p559 q559; cases e559; replace hx559_0 := keep_cell HK.out hx559_0 (by first | (rw [add_block]; exact hf1 _ rfl (by omega)) | exact hf1 _ rfl (by omega) | exact hf1 ad559 rfl (by omega)); replace p559 := eq_true p559; replace q559 := eq_true q559))
   go_ret
   exact ⟨by first | rfl | (simp [errW_none, errW_some] <;> rfl) | (simp [*, errW_none, errW_some] <;> rfl), by repeat (first | (with_reducible first | exact HI0.out | apply IsS106.alloc | apply IsS106.drewN | apply IsS106.drew | apply IsS106.set_1 | apply IsS106.set_2 | apply IsS106.set_3) | exact HI0.out), by repeat (first | (with_reducible first | exact HB.out | apply below_alloc | apply pw_below_drewN | apply below_drew1 | refine below_set ?_ (IsS106.ge HI0.out)) | exact HB.out), by repeat (first | (with_reducible first | exact HK.out | apply KeepBut.set_ | apply keep_drewN | apply keep_drew | apply keep_alloc) | exact HK.out)⟩
  ·
   rw [if_neg c5] at H
   exact absurd H (by simp)
 ·
  rw [if_neg c4] at H
  exact absurd H (by simp)
def spec_l01Src_one.f (s0_0 : List Int) (s0_1 : Int) (s0_2 : Int) (s0_3 : Int) (a1 : Int) : Option (Bool × Int × Int × Int) := (spec_l01Src_n.f s0_0 s0_1 s0_2 s0_3 a1).bind fun bt560 => (some ((bt560.1 == 0), bt560.2.1, bt560.2.2.1, bt560.2.2.2))
set_option maxHeartbeats 8000000 in
set_option maxRecDepth 100000 in
theorem spec_l01Src_one.calls (g : Nat) (s0_0 : List Int) (s0_1 : Int) (s0_2 : Int) (s0_3 : Int) (a1 : Int) (r1 : Bool) (r2 : Int) (r3 : Int) (r4 : Int) (w0 w : World) (hI : IsS106 w0 w g s0_0 s0_1 s0_2 s0_3) (hB : Below w0.heap.size w0 w) (h : spec_l01Src_one.f s0_0 s0_1 s0_2 s0_3 a1 = some (r1, r2, r3, r4)) :
  Calls Tryd.prog 82 #[.pointer (some ⟨g, 0, none⟩), .int .i64 a1] w fun e w' => e = .returned (.bool r1) ∧ IsS106 w0 w' g s0_0 r2 r3 r4 ∧ Below w0.heap.size w0 w' ∧ KeepBut w w' g none := by
 have HI0 := Aside0.mk hI
 have HK := Aside0.mk (KeepBut.refl w g none)
 have HL := Aside0.mk hB.size
 clear hI
 have HW0 := Aside0.mk hB.size
 have HB := Aside0.mk hB
 clear hB
 have H : ((spec_l01Src_n.f s0_0 s0_1 s0_2 s0_3 a1).bind fun bt560 => (some ((bt560.1 == 0), bt560.2.1, bt560.2.2.1, bt560.2.2.2))) = some (r1, r2, r3, r4) := h
 clear h
 replace H := Option.bind_eq_some_iff.mp H
 obtain ⟨⟨t560, t561, t562, t563⟩, A30, H⟩ := H
 replace H : (some ((t560 == 0), t561, t562, t563)) = some (r1, r2, r3, r4) := H
 have A3 := Aside0.mk A30
 clear A30
 simp only [Option.some.injEq, Prod.mk.injEq] at H
 obtain ⟨rfl, rfl, rfl, rfl⟩ := H
 go_enter Tryd.func82, Tryd.ntmps82
 go_wp2_with (first | ((with_reducible refine gate_callee (f := 79) rfl ?_); refine goesL_ (some 7) rfl rfl Tryd.func79 (by kernel_rfl) rfl #[.pointer (some ⟨g, 0, none⟩), .int .i64 a1] rfl (by (try simp only [List.map_toArray, List.map_cons, List.map_nil]); first | done | rfl | (simp only [List.length_drop, List.length_take]; rfl)) ?_; (with_reducible refine (spec_l01Src_n.calls g s0_0 s0_1 s0_2 s0_3 a1 t560 t561 t562 t563 w0 _ ?side1 ?side2 A3.out).mono ?_); (case side1 => repeat (first | (with_reducible first | exact HI0.out | apply IsS106.alloc | apply IsS106.drewN | apply IsS106.drew | apply IsS106.set_1 | apply IsS106.set_2 | apply IsS106.set_3) | exact HI0.out)); (case side2 => repeat (first | (with_reducible first | exact HB.out | apply below_alloc | apply pw_below_drewN | apply below_drew1 | refine below_set ?_ (IsS106.ge HI0.out)) | exact HB.out)); rintro e w4 ⟨rfl, hi, hb, hk⟩; refine ⟨_, rfl, ?_⟩; have n0_ := Aside0.mk (KeepBut.trans (by repeat (first | (with_reducible first | exact HK.out | apply KeepBut.set_ | apply keep_drewN | apply keep_drew | apply keep_alloc) | exact HK.out)) hk (.inl rfl)); have n1_ := Aside0.mk (hb); have n2_ := Aside0.mk (hi); clear HK; clear HB; clear HI0; have HK := n0_; have HB := n1_; have HI0 := n2_; clear n0_ n1_ n2_; (try clear hb); (try clear hb2); (try clear hk); (try clear hi)))
 go_ret
 exact ⟨by first | rfl | (simp [errW_none, errW_some] <;> rfl) | (simp [*, errW_none, errW_some] <;> rfl), by repeat (first | (with_reducible first | exact HI0.out | apply IsS106.alloc | apply IsS106.drewN | apply IsS106.drew | apply IsS106.set_1 | apply IsS106.set_2 | apply IsS106.set_3) | exact HI0.out), by repeat (first | (with_reducible first | exact HB.out | apply below_alloc | apply pw_below_drewN | apply below_drew1 | refine below_set ?_ (IsS106.ge HI0.out)) | exact HB.out), by repeat (first | (with_reducible first | exact HK.out | apply KeepBut.set_ | apply keep_drewN | apply keep_drew | apply keep_alloc) | exact HK.out)⟩
def spec_l01Src_long.l0 : Nat → ByteArray → Int → List Int → List Int → Int → Int → Int → Option (ByteArray × Int × Int × Int)
 | 0, _, _, _, _, _, _, _ => none
 | k + 1, x1, x2, x7, x1000, x1001, x1002, x1003 => if (x7.length : Int) < x2 then (if x7.length + x1.size < 140737488355328 then (spec_l01Src_long.l0 k x1 x2 (x7 ++ bytesOf x1) x1000 x1001 x1002 x1003) else (none)) else (if 0 ≤ x2 then (if x2 ≤ (x7.length : Int) then (some (strOfNums (x7.take (x2 : Int).toNat), x1001, x1002, x1003)) else (none)) else (none))
def spec_l01Src_long.f (k : Nat) (s0_0 : List Int) (s0_1 : Int) (s0_2 : Int) (s0_3 : Int) (a1 : ByteArray) (a2 : Int) : Option (ByteArray × Int × Int × Int) := spec_l01Src_long.l0 k a1 a2 (([] : List Int)) s0_0 s0_1 s0_2 s0_3
theorem spec_l01Src_long.mono_l : ∀ k, (∀ y0 y1 y2 y3 y4 y5 y6, LeO (spec_l01Src_long.l0 k y0 y1 y2 y3 y4 y5 y6) (spec_l01Src_long.l0 (k + 1) y0 y1 y2 y3 y4 y5 y6))
 | 0 => fun _ _ _ _ _ _ _ r h => by simp [spec_l01Src_long.l0] at h
 | k + 1 => by
  have ih0 := spec_l01Src_long.mono_l k
  ·
   intro y0 y1 y2 y3 y4 y5 y6
   unfold spec_l01Src_long.l0
   repeat' first
   | (with_reducible exact ih0 _ _ _ _ _ _ _)
   | (with_reducible exact LeO.refl _)
   | (with_reducible exact LeO.none _)
   | (with_reducible refine LeO.ite ?_ ?_)
   | (with_reducible refine LeO.bind ?_ (fun _ => ?_))
   | exact ih0 _ _ _ _ _ _ _
   | exact LeO.none _
   | refine LeO.ite ?_ ?_
   | refine LeO.bind ?_ (fun _ => ?_)
theorem spec_l01Src_long.mono : ∀ a0 a1 a2 a3 a4 a5 k, LeO (spec_l01Src_long.f k a0 a1 a2 a3 a4 a5) (spec_l01Src_long.f (k + 1) a0 a1 a2 a3 a4 a5) := by
 intro a0 a1 a2 a3 a4 a5 k
 have ih0 := spec_l01Src_long.mono_l k
 unfold spec_l01Src_long.f
 repeat' first
   | (with_reducible exact ih0 _ _ _ _ _ _ _)
   | (with_reducible exact LeO.refl _)
   | (with_reducible exact LeO.none _)
   | (with_reducible refine LeO.ite ?_ ?_)
   | (with_reducible refine LeO.bind ?_ (fun _ => ?_))
   | exact ih0 _ _ _ _ _ _ _
   | exact LeO.none _
   | refine LeO.ite ?_ ?_
   | refine LeO.bind ?_ (fun _ => ?_)
set_option maxHeartbeats 8000000 in
set_option maxRecDepth 100000 in
theorem spec_l01Src_long.calls (k : Nat) (g : Nat) (s0_0 : List Int) (s0_1 : Int) (s0_2 : Int) (s0_3 : Int) (a1 : ByteArray) (a2 : Int) (r1 : ByteArray) (r2 : Int) (r3 : Int) (r4 : Int) (w0 w : World) (hI : IsS106 w0 w g s0_0 s0_1 s0_2 s0_3) (hB : Below w0.heap.size w0 w) (h : spec_l01Src_long.f k s0_0 s0_1 s0_2 s0_3 a1 a2 = some (r1, r2, r3, r4)) :
  Calls Tryd.prog 83 #[.pointer (some ⟨g, 0, none⟩), .string a1, .int .i64 a2] w fun e w' => e = .returned (.string r1) ∧ IsS106 w0 w' g s0_0 r2 r3 r4 ∧ Below w0.heap.size w0 w' ∧ KeepBut w w' g none := by
 have HI0 := Aside0.mk hI
 have HK := Aside0.mk (KeepBut.refl w g none)
 have HL := Aside0.mk hB.size
 clear hI
 have HW0 := Aside0.mk hB.size
 have HB := Aside0.mk hB
 clear hB
 have H : (spec_l01Src_long.l0 k a1 a2 (([] : List Int)) s0_0 s0_1 s0_2 s0_3) = some (r1, r2, r3, r4) := h
 clear h
 obtain ⟨y564, hy564⟩ : ∃ y_ : List Int, y_ = (([] : List Int)) := ⟨_, rfl⟩
 replace H : (spec_l01Src_long.l0 k a1 a2 y564 s0_0 s0_1 s0_2 s0_3) = some (r1, r2, r3, r4) := by first | (rw [hy564]; with_reducible exact H) | (have H2_ := (Option.bind_some _ _).symm.trans H; rw [hy564]; with_reducible exact H2_) | (have H2_ := (Option.bind_some _ _).symm.trans H; with_reducible exact H2_) | with_reducible exact H | (rw [hy564]; exact H) | exact H
 have Ny564 := Aside0.mk hy564
 clear hy564
 have H' := Aside0.mk H
 clear H
 go_enter Tryd.func83, Tryd.ntmps83
 go_wp2_with (first | ((with_reducible refine gate_dst (N := 8) rfl ?_); refine Kd.R_lit (Kd.int .u8) _ 5 ?hg (N := 8) ?hd (xs := ([] : List Int)) (inner := []) (ok := fun _ => True) (okp := fun _ => True) ?hr ?hp (fun _ hk => hk) trivial (Below.refl _ _) (Nat.le_refl _) (by simp) ?_; (case hd => rfl); (case hg => rfl); (case hr => first | (go_simp; done) | (go_simp; rfl)); (case hp => exact (Reps.none _ _)); intro v565 w4 ho5 hb hg_ hnew_; clear hg_ hnew_; (first | rw [← Ny564.out] at ho5 | (simp only [Int.reduceToNat] at ho5; rw [← Ny564.out] at ho5)); have n0_ := Aside0.mk (Kd.R_lower ho5 (keep_size (w := w) (g := g) (row := none) (by repeat (first | (with_reducible first | exact HK.out | apply KeepBut.set_ | apply keep_drewN | apply keep_drew | apply keep_alloc) | exact HK.out)))); have n1_ := Aside0.mk (IsS106.below (by repeat (first | (with_reducible first | exact HI0.out | apply IsS106.alloc | apply IsS106.drewN | apply IsS106.drew | apply IsS106.set_1 | apply IsS106.set_2 | apply IsS106.set_3) | exact HI0.out)) hb); have n2_ := Aside0.mk (KeepBut.trans (by repeat (first | (with_reducible first | exact HK.out | apply KeepBut.set_ | apply keep_drewN | apply keep_drew | apply keep_alloc) | exact HK.out)) (KeepBut.of_below hb g none) (.inl rfl)); have n3_ := Aside0.mk (below_step (by repeat (first | (with_reducible first | exact HB.out | apply below_alloc | apply pw_below_drewN | apply below_drew1 | refine below_set ?_ (IsS106.ge HI0.out)) | exact HB.out)) hb); clear HI0; clear HK; clear HB; have HO566 := n0_; have HI0 := n1_; have HK := n2_; have HB := n3_; clear n0_ n1_ n2_ n3_; clear hb ho5))
 go_loopg [7] k (fun kq v7 w' => ∃ (x7_1 : List Int), Aside0 (spec_l01Src_long.l0 kq a1 a2 x7_1 s0_0 s0_1 s0_2 s0_3 = some (r1, r2, r3, r4)) ∧ Aside0 (kq ≤ k) ∧ Aside0 (Kd.R (Kd.int .u8) 5 w' w.heap.size (fun _ => True) v7 x7_1) ∧ Aside0 (IsS106 w0 w' g s0_0 s0_1 s0_2 s0_3) ∧ Aside0 (KeepBut w w' g none) ∧ Aside0 (Below w0.heap.size w0 w'))
 case atStart => exact ⟨(y564), H', ⟨Nat.le_refl _⟩, ⟨by (with_reducible repeat (first | apply Kd.R_alloc | apply Kd.R_drewN | apply Kd.R_drew)); exact HO566.out⟩, ⟨by repeat (first | (with_reducible first | exact HI0.out | apply IsS106.alloc | apply IsS106.drewN | apply IsS106.drew | apply IsS106.set_1 | apply IsS106.set_2 | apply IsS106.set_3) | exact HI0.out)⟩, ⟨by repeat (first | (with_reducible first | exact HK.out | apply KeepBut.set_ | apply keep_drewN | apply keep_drew | apply keep_alloc) | exact HK.out)⟩, ⟨by repeat (first | (with_reducible first | exact HB.out | apply below_alloc | apply pw_below_drewN | apply below_drew1 | refine below_set ?_ (IsS106.ge HI0.out)) | exact HB.out)⟩⟩
 case round =>
  clear H'
  try clear p2
  obtain ⟨x7_1, HA, HK1, HO_7, HI0, HK, HB⟩ := hrel
  cases gk with
  | zero => exact absurd HA.out (by simp [spec_l01Src_long.l0])
  | succ k1 =>
   have H := HA.out
   clear HA
   simp only [spec_l01Src_long.l0] at H
   by_cases c6 : (x7_1.length : Int) < a2
   ·
    rw [if_pos c6] at H
    have c6b0 : decide ((x7_1.length : Int) < a2) = true := decide_eq_true c6
    clear c6
    by_cases c7 : x7_1.length + a1.size < 140737488355328
    ·
     rw [if_pos c7] at H
     have LMc7 := Aside0.mk c7
     clear c7
     obtain ⟨y567, hy567⟩ : ∃ y_ : List Int, y_ = (x7_1 ++ bytesOf a1) := ⟨_, rfl⟩
     replace H : (spec_l01Src_long.l0 k1 a1 a2 y567 s0_0 s0_1 s0_2 s0_3) = some (r1, r2, r3, r4) := by first | (rw [hy567]; with_reducible exact H) | (have H2_ := (Option.bind_some _ _).symm.trans H; rw [hy567]; with_reducible exact H2_) | (have H2_ := (Option.bind_some _ _).symm.trans H; with_reducible exact H2_) | with_reducible exact H | (rw [hy567]; exact H) | exact H
     have Ny567 := Aside0.mk hy567
     clear hy567
     have H' := Aside0.mk H
     clear H
     obtain ⟨Ao8, co8, eo8⟩ := Kd.R_slice HO_7.out
     subst eo8
     go_wp2_with (first | (at_builtin; refine print_append_str w.heap.size rfl (.tmp 13) _ 22 9 5 rfl Tryd.underlying22 Tryd.underlying9 info5 (.slice Ao8 x7_1.length co8) x7_1 a1 rfl rfl ?aO (Below.refl _ _) ?aS ?aL ?_; (case aO => exact (Kd.own_of_R (by (with_reducible repeat (first | apply Kd.R_alloc | apply Kd.R_drewN | apply Kd.R_drew)); exact HO_7.out))); (case aS => exact (keep_size (w := w) (g := g) (row := none) (by repeat (first | (with_reducible first | exact HK.out | apply KeepBut.set_ | apply keep_drewN | apply keep_drew | apply keep_alloc) | exact HK.out)))); (case aL => have := LMc7.out; omega); intro v568 w9 ho0 hb hg; have ho := Kd.R_of_own (h1 := fun _ => rfl) (ok := fun _ => True) ho0 (fun _ _ => trivial); clear ho0; have hat := True.intro; rw [← Ny567.out] at ho; change Kd.R (Kd.int .u8) 5 w9 w.heap.size (fun _ => True) v568 y567 at ho; have n0_ := Aside0.mk (IsS106.grown (by repeat (first | (with_reducible first | exact HI0.out | apply IsS106.alloc | apply IsS106.drewN | apply IsS106.drew | apply IsS106.set_1 | apply IsS106.set_2 | apply IsS106.set_3) | exact HI0.out)) hg (IsS106.own_ne HI0.out HO_7.out (by decide))); have n1_ := Aside0.mk (below_weaken (by repeat (first | (with_reducible first | exact HB.out | apply below_alloc | apply pw_below_drewN | apply below_drew1 | refine below_set ?_ (IsS106.ge HI0.out)) | exact HB.out)) HL.out hb); have n2_ := Aside0.mk (KeepBut.trans (by repeat (first | (with_reducible first | exact HK.out | apply KeepBut.set_ | apply keep_drewN | apply keep_drew | apply keep_alloc) | exact HK.out)) (KeepBut.of_grown hg g) (Kd.R_base2 HO_7.out)); have n3_ := Aside0.mk (ho); clear HI0; clear HB; clear HK; clear HO_7; have HI0 := n0_; have HB := n1_; have HK := n2_; have HO569 := n3_; clear n0_ n1_ n2_ n3_; clear ho hb hg hat))
     go_roundg k1
     case measure => have := HK1.out; omega
     case rel => exact ⟨(y567), H', ⟨by have := HK1.out; omega⟩, ⟨by (with_reducible repeat (first | apply Kd.R_alloc | apply Kd.R_drewN | apply Kd.R_drew)); exact HO569.out⟩, ⟨by repeat (first | (with_reducible first | exact HI0.out | apply IsS106.alloc | apply IsS106.drewN | apply IsS106.drew | apply IsS106.set_1 | apply IsS106.set_2 | apply IsS106.set_3) | exact HI0.out)⟩, ⟨by repeat (first | (with_reducible first | exact HK.out | apply KeepBut.set_ | apply keep_drewN | apply keep_drew | apply keep_alloc) | exact HK.out)⟩, ⟨by repeat (first | (with_reducible first | exact HB.out | apply below_alloc | apply pw_below_drewN | apply below_drew1 | refine below_set ?_ (IsS106.ge HI0.out)) | exact HB.out)⟩⟩
    ·
     rw [if_neg c7] at H
     exact absurd H (by simp)
   ·
    rw [if_neg c6] at H
    have c6b0 : decide ((x7_1.length : Int) < a2) = false := decide_eq_false c6
    clear c6
    by_cases c10 : 0 ≤ a2
    ·
     rw [if_pos c10] at H
     have c10b0 := eq_true c10
     have c10b1 : decide (0 ≤ a2) = true := decide_eq_true c10
     clear c10
     by_cases c11 : a2 ≤ (x7_1.length : Int)
     ·
      rw [if_pos c11] at H
      have c11b0 := eq_true c11
      have c11b1 : decide (a2 ≤ (x7_1.length : Int)) = true := decide_eq_true c11
      clear c11
      obtain ⟨y570, hy570⟩ : ∃ y_ : List Int, y_ = (x7_1.take (a2 : Int).toNat) := ⟨_, rfl⟩
      replace H : (some (strOfNums y570, s0_1, s0_2, s0_3)) = some (r1, r2, r3, r4) := by first | (rw [hy570]; with_reducible exact H) | (have H2_ := (Option.bind_some _ _).symm.trans H; rw [hy570]; with_reducible exact H2_) | (have H2_ := (Option.bind_some _ _).symm.trans H; with_reducible exact H2_) | with_reducible exact H | (rw [hy570]; exact H) | exact H
      have Ny570 := Aside0.mk hy570
      clear hy570
      simp only [Option.some.injEq, Prod.mk.injEq] at H
      obtain ⟨rfl, rfl, rfl, rfl⟩ := H
      obtain ⟨Ao12, co12, eo12⟩ := Kd.R_slice HO_7.out
      subst eo12
      have q13 : (a2 : Int) ≤ ((x7_1.length : Int) : Int) := of_decide_eq_true (by first | (with_reducible assumption) | assumption)
      obtain ⟨i013, hi013, _, hsz13, _⟩ := info_parts info5
      have hroom13 : x7_1.length ≤ co12 := (Kd.R_reads' HO_7.out).2.1
      have hC13 : Kd.C (Kd.int .u8) _ Ao12 x7_1.length x7_1 := (Kd.R_reads' HO_7.out).2.2
      have hcut13 := cut_to (P := Tryd.prog) 22 5 .i64 Tryd.underlying22 hi013 Ao12 x7_1.length co12 a2 (of_decide_eq_true (by first | (with_reducible assumption) | assumption)) q13 hroom13
      have hr13 := Kd.C_take (m := (a2 : Int).toNat) hC13 (by omega)
      have hy13 : y570.length = (a2 : Int).toNat := (by rw [Ny570.out, List.length_take]; omega)
      rw [← Ny570.out] at hr13
      rw [← hy13] at hcut13
      have HR573 := Aside0.mk hr13
      have HC573 := Aside0.mk (show y570.length ≤ co12 from by omega)
      clear hr13 hC13 hroom13 hi013 hsz13
      have KY13 := Aside0.mk hy13
      clear hy13
      have KL13 := Aside0.mk (show (a2 : Int).toNat ≤ x7_1.length from by omega)
      replace q13 := eq_true q13
      have hcv14 := Kd.C_string (P := Tryd.prog) (A := Ao12) (c := co12) Tryd.underlying22 Tryd.underlying5 Tryd.underlying9 (by repeat (first | (with_reducible exact HR573.out) | (with_reducible refine Kd.C_alloc ?_ _) | (with_reducible refine Kd.C_drewN ?_ _) | (with_reducible refine Kd.C_drew ?_) | exact HR573.out))
      go_wp2
      go_ret
      exact ⟨by first | rfl | (simp [errW_none, errW_some] <;> rfl) | (simp [*, errW_none, errW_some] <;> rfl), by repeat (first | (with_reducible first | exact HI0.out | apply IsS106.alloc | apply IsS106.drewN | apply IsS106.drew | apply IsS106.set_1 | apply IsS106.set_2 | apply IsS106.set_3) | exact HI0.out), by repeat (first | (with_reducible first | exact HB.out | apply below_alloc | apply pw_below_drewN | apply below_drew1 | refine below_set ?_ (IsS106.ge HI0.out)) | exact HB.out), by repeat (first | (with_reducible first | exact HK.out | apply KeepBut.set_ | apply keep_drewN | apply keep_drew | apply keep_alloc) | exact HK.out)⟩
     ·
      rw [if_neg c11] at H
      exact absurd H (by simp)
    ·
     rw [if_neg c10] at H
     exact absurd H (by simp)
end Go.Proofs.YtmfnipkfpjpjeaaDoor.PR
end
section
namespace Go.Proofs.YtmfnipkfpjpjeaaDoor.PR
open Go.RowKit Go.Proofs.YtmfnipkfpjpjeaaDoorW.PrintWords Go.Proofs.YtmfnipkfpjpjeaaDoorW.PrintLast Go.Proofs.YtmfnipkfpjpjeaaDoorW.PrintMore
attribute [local go_sem] max2_int min2_int max_two min_two max_three min_three max_four min_four   
set_option linter.unusedVariables false
set_option linter.unusedSimpArgs false
def spec_l01Src_ropeText.l0 : Nat → ByteArray → Int → List Int → Int → Int → Int → Option (ByteArray × Int × Int × Int)
 | 0, _, _, _, _, _, _ => none
 | k + 1, x3, x4, x1000, x1001, x1002, x1003 => if x4 > 0 then ((spec_l01Write.f k 512).bind fun t578 => ((spec_l01Write.f k 24576).bind fun t579 => ((spec_l01Write.f k 24577).bind fun t580 => (if t579.size + t580.size ≤ 9223372036854775807 then ((spec_l01Write.f k 65536).bind fun t581 => ((spec_l01Src_pick.f x1000 x1001 x1002 x1003 (([(⟨#[97, 98, 99, 100, 101, 102, 103, 104, 105, 106]⟩ : ByteArray), (⟨#[10]⟩ : ByteArray), (⟨#[120, 121]⟩ : ByteArray), t578, t579 ++ t580, (⟨#[255]⟩ : ByteArray), (⟨#[119, 111, 114, 100, 32]⟩ : ByteArray), (⟨#[10, 10]⟩ : ByteArray), t581, (⟨#[48, 49, 50, 51, 52, 53, 54, 55, 56, 57, 48, 49, 50, 51, 52, 53, 54, 55, 56, 57, 48, 49, 50, 51, 52, 53, 54, 55, 56, 57, 48, 49, 50, 51, 52, 53, 54, 55, 56, 57]⟩ : ByteArray)] : List ByteArray))).bind fun bt585 => (if x3.size + bt585.1.size ≤ 9223372036854775807 then (spec_l01Src_ropeText.l0 k (x3 ++ bt585.1) (wrap64 (x4 - 1)) x1000 bt585.2.1 bt585.2.2.1 bt585.2.2.2) else (none)))) else (none))))) else ((spec_l01Src_one.f x1000 x1001 x1002 x1003 60).bind fun bt589 => (if bt589.1 = true then ((spec_l01Src_n.f x1000 bt589.2.1 bt589.2.2.1 bt589.2.2.2 5).bind fun bt593 => ((spec_l01Src_long.f k x1000 bt593.2.1 bt593.2.2.1 bt593.2.2.2 (⟨#[97, 98, 99, 10]⟩ : ByteArray) (wrap64 (65533 + bt593.1))).bind fun bt597 => (some (bt597.1, bt597.2.1, bt597.2.2.1, bt597.2.2.2)))) else (some (x3, bt589.2.1, bt589.2.2.1, bt589.2.2.2))))
def spec_l01Src_ropeText.f (k : Nat) (s0_0 : List Int) (s0_1 : Int) (s0_2 : Int) (s0_3 : Int) : Option (ByteArray × Int × Int × Int) := (spec_l01Src_n.f s0_0 s0_1 s0_2 s0_3 (wrap64 (6 + s0_3))).bind fun bt574 => (spec_l01Src_ropeText.l0 k (⟨#[]⟩ : ByteArray) bt574.1 s0_0 bt574.2.1 bt574.2.2.1 bt574.2.2.2)
theorem spec_l01Src_ropeText.mono_l : ∀ k, (∀ y0 y1 y2 y3 y4 y5, LeO (spec_l01Src_ropeText.l0 k y0 y1 y2 y3 y4 y5) (spec_l01Src_ropeText.l0 (k + 1) y0 y1 y2 y3 y4 y5))
 | 0 => fun _ _ _ _ _ _ r h => by simp [spec_l01Src_ropeText.l0] at h
 | k + 1 => by
  have ih0 := spec_l01Src_ropeText.mono_l k
  ·
   intro y0 y1 y2 y3 y4 y5
   unfold spec_l01Src_ropeText.l0
   repeat' first
   | (with_reducible exact ih0 _ _ _ _ _ _)
   | (with_reducible exact spec_l01Src_long.mono _ _ _ _ _ _ _)
   | (with_reducible exact spec_l01Write.mono _ _)
   | (with_reducible exact LeO.refl _)
   | (with_reducible exact LeO.none _)
   | (with_reducible refine LeO.ite ?_ ?_)
   | (with_reducible refine LeO.bind ?_ (fun _ => ?_))
   | exact ih0 _ _ _ _ _ _
   | exact spec_l01Src_long.mono _ _ _ _ _ _ _
   | exact spec_l01Write.mono _ _
   | exact LeO.none _
   | refine LeO.ite ?_ ?_
   | refine LeO.bind ?_ (fun _ => ?_)
theorem spec_l01Src_ropeText.mono : ∀ a0 a1 a2 a3 k, LeO (spec_l01Src_ropeText.f k a0 a1 a2 a3) (spec_l01Src_ropeText.f (k + 1) a0 a1 a2 a3) := by
 intro a0 a1 a2 a3 k
 have ih0 := spec_l01Src_ropeText.mono_l k
 unfold spec_l01Src_ropeText.f
 repeat' first
   | (with_reducible exact ih0 _ _ _ _ _ _)
   | (with_reducible exact spec_l01Src_long.mono _ _ _ _ _ _ _)
   | (with_reducible exact spec_l01Write.mono _ _)
   | (with_reducible exact LeO.refl _)
   | (with_reducible exact LeO.none _)
   | (with_reducible refine LeO.ite ?_ ?_)
   | (with_reducible refine LeO.bind ?_ (fun _ => ?_))
   | exact ih0 _ _ _ _ _ _
   | exact spec_l01Src_long.mono _ _ _ _ _ _ _
   | exact spec_l01Write.mono _ _
   | exact LeO.none _
   | refine LeO.ite ?_ ?_
   | refine LeO.bind ?_ (fun _ => ?_)
set_option maxHeartbeats 8000000 in
set_option maxRecDepth 100000 in
theorem spec_l01Src_ropeText.calls (k : Nat) (g : Nat) (s0_0 : List Int) (s0_1 : Int) (s0_2 : Int) (s0_3 : Int) (r1 : ByteArray) (r2 : Int) (r3 : Int) (r4 : Int) (w0 w : World) (hI : IsS106 w0 w g s0_0 s0_1 s0_2 s0_3) (hB : Below w0.heap.size w0 w) (h : spec_l01Src_ropeText.f k s0_0 s0_1 s0_2 s0_3 = some (r1, r2, r3, r4)) :
  Calls Tryd.prog 46 #[.pointer (some ⟨g, 0, none⟩)] w fun e w' => e = .returned (.string r1) ∧ IsS106 w0 w' g s0_0 r2 r3 r4 ∧ Below w0.heap.size w0 w' ∧ KeepBut w w' g none := by
 have HI0 := Aside0.mk hI
 have HK := Aside0.mk (KeepBut.refl w g none)
 have HL := Aside0.mk hB.size
 clear hI
 have HW0 := Aside0.mk hB.size
 have HB := Aside0.mk hB
 clear hB
 have H : ((spec_l01Src_n.f s0_0 s0_1 s0_2 s0_3 (wrap64 (6 + s0_3))).bind fun bt574 => (spec_l01Src_ropeText.l0 k (⟨#[]⟩ : ByteArray) bt574.1 s0_0 bt574.2.1 bt574.2.2.1 bt574.2.2.2)) = some (r1, r2, r3, r4) := h
 clear h
 replace H := Option.bind_eq_some_iff.mp H
 obtain ⟨⟨t574, t575, t576, t577⟩, A20, H⟩ := H
 replace H : (spec_l01Src_ropeText.l0 k (⟨#[]⟩ : ByteArray) t574 s0_0 t575 t576 t577) = some (r1, r2, r3, r4) := H
 have A2 := Aside0.mk A20
 clear A20
 have H' := Aside0.mk H
 clear H
 obtain ⟨ASz3_0, cSz3_0, HGz3, hgz3, HSz3_0⟩ := HI0.out
 have hcz3_0 := cellS106_0 HGz3
 have hcz3_1 := cellS106_1 HGz3
 have hcz3_2 := cellS106_2 HGz3
 have hcz3_3 := cellS106_3 HGz3
 have hfz3_1 := blk_frozen HGz3 1
 have hfz3_2 := blk_frozen HGz3 2
 have hfz3_3 := blk_frozen HGz3 3
 clear HGz3 hgz3
 go_enter Tryd.func46, Tryd.ntmps46
 go_wp2_with (first | ((with_reducible refine gate_callee (f := 79) rfl ?_); refine goesL_ (some 11) rfl rfl Tryd.func79 (by kernel_rfl) rfl #[.pointer (some ⟨g, 0, none⟩), .int .i64 (wrap64 (6 + s0_3))] rfl (by (try simp only [List.map_toArray, List.map_cons, List.map_nil]); first | done | rfl | (simp only [List.length_drop, List.length_take]; rfl)) ?_; (with_reducible refine (spec_l01Src_n.calls g s0_0 s0_1 s0_2 s0_3 (wrap64 (6 + s0_3)) t574 t575 t576 t577 w0 _ ?side1 ?side2 A2.out).mono ?_); (case side1 => repeat (first | (with_reducible first | exact HI0.out | apply IsS106.alloc | apply IsS106.drewN | apply IsS106.drew | apply IsS106.set_1 | apply IsS106.set_2 | apply IsS106.set_3) | exact HI0.out)); (case side2 => repeat (first | (with_reducible first | exact HB.out | apply below_alloc | apply pw_below_drewN | apply below_drew1 | refine below_set ?_ (IsS106.ge HI0.out)) | exact HB.out)); rintro e w4 ⟨rfl, hi, hb, hk⟩; refine ⟨_, rfl, ?_⟩; have n0_ := Aside0.mk (KeepBut.trans (by repeat (first | (with_reducible first | exact HK.out | apply KeepBut.set_ | apply keep_drewN | apply keep_drew | apply keep_alloc) | exact HK.out)) hk (.inl rfl)); have n1_ := Aside0.mk (hb); have n2_ := Aside0.mk (hi); clear HK; clear HB; clear HI0; have HK := n0_; have HB := n1_; have HI0 := n2_; clear n0_ n1_ n2_; (try clear hb); (try clear hb2); (try clear hk); (try clear hi)))
 go_loopg [3, 4] k (fun kq v3 v4 w' => ∃ (x3_1 : ByteArray) (x4_1 : Int) (x1001_1 : Int) (x1002_1 : Int) (x1003_1 : Int), v3 = .string x3_1 ∧ v4 = .int .i64 x4_1 ∧ Aside0 (spec_l01Src_ropeText.l0 kq x3_1 x4_1 s0_0 x1001_1 x1002_1 x1003_1 = some (r1, r2, r3, r4)) ∧ Aside0 (kq ≤ k) ∧ Aside0 (IsS106 w0 w' g s0_0 x1001_1 x1002_1 x1003_1) ∧ Aside0 (KeepBut w w' g none) ∧ Aside0 (Below w0.heap.size w0 w'))
 case atStart => exact ⟨((⟨#[]⟩ : ByteArray)), (t574), (t575), (t576), (t577), (by first | rfl | (simp; done) | (simp [*]; done)), (by first | rfl | (simp; done) | (simp [*]; done)), H', ⟨Nat.le_refl _⟩, ⟨by repeat (first | (with_reducible first | exact HI0.out | apply IsS106.alloc | apply IsS106.drewN | apply IsS106.drew | apply IsS106.set_1 | apply IsS106.set_2 | apply IsS106.set_3) | exact HI0.out)⟩, ⟨by repeat (first | (with_reducible first | exact HK.out | apply KeepBut.set_ | apply keep_drewN | apply keep_drew | apply keep_alloc) | exact HK.out)⟩, ⟨by repeat (first | (with_reducible first | exact HB.out | apply below_alloc | apply pw_below_drewN | apply below_drew1 | refine below_set ?_ (IsS106.ge HI0.out)) | exact HB.out)⟩⟩
 case round =>
  clear H'
  try clear p2
  try clear c4
  try clear hcz3_0
  try clear hcz3_1
  try clear hcz3_2
  try clear hcz3_3
  try clear hfz3_1
  try clear hfz3_2
  try clear hfz3_3
  obtain ⟨x3_1, x4_1, x1001_1, x1002_1, x1003_1, rfl, rfl, HA, HK1, HI0, HK, HB⟩ := hrel
  cases gk with
  | zero => exact absurd HA.out (by simp [spec_l01Src_ropeText.l0])
  | succ k1 =>
   have H := HA.out
   clear HA
   simp only [spec_l01Src_ropeText.l0] at H
   by_cases c5 : x4_1 > 0
   ·
    rw [if_pos c5] at H
    have c5b0 : decide (0 < x4_1) = true := decide_eq_true c5
    clear c5
    replace H := Option.bind_eq_some_iff.mp H
    obtain ⟨t578, A60, H⟩ := H
    replace H : ((spec_l01Write.f k1 24576).bind fun t579 => ((spec_l01Write.f k1 24577).bind fun t580 => (if t579.size + t580.size ≤ 9223372036854775807 then ((spec_l01Write.f k1 65536).bind fun t581 => ((spec_l01Src_pick.f s0_0 x1001_1 x1002_1 x1003_1 (([(⟨#[97, 98, 99, 100, 101, 102, 103, 104, 105, 106]⟩ : ByteArray), (⟨#[10]⟩ : ByteArray), (⟨#[120, 121]⟩ : ByteArray), t578, t579 ++ t580, (⟨#[255]⟩ : ByteArray), (⟨#[119, 111, 114, 100, 32]⟩ : ByteArray), (⟨#[10, 10]⟩ : ByteArray), t581, (⟨#[48, 49, 50, 51, 52, 53, 54, 55, 56, 57, 48, 49, 50, 51, 52, 53, 54, 55, 56, 57, 48, 49, 50, 51, 52, 53, 54, 55, 56, 57, 48, 49, 50, 51, 52, 53, 54, 55, 56, 57]⟩ : ByteArray)] : List ByteArray))).bind fun bt585 => (if x3_1.size + bt585.1.size ≤ 9223372036854775807 then (spec_l01Src_ropeText.l0 k1 (x3_1 ++ bt585.1) (wrap64 (x4_1 - 1)) s0_0 bt585.2.1 bt585.2.2.1 bt585.2.2.2) else (none)))) else (none)))) = some (r1, r2, r3, r4) := H
    have A6 := Aside0.mk A60
    clear A60
    replace H := Option.bind_eq_some_iff.mp H
    obtain ⟨t579, A70, H⟩ := H
    replace H : ((spec_l01Write.f k1 24577).bind fun t580 => (if t579.size + t580.size ≤ 9223372036854775807 then ((spec_l01Write.f k1 65536).bind fun t581 => ((spec_l01Src_pick.f s0_0 x1001_1 x1002_1 x1003_1 (([(⟨#[97, 98, 99, 100, 101, 102, 103, 104, 105, 106]⟩ : ByteArray), (⟨#[10]⟩ : ByteArray), (⟨#[120, 121]⟩ : ByteArray), t578, t579 ++ t580, (⟨#[255]⟩ : ByteArray), (⟨#[119, 111, 114, 100, 32]⟩ : ByteArray), (⟨#[10, 10]⟩ : ByteArray), t581, (⟨#[48, 49, 50, 51, 52, 53, 54, 55, 56, 57, 48, 49, 50, 51, 52, 53, 54, 55, 56, 57, 48, 49, 50, 51, 52, 53, 54, 55, 56, 57, 48, 49, 50, 51, 52, 53, 54, 55, 56, 57]⟩ : ByteArray)] : List ByteArray))).bind fun bt585 => (if x3_1.size + bt585.1.size ≤ 9223372036854775807 then (spec_l01Src_ropeText.l0 k1 (x3_1 ++ bt585.1) (wrap64 (x4_1 - 1)) s0_0 bt585.2.1 bt585.2.2.1 bt585.2.2.2) else (none)))) else (none))) = some (r1, r2, r3, r4) := H
    have A7 := Aside0.mk A70
    clear A70
    replace H := Option.bind_eq_some_iff.mp H
    obtain ⟨t580, A80, H⟩ := H
    replace H : (if t579.size + t580.size ≤ 9223372036854775807 then ((spec_l01Write.f k1 65536).bind fun t581 => ((spec_l01Src_pick.f s0_0 x1001_1 x1002_1 x1003_1 (([(⟨#[97, 98, 99, 100, 101, 102, 103, 104, 105, 106]⟩ : ByteArray), (⟨#[10]⟩ : ByteArray), (⟨#[120, 121]⟩ : ByteArray), t578, t579 ++ t580, (⟨#[255]⟩ : ByteArray), (⟨#[119, 111, 114, 100, 32]⟩ : ByteArray), (⟨#[10, 10]⟩ : ByteArray), t581, (⟨#[48, 49, 50, 51, 52, 53, 54, 55, 56, 57, 48, 49, 50, 51, 52, 53, 54, 55, 56, 57, 48, 49, 50, 51, 52, 53, 54, 55, 56, 57, 48, 49, 50, 51, 52, 53, 54, 55, 56, 57]⟩ : ByteArray)] : List ByteArray))).bind fun bt585 => (if x3_1.size + bt585.1.size ≤ 9223372036854775807 then (spec_l01Src_ropeText.l0 k1 (x3_1 ++ bt585.1) (wrap64 (x4_1 - 1)) s0_0 bt585.2.1 bt585.2.2.1 bt585.2.2.2) else (none)))) else (none)) = some (r1, r2, r3, r4) := H
    have A8 := Aside0.mk A80
    clear A80
    by_cases c9 : t579.size + t580.size ≤ 9223372036854775807
    ·
     rw [if_pos c9] at H
     have c9b0 := eq_true c9
     have c9b1 : decide (t579.size + t580.size ≤ 9223372036854775807) = true := decide_eq_true c9
     try have c9b2 : (9223372036854775807 < t579.size + t580.size) = False := eq_false (Nat.not_lt.2 c9)
     replace H := Option.bind_eq_some_iff.mp H
     obtain ⟨t581, A100, H⟩ := H
     replace H : ((spec_l01Src_pick.f s0_0 x1001_1 x1002_1 x1003_1 (([(⟨#[97, 98, 99, 100, 101, 102, 103, 104, 105, 106]⟩ : ByteArray), (⟨#[10]⟩ : ByteArray), (⟨#[120, 121]⟩ : ByteArray), t578, t579 ++ t580, (⟨#[255]⟩ : ByteArray), (⟨#[119, 111, 114, 100, 32]⟩ : ByteArray), (⟨#[10, 10]⟩ : ByteArray), t581, (⟨#[48, 49, 50, 51, 52, 53, 54, 55, 56, 57, 48, 49, 50, 51, 52, 53, 54, 55, 56, 57, 48, 49, 50, 51, 52, 53, 54, 55, 56, 57, 48, 49, 50, 51, 52, 53, 54, 55, 56, 57]⟩ : ByteArray)] : List ByteArray))).bind fun bt585 => (if x3_1.size + bt585.1.size ≤ 9223372036854775807 then (spec_l01Src_ropeText.l0 k1 (x3_1 ++ bt585.1) (wrap64 (x4_1 - 1)) s0_0 bt585.2.1 bt585.2.2.1 bt585.2.2.2) else (none))) = some (r1, r2, r3, r4) := H
     have A10 := Aside0.mk A100
     clear A100
     obtain ⟨y582, hy582⟩ : ∃ y_ : List ByteArray, y_ = (([(⟨#[97, 98, 99, 100, 101, 102, 103, 104, 105, 106]⟩ : ByteArray), (⟨#[10]⟩ : ByteArray), (⟨#[120, 121]⟩ : ByteArray), t578, t579 ++ t580, (⟨#[255]⟩ : ByteArray), (⟨#[119, 111, 114, 100, 32]⟩ : ByteArray), (⟨#[10, 10]⟩ : ByteArray), t581, (⟨#[48, 49, 50, 51, 52, 53, 54, 55, 56, 57, 48, 49, 50, 51, 52, 53, 54, 55, 56, 57, 48, 49, 50, 51, 52, 53, 54, 55, 56, 57, 48, 49, 50, 51, 52, 53, 54, 55, 56, 57]⟩ : ByteArray)] : List ByteArray)) := ⟨_, rfl⟩
     replace H : ((spec_l01Src_pick.f s0_0 x1001_1 x1002_1 x1003_1 y582).bind fun bt585 => (if x3_1.size + bt585.1.size ≤ 9223372036854775807 then (spec_l01Src_ropeText.l0 k1 (x3_1 ++ bt585.1) (wrap64 (x4_1 - 1)) s0_0 bt585.2.1 bt585.2.2.1 bt585.2.2.2) else (none))) = some (r1, r2, r3, r4) := by first | (rw [hy582]; with_reducible exact H) | (have H2_ := (Option.bind_some _ _).symm.trans H; rw [hy582]; with_reducible exact H2_) | (have H2_ := (Option.bind_some _ _).symm.trans H; with_reducible exact H2_) | with_reducible exact H | (rw [hy582]; exact H) | exact H
     have Ny582 := Aside0.mk hy582
     clear hy582
     replace H := Option.bind_eq_some_iff.mp H
     obtain ⟨⟨t585, t586, t587, t588⟩, A110, H⟩ := H
     replace H : (if x3_1.size + t585.size ≤ 9223372036854775807 then (spec_l01Src_ropeText.l0 k1 (x3_1 ++ t585) (wrap64 (x4_1 - 1)) s0_0 t586 t587 t588) else (none)) = some (r1, r2, r3, r4) := H
     have A11 := Aside0.mk A110
     clear A110
     by_cases c12 : x3_1.size + t585.size ≤ 9223372036854775807
     ·
      rw [if_pos c12] at H
      have c12b0 := eq_true c12
      have c12b1 : decide (x3_1.size + t585.size ≤ 9223372036854775807) = true := decide_eq_true c12
      try have c12b2 : (9223372036854775807 < x3_1.size + t585.size) = False := eq_false (Nat.not_lt.2 c12)
      have H' := Aside0.mk H
      clear H
      go_wp2_with (first | ((with_reducible refine gate_callee (f := 81) rfl ?_); refine goesL_ (some 18) rfl rfl Tryd.func81 (by kernel_rfl) rfl #[.int .i64 512] rfl (by (try simp only [List.map_toArray, List.map_cons, List.map_nil]); first | done | rfl | (simp only [List.length_drop, List.length_take]; rfl)) ?_; (with_reducible refine (spec_l01Write.calls k1 512 t578 _ A6.out).mono ?_); rintro e w13 ⟨rfl, hb⟩; refine ⟨_, rfl, ?_⟩; have n0_ := Aside0.mk (IsS106.below (by repeat (first | (with_reducible first | exact HI0.out | apply IsS106.alloc | apply IsS106.drewN | apply IsS106.drew | apply IsS106.set_1 | apply IsS106.set_2 | apply IsS106.set_3) | exact HI0.out)) hb); have n1_ := Aside0.mk (KeepBut.trans (by repeat (first | (with_reducible first | exact HK.out | apply KeepBut.set_ | apply keep_drewN | apply keep_drew | apply keep_alloc) | exact HK.out)) (KeepBut.of_below hb g none) (.inl rfl)); have n2_ := Aside0.mk (below_step (by repeat (first | (with_reducible first | exact HB.out | apply below_alloc | apply pw_below_drewN | apply below_drew1 | refine below_set ?_ (IsS106.ge HI0.out)) | exact HB.out)) hb); clear HI0; clear HK; clear HB; have HI0 := n0_; have HK := n1_; have HB := n2_; clear n0_ n1_ n2_; (try clear hb); (try clear hb2); (try clear hk); (try clear hi)) | ((with_reducible refine gate_callee (f := 81) rfl ?_); refine goesL_ (some 19) rfl rfl Tryd.func81 (by kernel_rfl) rfl #[.int .i64 24576] rfl (by (try simp only [List.map_toArray, List.map_cons, List.map_nil]); first | done | rfl | (simp only [List.length_drop, List.length_take]; rfl)) ?_; (with_reducible refine (spec_l01Write.calls k1 24576 t579 _ A7.out).mono ?_); rintro e w14 ⟨rfl, hb⟩; refine ⟨_, rfl, ?_⟩; have n0_ := Aside0.mk (IsS106.below (by repeat (first | (with_reducible first | exact HI0.out | apply IsS106.alloc | apply IsS106.drewN | apply IsS106.drew | apply IsS106.set_1 | apply IsS106.set_2 | apply IsS106.set_3) | exact HI0.out)) hb); have n1_ := Aside0.mk (KeepBut.trans (by repeat (first | (with_reducible first | exact HK.out | apply KeepBut.set_ | apply keep_drewN | apply keep_drew | apply keep_alloc) | exact HK.out)) (KeepBut.of_below hb g none) (.inl rfl)); have n2_ := Aside0.mk (below_step (by repeat (first | (with_reducible first | exact HB.out | apply below_alloc | apply pw_below_drewN | apply below_drew1 | refine below_set ?_ (IsS106.ge HI0.out)) | exact HB.out)) hb); clear HI0; clear HK; clear HB; have HI0 := n0_; have HK := n1_; have HB := n2_; clear n0_ n1_ n2_; (try clear hb); (try clear hb2); (try clear hk); (try clear hi)) | ((with_reducible refine gate_callee (f := 81) rfl ?_); refine goesL_ (some 20) rfl rfl Tryd.func81 (by kernel_rfl) rfl #[.int .i64 24577] rfl (by (try simp only [List.map_toArray, List.map_cons, List.map_nil]); first | done | rfl | (simp only [List.length_drop, List.length_take]; rfl)) ?_; (with_reducible refine (spec_l01Write.calls k1 24577 t580 _ A8.out).mono ?_); rintro e w15 ⟨rfl, hb⟩; refine ⟨_, rfl, ?_⟩; have n0_ := Aside0.mk (IsS106.below (by repeat (first | (with_reducible first | exact HI0.out | apply IsS106.alloc | apply IsS106.drewN | apply IsS106.drew | apply IsS106.set_1 | apply IsS106.set_2 | apply IsS106.set_3) | exact HI0.out)) hb); have n1_ := Aside0.mk (KeepBut.trans (by repeat (first | (with_reducible first | exact HK.out | apply KeepBut.set_ | apply keep_drewN | apply keep_drew | apply keep_alloc) | exact HK.out)) (KeepBut.of_below hb g none) (.inl rfl)); have n2_ := Aside0.mk (below_step (by repeat (first | (with_reducible first | exact HB.out | apply below_alloc | apply pw_below_drewN | apply below_drew1 | refine below_set ?_ (IsS106.ge HI0.out)) | exact HB.out)) hb); clear HI0; clear HK; clear HB; have HI0 := n0_; have HK := n1_; have HB := n2_; clear n0_ n1_ n2_; (try clear hb); (try clear hb2); (try clear hk); (try clear hi)) | ((with_reducible refine gate_callee (f := 81) rfl ?_); refine goesL_ (some 22) rfl rfl Tryd.func81 (by kernel_rfl) rfl #[.int .i64 65536] rfl (by (try simp only [List.map_toArray, List.map_cons, List.map_nil]); first | done | rfl | (simp only [List.length_drop, List.length_take]; rfl)) ?_; (with_reducible refine (spec_l01Write.calls k1 65536 t581 _ A10.out).mono ?_); rintro e w16 ⟨rfl, hb⟩; refine ⟨_, rfl, ?_⟩; have n0_ := Aside0.mk (IsS106.below (by repeat (first | (with_reducible first | exact HI0.out | apply IsS106.alloc | apply IsS106.drewN | apply IsS106.drew | apply IsS106.set_1 | apply IsS106.set_2 | apply IsS106.set_3) | exact HI0.out)) hb); have n1_ := Aside0.mk (KeepBut.trans (by repeat (first | (with_reducible first | exact HK.out | apply KeepBut.set_ | apply keep_drewN | apply keep_drew | apply keep_alloc) | exact HK.out)) (KeepBut.of_below hb g none) (.inl rfl)); have n2_ := Aside0.mk (below_step (by repeat (first | (with_reducible first | exact HB.out | apply below_alloc | apply pw_below_drewN | apply below_drew1 | refine below_set ?_ (IsS106.ge HI0.out)) | exact HB.out)) hb); clear HI0; clear HK; clear HB; have HI0 := n0_; have HK := n1_; have HB := n2_; clear n0_ n1_ n2_; (try clear hb); (try clear hb2); (try clear hk); (try clear hi)) | ((with_reducible refine gate_dst (N := 23) rfl ?_); refine Kd.R_lit Kd.string _ 9 ?hg (N := 23) ?hd (xs := ([(⟨#[97, 98, 99, 100, 101, 102, 103, 104, 105, 106]⟩ : ByteArray), (⟨#[10]⟩ : ByteArray), (⟨#[120, 121]⟩ : ByteArray), t578, t579 ++ t580, (⟨#[255]⟩ : ByteArray), (⟨#[119, 111, 114, 100, 32]⟩ : ByteArray), (⟨#[10, 10]⟩ : ByteArray), t581, (⟨#[48, 49, 50, 51, 52, 53, 54, 55, 56, 57, 48, 49, 50, 51, 52, 53, 54, 55, 56, 57, 48, 49, 50, 51, 52, 53, 54, 55, 56, 57, 48, 49, 50, 51, 52, 53, 54, 55, 56, 57]⟩ : ByteArray)] : List ByteArray)) (inner := [.string (⟨#[97, 98, 99, 100, 101, 102, 103, 104, 105, 106]⟩ : ByteArray), .string (⟨#[10]⟩ : ByteArray), .string (⟨#[120, 121]⟩ : ByteArray), .string t578, .string (t579 ++ t580), .string (⟨#[255]⟩ : ByteArray), .string (⟨#[119, 111, 114, 100, 32]⟩ : ByteArray), .string (⟨#[10, 10]⟩ : ByteArray), .string t581, .string (⟨#[48, 49, 50, 51, 52, 53, 54, 55, 56, 57, 48, 49, 50, 51, 52, 53, 54, 55, 56, 57, 48, 49, 50, 51, 52, 53, 54, 55, 56, 57, 48, 49, 50, 51, 52, 53, 54, 55, 56, 57]⟩ : ByteArray)]) (ok := fun _ => True) (okp := fun _ => True) ?hr ?hp (fun _ hk => hk) trivial (Below.refl _ _) (Nat.le_refl _) (by simp) ?_; (case hd => rfl); (case hg => rfl); (case hr => first | (go_simp; done) | (go_simp; rfl)); (case hp => exact (Reps.one (show Kd.M Kd.string _ _ _ (⟨#[97, 98, 99, 100, 101, 102, 103, 104, 105, 106]⟩ : ByteArray) [.string (⟨#[97, 98, 99, 100, 101, 102, 103, 104, 105, 106]⟩ : ByteArray)] from rfl) (Reps.one (show Kd.M Kd.string _ _ _ (⟨#[10]⟩ : ByteArray) [.string (⟨#[10]⟩ : ByteArray)] from rfl) (Reps.one (show Kd.M Kd.string _ _ _ (⟨#[120, 121]⟩ : ByteArray) [.string (⟨#[120, 121]⟩ : ByteArray)] from rfl) (Reps.one (show Kd.M Kd.string _ _ _ t578 [.string t578] from rfl) (Reps.one (show Kd.M Kd.string _ _ _ (t579 ++ t580) [.string (t579 ++ t580)] from rfl) (Reps.one (show Kd.M Kd.string _ _ _ (⟨#[255]⟩ : ByteArray) [.string (⟨#[255]⟩ : ByteArray)] from rfl) (Reps.one (show Kd.M Kd.string _ _ _ (⟨#[119, 111, 114, 100, 32]⟩ : ByteArray) [.string (⟨#[119, 111, 114, 100, 32]⟩ : ByteArray)] from rfl) (Reps.one (show Kd.M Kd.string _ _ _ (⟨#[10, 10]⟩ : ByteArray) [.string (⟨#[10, 10]⟩ : ByteArray)] from rfl) (Reps.one (show Kd.M Kd.string _ _ _ t581 [.string t581] from rfl) (Reps.one (show Kd.M Kd.string _ _ _ (⟨#[48, 49, 50, 51, 52, 53, 54, 55, 56, 57, 48, 49, 50, 51, 52, 53, 54, 55, 56, 57, 48, 49, 50, 51, 52, 53, 54, 55, 56, 57, 48, 49, 50, 51, 52, 53, 54, 55, 56, 57]⟩ : ByteArray) [.string (⟨#[48, 49, 50, 51, 52, 53, 54, 55, 56, 57, 48, 49, 50, 51, 52, 53, 54, 55, 56, 57, 48, 49, 50, 51, 52, 53, 54, 55, 56, 57, 48, 49, 50, 51, 52, 53, 54, 55, 56, 57]⟩ : ByteArray)] from rfl) (Reps.none _ _)))))))))))); intro v583 w17 ho18 hb hg_ hnew_; clear hg_ hnew_; (first | rw [← Ny582.out] at ho18 | (simp only [Int.reduceToNat] at ho18; rw [← Ny582.out] at ho18)); have n0_ := Aside0.mk (Kd.R_lower ho18 (keep_size (w := w) (g := g) (row := none) (by repeat (first | (with_reducible first | exact HK.out | apply KeepBut.set_ | apply keep_drewN | apply keep_drew | apply keep_alloc) | exact HK.out)))); have n1_ := Aside0.mk (IsS106.below (by repeat (first | (with_reducible first | exact HI0.out | apply IsS106.alloc | apply IsS106.drewN | apply IsS106.drew | apply IsS106.set_1 | apply IsS106.set_2 | apply IsS106.set_3) | exact HI0.out)) hb); have n2_ := Aside0.mk (KeepBut.trans (by repeat (first | (with_reducible first | exact HK.out | apply KeepBut.set_ | apply keep_drewN | apply keep_drew | apply keep_alloc) | exact HK.out)) (KeepBut.of_below hb g none) (.inl rfl)); have n3_ := Aside0.mk (below_step (by repeat (first | (with_reducible first | exact HB.out | apply below_alloc | apply pw_below_drewN | apply below_drew1 | refine below_set ?_ (IsS106.ge HI0.out)) | exact HB.out)) hb); clear HI0; clear HK; clear HB; have HO584 := n0_; have HI0 := n1_; have HK := n2_; have HB := n3_; clear n0_ n1_ n2_ n3_; clear hb ho18; obtain ⟨Ao19, co19, eo19⟩ := Kd.R_slice HO584.out; subst eo19) | ((with_reducible refine gate_callee (f := 80) rfl ?_); refine goesL_ (some 24) rfl rfl Tryd.func80 (by kernel_rfl) rfl #[.pointer (some ⟨g, 0, none⟩), .slice Ao19 y582.length co19] rfl (by (try simp only [List.map_toArray, List.map_cons, List.map_nil]); first | done | rfl | (simp only [List.length_drop, List.length_take]; rfl)) ?_; (with_reducible refine (spec_l01Src_pick.calls g s0_0 x1001_1 x1002_1 x1003_1 _ _ y582 t585 t586 t587 t588 w0 _ ?side1 ?side2 ?side3 ?side4 ?side5 A11.out).mono ?_); (case side1 => repeat (first | (with_reducible first | exact HI0.out | apply IsS106.alloc | apply IsS106.drewN | apply IsS106.drew | apply IsS106.set_1 | apply IsS106.set_2 | apply IsS106.set_3) | exact HI0.out)); (case side2 => repeat (first | (with_reducible first | exact HB.out | apply below_alloc | apply pw_below_drewN | apply below_drew1 | refine below_set ?_ (IsS106.ge HI0.out)) | exact HB.out)); (case side3 => repeat (first | exact (Kd.R_reads' HO584.out).2.2 | (with_reducible refine Kd.C_alloc ?_ _) | (with_reducible refine Kd.C_drewN ?_ _) | (with_reducible refine Kd.C_drew ?_))); (case side4 => exact (Kd.R_reads' HO584.out).2.1); (case side5 => exact far_slice (IsS106.own_ne HI0.out HO584.out (by decide))); rintro e w20 ⟨rfl, hi, hb, hk⟩; refine ⟨_, rfl, ?_⟩; have n0_ := Aside0.mk (Kd.R_mono (Kd.R_keep (IsS106.apart (show IsS106 w0 _ g s0_0 x1001_1 x1002_1 x1003_1 from by repeat (first | (with_reducible first | exact HI0.out | apply IsS106.alloc | apply IsS106.drewN | apply IsS106.drew | apply IsS106.set_1 | apply IsS106.set_2 | apply IsS106.set_3) | exact HI0.out)) (by (with_reducible repeat (first | apply Kd.R_alloc | apply Kd.R_drewN | apply Kd.R_drew)); exact HO584.out) (by decide)) hk (fun _ h => h.2)) (fun _ h => h.1)); have n1_ := Aside0.mk (KeepBut.trans (by repeat (first | (with_reducible first | exact HK.out | apply KeepBut.set_ | apply keep_drewN | apply keep_drew | apply keep_alloc) | exact HK.out)) hk (.inl rfl)); have n2_ := Aside0.mk (hb); have n3_ := Aside0.mk (hi); clear HO584; clear HK; clear HB; clear HI0; have HO584 := n0_; have HK := n1_; have HB := n2_; have HI0 := n3_; clear n0_ n1_ n2_ n3_; (try clear hb); (try clear hb2); (try clear hk); (try clear hi)))
      go_roundg k1
      case measure => have := HK1.out; omega
      case rel => exact ⟨(x3_1 ++ t585), (wrap64 (x4_1 - 1)), (t586), (t587), (t588), (by first | rfl | (simp; done) | (simp [*]; done)), (by first | rfl | (simp; done) | (simp [*]; done)), H', ⟨by have := HK1.out; omega⟩, ⟨by repeat (first | (with_reducible first | exact HI0.out | apply IsS106.alloc | apply IsS106.drewN | apply IsS106.drew | apply IsS106.set_1 | apply IsS106.set_2 | apply IsS106.set_3) | exact HI0.out)⟩, ⟨by repeat (first | (with_reducible first | exact HK.out | apply KeepBut.set_ | apply keep_drewN | apply keep_drew | apply keep_alloc) | exact HK.out)⟩, ⟨by repeat (first | (with_reducible first | exact HB.out | apply below_alloc | apply pw_below_drewN | apply below_drew1 | refine below_set ?_ (IsS106.ge HI0.out)) | exact HB.out)⟩⟩
     ·
      rw [if_neg c12] at H
      exact absurd H (by simp)
    ·
     rw [if_neg c9] at H
     exact absurd H (by simp)
   ·
    rw [if_neg c5] at H
    have c5b0 : decide (0 < x4_1) = false := decide_eq_false c5
    clear c5
    replace H := Option.bind_eq_some_iff.mp H
    obtain ⟨⟨t589, t590, t591, t592⟩, A210, H⟩ := H
    replace H : (if t589 = true then ((spec_l01Src_n.f s0_0 t590 t591 t592 5).bind fun bt593 => ((spec_l01Src_long.f k1 s0_0 bt593.2.1 bt593.2.2.1 bt593.2.2.2 (⟨#[97, 98, 99, 10]⟩ : ByteArray) (wrap64 (65533 + bt593.1))).bind fun bt597 => (some (bt597.1, bt597.2.1, bt597.2.2.1, bt597.2.2.2)))) else (some (x3_1, t590, t591, t592))) = some (r1, r2, r3, r4) := H
    have A21 := Aside0.mk A210
    clear A210
    by_cases c22 : t589 = true
    ·
     subst c22
     have H1 : ((spec_l01Src_n.f s0_0 t590 t591 t592 5).bind fun bt593 => ((spec_l01Src_long.f k1 s0_0 bt593.2.1 bt593.2.2.1 bt593.2.2.2 (⟨#[97, 98, 99, 10]⟩ : ByteArray) (wrap64 (65533 + bt593.1))).bind fun bt597 => (some (bt597.1, bt597.2.1, bt597.2.2.1, bt597.2.2.2)))) = some (r1, r2, r3, r4) := by rw [if_pos rfl] at H; exact H
     clear H
     have H := H1
     clear H1
     replace H := Option.bind_eq_some_iff.mp H
     obtain ⟨⟨t593, t594, t595, t596⟩, A230, H⟩ := H
     replace H : ((spec_l01Src_long.f k1 s0_0 t594 t595 t596 (⟨#[97, 98, 99, 10]⟩ : ByteArray) (wrap64 (65533 + t593))).bind fun bt597 => (some (bt597.1, bt597.2.1, bt597.2.2.1, bt597.2.2.2))) = some (r1, r2, r3, r4) := H
     have A23 := Aside0.mk A230
     clear A230
     replace H := Option.bind_eq_some_iff.mp H
     obtain ⟨⟨t597, t598, t599, t600⟩, A240, H⟩ := H
     replace H : (some (t597, t598, t599, t600)) = some (r1, r2, r3, r4) := H
     have A24 := Aside0.mk A240
     clear A240
     simp only [Option.some.injEq, Prod.mk.injEq] at H
     obtain ⟨rfl, rfl, rfl, rfl⟩ := H
     go_wp2_with (first | ((with_reducible refine gate_callee (f := 82) rfl ?_); refine goesL_ (some 27) rfl rfl Tryd.func82 (by kernel_rfl) rfl #[.pointer (some ⟨g, 0, none⟩), .int .i64 60] rfl (by (try simp only [List.map_toArray, List.map_cons, List.map_nil]); first | done | rfl | (simp only [List.length_drop, List.length_take]; rfl)) ?_; (with_reducible refine (spec_l01Src_one.calls g s0_0 x1001_1 x1002_1 x1003_1 60 true t590 t591 t592 w0 _ ?side1 ?side2 A21.out).mono ?_); (case side1 => repeat (first | (with_reducible first | exact HI0.out | apply IsS106.alloc | apply IsS106.drewN | apply IsS106.drew | apply IsS106.set_1 | apply IsS106.set_2 | apply IsS106.set_3) | exact HI0.out)); (case side2 => repeat (first | (with_reducible first | exact HB.out | apply below_alloc | apply pw_below_drewN | apply below_drew1 | refine below_set ?_ (IsS106.ge HI0.out)) | exact HB.out)); rintro e w25 ⟨rfl, hi, hb, hk⟩; refine ⟨_, rfl, ?_⟩; have n0_ := Aside0.mk (KeepBut.trans (by repeat (first | (with_reducible first | exact HK.out | apply KeepBut.set_ | apply keep_drewN | apply keep_drew | apply keep_alloc) | exact HK.out)) hk (.inl rfl)); have n1_ := Aside0.mk (hb); have n2_ := Aside0.mk (hi); clear HK; clear HB; clear HI0; have HK := n0_; have HB := n1_; have HI0 := n2_; clear n0_ n1_ n2_; (try clear hb); (try clear hb2); (try clear hk); (try clear hi)) | ((with_reducible refine gate_callee (f := 79) rfl ?_); refine goesL_ (some 30) rfl rfl Tryd.func79 (by kernel_rfl) rfl #[.pointer (some ⟨g, 0, none⟩), .int .i64 5] rfl (by (try simp only [List.map_toArray, List.map_cons, List.map_nil]); first | done | rfl | (simp only [List.length_drop, List.length_take]; rfl)) ?_; (with_reducible refine (spec_l01Src_n.calls g s0_0 t590 t591 t592 5 t593 t594 t595 t596 w0 _ ?side1 ?side2 A23.out).mono ?_); (case side1 => repeat (first | (with_reducible first | exact HI0.out | apply IsS106.alloc | apply IsS106.drewN | apply IsS106.drew | apply IsS106.set_1 | apply IsS106.set_2 | apply IsS106.set_3) | exact HI0.out)); (case side2 => repeat (first | (with_reducible first | exact HB.out | apply below_alloc | apply pw_below_drewN | apply below_drew1 | refine below_set ?_ (IsS106.ge HI0.out)) | exact HB.out)); rintro e w26 ⟨rfl, hi, hb, hk⟩; refine ⟨_, rfl, ?_⟩; have n0_ := Aside0.mk (KeepBut.trans (by repeat (first | (with_reducible first | exact HK.out | apply KeepBut.set_ | apply keep_drewN | apply keep_drew | apply keep_alloc) | exact HK.out)) hk (.inl rfl)); have n1_ := Aside0.mk (hb); have n2_ := Aside0.mk (hi); clear HK; clear HB; clear HI0; have HK := n0_; have HB := n1_; have HI0 := n2_; clear n0_ n1_ n2_; (try clear hb); (try clear hb2); (try clear hk); (try clear hi)) | ((with_reducible refine gate_callee (f := 83) rfl ?_); refine goesL_ (some 32) rfl rfl Tryd.func83 (by kernel_rfl) rfl #[.pointer (some ⟨g, 0, none⟩), .string (⟨#[97, 98, 99, 10]⟩ : ByteArray), .int .i64 (wrap64 (65533 + t593))] rfl (by (try simp only [List.map_toArray, List.map_cons, List.map_nil]); first | done | rfl | (simp only [List.length_drop, List.length_take]; rfl)) ?_; (with_reducible refine (spec_l01Src_long.calls k1 g s0_0 t594 t595 t596 (⟨#[97, 98, 99, 10]⟩ : ByteArray) (wrap64 (65533 + t593)) t597 t598 t599 t600 w0 _ ?side1 ?side2 A24.out).mono ?_); (case side1 => repeat (first | (with_reducible first | exact HI0.out | apply IsS106.alloc | apply IsS106.drewN | apply IsS106.drew | apply IsS106.set_1 | apply IsS106.set_2 | apply IsS106.set_3) | exact HI0.out)); (case side2 => repeat (first | (with_reducible first | exact HB.out | apply below_alloc | apply pw_below_drewN | apply below_drew1 | refine below_set ?_ (IsS106.ge HI0.out)) | exact HB.out)); rintro e w27 ⟨rfl, hi, hb, hk⟩; refine ⟨_, rfl, ?_⟩; have n0_ := Aside0.mk (KeepBut.trans (by repeat (first | (with_reducible first | exact HK.out | apply KeepBut.set_ | apply keep_drewN | apply keep_drew | apply keep_alloc) | exact HK.out)) hk (.inl rfl)); have n1_ := Aside0.mk (hb); have n2_ := Aside0.mk (hi); clear HK; clear HB; clear HI0; have HK := n0_; have HB := n1_; have HI0 := n2_; clear n0_ n1_ n2_; (try clear hb); (try clear hb2); (try clear hk); (try clear hi)))
     go_ret
     exact ⟨by first | rfl | (simp [errW_none, errW_some] <;> rfl) | (simp [*, errW_none, errW_some] <;> rfl), by repeat (first | (with_reducible first | exact HI0.out | apply IsS106.alloc | apply IsS106.drewN | apply IsS106.drew | apply IsS106.set_1 | apply IsS106.set_2 | apply IsS106.set_3) | exact HI0.out), by repeat (first | (with_reducible first | exact HB.out | apply below_alloc | apply pw_below_drewN | apply below_drew1 | refine below_set ?_ (IsS106.ge HI0.out)) | exact HB.out), by repeat (first | (with_reducible first | exact HK.out | apply KeepBut.set_ | apply keep_drewN | apply keep_drew | apply keep_alloc) | exact HK.out)⟩
    ·
     replace c22 := Bool.eq_false_iff.mpr c22
     subst c22
     have H1 : (some (x3_1, t590, t591, t592)) = some (r1, r2, r3, r4) := by rw [if_neg (show ¬ (false = true) by decide)] at H; exact H
     clear H
     have H := H1
     clear H1
     simp only [Option.some.injEq, Prod.mk.injEq] at H
     obtain ⟨rfl, rfl, rfl, rfl⟩ := H
     go_wp2_with (first | ((with_reducible refine gate_callee (f := 82) rfl ?_); refine goesL_ (some 27) rfl rfl Tryd.func82 (by kernel_rfl) rfl #[.pointer (some ⟨g, 0, none⟩), .int .i64 60] rfl (by (try simp only [List.map_toArray, List.map_cons, List.map_nil]); first | done | rfl | (simp only [List.length_drop, List.length_take]; rfl)) ?_; (with_reducible refine (spec_l01Src_one.calls g s0_0 x1001_1 x1002_1 x1003_1 60 false t590 t591 t592 w0 _ ?side1 ?side2 A21.out).mono ?_); (case side1 => repeat (first | (with_reducible first | exact HI0.out | apply IsS106.alloc | apply IsS106.drewN | apply IsS106.drew | apply IsS106.set_1 | apply IsS106.set_2 | apply IsS106.set_3) | exact HI0.out)); (case side2 => repeat (first | (with_reducible first | exact HB.out | apply below_alloc | apply pw_below_drewN | apply below_drew1 | refine below_set ?_ (IsS106.ge HI0.out)) | exact HB.out)); rintro e w28 ⟨rfl, hi, hb, hk⟩; refine ⟨_, rfl, ?_⟩; have n0_ := Aside0.mk (KeepBut.trans (by repeat (first | (with_reducible first | exact HK.out | apply KeepBut.set_ | apply keep_drewN | apply keep_drew | apply keep_alloc) | exact HK.out)) hk (.inl rfl)); have n1_ := Aside0.mk (hb); have n2_ := Aside0.mk (hi); clear HK; clear HB; clear HI0; have HK := n0_; have HB := n1_; have HI0 := n2_; clear n0_ n1_ n2_; (try clear hb); (try clear hb2); (try clear hk); (try clear hi)))
     go_ret
     exact ⟨by first | rfl | (simp [errW_none, errW_some] <;> rfl) | (simp [*, errW_none, errW_some] <;> rfl), by repeat (first | (with_reducible first | exact HI0.out | apply IsS106.alloc | apply IsS106.drewN | apply IsS106.drew | apply IsS106.set_1 | apply IsS106.set_2 | apply IsS106.set_3) | exact HI0.out), by repeat (first | (with_reducible first | exact HB.out | apply below_alloc | apply pw_below_drewN | apply below_drew1 | refine below_set ?_ (IsS106.ge HI0.out)) | exact HB.out), by repeat (first | (with_reducible first | exact HK.out | apply KeepBut.set_ | apply keep_drewN | apply keep_drew | apply keep_alloc) | exact HK.out)⟩
def spec_DrawRopeOf.f (k : Nat) (l0 : List Int) : Option (ByteArray) := (spec_l01Source.f k l0).bind fun bt601 => ((spec_l01Src_ropeText.f k bt601.1 bt601.2.1 bt601.2.2.1 bt601.2.2.2).bind fun bt606 => (some bt606.1))
theorem spec_DrawRopeOf.mono : ∀ a0 k, LeO (spec_DrawRopeOf.f k a0) (spec_DrawRopeOf.f (k + 1) a0) := by
 intro a0 k
 unfold spec_DrawRopeOf.f
 repeat' first
   | (with_reducible exact spec_l01Source.mono _ _)
   | (with_reducible exact spec_l01Src_ropeText.mono _ _ _ _ _)
   | (with_reducible exact LeO.refl _)
   | (with_reducible exact LeO.none _)
   | (with_reducible refine LeO.ite ?_ ?_)
   | (with_reducible refine LeO.bind ?_ (fun _ => ?_))
   | exact spec_l01Source.mono _ _
   | exact spec_l01Src_ropeText.mono _ _ _ _ _
   | exact LeO.none _
   | refine LeO.ite ?_ ?_
   | refine LeO.bind ?_ (fun _ => ?_)
set_option maxHeartbeats 8000000 in
set_option maxRecDepth 100000 in
theorem spec_DrawRopeOf.calls (k : Nat) (A0 : Option Addr) (c0 : Nat) (l0 : List Int) (r : ByteArray) (w : World) (hr0 : Kd.C (Kd.int .u8) w A0 l0.length l0) (hc0 : l0.length ≤ c0) (h : spec_DrawRopeOf.f k l0 = some r) :
  Calls Tryd.prog 12 #[.slice A0 l0.length c0] w fun e w' => e = .returned (.string r) ∧ Below w.heap.size w w' := by
 have HR0 := Aside0.mk hr0
 have HC0 := Aside0.mk hc0
 clear hr0 hc0
 have HB := Aside0.mk (Below.refl w.heap.size w)
 have H : ((spec_l01Source.f k l0).bind fun bt601 => ((spec_l01Src_ropeText.f k bt601.1 bt601.2.1 bt601.2.2.1 bt601.2.2.2).bind fun bt606 => (some bt606.1))) = some r := h
 clear h
 replace H := Option.bind_eq_some_iff.mp H
 obtain ⟨⟨t601, t602, t603, t604⟩, A20, H⟩ := H
 replace H : ((spec_l01Src_ropeText.f k t601 t602 t603 t604).bind fun bt606 => (some bt606.1)) = some r := H
 have A2 := Aside0.mk A20
 clear A20
 replace H := Option.bind_eq_some_iff.mp H
 obtain ⟨⟨t606, t607, t608, t609⟩, A30, H⟩ := H
 replace H : (some t606) = some r := H
 have A3 := Aside0.mk A30
 clear A30
 obtain rfl := Option.some.inj H
 go_enter Tryd.func12, Tryd.ntmps12
 go_wp2_with (first | ((with_reducible refine gate_callee (f := 45) rfl ?_); refine goesL_ (some 4) rfl rfl Tryd.func45 (by kernel_rfl) rfl #[.slice A0 l0.length c0] rfl (by (try simp only [List.map_toArray, List.map_cons, List.map_nil]); first | done | rfl | (simp only [List.length_drop, List.length_take]; rfl)) ?_; (with_reducible refine (spec_l01Source.calls k _ _ l0 t601 t602 t603 t604 w _ ?side1 ?side2 ?side3 A2.out).mono ?_); (case side1 => repeat (first | (with_reducible first | exact HB.out | apply below_alloc | apply pw_below_drewN | apply below_drew1) | exact HB.out)); (case side2 => exact HR0.out); (case side3 => exact HC0.out); rintro e w4 ⟨g605, rfl, hi, hb, hb2⟩; refine ⟨_, rfl, ?_⟩; have n0_ := Aside0.mk (hb); have n1_ := Aside0.mk (hi); clear HB; have HB := n0_; have HI605 := n1_; clear n0_ n1_; (try clear hb); (try clear hb2); (try clear hk); (try clear hi)) | ((with_reducible refine gate_callee (f := 46) rfl ?_); refine goesL_ (some 5) rfl rfl Tryd.func46 (by kernel_rfl) rfl #[.pointer (some ⟨g605, 0, none⟩)] rfl (by (try simp only [List.map_toArray, List.map_cons, List.map_nil]); first | done | rfl | (simp only [List.length_drop, List.length_take]; rfl)) ?_; (with_reducible refine (spec_l01Src_ropeText.calls k g605 t601 t602 t603 t604 t606 t607 t608 t609 w _ ?side1 ?side2 A3.out).mono ?_); (case side1 => repeat (first | (with_reducible first | exact HI605.out | apply IsS106.alloc | apply IsS106.drewN | apply IsS106.drew | apply IsS106.set_1 | apply IsS106.set_2 | apply IsS106.set_3) | exact HI605.out)); (case side2 => repeat (first | (with_reducible first | exact HB.out | apply below_alloc | apply pw_below_drewN | apply below_drew1 | refine below_set ?_ (IsS106.ge HI605.out)) | exact HB.out)); rintro e w5 ⟨rfl, hi, hb, hk⟩; refine ⟨_, rfl, ?_⟩; have n0_ := Aside0.mk (hb); have n1_ := Aside0.mk (hi); clear HB; clear HI605; have HB := n0_; have HI605 := n1_; clear n0_ n1_; (try clear hb); (try clear hb2); (try clear hk); (try clear hi)))
 go_ret
 exact ⟨by first | rfl | (simp [errW_none, errW_some] <;> rfl) | (simp [*, errW_none, errW_some] <;> rfl), by repeat (first | (with_reducible first | exact HB.out | apply below_alloc | apply pw_below_drewN | apply below_drew1 | refine below_set ?_ (IsS106.ge HI605.out)) | exact HB.out)⟩
def impl_RopeOf.f (k : Nat) (a0 : ByteArray) : Option ((List (S30)) × (List (S56))) := (impl_long.f a0).bind fun t611 => (if t611 = true then (some (([] : List (S30)), ([] : List (S56)))) else ((impl_ropeOf.f k a0 ([] : List (S56))).bind fun bt612 => (some (bt612.1, bt612.2))))
theorem impl_RopeOf.mono : ∀ a0 k, LeO (impl_RopeOf.f k a0) (impl_RopeOf.f (k + 1) a0) := by
 intro a0 k
 unfold impl_RopeOf.f
 repeat' first
   | (with_reducible exact impl_ropeOf.mono _ _ _)
   | (with_reducible exact LeO.refl _)
   | (with_reducible exact LeO.none _)
   | (with_reducible refine LeO.ite ?_ ?_)
   | (with_reducible refine LeO.bind ?_ (fun _ => ?_))
   | exact impl_ropeOf.mono _ _ _
   | exact LeO.none _
   | refine LeO.ite ?_ ?_
   | refine LeO.bind ?_ (fun _ => ?_)
set_option maxHeartbeats 8000000 in
set_option maxRecDepth 100000 in
theorem impl_RopeOf.calls (k : Nat) (a0 : ByteArray) (r1 : List (S30)) (r2 : List (S56)) (w : World) (hT : Tabs w) (h : impl_RopeOf.f k a0 = some (r1, r2)) :
  Calls Tryd.prog 13 #[.string a0] w fun e w' => ∃ v0_ v1_ : Value, e = .returned (.agg #[v0_, v1_]) ∧ Kd.R k30 30 w' w.heap.size (fun _ => True) v0_ r1 ∧ Kd.R k56 56 w' w.heap.size (fun _ => True) v1_ r2 ∧ Below w.heap.size w w' := by
 have hu27 := Tryd.underlying27
 have HTAB := Aside0.mk hT
 clear hT
 have HB := Aside0.mk (Below.refl w.heap.size w)
 have H : ((impl_long.f a0).bind fun t611 => (if t611 = true then (some (([] : List (S30)), ([] : List (S56)))) else ((impl_ropeOf.f k a0 ([] : List (S56))).bind fun bt612 => (some (bt612.1, bt612.2))))) = some (r1, r2) := h
 clear h
 replace H := Option.bind_eq_some_iff.mp H
 obtain ⟨t611, A20, H⟩ := H
 replace H : (if t611 = true then (some (([] : List (S30)), ([] : List (S56)))) else ((impl_ropeOf.f k a0 ([] : List (S56))).bind fun bt612 => (some (bt612.1, bt612.2)))) = some (r1, r2) := H
 have A2 := Aside0.mk A20
 clear A20
 by_cases c3 : t611 = true
 ·
  subst c3
  have H1 : (some (([] : List (S30)), ([] : List (S56)))) = some (r1, r2) := by rw [if_pos rfl] at H; exact H
  clear H
  have H := H1
  clear H1
  simp only [Option.some.injEq, Prod.mk.injEq] at H
  obtain ⟨rfl, rfl⟩ := H
  go_enter Tryd.func13, Tryd.ntmps13
  go_wp2_with (first | ((with_reducible refine gate_dst (N := 2) rfl ?_); refine box_event ?hg (N := 2) ?hd (cs := #[.slice none 0 0, .slice none 0 0]) (t := 27) ?hr ?_; (case hd => rfl); (case hg => rfl); (case hr => first | (go_simp; done) | (go_simp; rfl)); intro gb610 hg w4 hbox hb; have n0_ := Aside0.mk (below_step (by repeat (first | (with_reducible first | exact HB.out | apply below_alloc | apply pw_below_drewN | apply below_drew1) | exact HB.out)) hb); have n1_ := Aside0.mk (hbox); have n2_ := Aside0.mk ((by rw [hg]; exact (below_size (by repeat (first | (with_reducible first | exact HB.out | apply below_alloc | apply pw_below_drewN | apply below_drew1) | exact HB.out))) : w.heap.size ≤ gb610)); have n3_ := Aside0.mk ((by rw [hg]; exact (below_size (by repeat (first | (with_reducible first | exact HB.out | apply below_alloc | apply pw_below_drewN | apply below_drew1) | exact HB.out))) : w.heap.size ≤ gb610)); clear HB; have HB := n0_; have BK610 := n1_; have GW610 := n2_; have GE610 := n3_; clear n0_ n1_ n2_ n3_; clear hb hbox hg) | ((with_reducible refine gate_callee (f := 47) rfl ?_); refine goesL_ (some 4) rfl rfl Tryd.func47 (by kernel_rfl) rfl #[.string a0] rfl (by (try simp only [List.map_toArray, List.map_cons, List.map_nil]); first | done | rfl | (simp only [List.length_drop, List.length_take]; rfl)) ?_; (with_reducible refine (impl_long.calls a0 true _ A2.out).mono ?_); rintro e w' ⟨rfl, ⟨nd, rfl⟩⟩; refine ⟨_, rfl, ?_⟩; (try (rw [drewN_self w4]; generalize hq_ : World.drewN w4 _ = w4; have n0_ : Aside0 (w4.heap[gb610]? = some (.cells #[.slice none 0 0, .slice none 0 0] 27 (0, 0))) := ⟨by rw [← hq_]; exact (by (with_reducible repeat (first | refine blk_drewN ?_ _ | refine blk_drew ?_ | refine blk_alloc ?_ _)); exact BK610.out)⟩; have n1_ : Aside0 (Below w.heap.size w w4) := ⟨by rw [← hq_]; exact (by repeat (first | (with_reducible first | exact HB.out | apply below_alloc | apply pw_below_drewN | apply below_drew1 | refine below_set ?_ GE610.out) | exact HB.out))⟩; clear BK610 HB hq_; have BK610 := n0_; have HB := n1_; clear n0_ n1_)); have hcz5_0 : w4.cell? ⟨gb610, 0, none⟩ = some (.slice none 0 0) := (blk_cell BK610.out 0).trans rfl; have hcz5_1 : w4.cell? ⟨gb610, 1, none⟩ = some (.slice none 0 0) := (blk_cell BK610.out 1).trans rfl; have hfz5_0 := blk_frozen BK610.out 0; have hfz5_1 := blk_frozen BK610.out 1))
  refine bodyPost_ret (results_cell_row rfl _ _ gb610 27 #[.slice none 0 0, .slice none 0 0] (0, 0) _ rfl (by (with_reducible repeat (first | refine blk_drewN ?_ _ | refine blk_drew ?_ | refine blk_alloc ?_ _)); refine blk_put (cs := #[.slice none 0 0, .slice none 0 0]) ?_ 1 _ rfl; (with_reducible repeat (first | refine blk_drewN ?_ _ | refine blk_drew ?_ | refine blk_alloc ?_ _)); refine blk_put (cs := #[.slice none 0 0, .slice none 0 0]) ?_ 0 _ rfl; (with_reducible repeat (first | refine blk_drewN ?_ _ | refine blk_drew ?_ | refine blk_alloc ?_ _)); exact BK610.out) Tryd.underlying27 rfl (by kernel_rfl)) rfl ?_
  exact ⟨_, _, by first | rfl | (simp [errW_none, errW_some] <;> rfl) | (simp [*, errW_none, errW_some] <;> rfl), by first | exact Kd.R_nil _ _ _ _ _ | exact Kd.N_nil _ _ _ _ _ | exact Kd.V_nil _ _ _ _ _ | exact Kd.Q_nil _ _ _ _ _ | exact Kd.S_nil _ _ _ _ _, by first | exact Kd.R_nil _ _ _ _ _ | exact Kd.N_nil _ _ _ _ _ | exact Kd.V_nil _ _ _ _ _ | exact Kd.Q_nil _ _ _ _ _ | exact Kd.S_nil _ _ _ _ _, by repeat (first | (with_reducible first | exact HB.out | apply below_alloc | apply pw_below_drewN | apply below_drew1 | refine below_set ?_ GE610.out) | exact HB.out)⟩
 ·
  replace c3 := Bool.eq_false_iff.mpr c3
  subst c3
  have H1 : ((impl_ropeOf.f k a0 ([] : List (S56))).bind fun bt612 => (some (bt612.1, bt612.2))) = some (r1, r2) := by rw [if_neg (show ¬ (false = true) by decide)] at H; exact H
  clear H
  have H := H1
  clear H1
  replace H := Option.bind_eq_some_iff.mp H
  obtain ⟨⟨t612, t615⟩, A60, H⟩ := H
  replace H : (some (t612, t615)) = some (r1, r2) := H
  have A6 := Aside0.mk A60
  clear A60
  simp only [Option.some.injEq, Prod.mk.injEq] at H
  obtain ⟨rfl, rfl⟩ := H
  go_enter Tryd.func13, Tryd.ntmps13
  go_wp2_with (first | ((with_reducible refine gate_dst (N := 2) rfl ?_); refine box_event ?hg (N := 2) ?hd (cs := #[.slice none 0 0, .slice none 0 0]) (t := 27) ?hr ?_; (case hd => rfl); (case hg => rfl); (case hr => first | (go_simp; done) | (go_simp; rfl)); intro gb610 hg w7 hbox hb; have n0_ := Aside0.mk (below_step (by repeat (first | (with_reducible first | exact HB.out | apply below_alloc | apply pw_below_drewN | apply below_drew1) | exact HB.out)) hb); have n1_ := Aside0.mk (hbox); have n2_ := Aside0.mk ((by rw [hg]; exact (below_size (by repeat (first | (with_reducible first | exact HB.out | apply below_alloc | apply pw_below_drewN | apply below_drew1) | exact HB.out))) : w.heap.size ≤ gb610)); have n3_ := Aside0.mk ((by rw [hg]; exact (below_size (by repeat (first | (with_reducible first | exact HB.out | apply below_alloc | apply pw_below_drewN | apply below_drew1) | exact HB.out))) : w.heap.size ≤ gb610)); clear HB; have HB := n0_; have BK610 := n1_; have GW610 := n2_; have GE610 := n3_; clear n0_ n1_ n2_ n3_; clear hb hbox hg) | ((with_reducible refine gate_callee (f := 47) rfl ?_); refine goesL_ (some 4) rfl rfl Tryd.func47 (by kernel_rfl) rfl #[.string a0] rfl (by (try simp only [List.map_toArray, List.map_cons, List.map_nil]); first | done | rfl | (simp only [List.length_drop, List.length_take]; rfl)) ?_; (with_reducible refine (impl_long.calls a0 false _ A2.out).mono ?_); rintro e w' ⟨rfl, ⟨nd, rfl⟩⟩; refine ⟨_, rfl, ?_⟩; (try (rw [drewN_self w7]; generalize hq_ : World.drewN w7 _ = w7; have n0_ : Aside0 (w7.heap[gb610]? = some (.cells #[.slice none 0 0, .slice none 0 0] 27 (0, 0))) := ⟨by rw [← hq_]; exact (by (with_reducible repeat (first | refine blk_drewN ?_ _ | refine blk_drew ?_ | refine blk_alloc ?_ _)); exact BK610.out)⟩; have n1_ : Aside0 (Below w.heap.size w w7) := ⟨by rw [← hq_]; exact (by repeat (first | (with_reducible first | exact HB.out | apply below_alloc | apply pw_below_drewN | apply below_drew1 | refine below_set ?_ GE610.out) | exact HB.out))⟩; clear BK610 HB hq_; have BK610 := n0_; have HB := n1_; clear n0_ n1_))) | ((with_reducible refine gate_callee (f := 48) rfl ?_); refine goesL_ (some 7) rfl rfl Tryd.func48 (by kernel_rfl) rfl #[.string a0, .slice none 0 0] rfl (by (try simp only [List.map_toArray, List.map_cons, List.map_nil]); first | done | rfl | (simp only [List.length_drop, List.length_take]; rfl)) ?_; (refine (impl_ropeOf.calls k a0 (fun k_ => some k_ = (.slice none 0 0 : Value).ownBlock) (.slice none 0 0) ([] : List (S56)) t612 t615 w _ ?side1 ?side2 ?side3 A6.out).mono ?_); (case side1 => repeat (first | (with_reducible first | exact HB.out | apply below_alloc | apply pw_below_drewN | apply below_drew1 | refine below_set ?_ GE610.out) | exact HB.out)); (case side2 => exact Kd.R_nil _ _ _ _ _); (case side3 => exact HTAB.out); rintro e w8 ⟨v613, v616, rfl, ho0, ho1, hb, hkp⟩; refine ⟨_, rfl, ?_⟩; have n0_ := Aside0.mk (blk_kept (by (with_reducible repeat (first | refine blk_drewN ?_ _ | refine blk_drew ?_ | refine blk_alloc ?_ _)); exact BK610.out) hkp (fun hs_ => (fun e_ => by simp [Value.ownBlock] at e_) hs_)); have n1_ := Aside0.mk (Kd.R_mono (ok' := fun k_ => True) ho0 (fun k_ hk_ => trivial)); have n2_ := Aside0.mk (Kd.R_mono (ok' := fun k_ => True) ho1 (fun k_ hk_ => trivial)); have n3_ := Aside0.mk (hb); clear BK610; clear HB; have BK610 := n0_; have HO614 := n1_; have HO617 := n2_; have HB := n3_; clear n0_ n1_ n2_ n3_; (try clear hb); (try clear hkp); (try clear ho0); (try clear ho1); obtain ⟨Ao9, co9, eo9⟩ := Kd.R_slice HO614.out; subst eo9; have hcz10_0 : w8.cell? ⟨gb610, 0, none⟩ = some (.slice none 0 0) := (blk_cell BK610.out 0).trans rfl; have hcz10_1 : w8.cell? ⟨gb610, 1, none⟩ = some (.slice none 0 0) := (blk_cell BK610.out 1).trans rfl; have hfz10_0 := blk_frozen BK610.out 0; have hfz10_1 := blk_frozen BK610.out 1; obtain ⟨Ao11, co11, eo11⟩ := Kd.R_slice HO617.out; subst eo11))
  refine bodyPost_ret (results_cell_row rfl _ _ gb610 27 #[.slice Ao9 t612.length co9, .slice Ao11 t615.length co11] (0, 0) _ rfl (by (with_reducible repeat (first | refine blk_drewN ?_ _ | refine blk_drew ?_ | refine blk_alloc ?_ _)); refine blk_put (cs := #[.slice Ao9 t612.length co9, .slice none 0 0]) ?_ 1 _ rfl; (with_reducible repeat (first | refine blk_drewN ?_ _ | refine blk_drew ?_ | refine blk_alloc ?_ _)); refine blk_put (cs := #[.slice none 0 0, .slice none 0 0]) ?_ 0 _ rfl; (with_reducible repeat (first | refine blk_drewN ?_ _ | refine blk_drew ?_ | refine blk_alloc ?_ _)); exact BK610.out) Tryd.underlying27 rfl (by kernel_rfl)) rfl ?_
  exact ⟨_, _, by first | rfl | (simp [errW_none, errW_some] <;> rfl) | (simp [*, errW_none, errW_some] <;> rfl), by (with_reducible repeat (first | apply Kd.R_alloc | apply Kd.R_drewN | apply Kd.R_drew)); exact Kd.R_mono (Kd.R_far (p := ⟨gb610, 1, none⟩) (Kd.R_far (p := ⟨gb610, 0, none⟩) (Kd.R_types HO614.out BK610.out (by decide)) (fun _ hk => hk.2) (.slice Ao9 t612.length co9)) (fun _ hk => hk.2) (.slice Ao11 t615.length co11)) (fun _ hk => trivial), by (with_reducible repeat (first | apply Kd.R_alloc | apply Kd.R_drewN | apply Kd.R_drew)); exact Kd.R_mono (Kd.R_far (p := ⟨gb610, 1, none⟩) (Kd.R_far (p := ⟨gb610, 0, none⟩) (Kd.R_types HO617.out BK610.out (by decide)) (fun _ hk => hk.2) (.slice Ao9 t612.length co9)) (fun _ hk => hk.2) (.slice Ao11 t615.length co11)) (fun _ hk => trivial), by repeat (first | (with_reducible first | exact HB.out | apply below_alloc | apply pw_below_drewN | apply below_drew1 | refine below_set ?_ GE610.out) | exact HB.out)⟩
def spec_RopeOf.f (k : Nat) (a0 : ByteArray) : Option ((List (S30)) × (List (S56))) := if (a0.size : Int) > 65536 then (some (([] : List (S30)), ([] : List (S56)))) else ((spec_l20Build.f k (([] : List (S30))) a0).bind fun t622 => (some (t622, ([] : List (S56)))))
theorem spec_RopeOf.mono : ∀ a0 k, LeO (spec_RopeOf.f k a0) (spec_RopeOf.f (k + 1) a0) := by
 intro a0 k
 unfold spec_RopeOf.f
 repeat' first
   | (with_reducible exact spec_l20Build.mono _ _ _)
   | (with_reducible exact LeO.refl _)
   | (with_reducible exact LeO.none _)
   | (with_reducible refine LeO.ite ?_ ?_)
   | (with_reducible refine LeO.bind ?_ (fun _ => ?_))
   | exact spec_l20Build.mono _ _ _
   | exact LeO.none _
   | refine LeO.ite ?_ ?_
   | refine LeO.bind ?_ (fun _ => ?_)
set_option maxHeartbeats 8000000 in
set_option maxRecDepth 100000 in
theorem spec_RopeOf.calls (k : Nat) (a0 : ByteArray) (r1 : List (S30)) (r2 : List (S56)) (w : World) (h : spec_RopeOf.f k a0 = some (r1, r2)) :
  Calls Tryd.prog 14 #[.string a0] w fun e w' => ∃ v0_ v1_ : Value, e = .returned (.agg #[v0_, v1_]) ∧ Kd.R k30 30 w' w.heap.size (fun _ => True) v0_ r1 ∧ Kd.R k56 56 w' w.heap.size (fun _ => True) v1_ r2 ∧ Below w.heap.size w w' := by
 have hu27 := Tryd.underlying27
 have HB := Aside0.mk (Below.refl w.heap.size w)
 have H : (if (a0.size : Int) > 65536 then (some (([] : List (S30)), ([] : List (S56)))) else ((spec_l20Build.f k (([] : List (S30))) a0).bind fun t622 => (some (t622, ([] : List (S56)))))) = some (r1, r2) := h
 clear h
 by_cases c2 : (a0.size : Int) > 65536
 ·
  rw [if_pos c2] at H
  have c2b0 : decide (65536 < (a0.size : Int)) = true := decide_eq_true c2
  have c2b1 : decide (65536 < a0.size) = true := decide_eq_true (by omega)
  clear c2
  simp only [Option.some.injEq, Prod.mk.injEq] at H
  obtain ⟨rfl, rfl⟩ := H
  go_enter Tryd.func14, Tryd.ntmps14
  go_wp2_with (first | ((with_reducible refine gate_dst (N := 2) rfl ?_); refine box_event ?hg (N := 2) ?hd (cs := #[.slice none 0 0, .slice none 0 0]) (t := 27) ?hr ?_; (case hd => rfl); (case hg => rfl); (case hr => first | (go_simp; done) | (go_simp; rfl)); intro gb618 hg w3 hbox hb; have n0_ := Aside0.mk (below_step (by repeat (first | (with_reducible first | exact HB.out | apply below_alloc | apply pw_below_drewN | apply below_drew1) | exact HB.out)) hb); have n1_ := Aside0.mk (hbox); have n2_ := Aside0.mk ((by rw [hg]; exact (below_size (by repeat (first | (with_reducible first | exact HB.out | apply below_alloc | apply pw_below_drewN | apply below_drew1) | exact HB.out))) : w.heap.size ≤ gb618)); have n3_ := Aside0.mk ((by rw [hg]; exact (below_size (by repeat (first | (with_reducible first | exact HB.out | apply below_alloc | apply pw_below_drewN | apply below_drew1) | exact HB.out))) : w.heap.size ≤ gb618)); clear HB; have HB := n0_; have BK618 := n1_; have GW618 := n2_; have GE618 := n3_; clear n0_ n1_ n2_ n3_; clear hb hbox hg; have hcz4_0 : w3.cell? ⟨gb618, 0, none⟩ = some (.slice none 0 0) := (blk_cell BK618.out 0).trans rfl; have hcz4_1 : w3.cell? ⟨gb618, 1, none⟩ = some (.slice none 0 0) := (blk_cell BK618.out 1).trans rfl; have hfz4_0 := blk_frozen BK618.out 0; have hfz4_1 := blk_frozen BK618.out 1))
  refine bodyPost_ret (results_cell_row rfl _ _ gb618 27 #[.slice none 0 0, .slice none 0 0] (0, 0) _ rfl (by (with_reducible repeat (first | refine blk_drewN ?_ _ | refine blk_drew ?_ | refine blk_alloc ?_ _)); refine blk_put (cs := #[.slice none 0 0, .slice none 0 0]) ?_ 1 _ rfl; (with_reducible repeat (first | refine blk_drewN ?_ _ | refine blk_drew ?_ | refine blk_alloc ?_ _)); refine blk_put (cs := #[.slice none 0 0, .slice none 0 0]) ?_ 0 _ rfl; (with_reducible repeat (first | refine blk_drewN ?_ _ | refine blk_drew ?_ | refine blk_alloc ?_ _)); exact BK618.out) Tryd.underlying27 rfl (by kernel_rfl)) rfl ?_
  exact ⟨_, _, by first | rfl | (simp [errW_none, errW_some] <;> rfl) | (simp [*, errW_none, errW_some] <;> rfl), by first | exact Kd.R_nil _ _ _ _ _ | exact Kd.N_nil _ _ _ _ _ | exact Kd.V_nil _ _ _ _ _ | exact Kd.Q_nil _ _ _ _ _ | exact Kd.S_nil _ _ _ _ _, by first | exact Kd.R_nil _ _ _ _ _ | exact Kd.N_nil _ _ _ _ _ | exact Kd.V_nil _ _ _ _ _ | exact Kd.Q_nil _ _ _ _ _ | exact Kd.S_nil _ _ _ _ _, by repeat (first | (with_reducible first | exact HB.out | apply below_alloc | apply pw_below_drewN | apply below_drew1 | refine below_set ?_ GE618.out) | exact HB.out)⟩
 ·
  rw [if_neg c2] at H
  have c2b0 : decide (65536 < (a0.size : Int)) = false := decide_eq_false c2
  have c2b1 : decide (65536 < a0.size) = false := decide_eq_false (by omega)
  clear c2
  obtain ⟨y619, hy619⟩ : ∃ y_ : List (S30), y_ = (([] : List (S30))) := ⟨_, rfl⟩
  replace H : ((spec_l20Build.f k y619 a0).bind fun t622 => (some (t622, ([] : List (S56))))) = some (r1, r2) := by first | (rw [hy619]; with_reducible exact H) | (have H2_ := (Option.bind_some _ _).symm.trans H; rw [hy619]; with_reducible exact H2_) | (have H2_ := (Option.bind_some _ _).symm.trans H; with_reducible exact H2_) | with_reducible exact H | (rw [hy619]; exact H) | exact H
  have Ny619 := Aside0.mk hy619
  clear hy619
  replace H := Option.bind_eq_some_iff.mp H
  obtain ⟨t622, A50, H⟩ := H
  replace H : (some (t622, ([] : List (S56)))) = some (r1, r2) := H
  have A5 := Aside0.mk A50
  clear A50
  simp only [Option.some.injEq, Prod.mk.injEq] at H
  obtain ⟨rfl, rfl⟩ := H
  go_enter Tryd.func14, Tryd.ntmps14
  go_wp2_with (first | ((with_reducible refine gate_dst (N := 2) rfl ?_); refine box_event ?hg (N := 2) ?hd (cs := #[.slice none 0 0, .slice none 0 0]) (t := 27) ?hr ?_; (case hd => rfl); (case hg => rfl); (case hr => first | (go_simp; done) | (go_simp; rfl)); intro gb618 hg w6 hbox hb; have n0_ := Aside0.mk (below_step (by repeat (first | (with_reducible first | exact HB.out | apply below_alloc | apply pw_below_drewN | apply below_drew1) | exact HB.out)) hb); have n1_ := Aside0.mk (hbox); have n2_ := Aside0.mk ((by rw [hg]; exact (below_size (by repeat (first | (with_reducible first | exact HB.out | apply below_alloc | apply pw_below_drewN | apply below_drew1) | exact HB.out))) : w.heap.size ≤ gb618)); have n3_ := Aside0.mk ((by rw [hg]; exact (below_size (by repeat (first | (with_reducible first | exact HB.out | apply below_alloc | apply pw_below_drewN | apply below_drew1) | exact HB.out))) : w.heap.size ≤ gb618)); clear HB; have HB := n0_; have BK618 := n1_; have GW618 := n2_; have GE618 := n3_; clear n0_ n1_ n2_ n3_; clear hb hbox hg) | ((with_reducible refine gate_dst (N := 7) rfl ?_); refine Kd.R_lit k30 _ 30 ?hg (N := 7) ?hd (xs := ([] : List (S30))) (inner := []) (ok := fun _ => True) (okp := fun _ => True) ?hr ?hp (fun _ hk => hk) trivial (Below.refl _ _) (Nat.le_refl _) (by simp) ?_; (case hd => rfl); (case hg => rfl); (case hr => first | (go_simp; done) | (go_simp; rfl)); (case hp => exact (Reps.none _ _)); intro v620 w7 ho8 hb hg_ hnew_; clear hg_ hnew_; (first | rw [← Ny619.out] at ho8 | (simp only [Int.reduceToNat] at ho8; rw [← Ny619.out] at ho8)); have n0_ := Aside0.mk (Kd.R_lower ho8 (below_size (by repeat (first | (with_reducible first | exact HB.out | apply below_alloc | apply pw_below_drewN | apply below_drew1 | refine below_set ?_ GE618.out) | exact HB.out)))); have n1_ := Aside0.mk (blk_below (g := gb618) (o := .cells #[.slice none 0 0, .slice none 0 0] 27 (0, 0)) (by (with_reducible repeat (first | refine blk_drewN ?_ _ | refine blk_drew ?_ | refine blk_alloc ?_ _)); exact BK618.out) hb); have n2_ := Aside0.mk (below_step (by repeat (first | (with_reducible first | exact HB.out | apply below_alloc | apply pw_below_drewN | apply below_drew1 | refine below_set ?_ GE618.out) | exact HB.out)) hb); clear BK618; clear HB; have HO621 := n0_; have BK618 := n1_; have HB := n2_; clear n0_ n1_ n2_; clear hb ho8; obtain ⟨Ao9, co9, eo9⟩ := Kd.R_slice HO621.out; subst eo9) | ((with_reducible refine gate_callee (f := 49) rfl ?_); refine goesL_ (some 9) rfl rfl Tryd.func49 (by kernel_rfl) rfl #[.slice Ao9 y619.length co9, .string a0] rfl (by (try simp only [List.map_toArray, List.map_cons, List.map_nil]); first | done | rfl | (simp only [List.length_drop, List.length_take]; rfl)) ?_; (with_reducible refine (spec_l20Build.calls k (fun k_ => some k_ = (.slice Ao9 y619.length co9 : Value).ownBlock) (.slice Ao9 y619.length co9) y619 a0 t622 w _ ?side1 ?side2 A5.out).mono ?_); (case side1 => repeat (first | (with_reducible first | exact HB.out | apply below_alloc | apply pw_below_drewN | apply below_drew1 | refine below_set ?_ GE618.out) | exact HB.out)); (case side2 => exact Kd.R_tight rfl HO621.out); rintro e w10 ⟨v623, rfl, ho0, hb, hkp⟩; refine ⟨_, rfl, ?_⟩; have n0_ := Aside0.mk (blk_kept (by (with_reducible repeat (first | refine blk_drewN ?_ _ | refine blk_drew ?_ | refine blk_alloc ?_ _)); exact BK618.out) hkp (fun hs_ => (fun e_ => (Kd.R_ne HO621.out BK618.out (by decide)) e_) hs_)); have n1_ := Aside0.mk (Kd.R_mono (ok' := fun k_ => True) ho0 (fun k_ hk_ => trivial)); have n2_ := Aside0.mk (hb); clear BK618; clear HB; clear HO621; have BK618 := n0_; have HO624 := n1_; have HB := n2_; clear n0_ n1_ n2_; (try clear hb); (try clear hkp); (try clear ho0); obtain ⟨Ao11, co11, eo11⟩ := Kd.R_slice HO624.out; subst eo11; have hcz12_0 : w10.cell? ⟨gb618, 0, none⟩ = some (.slice none 0 0) := (blk_cell BK618.out 0).trans rfl; have hcz12_1 : w10.cell? ⟨gb618, 1, none⟩ = some (.slice none 0 0) := (blk_cell BK618.out 1).trans rfl; have hfz12_0 := blk_frozen BK618.out 0; have hfz12_1 := blk_frozen BK618.out 1))
  refine bodyPost_ret (results_cell_row rfl _ _ gb618 27 #[.slice Ao11 t622.length co11, .slice none 0 0] (0, 0) _ rfl (by (with_reducible repeat (first | refine blk_drewN ?_ _ | refine blk_drew ?_ | refine blk_alloc ?_ _)); refine blk_put (cs := #[.slice Ao11 t622.length co11, .slice none 0 0]) ?_ 1 _ rfl; (with_reducible repeat (first | refine blk_drewN ?_ _ | refine blk_drew ?_ | refine blk_alloc ?_ _)); refine blk_put (cs := #[.slice none 0 0, .slice none 0 0]) ?_ 0 _ rfl; (with_reducible repeat (first | refine blk_drewN ?_ _ | refine blk_drew ?_ | refine blk_alloc ?_ _)); exact BK618.out) Tryd.underlying27 rfl (by kernel_rfl)) rfl ?_
  exact ⟨_, _, by first | rfl | (simp [errW_none, errW_some] <;> rfl) | (simp [*, errW_none, errW_some] <;> rfl), by (with_reducible repeat (first | apply Kd.R_alloc | apply Kd.R_drewN | apply Kd.R_drew)); exact Kd.R_mono (Kd.R_far (p := ⟨gb618, 1, none⟩) (Kd.R_far (p := ⟨gb618, 0, none⟩) (Kd.R_types HO624.out BK618.out (by decide)) (fun _ hk => hk.2) (.slice Ao11 t622.length co11)) (fun _ hk => hk.2) (.slice none 0 0)) (fun _ hk => trivial), by first | exact Kd.R_nil _ _ _ _ _ | exact Kd.N_nil _ _ _ _ _ | exact Kd.V_nil _ _ _ _ _ | exact Kd.Q_nil _ _ _ _ _ | exact Kd.S_nil _ _ _ _ _, by repeat (first | (with_reducible first | exact HB.out | apply below_alloc | apply pw_below_drewN | apply below_drew1 | refine below_set ?_ GE618.out) | exact HB.out)⟩
def laws_lwAt.f (l0 : List Int) (a1 : Int) (a2 : Int) : Option (Int) := if a2 ≤ 1 then (some 0) else (if (l0.length : Int) = 0 then (some 0) else (if 0 ≤ (Int.tmod a1 (l0.length : Int)) then (if (Int.tmod a1 (l0.length : Int)) < (l0.length : Int) then (if a2 = 0 then (none) else (some (Int.tmod (wrap64 (rd l0 (Int.tmod a1 (l0.length : Int)))) a2))) else (none)) else (none)))
set_option maxHeartbeats 8000000 in
set_option maxRecDepth 100000 in
theorem laws_lwAt.calls (A0 : Option Addr) (c0 : Nat) (l0 : List Int) (a1 : Int) (a2 : Int) (r : Int) (w : World) (hr0 : Kd.C (Kd.int .u8) w A0 l0.length l0) (hc0 : l0.length ≤ c0) (h : laws_lwAt.f l0 a1 a2 = some r) :
  Calls Tryd.prog 15 #[.slice A0 l0.length c0, .int .i64 a1, .int .i64 a2] w fun e w' => e = .returned (.int .i64 r) ∧ Drawn0 w w' := by
 have HR0 := Aside0.mk hr0
 have HC0 := Aside0.mk hc0
 clear hr0 hc0
 have H : (if a2 ≤ 1 then (some 0) else (if (l0.length : Int) = 0 then (some 0) else (if 0 ≤ (Int.tmod a1 (l0.length : Int)) then (if (Int.tmod a1 (l0.length : Int)) < (l0.length : Int) then (if a2 = 0 then (none) else (some (Int.tmod (wrap64 (rd l0 (Int.tmod a1 (l0.length : Int)))) a2))) else (none)) else (none)))) = some r := h
 clear h
 by_cases c4 : a2 ≤ 1
 ·
  rw [if_pos c4] at H
  have c4b0 : decide (a2 ≤ 1) = true := decide_eq_true c4
  clear c4
  obtain rfl := Option.some.inj H
  go_enter Tryd.func15, Tryd.ntmps15
  go_wp2
  go_ret
  exact ⟨by first | rfl | (simp; done) | (simp [*]; done), by repeat (first | exact Drawn0.refl _ | apply Drawn0.step)⟩
 ·
  rw [if_neg c4] at H
  have c4b0 : decide (a2 ≤ 1) = false := decide_eq_false c4
  clear c4
  by_cases c5 : (l0.length : Int) = 0
  ·
   rw [if_pos c5] at H
   have c5b0 : ((l0.length : Int) == 0) = true := beq_iff_eq.mpr c5
   have c5b1 : ((l0.length : Int) != 0) = false := bne_eq_false_iff_eq.mpr c5
   clear c5
   obtain rfl := Option.some.inj H
   go_enter Tryd.func15, Tryd.ntmps15
   go_wp2
   go_ret
   exact ⟨by first | rfl | (simp; done) | (simp [*]; done), by repeat (first | exact Drawn0.refl _ | apply Drawn0.step)⟩
  ·
   rw [if_neg c5] at H
   have c5b0 : ((l0.length : Int) == 0) = false := beq_eq_false_iff_ne.mpr c5
   have c5b1 : ((l0.length : Int) != 0) = true := bne_iff_ne.mpr c5
   have c5b2 : ¬ (l0 = []) := fun h_ => c5 (by rw [h_]; rfl)
   obtain ⟨ji6, hji6⟩ : ∃ j_ : Int, (Int.tmod a1 (l0.length : Int)) = j_ := ⟨_, rfl⟩
   replace H : (if 0 ≤ (ji6) then (if (ji6) < (l0.length : Int) then (if a2 = 0 then (none) else (some (Int.tmod (wrap64 (rd l0 (ji6))) a2))) else (none)) else (none)) = some r := by first | (rw [hji6] at H; exact H) | (simp only [hji6] at H ⊢; exact H)
   by_cases c7 : 0 ≤ (ji6)
   ·
    rw [if_pos c7] at H
    have c7b0 : decide (0 ≤ (ji6)) = true := decide_eq_true c7
    clear c7
    by_cases c8 : (ji6) < (l0.length : Int)
    ·
     rw [if_pos c8] at H
     have c8b0 : decide ((ji6) < (l0.length : Int)) = true := decide_eq_true c8
     clear c8
     by_cases c9 : a2 = 0
     ·
      rw [if_pos c9] at H
      exact absurd H (by simp)
     ·
      rw [if_neg c9] at H
      have c9b0 : (a2 == 0) = false := beq_eq_false_iff_ne.mpr c9
      have c9b1 : (a2 != 0) = true := bne_iff_ne.mpr c9
      obtain rfl := Option.some.inj H
      have p625 : 0 ≤ ((ji6) : Int) := of_decide_eq_true (by first | (with_reducible assumption) | assumption)
      have q625 : (ji6) < (l0.length : Int) := of_decide_eq_true (by first | (with_reducible assumption) | assumption)
      obtain ⟨ad625, e625, hx625_0⟩ := Kd.at_int HR0.out (ji6) p625 q625
      cases e625
      replace p625 := eq_true p625
      replace q625 := eq_true q625
      go_enter Tryd.func15, Tryd.ntmps15
      go_wp2
      go_ret
      exact ⟨by first | rfl | (simp; done) | (simp only [← hji6] <;> (first | rfl | simp)) | (simp [*]; done), by repeat (first | exact Drawn0.refl _ | apply Drawn0.step)⟩
    ·
     rw [if_neg c8] at H
     exact absurd H (by simp)
   ·
    rw [if_neg c7] at H
    exact absurd H (by simp)
end Go.Proofs.YtmfnipkfpjpjeaaDoor.PR
end
section
namespace Go.Proofs.YtmfnipkfpjpjeaaDoor.PR
open Go.RowKit Go.Proofs.YtmfnipkfpjpjeaaDoorW.PrintWords Go.Proofs.YtmfnipkfpjpjeaaDoorW.PrintLast Go.Proofs.YtmfnipkfpjpjeaaDoorW.PrintMore
attribute [local go_sem] max2_int min2_int max_two min_two max_three min_three max_four min_four   
set_option linter.unusedVariables false
set_option linter.unusedSimpArgs false
attribute [local go_sem high] eqA30
def mk_ (n b : Nat) : Array Bool := ((List.range n).map fun i => b.testBit i).toArray
theorem sA_ {α : Type} {l : List α} {i : Nat} {v : α} : l.toArray.setIfInBounds i v = (l.set i v).toArray := List.setIfInBounds_toArray ..
theorem sB_ {α : Type} {a x : α} {l : List α} : (a :: l).set 0 x = x :: l := rfl
theorem sC_ {α : Type} {a x : α} {l : List α} {n : Nat} : (a :: l).set (n + 1) x = a :: l.set n x := rfl
mutual
def laws_FnRope.j0 : Nat → List Int → List Int → Bool → Option (Bool)
 | 0, _, _, _ => none
 | k + 1, x0, x1, x22 => if x22 = true then (some true) else ((spec_DrawRopeOf.f k x0).bind fun t626 => ((impl_RopeOf.f k t626).bind fun bt627 => ((spec_RopeOf.f k t626).bind fun bt634 => (if (bt627.1.length : Int) = (bt634.1.length : Int) then (laws_FnRope.j1 k x1 t626 ((bt627.2.length : Int) != 0) bt627.1 bt627.2 bt634.1 bt634.2) else (laws_FnRope.j1 k x1 t626 true bt627.1 bt627.2 bt634.1 bt634.2)))))
def laws_FnRope.j1 : Nat → List Int → ByteArray → Bool → List (S30) → List (S56) → List (S30) → List (S56) → Option (Bool)
 | 0, _, _, _, _, _, _, _ => none
 | k + 1, x1, x5, x41, x634000, x634001, x641000, x641001 => if x41 = true then (some false) else (laws_FnRope.l0 k x1 x5 0 x634000 x634001 x641000 x641001)
def laws_FnRope.l0 : Nat → List Int → ByteArray → Int → List (S30) → List (S56) → List (S30) → List (S56) → Option (Bool)
 | 0, _, _, _, _, _, _, _ => none
 | k + 1, x1, x5, x8, x634000, x634001, x641000, x641001 => if x8 < (x634000.length : Int) then (if 0 ≤ x8 then (if x8 < (x641000.length : Int) then (if (!((((rd_T30 x634000 x8).f0).toList) == (((rd_T30 x641000 x8).f0).toList)) || (!(((rd_T30 x634000 x8).f1) == ((rd_T30 x641000 x8).f1)) || (!(((rd_T30 x634000 x8).f2) == ((rd_T30 x641000 x8).f2)) || (!(((rd_T30 x634000 x8).f3) == ((rd_T30 x641000 x8).f3)) || (!(((rd_T30 x634000 x8).f4) == ((rd_T30 x641000 x8).f4))))))) = true then (some false) else (laws_FnRope.l0 k x1 x5 (wrap64 (x8 + 1)) x634000 x634001 x641000 x641001)) else (none)) else (none)) else (if (x5.size : Int) > 65536 then (some ((x634000.length : Int) == 0)) else ((laws_lwAt.f x1 0 256).bind fun t643 => ((laws_lwAt.f x1 1 256).bind fun t644 => (if (wrap64 (t643 + t644)) > (x5.size : Int) then (laws_FnRope.j3 k x5 t643 (x5.size : Int) x634000 x634001) else (laws_FnRope.j3 k x5 t643 (wrap64 (t643 + t644)) x634000 x634001)))))
def laws_FnRope.j3 : Nat → ByteArray → Int → Int → List (S30) → List (S56) → Option (Bool)
 | 0, _, _, _, _, _ => none
 | k + 1, x5, x9, x10, x634000, x634001 => if x9 > x10 then (laws_FnRope.j4 k x5 x10 x10 x634000 x634001) else (laws_FnRope.j4 k x5 x9 x10 x634000 x634001)
def laws_FnRope.j4 : Nat → ByteArray → Int → Int → List (S30) → List (S56) → Option (Bool)
 | 0, _, _, _, _, _ => none
 | k + 1, x5, x9, x10, x634000, x634001 => laws_FnRope.l1 k x5 x9 x10 0 0 x634000 x634001
def laws_FnRope.l1 : Nat → ByteArray → Int → Int → Int → Int → List (S30) → List (S56) → Option (Bool)
 | 0, _, _, _, _, _, _, _ => none
 | k + 1, x5, x9, x10, x11, x12, x634000, x634001 => if x12 < x9 then (if 0 ≤ x12 then (if x12 < (x5.size : Int) then (if (bt x5 x12) = 10 then (laws_FnRope.l1 k x5 x9 x10 (wrap64 (x11 + 1)) (wrap64 (x12 + 1)) x634000 x634001) else (laws_FnRope.l1 k x5 x9 x10 x11 (wrap64 (x12 + 1)) x634000 x634001)) else (none)) else (none)) else ((impl_LineAt.f k x634000 x634001 x9).bind fun t645 => ((impl_PlaceOfLine.f k x634000 x634001 t645).bind fun t646 => ((impl_RopeFault.f k x634000 x634001).bind fun t647 => (if t647 = 0 then ((impl_RopeText.f k x634000 x634001).bind fun t648 => (if t648.toList = x5.toList then ((impl_Piece.f k x634000 x634001 x9 x10).bind fun t649 => (if 0 ≤ x9 then (if x9 ≤ x10 then (if x10 ≤ (x5.size : Int) then (if t649.toList = (x5.extract (x9 : Int).toNat (x10 : Int).toNat).toList then (if t645 = x11 then (if t646 ≥ 0 then (if t646 ≤ x9 then ((impl_LineAt.f k x634000 x634001 t646).bind fun t650 => (some (t650 == t645))) else (some false)) else (some false)) else (some false)) else (some false)) else (none)) else (none)) else (none))) else (some false))) else (some false)))))
end
def laws_FnRope.f (k : Nat) (l0 : List Int) (l1 : List Int) : Option (Bool) := if (l0.length : Int) > 1048576 then (laws_FnRope.j0 k l0 l1 true) else (laws_FnRope.j0 k l0 l1 (decide ((l1.length : Int) > 1048576)))
theorem laws_FnRope.mono_l : ∀ k, (∀ y0 y1 y2, LeO (laws_FnRope.j0 k y0 y1 y2) (laws_FnRope.j0 (k + 1) y0 y1 y2)) ∧ (∀ y0 y1 y2 y3 y4 y5 y6, LeO (laws_FnRope.j1 k y0 y1 y2 y3 y4 y5 y6) (laws_FnRope.j1 (k + 1) y0 y1 y2 y3 y4 y5 y6)) ∧ (∀ y0 y1 y2 y3 y4 y5 y6, LeO (laws_FnRope.l0 k y0 y1 y2 y3 y4 y5 y6) (laws_FnRope.l0 (k + 1) y0 y1 y2 y3 y4 y5 y6)) ∧ (∀ y0 y1 y2 y3 y4, LeO (laws_FnRope.j3 k y0 y1 y2 y3 y4) (laws_FnRope.j3 (k + 1) y0 y1 y2 y3 y4)) ∧ (∀ y0 y1 y2 y3 y4, LeO (laws_FnRope.j4 k y0 y1 y2 y3 y4) (laws_FnRope.j4 (k + 1) y0 y1 y2 y3 y4)) ∧ (∀ y0 y1 y2 y3 y4 y5 y6, LeO (laws_FnRope.l1 k y0 y1 y2 y3 y4 y5 y6) (laws_FnRope.l1 (k + 1) y0 y1 y2 y3 y4 y5 y6))
 | 0 => ⟨fun _ _ _ r h => by simp [laws_FnRope.j0] at h, fun _ _ _ _ _ _ _ r h => by simp [laws_FnRope.j1] at h, fun _ _ _ _ _ _ _ r h => by simp [laws_FnRope.l0] at h, fun _ _ _ _ _ r h => by simp [laws_FnRope.j3] at h, fun _ _ _ _ _ r h => by simp [laws_FnRope.j4] at h, fun _ _ _ _ _ _ _ r h => by simp [laws_FnRope.l1] at h⟩
 | k + 1 => by
  obtain ⟨ih0, ih1, ih2, ih3, ih4, ih5⟩ := laws_FnRope.mono_l k
  refine ⟨?_, ?_, ?_, ?_, ?_, ?_⟩
  ·
   intro y0 y1 y2
   unfold laws_FnRope.j0
   repeat' first
   | (with_reducible exact ih0 _ _ _)
   | (with_reducible exact ih1 _ _ _ _ _ _ _)
   | (with_reducible exact ih2 _ _ _ _ _ _ _)
   | (with_reducible exact ih3 _ _ _ _ _)
   | (with_reducible exact ih4 _ _ _ _ _)
   | (with_reducible exact ih5 _ _ _ _ _ _ _)
   | (with_reducible exact impl_LineAt.mono _ _ _ _)
   | (with_reducible exact impl_Piece.mono _ _ _ _ _)
   | (with_reducible exact impl_PlaceOfLine.mono _ _ _ _)
   | (with_reducible exact impl_RopeFault.mono _ _ _)
   | (with_reducible exact impl_RopeOf.mono _ _)
   | (with_reducible exact impl_RopeText.mono _ _ _)
   | (with_reducible exact spec_DrawRopeOf.mono _ _)
   | (with_reducible exact spec_RopeOf.mono _ _)
   | (with_reducible exact LeO.refl _)
   | (with_reducible exact LeO.none _)
   | (with_reducible refine LeO.ite ?_ ?_)
   | (with_reducible refine LeO.bind ?_ (fun _ => ?_))
   | exact ih0 _ _ _
   | exact ih1 _ _ _ _ _ _ _
   | exact ih2 _ _ _ _ _ _ _
   | exact ih3 _ _ _ _ _
   | exact ih4 _ _ _ _ _
   | exact ih5 _ _ _ _ _ _ _
   | exact impl_LineAt.mono _ _ _ _
   | exact impl_Piece.mono _ _ _ _ _
   | exact impl_PlaceOfLine.mono _ _ _ _
   | exact impl_RopeFault.mono _ _ _
   | exact impl_RopeOf.mono _ _
   | exact impl_RopeText.mono _ _ _
   | exact spec_DrawRopeOf.mono _ _
   | exact spec_RopeOf.mono _ _
   | exact LeO.none _
   | refine LeO.ite ?_ ?_
   | refine LeO.bind ?_ (fun _ => ?_)
  ·
   intro y0 y1 y2 y3 y4 y5 y6
   unfold laws_FnRope.j1
   repeat' first
   | (with_reducible exact ih0 _ _ _)
   | (with_reducible exact ih1 _ _ _ _ _ _ _)
   | (with_reducible exact ih2 _ _ _ _ _ _ _)
   | (with_reducible exact ih3 _ _ _ _ _)
   | (with_reducible exact ih4 _ _ _ _ _)
   | (with_reducible exact ih5 _ _ _ _ _ _ _)
   | (with_reducible exact impl_LineAt.mono _ _ _ _)
   | (with_reducible exact impl_Piece.mono _ _ _ _ _)
   | (with_reducible exact impl_PlaceOfLine.mono _ _ _ _)
   | (with_reducible exact impl_RopeFault.mono _ _ _)
   | (with_reducible exact impl_RopeOf.mono _ _)
   | (with_reducible exact impl_RopeText.mono _ _ _)
   | (with_reducible exact spec_DrawRopeOf.mono _ _)
   | (with_reducible exact spec_RopeOf.mono _ _)
   | (with_reducible exact LeO.refl _)
   | (with_reducible exact LeO.none _)
   | (with_reducible refine LeO.ite ?_ ?_)
   | (with_reducible refine LeO.bind ?_ (fun _ => ?_))
   | exact ih0 _ _ _
   | exact ih1 _ _ _ _ _ _ _
   | exact ih2 _ _ _ _ _ _ _
   | exact ih3 _ _ _ _ _
   | exact ih4 _ _ _ _ _
   | exact ih5 _ _ _ _ _ _ _
   | exact impl_LineAt.mono _ _ _ _
   | exact impl_Piece.mono _ _ _ _ _
   | exact impl_PlaceOfLine.mono _ _ _ _
   | exact impl_RopeFault.mono _ _ _
   | exact impl_RopeOf.mono _ _
   | exact impl_RopeText.mono _ _ _
   | exact spec_DrawRopeOf.mono _ _
   | exact spec_RopeOf.mono _ _
   | exact LeO.none _
   | refine LeO.ite ?_ ?_
   | refine LeO.bind ?_ (fun _ => ?_)
  ·
   intro y0 y1 y2 y3 y4 y5 y6
   unfold laws_FnRope.l0
   repeat' first
   | (with_reducible exact ih0 _ _ _)
   | (with_reducible exact ih1 _ _ _ _ _ _ _)
   | (with_reducible exact ih2 _ _ _ _ _ _ _)
   | (with_reducible exact ih3 _ _ _ _ _)
   | (with_reducible exact ih4 _ _ _ _ _)
   | (with_reducible exact ih5 _ _ _ _ _ _ _)
   | (with_reducible exact impl_LineAt.mono _ _ _ _)
   | (with_reducible exact impl_Piece.mono _ _ _ _ _)
   | (with_reducible exact impl_PlaceOfLine.mono _ _ _ _)
   | (with_reducible exact impl_RopeFault.mono _ _ _)
   | (with_reducible exact impl_RopeOf.mono _ _)
   | (with_reducible exact impl_RopeText.mono _ _ _)
   | (with_reducible exact spec_DrawRopeOf.mono _ _)
   | (with_reducible exact spec_RopeOf.mono _ _)
   | (with_reducible exact LeO.refl _)
   | (with_reducible exact LeO.none _)
   | (with_reducible refine LeO.ite ?_ ?_)
   | (with_reducible refine LeO.bind ?_ (fun _ => ?_))
   | exact ih0 _ _ _
   | exact ih1 _ _ _ _ _ _ _
   | exact ih2 _ _ _ _ _ _ _
   | exact ih3 _ _ _ _ _
   | exact ih4 _ _ _ _ _
   | exact ih5 _ _ _ _ _ _ _
   | exact impl_LineAt.mono _ _ _ _
   | exact impl_Piece.mono _ _ _ _ _
   | exact impl_PlaceOfLine.mono _ _ _ _
   | exact impl_RopeFault.mono _ _ _
   | exact impl_RopeOf.mono _ _
   | exact impl_RopeText.mono _ _ _
   | exact spec_DrawRopeOf.mono _ _
   | exact spec_RopeOf.mono _ _
   | exact LeO.none _
   | refine LeO.ite ?_ ?_
   | refine LeO.bind ?_ (fun _ => ?_)
  ·
   intro y0 y1 y2 y3 y4
   unfold laws_FnRope.j3
   repeat' first
   | (with_reducible exact ih0 _ _ _)
   | (with_reducible exact ih1 _ _ _ _ _ _ _)
   | (with_reducible exact ih2 _ _ _ _ _ _ _)
   | (with_reducible exact ih3 _ _ _ _ _)
   | (with_reducible exact ih4 _ _ _ _ _)
   | (with_reducible exact ih5 _ _ _ _ _ _ _)
   | (with_reducible exact impl_LineAt.mono _ _ _ _)
   | (with_reducible exact impl_Piece.mono _ _ _ _ _)
   | (with_reducible exact impl_PlaceOfLine.mono _ _ _ _)
   | (with_reducible exact impl_RopeFault.mono _ _ _)
   | (with_reducible exact impl_RopeOf.mono _ _)
   | (with_reducible exact impl_RopeText.mono _ _ _)
   | (with_reducible exact spec_DrawRopeOf.mono _ _)
   | (with_reducible exact spec_RopeOf.mono _ _)
   | (with_reducible exact LeO.refl _)
   | (with_reducible exact LeO.none _)
   | (with_reducible refine LeO.ite ?_ ?_)
   | (with_reducible refine LeO.bind ?_ (fun _ => ?_))
   | exact ih0 _ _ _
   | exact ih1 _ _ _ _ _ _ _
   | exact ih2 _ _ _ _ _ _ _
   | exact ih3 _ _ _ _ _
   | exact ih4 _ _ _ _ _
   | exact ih5 _ _ _ _ _ _ _
   | exact impl_LineAt.mono _ _ _ _
   | exact impl_Piece.mono _ _ _ _ _
   | exact impl_PlaceOfLine.mono _ _ _ _
   | exact impl_RopeFault.mono _ _ _
   | exact impl_RopeOf.mono _ _
   | exact impl_RopeText.mono _ _ _
   | exact spec_DrawRopeOf.mono _ _
   | exact spec_RopeOf.mono _ _
   | exact LeO.none _
   | refine LeO.ite ?_ ?_
   | refine LeO.bind ?_ (fun _ => ?_)
  ·
   intro y0 y1 y2 y3 y4
   unfold laws_FnRope.j4
   repeat' first
   | (with_reducible exact ih0 _ _ _)
   | (with_reducible exact ih1 _ _ _ _ _ _ _)
   | (with_reducible exact ih2 _ _ _ _ _ _ _)
   | (with_reducible exact ih3 _ _ _ _ _)
   | (with_reducible exact ih4 _ _ _ _ _)
   | (with_reducible exact ih5 _ _ _ _ _ _ _)
   | (with_reducible exact impl_LineAt.mono _ _ _ _)
   | (with_reducible exact impl_Piece.mono _ _ _ _ _)
   | (with_reducible exact impl_PlaceOfLine.mono _ _ _ _)
   | (with_reducible exact impl_RopeFault.mono _ _ _)
   | (with_reducible exact impl_RopeOf.mono _ _)
   | (with_reducible exact impl_RopeText.mono _ _ _)
   | (with_reducible exact spec_DrawRopeOf.mono _ _)
   | (with_reducible exact spec_RopeOf.mono _ _)
   | (with_reducible exact LeO.refl _)
   | (with_reducible exact LeO.none _)
   | (with_reducible refine LeO.ite ?_ ?_)
   | (with_reducible refine LeO.bind ?_ (fun _ => ?_))
   | exact ih0 _ _ _
   | exact ih1 _ _ _ _ _ _ _
   | exact ih2 _ _ _ _ _ _ _
   | exact ih3 _ _ _ _ _
   | exact ih4 _ _ _ _ _
   | exact ih5 _ _ _ _ _ _ _
   | exact impl_LineAt.mono _ _ _ _
   | exact impl_Piece.mono _ _ _ _ _
   | exact impl_PlaceOfLine.mono _ _ _ _
   | exact impl_RopeFault.mono _ _ _
   | exact impl_RopeOf.mono _ _
   | exact impl_RopeText.mono _ _ _
   | exact spec_DrawRopeOf.mono _ _
   | exact spec_RopeOf.mono _ _
   | exact LeO.none _
   | refine LeO.ite ?_ ?_
   | refine LeO.bind ?_ (fun _ => ?_)
  ·
   intro y0 y1 y2 y3 y4 y5 y6
   unfold laws_FnRope.l1
   repeat' first
   | (with_reducible exact ih0 _ _ _)
   | (with_reducible exact ih1 _ _ _ _ _ _ _)
   | (with_reducible exact ih2 _ _ _ _ _ _ _)
   | (with_reducible exact ih3 _ _ _ _ _)
   | (with_reducible exact ih4 _ _ _ _ _)
   | (with_reducible exact ih5 _ _ _ _ _ _ _)
   | (with_reducible exact impl_LineAt.mono _ _ _ _)
   | (with_reducible exact impl_Piece.mono _ _ _ _ _)
   | (with_reducible exact impl_PlaceOfLine.mono _ _ _ _)
   | (with_reducible exact impl_RopeFault.mono _ _ _)
   | (with_reducible exact impl_RopeOf.mono _ _)
   | (with_reducible exact impl_RopeText.mono _ _ _)
   | (with_reducible exact spec_DrawRopeOf.mono _ _)
   | (with_reducible exact spec_RopeOf.mono _ _)
   | (with_reducible exact LeO.refl _)
   | (with_reducible exact LeO.none _)
   | (with_reducible refine LeO.ite ?_ ?_)
   | (with_reducible refine LeO.bind ?_ (fun _ => ?_))
   | exact ih0 _ _ _
   | exact ih1 _ _ _ _ _ _ _
   | exact ih2 _ _ _ _ _ _ _
   | exact ih3 _ _ _ _ _
   | exact ih4 _ _ _ _ _
   | exact ih5 _ _ _ _ _ _ _
   | exact impl_LineAt.mono _ _ _ _
   | exact impl_Piece.mono _ _ _ _ _
   | exact impl_PlaceOfLine.mono _ _ _ _
   | exact impl_RopeFault.mono _ _ _
   | exact impl_RopeOf.mono _ _
   | exact impl_RopeText.mono _ _ _
   | exact spec_DrawRopeOf.mono _ _
   | exact spec_RopeOf.mono _ _
   | exact LeO.none _
   | refine LeO.ite ?_ ?_
   | refine LeO.bind ?_ (fun _ => ?_)
theorem laws_FnRope.mono : ∀ a0 a1 k, LeO (laws_FnRope.f k a0 a1) (laws_FnRope.f (k + 1) a0 a1) := by
 intro a0 a1 k
 obtain ⟨ih0, ih1, ih2, ih3, ih4, ih5⟩ := laws_FnRope.mono_l k
 unfold laws_FnRope.f
 repeat' first
   | (with_reducible exact ih0 _ _ _)
   | (with_reducible exact ih1 _ _ _ _ _ _ _)
   | (with_reducible exact ih2 _ _ _ _ _ _ _)
   | (with_reducible exact ih3 _ _ _ _ _)
   | (with_reducible exact ih4 _ _ _ _ _)
   | (with_reducible exact ih5 _ _ _ _ _ _ _)
   | (with_reducible exact impl_LineAt.mono _ _ _ _)
   | (with_reducible exact impl_Piece.mono _ _ _ _ _)
   | (with_reducible exact impl_PlaceOfLine.mono _ _ _ _)
   | (with_reducible exact impl_RopeFault.mono _ _ _)
   | (with_reducible exact impl_RopeOf.mono _ _)
   | (with_reducible exact impl_RopeText.mono _ _ _)
   | (with_reducible exact spec_DrawRopeOf.mono _ _)
   | (with_reducible exact spec_RopeOf.mono _ _)
   | (with_reducible exact LeO.refl _)
   | (with_reducible exact LeO.none _)
   | (with_reducible refine LeO.ite ?_ ?_)
   | (with_reducible refine LeO.bind ?_ (fun _ => ?_))
   | exact ih0 _ _ _
   | exact ih1 _ _ _ _ _ _ _
   | exact ih2 _ _ _ _ _ _ _
   | exact ih3 _ _ _ _ _
   | exact ih4 _ _ _ _ _
   | exact ih5 _ _ _ _ _ _ _
   | exact impl_LineAt.mono _ _ _ _
   | exact impl_Piece.mono _ _ _ _ _
   | exact impl_PlaceOfLine.mono _ _ _ _
   | exact impl_RopeFault.mono _ _ _
   | exact impl_RopeOf.mono _ _
   | exact impl_RopeText.mono _ _ _
   | exact spec_DrawRopeOf.mono _ _
   | exact spec_RopeOf.mono _ _
   | exact LeO.none _
   | refine LeO.ite ?_ ?_
   | refine LeO.bind ?_ (fun _ => ?_)
def laws_FnRope.T11 : Bool × List (List Nat × List Nat) := (true, [([], []), ([0], [0]), ([], []), ([1, 2], [1, 2]), ([3], [3]), ([], []), ([5], [5]), ([], []), ([6, 7], [6, 7]), ([8], [8]), ([4, 9], [4, 9])])
def laws_FnRope.B11 : List Nat := [0, 1, 0, 7, 15, 0, 32, 0, 224, 480, 1023]
theorem laws_FnRope.tab11 : rtab .any (opsOf Tryd.f3 11) = laws_FnRope.T11 := by kernel_rfl
theorem laws_FnRope.bits11 : waitsOk laws_FnRope.T11.2 laws_FnRope.B11 = true := by kernel_rfl
def laws_FnRope.T29 : Bool × List (List Nat × List Nat) := (true, [([], []), ([0], [0]), ([1], [1]), ([2, 1], [2]), ([3], [3]), ([4, 3, 3], [3, 4]), ([3], [3]), ([5, 6, 3], [3, 5, 6]), ([3, 7], [3, 7]), ([8, 5], [8]), ([9], [9]), ([9], [9]), ([9], [9]), ([10, 11, 12, 9, 9], [9, 10, 11, 12]), ([9], [9]), ([9], [9]), ([9], [9]), ([14, 15, 16, 9], [9, 14, 15, 16]), ([13, 17, 9], [9, 13, 17]), ([9, 18], [9, 18]), ([19, 13], [19]), ([20], [20]), ([20], [20]), ([21, 22, 20], [20, 21, 22]), ([20, 23], [20, 23]), ([24, 20], [24]), ([25], [25]), ([26, 25], [25, 26]), ([25, 27], [25, 27]), ([28, 25], [28]), ([29], [29]), ([29], [29]), ([30, 31, 29], [29, 30, 31]), ([29, 32], [29, 32]), ([33, 29], [33]), ([34], [34]), ([34], [34]), ([35, 36, 34, 34], [34, 35, 36]), ([34], [34]), ([37, 38, 34], [34, 37, 38]), ([34, 39], [34, 39]), ([40, 37, 0, 1, 2, 3, 4, 5, 6, 7, 8, 9, 10, 11, 12, 13, 14, 15, 16, 17, 18, 19, 20, 21, 22, 23, 24, 25, 26, 27, 28, 29, 30, 31, 32, 33, 34, 35, 36, 37, 38, 39, 40], [40])])
def laws_FnRope.B29 : List Nat := [0, 1, 3, 7, 15, 31, 15, 127, 255, 511, 1023, 1023, 1023, 8191, 1023, 1023, 1023, 115711, 262143, 524287, 1048575, 2097151, 2097151, 8388607, 16777215, 33554431, 67108863, 134217727, 268435455, 536870911, 1073741823, 1073741823, 4294967295, 8589934591, 17179869183, 34359738367, 34359738367, 137438953471, 34359738367, 549755813887, 1099511627775, 2199023255551]
theorem laws_FnRope.tab29 : rtab .any (opsOf Tryd.f3 29) = laws_FnRope.T29 := by kernel_rfl
theorem laws_FnRope.bits29 : waitsOk laws_FnRope.T29.2 laws_FnRope.B29 = true := by kernel_rfl
end Go.Proofs.YtmfnipkfpjpjeaaDoor.PR
end
