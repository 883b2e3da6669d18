/- What the laws' proofs stand on, part 6: words, the walks of the functions that they reach, and plain laws of what these compute. (printed by this session's own programs, myprint.py and prune.py, over the kit's print.py and its words; Lean checks it) -/
import Derived.Test.YtmfnipkfpjpjeaaDoorQS0
import Derived.Test.YtmfnipkfpjpjeaaDoorQS1
import Derived.Test.YtmfnipkfpjpjeaaDoorQS2
import Derived.Test.YtmfnipkfpjpjeaaDoorQS3
import Derived.Test.YtmfnipkfpjpjeaaDoorQS4
import Derived.Test.YtmfnipkfpjpjeaaDoorQS5
import Derived.Deep.Slices
import Derived.Lib.DecodeN
import Derived.Shelf.Unicode.DecodeSlow
section
namespace Go.Proofs.YtmfnipkfpjpjeaaDoor.PR
open Go.RowKit Go.Proofs.YtmfnipkfpjpjeaaDoorW.PrintWords Go.Proofs.YtmfnipkfpjpjeaaDoorW.PrintLast Go.Deep
set_option linter.unusedVariables false
theorem choose_elem {α : Type} (z : α) {n : Nat} {p : Nat → α → Prop} (h : ∀ i, i < n → ∃ x, p i x) : ∃ f : Nat → α, ∀ i, i < n → p i (f i) := by
  refine ⟨fun i => if hi : i < n then Classical.choose (h i hi) else z, fun i hi => ?_⟩
  simp only [hi, dif_pos]
  exact Classical.choose_spec (h i hi)
theorem read_slice {α : Type} {H : Type} {enc : TypeId × Value → H} {P : Program} {w : World} {base : Nat} {sp : Nat → Bool} {held : Bool} (K : Kd α) (z : α) (t e : TypeId) (ht : P.underlying t = some (.slice e)) (hc : P.cellsOf e = K.sz) (good : α → Prop)
    (elem : ∀ n cs x, DataW.trod enc P w base sp held n e cs = some x → ∃ y, K.K w y cs ∧ good y) {fuel : Nat} {cs : List Value} {x : DataW H × List MemPlace} (h : DataW.trod enc P w base sp held fuel t cs = some x) :
    ∃ A c, ∃ l : List α, cs = [.slice A l.length c] ∧ l.length ≤ c ∧ c ≤ maxLen ∧ K.C w A l.length l ∧ ∀ y ∈ l, good y := by
  rcases open_slice ht h with ⟨rfl, _⟩ | ⟨a, len, cap, m, n, D, Pl, rfl, _, hl, hm, hmm, _, hx⟩
  · exact ⟨none, 0, [], rfl, Nat.le_refl _, Nat.zero_le _, ⟨rfl, by simp, fun h0 => absurd h0 (by simp)⟩, by simp⟩
  · have hlm : len ≤ m := by rw [hmm]; split <;> omega
    obtain ⟨f, hf⟩ := choose_elem z (n := len) (p := fun i y => ∃ cs', cs'.length = K.sz ∧ K.K w y cs' ∧ (∀ j u, cs'[j]? = some u → w.cell? (a.add (i * K.sz + j)) = some u) ∧ good y) (fun i hi => by
      obtain ⟨cs', h1, h2⟩ := hx i (by omega)
      rw [hc] at h1
      obtain ⟨y, hy, hg⟩ := elem _ _ _ h2
      obtain ⟨_, h3, h4⟩ := World.cells?_some h1
      refine ⟨y, cs', K.K_len hy, hy, fun j u hu => ?_, hg⟩
      have hj : j < cs'.length := by
        rcases Nat.lt_or_ge j cs'.length with hj | hj
        · exact hj
        · rw [List.getElem?_eq_none hj] at hu; cases hu
      have h5 := h4 j (by omega)
      rw [hu] at h5
      rw [Addr.add_add] at h5
      exact h5)
    refine ⟨some a, cap, (List.range len).map f, by simp, by simpa using hl, hm, ⟨rfl, ?_, fun _ => ⟨a, rfl, fun j p hp => ?_⟩⟩, fun y hy => ?_⟩
    · have : maxLen ≤ 9223372036854775807 := by decide
      simp only [List.length_map, List.length_range]; omega
    · rw [List.getElem?_map] at hp
      have hj : j < len := by
        rcases Nat.lt_or_ge j len with hj | hj
        · exact hj
        · rw [List.getElem?_eq_none (by simpa using hj)] at hp; cases hp
      rw [List.getElem?_range hj] at hp
      simp only [Option.map_some, Option.some.injEq] at hp
      subst hp
      obtain ⟨c, h1, h2, h3, _⟩ := hf j hj
      exact ⟨c, h1, h2, h3⟩
    · simp only [List.mem_map, List.mem_range] at hy
      obtain ⟨i, hi, rfl⟩ := hy
      obtain ⟨_, _, _, _, hg⟩ := hf i hi
      exact hg
end Go.Proofs.YtmfnipkfpjpjeaaDoor.PR
end
section
namespace Go.Proofs.YtmfnipkfpjpjeaaDoor.PR
open Go.RowKit Go.Proofs.YtmfnipkfpjpjeaaDoorW.PrintWords Go.Proofs.YtmfnipkfpjpjeaaDoorW.PrintLast Go.Proofs.YtmfnipkfpjpjeaaDoorW.PrintMore
set_option linter.unusedVariables false
set_option linter.unusedSimpArgs false
theorem Ev.succ {α : Type} {g : Nat → Option α} {r : α} (h : Ev (fun k => g (k + 1)) r) : Ev g r := by
  obtain ⟨K, hK⟩ := h
  refine ⟨K + 1, fun k hk => ?_⟩
  obtain ⟨m, rfl⟩ : ∃ m, k = m + 1 := ⟨k - 1, by omega⟩
  exact hK m (by omega)
theorem w64 {x : Int} (h1 : -9223372036854775808 ≤ x) (h2 : x ≤ 9223372036854775807) : wrap64 x = x := by unfold wrap64; omega
def gb (s : ByteArray) (i : Nat) : Nat := (s.get! i).toNat
theorem gb_lt (s : ByteArray) (i : Nat) : gb s i < 256 := (s.get! i).toNat_lt
theorem get!_eq (s : ByteArray) (i : Nat) (h : i < s.size) : s.get! i = s[i]'h := by
  cases s with | mk d => exact getElem!_pos d i h
theorem bt_gb (s : ByteArray) (i : Nat) (h : i < s.size) : bt s (i : Int) = (gb s i : Int) := by
  unfold bt gb
  rw [Int.toNat_natCast, dif_pos h, get!_eq s i h]
def dec (s : ByteArray) (i : Nat) : Nat × Nat := Lib.decodeN (s.size - i) (gb s i) (gb s (i + 1)) (gb s (i + 2)) (gb s (i + 3))
theorem strOfNums_size (l : List Int) : (strOfNums l).size = l.length := by simp [strOfNums, ByteArray.size]
def wr1 (x0 : Int) : ByteArray := if x0 < 128 then (strOfNums (([(x0) % 256] : List Int))) else (if x0 < 2048 then (strOfNums (([(wrap64 (192 + (wrap64 (Int.tdiv x0 64)))) % 256, (wrap64 (128 + (Int.tmod x0 64))) % 256] : List Int))) else (if x0 < 65536 then (strOfNums (([(wrap64 (224 + (wrap64 (Int.tdiv x0 4096)))) % 256, (wrap64 (128 + (Int.tmod (wrap64 (Int.tdiv x0 64)) 64))) % 256, (wrap64 (128 + (Int.tmod x0 64))) % 256] : List Int))) else (strOfNums (([(wrap64 (240 + (wrap64 (Int.tdiv x0 262144)))) % 256, (wrap64 (128 + (Int.tmod (wrap64 (Int.tdiv x0 4096)) 64))) % 256, (wrap64 (128 + (Int.tmod (wrap64 (Int.tdiv x0 64)) 64))) % 256, (wrap64 (128 + (Int.tmod x0 64))) % 256] : List Int)))))
def isPt (p : Int) : Bool := decide (0 ≤ p) && decide (p ≤ 1114111) && (decide (p < 55296) || decide (p > 57343))
def wr (p : Int) : ByteArray := if isPt p = true then wr1 p else wr1 65533
theorem isPoint_eq (p : Int) : spec_l01IsPoint.f p = some (isPt p) := by
  unfold spec_l01IsPoint.f isPt
  by_cases h0 : p ≥ 0
  · rw [if_pos h0]
    by_cases h1 : p ≤ 1114111
    · rw [if_pos h1]
      by_cases h2 : p < 55296
      · rw [if_pos h2]; simp [h1, h2]; omega
      · rw [if_neg h2]; simp [h1, h2]; omega
    · rw [if_neg h1]; simp [h1]
  · rw [if_neg h0]; simp; omega
theorem write_eq (k : Nat) (p : Int) : spec_l01Write.f (k + 1) p = some (wr p) := by
  unfold spec_l01Write.f
  rw [isPoint_eq]
  simp only [Option.bind_some]
  have hj : ∀ x, spec_l01Write.j0 (k + 1) x = some (wr1 x) := fun x => by
    simp only [spec_l01Write.j0, wr1]
    repeat' split
    all_goals rfl
  rw [hj, hj]
  unfold wr
  split <;> rfl
theorem wr1_size (p : Int) : (wr1 p).size = if p < 128 then 1 else if p < 2048 then 2 else if p < 65536 then 3 else 4 := by
  unfold wr1
  repeat' split
  all_goals simp [strOfNums_size]
theorem wr_size (p : Int) (h : isPt p = true) : (wr p).size = if p < 128 then 1 else if p < 2048 then 2 else if p < 65536 then 3 else 4 := by
  unfold wr; rw [if_pos h, wr1_size]
theorem next_step (s : ByteArray) (i n j : Nat) (p : Nat) (hs : s.size ≤ 1099511627776) (hj : j ≤ n) (hn : i + n < s.size) (hp : p < 2097152) (k : Nat) :
    spec_l01Next.l0 (k + 1) s i n p j = if 128 ≤ gb s (i + j) ∧ gb s (i + j) < 192 then spec_l01Next.l0 k s i n ((p * 64 + gb s (i + j) % 64 : Nat) : Int) ((j + 1 : Nat) : Int) else some (65533, 1, false) := by
  have hb := gb_lt s (i + j)
  have e1 : wrap64 ((i : Int) + (j : Int)) = ((i + j : Nat) : Int) := by rw [w64 (by omega) (by omega)]; omega
  have e2 := bt_gb s (i + j) (by omega)
  have e3 : wrap64 ((gb s (i + j) : Nat) : Int) = (gb s (i + j) : Int) := w64 (by omega) (by omega)
  simp only [spec_l01Next.l0, e1, e2, e3]
  rw [if_pos (by omega), if_pos (by omega), if_pos (by omega)]
  by_cases h1 : gb s (i + j) < 128
  · rw [if_pos (by omega), if_neg (by omega)]
  · rw [if_neg (by omega)]
    by_cases h2 : gb s (i + j) < 192
    · rw [if_neg (by omega), if_pos (by omega)]
      have e4 : wrap64 (wrap64 ((p : Int) * 64) + ((gb s (i + j) : Nat) : Int).tmod 64) = ((p * 64 + gb s (i + j) % 64 : Nat) : Int) := by
        rw [w64 (x := (p : Int) * 64) (by omega) (by omega), Int.tmod_eq_emod_of_nonneg (by omega), w64 (by omega) (by omega)]; omega
      have e5 : wrap64 ((j : Int) + 1) = ((j + 1 : Nat) : Int) := by rw [w64 (by omega) (by omega)]; omega
      rw [e4, e5]
    · rw [if_pos (by omega), if_neg (by omega)]
theorem next_end (s : ByteArray) (i n : Nat) (p : Nat) (hn : n ≤ 3) (k : Nat) :
    spec_l01Next.l0 (k + 2) s i n p ((n + 1 : Nat) : Int) = if isPt p = true ∧ (wr p).size = n + 1 then some ((p : Int), ((n + 1 : Nat) : Int), true) else some (65533, 1, false) := by
  have e1 : wrap64 ((n : Int) + 1) = ((n + 1 : Nat) : Int) := by rw [w64 (by omega) (by omega)]; omega
  rw [spec_l01Next.l0, if_neg (by omega), isPoint_eq, Option.bind_some, write_eq, Option.bind_some, e1]
  by_cases h1 : isPt p = true
  · rw [if_pos h1]
    by_cases h2 : (wr p).size = n + 1
    · rw [if_pos (by omega), if_pos ⟨h1, h2⟩]
    · rw [if_neg (by omega), if_neg (fun h => h2 h.2)]
  · rw [if_neg h1, if_neg (fun h => h1 h.1)]
theorem next_j2 (s : ByteArray) (i n : Nat) (p : Nat) (hs : s.size ≤ 1099511627776) (hi : i < s.size) (hn : n ≤ 3) (k : Nat) :
    spec_l01Next.j2 (k + 1) s i n p = if i + n < s.size then spec_l01Next.l0 k s i n p 1 else some (65533, 1, false) := by
  have e1 : wrap64 ((i : Int) + (n : Int)) = ((i + n : Nat) : Int) := by rw [w64 (by omega) (by omega)]; omega
  simp only [spec_l01Next.j2, e1]
  by_cases h : i + n < s.size
  · rw [if_neg (by omega), if_pos h]
  · rw [if_pos (by omega), if_neg h]
theorem isPt_nat (p : Nat) : isPt (p : Int) = decide (p ≤ 1114111 ∧ (p < 55296 ∨ 57344 ≤ p)) := by
  unfold isPt
  rw [Bool.eq_iff_iff]
  simp only [Bool.and_eq_true, Bool.or_eq_true, decide_eq_true_eq]
  omega
theorem wr_size_nat (p : Nat) (h : isPt (p : Int) = true) : (wr (p : Int)).size = if p < 128 then 1 else if p < 2048 then 2 else if p < 65536 then 3 else 4 := by
  rw [wr_size _ h]
  repeat' split
  all_goals first | rfl | (exfalso; omega)
def nextV (s : ByteArray) (i : Nat) : Int × Int × Bool := (((dec s i).1 : Int), ((dec s i).2 : Int), decide ¬((dec s i).1 = 65533 ∧ (dec s i).2 = 1))
theorem next_one (s : ByteArray) (i : Nat) (hs : s.size ≤ 1099511627776) (hi : i < s.size) (p : Nat) (hp : p < 32) (k : Nat) :
    spec_l01Next.j2 (k + 5) s i ((1 : Nat) : Int) p = if 1 < s.size - i ∧ gb s (i + 1) / 64 = 2 ∧ 128 ≤ p * 64 + gb s (i + 1) % 64 then some (((p * 64 + gb s (i + 1) % 64 : Nat) : Int), 2, true) else some (65533, 1, false) := by
  have hb := gb_lt s (i + 1)
  rw [next_j2 s i 1 p hs hi (by omega)]
  by_cases h1 : i + 1 < s.size
  · rw [if_pos h1, show (1 : Int) = ((1 : Nat) : Int) from rfl, next_step s i 1 1 p hs (by omega) (by omega) (by omega)]
    by_cases h2 : 128 ≤ gb s (i + 1) ∧ gb s (i + 1) < 192
    · rw [if_pos h2, next_end s i 1 _ (by omega)]
      have hpt : isPt ((p * 64 + gb s (i + 1) % 64 : Nat) : Int) = true := by rw [isPt_nat]; simp; omega
      by_cases h3 : 128 ≤ p * 64 + gb s (i + 1) % 64
      · have hz := wr_size_nat _ hpt
        rw [if_neg (by omega), if_pos (by omega)] at hz
        rw [if_pos ⟨hpt, hz⟩, if_pos (by omega)]; rfl
      · have hz := wr_size_nat _ hpt
        rw [if_pos (by omega)] at hz
        rw [if_neg (fun h => by have := h.2; omega), if_neg (by omega)] <;> rfl
    · rw [if_neg h2, if_neg (by omega)] <;> rfl
  · rw [if_neg h1, if_neg (by omega)] <;> rfl
theorem next_two (s : ByteArray) (i : Nat) (hs : s.size ≤ 1099511627776) (hi : i < s.size) (p : Nat) (hp : p < 16) (k : Nat) :
    spec_l01Next.j2 (k + 6) s i ((2 : Nat) : Int) p = if (2 < s.size - i ∧ gb s (i + 1) / 64 = 2 ∧ gb s (i + 2) / 64 = 2) ∧ (p * 4096 + gb s (i + 1) % 64 * 64 + gb s (i + 2) % 64 ≥ 2048 ∧ (p * 4096 + gb s (i + 1) % 64 * 64 + gb s (i + 2) % 64 < 55296 ∨ 57344 ≤ p * 4096 + gb s (i + 1) % 64 * 64 + gb s (i + 2) % 64)) then some (((p * 4096 + gb s (i + 1) % 64 * 64 + gb s (i + 2) % 64 : Nat) : Int), 3, true) else some (65533, 1, false) := by
  have hb := gb_lt s (i + 1)
  have hc := gb_lt s (i + 2)
  rw [next_j2 s i 2 p hs hi (by omega)]
  by_cases h1 : i + 2 < s.size
  · rw [if_pos h1, show (1 : Int) = ((1 : Nat) : Int) from rfl, next_step s i 2 1 p hs (by omega) (by omega) (by omega)]
    by_cases h2 : 128 ≤ gb s (i + 1) ∧ gb s (i + 1) < 192
    · rw [if_pos h2, next_step s i 2 2 _ hs (by omega) (by omega) (by omega)]
      by_cases h3 : 128 ≤ gb s (i + 2) ∧ gb s (i + 2) < 192
      · rw [if_pos h3, next_end s i 2 _ (by omega)]
        have he : (p * 64 + gb s (i + 1) % 64) * 64 + gb s (i + 2) % 64 = p * 4096 + gb s (i + 1) % 64 * 64 + gb s (i + 2) % 64 := by omega
        rw [he]
        obtain ⟨q, hq⟩ : ∃ q, p * 4096 + gb s (i + 1) % 64 * 64 + gb s (i + 2) % 64 = q := ⟨_, rfl⟩
        rw [hq]
        by_cases hpt : isPt (q : Int) = true
        · have hpt2 := hpt
          rw [isPt_nat] at hpt2
          simp only [decide_eq_true_eq] at hpt2
          have hz := wr_size_nat _ hpt
          by_cases h4 : 2048 ≤ q
          · rw [if_neg (by omega), if_neg (by omega), if_pos (by omega)] at hz
            rw [if_pos ⟨hpt, hz⟩, if_pos (by omega)]; rfl
          · rw [if_neg (fun h => by have h2 := h.2; rw [hz] at h2; split at h2 <;> (try split at h2) <;> (try split at h2) <;> omega), if_neg (by omega)] <;> rfl
        · have hpt2 := hpt
          rw [isPt_nat] at hpt2
          simp only [decide_eq_true_eq] at hpt2
          rw [if_neg (fun h => hpt h.1), if_neg (by omega)] <;> rfl
      · rw [if_neg h3, if_neg (by omega)] <;> rfl
    · rw [if_neg h2, if_neg (by omega)] <;> rfl
  · rw [if_neg h1, if_neg (by omega)] <;> rfl
theorem next_three (s : ByteArray) (i : Nat) (hs : s.size ≤ 1099511627776) (hi : i < s.size) (p : Nat) (hp : p < 8) (k : Nat) :
    spec_l01Next.j2 (k + 7) s i ((3 : Nat) : Int) p = if (3 < s.size - i ∧ gb s (i + 1) / 64 = 2 ∧ gb s (i + 2) / 64 = 2 ∧ gb s (i + 3) / 64 = 2) ∧ (p * 262144 + gb s (i + 1) % 64 * 4096 + gb s (i + 2) % 64 * 64 + gb s (i + 3) % 64 ≥ 65536 ∧ p * 262144 + gb s (i + 1) % 64 * 4096 + gb s (i + 2) % 64 * 64 + gb s (i + 3) % 64 ≤ 1114111) then some (((p * 262144 + gb s (i + 1) % 64 * 4096 + gb s (i + 2) % 64 * 64 + gb s (i + 3) % 64 : Nat) : Int), 4, true) else some (65533, 1, false) := by
  have hb := gb_lt s (i + 1)
  have hc := gb_lt s (i + 2)
  have hd := gb_lt s (i + 3)
  rw [next_j2 s i 3 p hs hi (by omega)]
  by_cases h1 : i + 3 < s.size
  · rw [if_pos h1, show (1 : Int) = ((1 : Nat) : Int) from rfl, next_step s i 3 1 p hs (by omega) (by omega) (by omega)]
    by_cases h2 : 128 ≤ gb s (i + 1) ∧ gb s (i + 1) < 192
    · rw [if_pos h2, next_step s i 3 2 _ hs (by omega) (by omega) (by omega)]
      by_cases h3 : 128 ≤ gb s (i + 2) ∧ gb s (i + 2) < 192
      · rw [if_pos h3, next_step s i 3 3 _ hs (by omega) (by omega) (by omega)]
        by_cases h5 : 128 ≤ gb s (i + 3) ∧ gb s (i + 3) < 192
        · rw [if_pos h5, next_end s i 3 _ (by omega)]
          have he : ((p * 64 + gb s (i + 1) % 64) * 64 + gb s (i + 2) % 64) * 64 + gb s (i + 3) % 64 = p * 262144 + gb s (i + 1) % 64 * 4096 + gb s (i + 2) % 64 * 64 + gb s (i + 3) % 64 := by omega
          rw [he]
          obtain ⟨q, hq⟩ : ∃ q, p * 262144 + gb s (i + 1) % 64 * 4096 + gb s (i + 2) % 64 * 64 + gb s (i + 3) % 64 = q := ⟨_, rfl⟩
          rw [hq]
          by_cases hpt : isPt (q : Int) = true
          · have hpt2 := hpt
            rw [isPt_nat] at hpt2
            simp only [decide_eq_true_eq] at hpt2
            have hz := wr_size_nat _ hpt
            by_cases h4 : 65536 ≤ q
            · rw [if_neg (by omega), if_neg (by omega), if_neg (by omega)] at hz
              rw [if_pos ⟨hpt, hz⟩, if_pos (by omega)]; rfl
            · rw [if_neg (fun h => by have h2 := h.2; rw [hz] at h2; split at h2 <;> (try split at h2) <;> (try split at h2) <;> omega), if_neg (by omega)] <;> rfl
          · have hpt2 := hpt
            rw [isPt_nat] at hpt2
            simp only [decide_eq_true_eq] at hpt2
            rw [if_neg (fun h => hpt h.1), if_neg (by omega)] <;> rfl
        · rw [if_neg h5, if_neg (by omega)] <;> rfl
      · rw [if_neg h3, if_neg (by omega)] <;> rfl
    · rw [if_neg h2, if_neg (by omega)] <;> rfl
  · rw [if_neg h1, if_neg (by omega)] <;> rfl
theorem next_eq (s : ByteArray) (i : Nat) (hs : s.size ≤ 1099511627776) (hi : i < s.size) (k : Nat) : spec_l01Next.f (k + 10) s i = some (nextV s i) := by
  have hb0 := gb_lt s i
  have hb := gb_lt s (i + 1)
  have hc := gb_lt s (i + 2)
  have hd := gb_lt s (i + 3)
  have e2 := bt_gb s i hi
  have e3 : wrap64 ((gb s i : Nat) : Int) = (gb s i : Int) := w64 (by omega) (by omega)
  have m32 : ((gb s i : Nat) : Int).tmod 32 = ((gb s i % 32 : Nat) : Int) := by rw [Int.tmod_eq_emod_of_nonneg (by omega)]; omega
  have m16 : ((gb s i : Nat) : Int).tmod 16 = ((gb s i % 16 : Nat) : Int) := by rw [Int.tmod_eq_emod_of_nonneg (by omega)]; omega
  have m8 : ((gb s i : Nat) : Int).tmod 8 = ((gb s i % 8 : Nat) : Int) := by rw [Int.tmod_eq_emod_of_nonneg (by omega)]; omega
  have bad : ∀ V : Nat × Nat, V = (65533, 1) → (some (65533, 1, false) : Option (Int × Int × Bool)) = some ((V.1 : Int), (V.2 : Int), decide ¬(V.1 = 65533 ∧ V.2 = 1)) := by rintro V rfl; rfl
  have good : ∀ (V : Nat × Nat) (p n : Nat), V = (p, n) → n ≠ 1 → (some ((p : Int), (n : Int), true) : Option (Int × Int × Bool)) = some ((V.1 : Int), (V.2 : Int), decide ¬(V.1 = 65533 ∧ V.2 = 1)) := by rintro V p n rfl hn; simp [hn]
  unfold spec_l01Next.f nextV
  rw [if_pos (by omega), if_pos (by omega), e2, e3]
  by_cases h1 : gb s i < 128
  · rw [if_pos (by omega)]
    have : dec s i = (gb s i, 1) := by unfold dec Lib.decodeN; rw [if_pos h1]
    rw [this]
    simp; omega
  · rw [if_neg (by omega)]
    by_cases h2 : 194 ≤ gb s i ∧ gb s i < 224
    · rw [if_pos (by omega)]
      rw [spec_l01Next.j0, if_pos (by simp; omega), m32, show (1 : Int) = ((1 : Nat) : Int) from rfl, next_one s i hs hi _ (by omega)]
      by_cases h3 : 1 < s.size - i ∧ gb s (i + 1) / 64 = 2 ∧ 128 ≤ gb s i % 32 * 64 + gb s (i + 1) % 64
      · rw [if_pos h3]
        exact good _ _ 2 (by unfold dec Lib.decodeN; rw [if_neg h1, if_pos ⟨by omega, by omega, by omega⟩, if_pos (by omega)]) (by decide)
      · rw [if_neg h3]
        refine bad _ ?_
        unfold dec Lib.decodeN
        rw [if_neg h1]
        repeat' split
        all_goals first | rfl | (exfalso; omega)
    · by_cases h4 : 224 ≤ gb s i ∧ gb s i < 240
      · rw [if_pos (by omega)]
        rw [spec_l01Next.j0, if_neg (by simp; omega), if_pos (by omega), spec_l01Next.j1, if_pos (by simp; omega), m16, show (2 : Int) = ((2 : Nat) : Int) from rfl, next_two s i hs hi _ (by omega)]
        split
        · rename_i h5
          exact good _ _ 3 (by unfold dec Lib.decodeN; rw [if_neg h1, if_neg (by omega), if_pos ⟨by omega, ⟨by omega, by omega⟩, by omega, by omega⟩, if_pos (by omega)]) (by decide)
        · rename_i h5
          refine bad _ ?_
          unfold dec Lib.decodeN
          rw [if_neg h1]
          repeat' split
          all_goals first | rfl | (exfalso; omega)
      · by_cases h6 : 240 ≤ gb s i ∧ gb s i < 245
        · rw [if_pos (by omega)]
          rw [spec_l01Next.j0, if_neg (by simp; omega), if_pos (by omega), spec_l01Next.j1, if_neg (by simp; omega), if_pos (by omega), if_pos (by omega), m8, show (3 : Int) = ((3 : Nat) : Int) from rfl, next_three s i hs hi _ (by omega)]
          split
          · rename_i h5
            exact good _ _ 4 (by unfold dec Lib.decodeN; rw [if_neg h1, if_neg (by omega), if_neg (by omega), if_pos ⟨by omega, ⟨by omega, by omega⟩, ⟨by omega, by omega⟩, by omega, by omega⟩, if_pos (by omega)]) (by decide)
          · rename_i h5
            refine bad _ ?_
            unfold dec Lib.decodeN
            rw [if_neg h1]
            repeat' split
            all_goals first | rfl | (exfalso; omega)
        · have hbad : dec s i = (65533, 1) := by
            unfold dec Lib.decodeN
            rw [if_neg h1]
            repeat' split
            all_goals first | rfl | (exfalso; omega)
          rw [hbad]
          by_cases h7 : 194 ≤ gb s i
          · rw [if_pos (by omega)]
            rw [spec_l01Next.j0, if_neg (by simp; omega), if_pos (by omega), spec_l01Next.j1, if_neg (by simp; omega), if_pos (by omega), if_neg (by omega)]; rfl
          · rw [if_neg (by omega)]
            rw [spec_l01Next.j0, if_neg (by simp), if_neg (by omega), spec_l01Next.j1, if_neg (by simp), if_neg (by omega)]; rfl
theorem dec_size (s : ByteArray) (i : Nat) (h : i < s.size) : 1 ≤ (dec s i).2 ∧ i + (dec s i).2 ≤ s.size ∧ (dec s i).2 ≤ 4 := by
  unfold dec Lib.decodeN
  repeat' split
  all_goals (simp only; omega)
theorem gb_extract (s : ByteArray) (a b i : Nat) (h : a + i < b) (hb : b ≤ s.size) : gb (s.extract a b) i = gb s (a + i) := by
  have h1 : i < (s.extract a b).size := by rw [ByteArray.size_extract]; omega
  unfold gb
  rw [get!_eq _ _ h1, get!_eq _ _ (by omega), ByteArray.getElem_extract]
theorem decodeGo_dec (s : ByteArray) (h : 0 < s.size) : Lib.decodeGo s = dec s 0 := by
  unfold Lib.decodeGo dec
  rw [if_neg (by omega), Lib.decode_at]
  rfl
theorem decodeN_cut (n m b0 b1 b2 b3 c1 c2 c3 : Nat) (h1 : 1 < n → b1 = c1) (h2 : 2 < n → b2 = c2) (h3 : 3 < n → b3 = c3) (hnm : n = m ∨ (4 ≤ n ∧ 4 ≤ m)) : Lib.decodeN n b0 b1 b2 b3 = Lib.decodeN m b0 c1 c2 c3 := by
  have e1 : (1 < n ∧ b1 / 64 = 2) ↔ (1 < m ∧ c1 / 64 = 2) := ⟨fun h => ⟨by omega, h1 h.1 ▸ h.2⟩, fun h => ⟨by omega, by rw [h1 (by omega)]; exact h.2⟩⟩
  have e2 : (2 < n ∧ b2 / 64 = 2) ↔ (2 < m ∧ c2 / 64 = 2) := ⟨fun h => ⟨by omega, h2 h.1 ▸ h.2⟩, fun h => ⟨by omega, by rw [h2 (by omega)]; exact h.2⟩⟩
  have e3 : (3 < n ∧ b3 / 64 = 2) ↔ (3 < m ∧ c3 / 64 = 2) := ⟨fun h => ⟨by omega, h3 h.1 ▸ h.2⟩, fun h => ⟨by omega, by rw [h3 (by omega)]; exact h.2⟩⟩
  by_cases a1 : 1 < n
  · rw [h1 a1] at *
    by_cases a2 : 2 < n
    · rw [h2 a2] at *
      by_cases a3 : 3 < n
      · rw [h3 a3] at *
        unfold Lib.decodeN
        simp only [e1, e2, e3]
      · unfold Lib.decodeN
        have : ¬ 3 < m := by omega
        simp only [e1, e2, a3, this, false_and, and_false, if_false]
    · unfold Lib.decodeN
      have : ¬ 2 < m := by omega
      simp only [e1, a2, this, false_and, and_false, if_false]
  · unfold Lib.decodeN
    have : ¬ 1 < m := by omega
    simp only [a1, this, false_and, and_false, if_false]
theorem dec_window (s : ByteArray) (i j : Nat) (h : i < s.size) (hj : j = min s.size (i + 4)) : dec (s.extract i j) 0 = dec s i := by
  have hz : (s.extract i j).size = j - i := by rw [ByteArray.size_extract]; omega
  unfold dec
  rw [hz, gb_extract s i j 0 (by omega) (by omega)]
  refine decodeN_cut _ _ _ _ _ _ _ _ _ (fun h1 => gb_extract s i j 1 (by omega) (by omega)) (fun h1 => gb_extract s i j 2 (by omega) (by omega)) (fun h1 => gb_extract s i j 3 (by omega) (by omega)) (by omega)
theorem dec_tail (s : ByteArray) (i : Nat) (h : i < s.size) : Lib.decodeGo (s.extract i s.size) = dec s i := by
  have hz : (s.extract i s.size).size = s.size - i := by rw [ByteArray.size_extract]; omega
  rw [decodeGo_dec _ (by omega)]
  unfold dec
  rw [hz, gb_extract s i s.size 0 (by omega) (by omega)]
  exact decodeN_cut _ _ _ _ _ _ _ _ _ (fun h1 => gb_extract s i s.size 1 (by omega) (by omega)) (fun h1 => gb_extract s i s.size 2 (by omega) (by omega)) (fun h1 => gb_extract s i s.size 3 (by omega) (by omega)) (by omega)
theorem read_ev (s : ByteArray) (hs : s.size < 4398046511104) : ∀ (f i : Nat) (L : List S135), i ≤ s.size → s.size ≤ i + f → L.length ≤ i →
    ∃ M, Ev (fun k => impl_read.l0 k s L (i : Int)) (L ++ M) ∧ (i < s.size → ∃ y M', M = y :: M' ∧ y.f2 = ((i + (dec s i).2 : Nat) : Int)) := by
  intro f
  induction f with
  | zero =>
    intro i L h1 h2 h3
    refine ⟨[], Ev.succ (Ev.congr (fun k => ?_) (Ev.now _)), fun h => by omega⟩
    rw [impl_read.l0, if_neg (by omega), List.append_nil]
  | succ f ih =>
    intro i L h1 h2 h3
    by_cases h : i < s.size
    · have hd := dec_size s i h
      have e1 : Lib.decodeGo (s.extract (i : Int).toNat s.size) = dec s i := by rw [Int.toNat_natCast]; exact dec_tail s i h
      have e2 : wrap64 ((i : Int) + ((dec s i).2 : Int)) = ((i + (dec s i).2 : Nat) : Int) := by rw [w64 (by omega) (by omega)]; omega
      have go : ∀ y : S135, y.f2 = ((i + (dec s i).2 : Nat) : Int) → ∃ M, Ev (fun k => impl_read.l0 k s (L ++ [y]) ((i + (dec s i).2 : Nat) : Int)) (L ++ M) ∧ (i < s.size → ∃ y M', M = y :: M' ∧ y.f2 = ((i + (dec s i).2 : Nat) : Int)) := by
        intro y hy
        obtain ⟨M, hM, _⟩ := ih (i + (dec s i).2) (L ++ [y]) (by omega) (by omega) (by simp; omega)
        exact ⟨y :: M, by rw [List.append_assoc] at hM; exact hM, fun _ => ⟨y, M, rfl, hy⟩⟩
      have hL : L.length < 4398046511104 := by omega
      by_cases h5 : ((dec s i).1 : Int) = 65533
      · obtain ⟨M, hM, hh⟩ := go ⟨wrap64 ((dec s i).1 : Int), (i : Int), wrap64 ((i : Int) + ((dec s i).2 : Int)), (((dec s i).2 : Int) == 1)⟩ e2
        refine ⟨M, Ev.succ (Ev.congr (fun k => ?_) hM), hh⟩
        rw [impl_read.l0, if_pos (by omega), if_pos (by omega), if_pos (by omega)]
        simp only [utf8_DecodeRuneInString.f, Option.bind_some, e1]
        rw [if_pos h5, if_pos hL, e2]
      · obtain ⟨M, hM, hh⟩ := go ⟨wrap64 ((dec s i).1 : Int), (i : Int), wrap64 ((i : Int) + ((dec s i).2 : Int)), false⟩ e2
        refine ⟨M, Ev.succ (Ev.congr (fun k => ?_) hM), hh⟩
        rw [impl_read.l0, if_pos (by omega), if_pos (by omega), if_pos (by omega)]
        simp only [utf8_DecodeRuneInString.f, Option.bind_some, e1]
        rw [if_neg h5, if_pos hL, e2]
    · refine ⟨[], Ev.succ (Ev.congr (fun k => ?_) (Ev.now _)), fun h' => absurd h' h⟩
      rw [impl_read.l0, if_neg (by omega), List.append_nil]
theorem read_head (s : ByteArray) (i j : Nat) (hs : s.size ≤ 1099511627776) (h : i < s.size) (hj : j = min s.size (i + 4)) :
    ∃ y M, Ev (fun k => impl_read.f k (s.extract i j)) (y :: M) ∧ y.f2 = ((dec s i).2 : Int) := by
  have hz : (s.extract i j).size = j - i := by rw [ByteArray.size_extract]; omega
  obtain ⟨M, hM, hh⟩ := read_ev (s.extract i j) (by omega) (s.extract i j).size 0 [] (by omega) (by omega) (by simp)
  obtain ⟨y, M', rfl, hy⟩ := hh (by omega)
  rw [dec_window s i j h hj, Nat.zero_add] at hy
  exact ⟨y, M', hM, hy⟩
def cutL : Nat → ByteArray → Nat → Nat → Nat → Nat
  | 0, _, _, at_, _ => at_
  | f + 1, s, most, at_, i => if i ≤ most then cutL f s most i (i + (dec s i).2) else at_
def cut (s : ByteArray) : Nat := cutL (s.size + 2) s ((s.size + 1) / 2) 0 0
theorem most_eq (s : ByteArray) (hs : s.size ≤ 1099511627776) : wrap64 (Int.tdiv (wrap64 ((s.size : Int) + 1)) 2) = (((s.size + 1) / 2 : Nat) : Int) := by
  rw [w64 (x := (s.size : Int) + 1) (by omega) (by omega), Int.tdiv_eq_ediv_of_nonneg (by omega), w64 (by omega) (by omega)]
  omega
theorem spec_cut (s : ByteArray) (hs : s.size ≤ 1099511627776) (h64 : 64 < s.size) : Ev (fun k => spec_l20Cut.f k s) ((cut s : Nat) : Int) := by
  have key : ∀ (f i a : Nat), (s.size + 1) / 2 < i + f → i ≤ s.size + 4 → Ev (fun k => spec_l20Cut.l0 k s (((s.size + 1) / 2 : Nat) : Int) (a : Int) (i : Int)) ((cutL f s ((s.size + 1) / 2) a i : Nat) : Int) := by
    intro f
    induction f with
    | zero =>
      intro i a h1 h2
      refine Ev.succ (Ev.congr (fun k => ?_) (Ev.now _))
      rw [spec_l20Cut.l0]
      by_cases h3 : (i : Int) < s.size
      · rw [if_pos h3, if_neg (by omega)]; rfl
      · rw [if_neg h3]; rfl
    | succ f ih =>
      intro i a h1 h2
      rw [cutL]
      by_cases h3 : i ≤ (s.size + 1) / 2
      · rw [if_pos h3]
        have hi : i < s.size := by omega
        have hd := dec_size s i hi
        have e2 : wrap64 ((i : Int) + ((dec s i).2 : Int)) = ((i + (dec s i).2 : Nat) : Int) := by rw [w64 (by omega) (by omega)]; omega
        obtain ⟨K, hK⟩ := ih (i + (dec s i).2) i (by omega) (by omega)
        refine ⟨K + 11, fun k hk => ?_⟩
        obtain ⟨m, rfl⟩ : ∃ m, k = (m + 10) + 1 := ⟨k - 11, by omega⟩
        simp only []
        rw [spec_l20Cut.l0, if_pos (by omega), if_pos (by omega), next_eq s i hs hi, Option.bind_some]
        simp only [nextV]
        rw [e2]
        exact hK _ (by omega)
      · rw [if_neg h3]
        refine Ev.succ (Ev.congr (fun k => ?_) (Ev.now _))
        rw [spec_l20Cut.l0]
        by_cases h3 : (i : Int) < s.size
        · rw [if_pos h3, if_neg (by omega)]
        · rw [if_neg h3]
  have := key (s.size + 2) 0 0 (by omega) (by omega)
  refine Ev.congr (fun k => ?_) this
  simp only [spec_l20Cut.f, most_eq s hs]
  rfl
def treeRest (k : Nat) (x0 : List S30) (x1 : ByteArray) (x5 x6 x7 : Int) : Option (List S30) := if x0.length < 2932031007402 then (if 0 ≤ x7 then (if x7 ≤ (x1.size : Int) then ((impl_ropeTree.f k (x0 ++ [(⟨(⟨#[]⟩ : ByteArray), wrap64 ((x0.length : Int) + 1), 0, x5, x6⟩ : S30)]) (x1.extract 0 (x7 : Int).toNat)).bind fun t120 => (if 0 ≤ (x0.length : Int) then (if (x0.length : Int) < (t120.length : Int) then ((impl_ropeTree.f k (t120.set ((x0.length : Int) : Int).toNat (⟨(rd_T30 t120 (x0.length : Int)).f0, (rd_T30 t120 (x0.length : Int)).f1, (t120.length : Int), (rd_T30 t120 (x0.length : Int)).f3, (rd_T30 t120 (x0.length : Int)).f4⟩ : S30)) (x1.extract (x7 : Int).toNat x1.size)).bind fun t124 => (some t124)) else (none)) else (none))) else (none)) else (none)) else (none)
theorem tree_cut (x0 : List S30) (s : ByteArray) (x5 x6 : Int) (r : List S30) (hs : s.size ≤ 1099511627776) (h64 : 64 < s.size) : ∀ (f i a : Nat), (s.size + 1) / 2 < i + f →
    Ev (fun k => treeRest k x0 s x5 x6 ((cutL f s ((s.size + 1) / 2) a i : Nat) : Int)) r → Ev (fun k => impl_ropeTree.l0 k x0 s x5 x6 (a : Int) (i : Int)) r := by
  intro f
  induction f with
  | zero =>
    intro i a h1 hr
    refine Ev.succ (Ev.congr (fun k => ?_) hr)
    rw [impl_ropeTree.l0, most_eq s hs, if_neg (by omega)]
    rfl
  | succ f ih =>
    intro i a h1 hr
    rw [cutL] at hr
    by_cases h3 : i ≤ (s.size + 1) / 2
    · rw [if_pos h3] at hr
      have hi : i < s.size := by omega
      have hd := dec_size s i hi
      have e2 : wrap64 ((i : Int) + ((dec s i).2 : Int)) = ((i + (dec s i).2 : Nat) : Int) := by rw [w64 (by omega) (by omega)]; omega
      have e3 : mn (s.size : Int) (wrap64 ((i : Int) + 4)) = ((min s.size (i + 4) : Nat) : Int) := by
        rw [w64 (by omega) (by omega)]; unfold mn; split <;> omega
      obtain ⟨y, M, hM, hy⟩ := read_head s i (min s.size (i + 4)) hs hi rfl
      refine Ev.succ (Ev.congr (fun k => ?_) (Ev.bind (f := fun k t113 => if 0 < (t113.length : Int) then (impl_ropeTree.l0 k x0 s x5 x6 (i : Int) (wrap64 ((i : Int) + ((rd_T135 t113 0).f2)))) else (none)) hM (Ev.congr (fun k => ?_) (ih (i + (dec s i).2) i (by omega) hr))))
      · rw [impl_ropeTree.l0, most_eq s hs, if_pos (by omega), if_pos (by omega), e3, if_pos (by omega), if_pos (by omega), Int.toNat_natCast, Int.toNat_natCast]
      · simp only [List.length_cons]
        rw [if_pos (by omega)]
        have : (rd_T135 (y :: M) 0).f2 = ((dec s i).2 : Int) := by simp only [rd_T135]; exact hy
        rw [this, e2]
    · rw [if_neg h3] at hr
      refine Ev.succ (Ev.congr (fun k => ?_) hr)
      rw [impl_ropeTree.l0, most_eq s hs, if_neg (by omega)]
      rfl
theorem cutL_le (s : ByteArray) (most : Nat) : ∀ (f a i : Nat), a ≤ most → cutL f s most a i ≤ most
  | 0, _, _, h => h
  | f + 1, a, i, h => by
    rw [cutL]
    split
    · rename_i h2; exact cutL_le s most f i _ h2
    · exact h
theorem cutL_ge (s : ByteArray) (most : Nat) : ∀ (f a i : Nat), a ≤ i → a ≤ cutL f s most a i
  | 0, _, _, h => Nat.le_refl _
  | f + 1, a, i, h => by
    rw [cutL]
    split
    · exact Nat.le_trans h (cutL_ge s most f i _ (by omega))
    · exact Nat.le_refl _
theorem cut_pos (s : ByteArray) (h64 : 64 < s.size) : 1 ≤ cut s ∧ cut s < s.size := by
  have hd := dec_size s 0 (by omega)
  refine ⟨?_, ?_⟩
  · unfold cut
    rw [cutL, if_pos (by omega), cutL, if_pos (by omega)]
    refine Nat.le_trans ?_ (cutL_ge s _ _ _ _ (by omega))
    omega
  · have := cutL_le s ((s.size + 1) / 2) (s.size + 2) 0 0 (by omega)
    unfold cut
    omega
def ends (s : ByteArray) : Nat := Lib.countByte s.data.toList 10
theorem count_ends (s : ByteArray) : strings_Count.f s (⟨#[10]⟩ : ByteArray) = some ((ends s : Nat) : Int) := rfl
theorem gb_drop (s : ByteArray) (i : Nat) (h : i < s.size) : s.data.toList.drop i = UInt8.ofNat (gb s i) :: s.data.toList.drop (i + 1) := by
  have h2 : i < s.data.toList.length := by simpa using h
  rw [List.drop_eq_getElem_cons h2]
  congr 1
  unfold gb
  rw [get!_eq s i h]
  simp
  rfl
theorem spec_ends (s : ByteArray) (hs : s.size ≤ 1099511627776) : Ev (fun k => spec_l20Ends.f k s) ((ends s : Nat) : Int) := by
  have key : ∀ (f i a : Nat), i + f = s.size → a ≤ i → Ev (fun k => spec_l20Ends.l0 k s (a : Int) (i : Int)) ((a + Lib.countByte (s.data.toList.drop i) 10 : Nat) : Int) := by
    intro f
    induction f with
    | zero =>
      intro i a h1 h2
      refine Ev.succ (Ev.congr (fun k => ?_) (Ev.now _))
      have hz : s.data.toList.length = s.size := by simp
      rw [spec_l20Ends.l0, if_neg (by omega), List.drop_of_length_le (by omega)]
      simp [Lib.countByte]
    | succ f ih =>
      intro i a h1 h2
      have hi : i < s.size := by omega
      have e1 : wrap64 ((i : Int) + 1) = ((i + 1 : Nat) : Int) := by rw [w64 (by omega) (by omega)]; omega
      have e2 : wrap64 ((a : Int) + 1) = ((a + 1 : Nat) : Int) := by rw [w64 (by omega) (by omega)]; omega
      have hl := gb_lt s i
      rw [gb_drop s i hi]
      by_cases h3 : gb s i = 10
      · have : a + Lib.countByte (UInt8.ofNat (gb s i) :: s.data.toList.drop (i + 1)) 10 = (a + 1) + Lib.countByte (s.data.toList.drop (i + 1)) 10 := by
          rw [h3]; simp only [Lib.countByte]; rw [show (UInt8.ofNat 10) = 10 from rfl, List.count_cons_self]; omega
        rw [this]
        refine Ev.succ (Ev.congr (fun k => ?_) (ih (i + 1) (a + 1) (by omega) (by omega)))
        rw [spec_l20Ends.l0, if_pos (by omega), if_pos (by omega), bt_gb s i hi, if_pos (by omega), e1, e2]
      · have : a + Lib.countByte (UInt8.ofNat (gb s i) :: s.data.toList.drop (i + 1)) 10 = a + Lib.countByte (s.data.toList.drop (i + 1)) 10 := by
          simp only [Lib.countByte]
          rw [List.count_cons_of_ne]
          intro h4
          have h5 := congrArg UInt8.toNat h4
          rw [UInt8.toNat_ofNat_of_lt' hl] at h5
          exact h3 h5
        rw [this]
        refine Ev.succ (Ev.congr (fun k => ?_) (ih (i + 1) a (by omega) (by omega)))
        rw [spec_l20Ends.l0, if_pos (by omega), if_pos (by omega), bt_gb s i hi, if_neg (by omega), e1]
  have := key s.size 0 0 (by omega) (by omega)
  refine Ev.congr (fun k => rfl) (?_ : Ev (fun k => spec_l20Ends.l0 k s 0 0) _)
  simpa [ends] using this
theorem toList_nil (s : ByteArray) : s.toList = ([] : List UInt8) ↔ s.size = 0 := by
  rw [ByteArray.toList_eq, Array.toList_eq_nil_iff]
  exact ⟨fun h => by show s.data.size = 0; rw [h]; rfl, fun h => Array.eq_empty_of_size_eq_zero h⟩
def bld : Nat → Nat → ByteArray → List S30
  | 0, _, _ => []
  | f + 1, b, s => if s.size ≤ 64 then [⟨s, -1, -1, (s.size : Int), ((ends s : Nat) : Int)⟩] else
      (⟨⟨#[]⟩, ((b + 1 : Nat) : Int), ((b + 1 + (bld f (b + 1) (s.extract 0 (cut s))).length : Nat) : Int), (s.size : Int), ((ends s : Nat) : Int)⟩ : S30) :: (bld f (b + 1) (s.extract 0 (cut s)) ++ bld f (b + 1 + (bld f (b + 1) (s.extract 0 (cut s))).length) (s.extract (cut s) s.size))
theorem bld_len : ∀ (f b : Nat) (s : ByteArray), 0 < s.size → (bld f b s).length + 1 ≤ 2 * s.size
  | 0, b, s, h => by simp [bld]; omega
  | f + 1, b, s, h => by
    rw [bld]
    split
    · simp; omega
    · rename_i h64
      have hc := cut_pos s (by omega)
      have h1 := bld_len f (b + 1) (s.extract 0 (cut s)) (by rw [ByteArray.size_extract]; omega)
      have h2 := bld_len f (b + 1 + (bld f (b + 1) (s.extract 0 (cut s))).length) (s.extract (cut s) s.size) (by rw [ByteArray.size_extract]; omega)
      rw [ByteArray.size_extract] at h1 h2
      simp only [List.length_cons, List.length_append]
      omega
theorem rd_mid (out : List S30) (n : S30) (L : List S30) : rd_T30 (out ++ [n] ++ L) (out.length : Int) = n := by
  simp [rd_T30, List.getD_eq_getElem?_getD]
theorem set_mid (out : List S30) (n m : S30) (L : List S30) : (out ++ [n] ++ L).set ((out.length : Int)).toNat m = out ++ [m] ++ L := by
  rw [Int.toNat_natCast]
  simp
theorem impl_tree : ∀ (f : Nat) (s : ByteArray) (out : List S30), 0 < s.size → s.size ≤ f → s.size ≤ 1099511627776 → out.length + 2 * s.size < 2932031007402 → Ev (fun k => impl_ropeTree.f k out s) (out ++ bld f out.length s) := by
  intro f
  induction f with
  | zero => intro s out h1 h2; omega
  | succ f ih =>
    intro s out h1 h2 h3 h4
    by_cases h64 : s.size ≤ 64
    · refine Ev.succ (Ev.congr (fun k => ?_) (Ev.now _))
      rw [impl_ropeTree.f, count_ends, Option.bind_some, if_pos (by omega), if_pos (by omega), bld, if_pos h64]
    · have hc := cut_pos s (by omega)
      have z1 : (s.extract 0 (cut s)).size = cut s := by rw [ByteArray.size_extract]; omega
      have z2 : (s.extract (cut s) s.size).size = s.size - cut s := by rw [ByteArray.size_extract]; omega
      have l1 := bld_len f (out.length + 1) (s.extract 0 (cut s)) (by omega)
      have e1 : wrap64 ((out.length : Int) + 1) = ((out.length + 1 : Nat) : Int) := by rw [w64 (by omega) (by omega)]; omega
      have A := ih (s.extract 0 (cut s)) (out ++ [⟨⟨#[]⟩, ((out.length + 1 : Nat) : Int), 0, (s.size : Int), ((ends s : Nat) : Int)⟩]) (by omega) (by omega) (by omega) (by simp; omega)
      have el : (out ++ [(⟨⟨#[]⟩, ((out.length + 1 : Nat) : Int), 0, (s.size : Int), ((ends s : Nat) : Int)⟩ : S30)]).length = out.length + 1 := by simp
      rw [el] at A
      generalize hL : bld f (out.length + 1) (s.extract 0 (cut s)) = L at A l1
      have B := ih (s.extract (cut s) s.size) (out ++ [⟨⟨#[]⟩, ((out.length + 1 : Nat) : Int), ((out.length + 1 + L.length : Nat) : Int), (s.size : Int), ((ends s : Nat) : Int)⟩] ++ L) (by omega) (by omega) (by omega) (by simp; omega)
      have el2 : (out ++ [(⟨⟨#[]⟩, ((out.length + 1 : Nat) : Int), ((out.length + 1 + L.length : Nat) : Int), (s.size : Int), ((ends s : Nat) : Int)⟩ : S30)] ++ L).length = out.length + 1 + L.length := by simp; omega
      rw [el2] at B
      have hr : out ++ bld (f + 1) out.length s = (out ++ [⟨⟨#[]⟩, ((out.length + 1 : Nat) : Int), ((out.length + 1 + L.length : Nat) : Int), (s.size : Int), ((ends s : Nat) : Int)⟩] ++ L) ++ bld f (out.length + 1 + L.length) (s.extract (cut s) s.size) := by
        rw [bld, if_neg h64, hL]; simp
      rw [hr]
      refine Ev.succ (Ev.congr (fun k => ?_) (tree_cut out s (s.size : Int) ((ends s : Nat) : Int) _ h3 (by omega) (s.size + 2) 0 0 (by omega) ?_))
      · rw [impl_ropeTree.f, count_ends, Option.bind_some, if_neg (by omega)]; rfl
      · have ec : cutL (s.size + 2) s ((s.size + 1) / 2) 0 0 = cut s := rfl
        rw [ec]
        refine Ev.congr (fun k => ?_) (Ev.bind (f := fun k t120 => (if 0 ≤ (out.length : Int) then (if (out.length : Int) < (t120.length : Int) then ((impl_ropeTree.f k (t120.set ((out.length : Int) : Int).toNat (⟨(rd_T30 t120 (out.length : Int)).f0, (rd_T30 t120 (out.length : Int)).f1, (t120.length : Int), (rd_T30 t120 (out.length : Int)).f3, (rd_T30 t120 (out.length : Int)).f4⟩ : S30)) (s.extract (((cut s : Nat) : Int) : Int).toNat s.size)).bind fun t124 => (some t124)) else (none)) else (none))) A (Ev.congr (fun k => ?_) (Ev.bind (f := fun _ t => some t) B (Ev.now _))))
        · rw [treeRest, if_pos (by omega), if_pos (by omega), if_pos (by omega), e1, Int.toNat_natCast]
        · rw [if_pos (by omega), if_pos (by simp; omega), rd_mid, set_mid, Int.toNat_natCast]
          simp only [List.length_append, List.length_cons, List.length_nil, Nat.zero_add]
theorem spec_build : ∀ (f : Nat) (s : ByteArray) (out : List S30), 0 < s.size → s.size ≤ f → s.size ≤ 1099511627776 → out.length + 2 * s.size < 2932031007402 → Ev (fun k => spec_l20Build.f k out s) (out ++ bld f out.length s) := by
  intro f
  induction f with
  | zero => intro s out h1 h2; omega
  | succ f ih =>
    intro s out h1 h2 h3 h4
    have hne : ¬ s.toList = ([] : List UInt8) := by
      intro h
      have := (toList_nil s).1 h
      omega
    have hE := spec_ends s h3
    by_cases h64 : s.size ≤ 64
    · refine Ev.succ (Ev.congr (fun k => ?_) (Ev.bind (f := fun _ t176 => if (s.size : Int) ≤ 64 then (if out.length < 2932031007402 then (some (out ++ [(⟨s, (-1), (-1), (s.size : Int), t176⟩ : S30)])) else (none)) else none) hE (Ev.congr (fun k => ?_) (Ev.now _))))
      · rw [spec_l20Build.f, if_neg hne]
        simp only [show ((s.size : Int) ≤ 64) = True from eq_true (by omega), if_true]
      · rw [if_pos (by omega), if_pos (by omega), bld, if_pos h64]
    · have hc := cut_pos s (by omega)
      have z1 : (s.extract 0 (cut s)).size = cut s := by rw [ByteArray.size_extract]; omega
      have z2 : (s.extract (cut s) s.size).size = s.size - cut s := by rw [ByteArray.size_extract]; omega
      have l1 := bld_len f (out.length + 1) (s.extract 0 (cut s)) (by omega)
      have A := ih (s.extract 0 (cut s)) (out ++ [⟨⟨#[]⟩, ((out.length + 1 : Nat) : Int), -1, (s.size : Int), ((ends s : Nat) : Int)⟩]) (by omega) (by omega) (by omega) (by simp; omega)
      have el : (out ++ [(⟨⟨#[]⟩, ((out.length + 1 : Nat) : Int), -1, (s.size : Int), ((ends s : Nat) : Int)⟩ : S30)]).length = out.length + 1 := by simp
      rw [el] at A
      generalize hL : bld f (out.length + 1) (s.extract 0 (cut s)) = L at A l1
      have B := ih (s.extract (cut s) s.size) (out ++ [⟨⟨#[]⟩, ((out.length + 1 : Nat) : Int), ((out.length + 1 + L.length : Nat) : Int), (s.size : Int), ((ends s : Nat) : Int)⟩] ++ L) (by omega) (by omega) (by omega) (by simp; omega)
      have el2 : (out ++ [(⟨⟨#[]⟩, ((out.length + 1 : Nat) : Int), ((out.length + 1 + L.length : Nat) : Int), (s.size : Int), ((ends s : Nat) : Int)⟩ : S30)] ++ L).length = out.length + 1 + L.length := by simp; omega
      rw [el2] at B
      have hr : out ++ bld (f + 1) out.length s = (out ++ [⟨⟨#[]⟩, ((out.length + 1 : Nat) : Int), ((out.length + 1 + L.length : Nat) : Int), (s.size : Int), ((ends s : Nat) : Int)⟩] ++ L) ++ bld f (out.length + 1 + L.length) (s.extract (cut s) s.size) := by
        rw [bld, if_neg h64, hL]; simp
      rw [hr]
      have r0 : rd_T30 (out ++ [(⟨(⟨#[]⟩ : ByteArray), (-1), (-1), (s.size : Int), ((ends s : Nat) : Int)⟩ : S30)]) (out.length : Int) = ⟨(⟨#[]⟩ : ByteArray), (-1), (-1), (s.size : Int), ((ends s : Nat) : Int)⟩ := by
        have := rd_mid out (⟨(⟨#[]⟩ : ByteArray), (-1), (-1), (s.size : Int), ((ends s : Nat) : Int)⟩ : S30) []
        rwa [List.append_nil] at this
      have s0 : ∀ m : S30, (out ++ [(⟨(⟨#[]⟩ : ByteArray), (-1), (-1), (s.size : Int), ((ends s : Nat) : Int)⟩ : S30)]).set ((out.length : Int)).toNat m = out ++ [m] := by
        intro m
        have := set_mid out (⟨(⟨#[]⟩ : ByteArray), (-1), (-1), (s.size : Int), ((ends s : Nat) : Int)⟩ : S30) m []
        rwa [List.append_nil, List.append_nil] at this
      refine Ev.succ (Ev.congr (fun k => by rw [spec_l20Build.f, if_neg hne]) (Ev.bind hE (Ev.congr (fun k => by rw [if_neg (by omega)]) (Ev.bind (spec_cut s h3 (by omega)) (Ev.congr (fun k => by rw [if_pos (by omega), Option.bind_some, if_pos (by omega), if_pos (by simp; omega), if_pos (by omega), if_pos (by omega), r0, s0, Int.toNat_natCast]) (Ev.bind (a := out ++ [⟨⟨#[]⟩, ((out.length + 1 : Nat) : Int), -1, (s.size : Int), ((ends s : Nat) : Int)⟩] ++ L) (f := fun k t186 => (if (out.length : Int) < (t186.length : Int) then ((spec_l20Build.f k (t186.set ((out.length : Int) : Int).toNat (⟨(rd_T30 t186 (out.length : Int)).f0, (rd_T30 t186 (out.length : Int)).f1, (t186.length : Int), (rd_T30 t186 (out.length : Int)).f3, (rd_T30 t186 (out.length : Int)).f4⟩ : S30)) (s.extract (cut s) s.size)).bind fun t190 => (some t190)) else (none))) ?_ (Ev.congr (fun k => by rw [if_pos (by simp; omega), rd_mid, set_mid]) (Ev.bind ?_ (Ev.now _)))))))))
      · refine Ev.congr (fun k => ?_) A
        simp only [List.length_append, List.length_cons, List.length_nil, Nat.zero_add]
      · refine Ev.congr (fun k => ?_) B
        simp only [List.length_append, List.length_cons, List.length_nil, Nat.zero_add]
def textOf (l : List S30) : ByteArray := ⟨(ropeJoin l).toArray⟩
theorem textOf_size (l : List S30) : (textOf l).size = (ropeJoin l).length := by simp [textOf, ByteArray.size]
theorem impl_text (l : List S30) (m : List S56) (h : (ropeJoin l).length ≤ 140737488355328) : impl_ropeText.f l m = some (textOf l) := by
  unfold impl_ropeText.f
  rw [if_pos h]; rfl
def okAt (s : ByteArray) (i : Nat) : Bool := (decide (97 ≤ gb s i) && decide (gb s i ≤ 122)) || (decide (0 < i) && ((decide (48 ≤ gb s i) && decide (gb s i ≤ 57)) || decide (gb s i = 45)))
def okFrom : Nat → ByteArray → Nat → Bool
  | 0, _, _ => true
  | f + 1, s, i => okAt s i && okFrom f s (i + 1)
def nm (s : ByteArray) : Bool := (decide (1 ≤ s.size) && decide (s.size ≤ 20)) && okFrom s.size s 0
theorem impl_name (s : ByteArray) (hs : s.size ≤ 1099511627776) : Ev (fun k => impl_isName.f k s) (nm s) := by
  have key : ∀ (f i : Nat), i + f = s.size → Ev (fun k => impl_isName.l0 k s (s.size : Int) (i : Int)) (okFrom f s i && (decide (1 ≤ s.size) && decide (s.size ≤ 20))) := by
    intro f
    induction f with
    | zero =>
      intro i hi
      refine Ev.succ (Ev.congr (fun k => ?_) (Ev.now _))
      rw [impl_isName.l0, if_neg (by omega)]
      by_cases h1 : (s.size : Int) ≥ 1
      · rw [if_pos h1, okFrom, show decide (1 ≤ s.size) = true from decide_eq_true (by omega), Bool.true_and, Bool.true_and]
        congr 1
        rw [decide_eq_decide]; omega
      · rw [if_neg h1, okFrom, show decide (1 ≤ s.size) = false from decide_eq_false (by omega)]; simp
    | succ f ih =>
      intro i hi
      have hi' : i < s.size := by omega
      have e1 : wrap64 ((i : Int) + 1) = ((i + 1 : Nat) : Int) := by rw [w64 (by omega) (by omega)]; omega
      cases hok : okAt s i with
      | true =>
        rw [okFrom, hok, Bool.true_and]
        refine Ev.succ (Ev.congr (fun k => ?_) (ih (i + 1) (by omega)))
        rw [impl_isName.l0, if_pos (by omega), if_pos (by omega), if_pos (by omega), bt_gb s i hi', e1]
        simp only [okAt, Bool.or_eq_true, Bool.and_eq_true, decide_eq_true_eq] at hok
        repeat' split
        all_goals first | rfl | (exfalso; omega)
      | false =>
        rw [okFrom, hok, Bool.false_and, Bool.false_and]
        refine Ev.succ (Ev.congr (fun k => ?_) (Ev.now _))
        rw [impl_isName.l0, if_pos (by omega), if_pos (by omega), if_pos (by omega), bt_gb s i hi', e1]
        simp only [okAt, Bool.or_eq_false_iff, Bool.and_eq_false_iff, decide_eq_false_iff_not] at hok
        repeat' split
        all_goals first | rfl | (exfalso; omega)
  refine Ev.congr (fun k => rfl) (?_ : Ev (fun k => impl_isName.l0 k s (s.size : Int) 0) _)
  have := key s.size 0 (by omega)
  rw [nm, Bool.and_comm]
  exact this
def mkAt (l : List S56) (n : Int) (i : Nat) : Bool := nm (rd_T56 l (i : Int)).f0 && (decide (0 ≤ (rd_T56 l (i : Int)).f1) && (decide ((rd_T56 l (i : Int)).f1 ≤ n) && (decide (i = 0) || Op.bytesLess ((rd_T56 l ((i - 1 : Nat) : Int)).f0).toList ((rd_T56 l (i : Int)).f0).toList)))
def mkFrom : Nat → List S56 → Int → Nat → Bool
  | 0, _, _, _ => true
  | f + 1, l, n, i => mkAt l n i && mkFrom f l n (i + 1)
def mkOK (l : List S56) (n : Int) : Bool := mkFrom l.length l n 0 && decide (l.length ≤ 100)
theorem rd_mem56 (l : List S56) (i : Nat) (h : i < l.length) : rd_T56 l (i : Int) ∈ l := by
  simp [rd_T56, List.getD_eq_getElem?_getD, List.getElem?_eq_getElem h]
theorem impl_marks (l : List S56) (n : Int) (hl : l.length ≤ 1099511627776) (hs : ∀ y ∈ l, y.f0.size ≤ 1099511627776) : Ev (fun k => impl_marksRight.f k l n) (mkOK l n) := by
  have key : ∀ (f i : Nat), i + f = l.length → Ev (fun k => impl_marksRight.l0 k l n l (l.length : Int) (i : Int)) (mkFrom f l n i && decide (l.length ≤ 100)) := by
    intro f
    induction f with
    | zero =>
      intro i hi
      refine Ev.succ (Ev.congr (fun k => ?_) (Ev.now _))
      rw [impl_marksRight.l0, if_neg (by omega), mkFrom, Bool.true_and]
      congr 1
      rw [decide_eq_decide]; omega
    | succ f ih =>
      intro i hi
      have hi' : i < l.length := by omega
      have e1 : wrap64 ((i : Int) + 1) = ((i + 1 : Nat) : Int) := by rw [w64 (by omega) (by omega)]; omega
      have N := impl_name (rd_T56 l (i : Int)).f0 (hs _ (rd_mem56 l i hi'))
      refine Ev.succ (Ev.congr (fun k => by rw [impl_marksRight.l0, if_pos (by omega), if_pos (by omega), if_pos (by omega)]) (Ev.bind N ?_))
      rw [mkFrom, mkAt]
      cases hn : nm (rd_T56 l (i : Int)).f0 with
      | false => exact Ev.congr (fun k => by rw [if_neg (by simp)]; rfl) (Ev.now _)
      | true =>
        refine Ev.congr (fun k => by rw [if_pos rfl]) ?_
        by_cases h1 : (rd_T56 l (i : Int)).f1 < 0
        · rw [show decide (0 ≤ (rd_T56 l (i : Int)).f1) = false from decide_eq_false (by omega)]
          exact Ev.congr (fun k => by rw [if_pos h1]; rfl) (Ev.now _)
        · refine Ev.congr (fun k => by rw [if_neg h1]) ?_
          rw [show decide (0 ≤ (rd_T56 l (i : Int)).f1) = true from decide_eq_true (by omega)]
          by_cases h2 : (rd_T56 l (i : Int)).f1 > n
          · rw [show decide ((rd_T56 l (i : Int)).f1 ≤ n) = false from decide_eq_false (by omega)]
            exact Ev.congr (fun k => by rw [if_pos h2]; rfl) (Ev.now _)
          · refine Ev.congr (fun k => by rw [if_neg h2]) ?_
            rw [show decide ((rd_T56 l (i : Int)).f1 ≤ n) = true from decide_eq_true (by omega)]
            by_cases h3 : (i : Int) > 0
            · have e2 : wrap64 ((i : Int) - 1) = ((i - 1 : Nat) : Int) := by rw [w64 (by omega) (by omega)]; omega
              refine Ev.congr (fun k => by rw [if_pos h3, e2, if_pos (by omega), if_pos (by omega)]) ?_
              rw [show decide (i = 0) = false from decide_eq_false (by omega)]
              cases hb : Op.bytesLess ((rd_T56 l ((i - 1 : Nat) : Int)).f0).toList ((rd_T56 l (i : Int)).f0).toList with
              | false => exact Ev.congr (fun k => by rw [if_neg (by simp)]; rfl) (Ev.now _)
              | true =>
                refine Ev.congr (fun k => by rw [if_pos rfl, e1]) ?_
                have := ih (i + 1) (by omega)
                simpa using this
            · refine Ev.congr (fun k => by rw [if_neg h3, e1]) ?_
              rw [show decide (i = 0) = true from decide_eq_true (by omega)]
              have := ih (i + 1) (by omega)
              simpa using this
  have := key l.length 0 (by omega)
  exact Ev.congr (fun k => rfl) this
def neAt (x y : List S30) (i : Nat) : Bool := (!((((rd_T30 x (i : Int)).f0).toList) == (((rd_T30 y (i : Int)).f0).toList)) || (!(((rd_T30 x (i : Int)).f1) == ((rd_T30 y (i : Int)).f1)) || (!(((rd_T30 x (i : Int)).f2) == ((rd_T30 y (i : Int)).f2)) || (!(((rd_T30 x (i : Int)).f3) == ((rd_T30 y (i : Int)).f3)) || (!(((rd_T30 x (i : Int)).f4) == ((rd_T30 y (i : Int)).f4)))))))
def eqFrom : Nat → List S30 → List S30 → Nat → Bool
  | 0, _, _, _ => true
  | f + 1, x, y, i => !(neAt x y i) && eqFrom f x y (i + 1)
def eqAll (x y : List S30) : Bool := decide (x.length = y.length) && eqFrom x.length x y 0
theorem impl_nodes (x y : List S30) (hl : x.length ≤ 1099511627776) : Ev (fun k => impl_RopeNode.f k x y) (eqAll x y) := by
  unfold eqAll
  by_cases hxy : x.length = y.length
  · rw [show decide (x.length = y.length) = true from by simpa using hxy, Bool.true_and]
    refine Ev.congr (fun k => by rw [impl_RopeNode.f, if_pos (by omega)]) (?_ : Ev (fun k => impl_RopeNode.l0 k x y (x.length : Int) 0) _)
    have key : ∀ (f i : Nat), i + f = x.length → Ev (fun k => impl_RopeNode.l0 k x y (x.length : Int) (i : Int)) (eqFrom f x y i) := by
      intro f
      induction f with
      | zero =>
        intro i hi
        refine Ev.succ (Ev.congr (fun k => ?_) (Ev.now _))
        rw [impl_RopeNode.l0, if_neg (by omega)]; rfl
      | succ f ih =>
        intro i hi
        have e1 : wrap64 ((i : Int) + 1) = ((i + 1 : Nat) : Int) := by rw [w64 (by omega) (by omega)]; omega
        rw [eqFrom]
        cases hn : neAt x y i with
        | true =>
          refine Ev.succ (Ev.congr (fun k => ?_) (Ev.now _))
          rw [impl_RopeNode.l0, if_pos (by omega), if_pos (by omega), if_pos (by omega), if_pos (by omega), if_pos (by have := hn; unfold neAt at this; exact this)]; rfl
        | false =>
          refine Ev.succ (Ev.congr (fun k => ?_) (ih (i + 1) (by omega)))
          rw [impl_RopeNode.l0, if_pos (by omega), if_pos (by omega), if_pos (by omega), if_pos (by omega), if_neg (by have := hn; unfold neAt at this; rw [this]; simp), e1]
    exact key x.length 0 (by omega)
  · rw [show decide (x.length = y.length) = false from by simpa using hxy, Bool.false_and]
    exact Ev.congr (fun k => by rw [impl_RopeNode.f, if_neg (by omega)]) (Ev.now _)
def tree (s : ByteArray) : List S30 := if s.size = 0 then [] else bld s.size 0 s
def fault (l : List S30) (m : List S56) : Int := if 65536 < (textOf l).size then 1 else if mkOK m ((textOf l).size : Int) = true ∧ eqAll (tree (textOf l)) l = true then 0 else 1
structure Small (l : List S30) (m : List S56) : Prop where
  hl : l.length ≤ 1048576
  ht : (ropeJoin l).length ≤ 1048576
  hm : m.length ≤ 1048576
  hn : ∀ y ∈ m, y.f0.size ≤ 1048576
theorem tree_len (s : ByteArray) : (tree s).length ≤ 2 * s.size := by
  unfold tree
  split
  · simp
  · have := bld_len s.size 0 s (by omega)
    omega
theorem impl_of (s : ByteArray) (m : List S56) (hs : s.size ≤ 1048576) : Ev (fun k => impl_ropeOf.f k s m) (tree s, m) := by
  unfold tree
  by_cases h : s.size = 0
  · rw [if_pos h]
    exact Ev.congr (fun k => by rw [impl_ropeOf.f, if_pos ((toList_nil s).2 h)]) (Ev.now _)
  · rw [if_neg h]
    have := impl_tree s.size s [] (by omega) (by omega) (by omega) (by simp; omega)
    exact Ev.congr (fun k => by rw [impl_ropeOf.f, if_neg (fun e => h ((toList_nil s).1 e))]) (Ev.bind this (Ev.now _))
theorem spec_of (s : ByteArray) (hs : s.size ≤ 1048576) : Ev (fun k => spec_l20Build.f k [] s) (tree s) := by
  unfold tree
  by_cases h : s.size = 0
  · rw [if_pos h]
    exact Ev.succ (Ev.congr (fun k => by rw [spec_l20Build.f, if_pos ((toList_nil s).2 h)]) (Ev.now _))
  · rw [if_neg h]
    have := spec_build s.size s [] (by omega) (by omega) (by omega) (by simp; omega)
    exact this
theorem impl_fault (l : List S30) (m : List S56) (h : Small l m) : Ev (fun k => impl_RopeFault.f k l m) (fault l m) := by
  have hz := textOf_size l
  have h1 := h.ht
  have h2 := h.hm
  have hn := h.hn
  refine Ev.congr (fun k => by rw [impl_RopeFault.f, impl_text l m (by omega), Option.bind_some, impl_long.f, Option.bind_some]) ?_
  unfold fault
  by_cases hL : 65536 < (textOf l).size
  · rw [if_pos hL]
    exact Ev.congr (fun k => by rw [if_pos (by simp; omega)]) (Ev.now _)
  · rw [if_neg hL]
    refine Ev.congr (fun k => by rw [if_neg (by simp; omega)]) (Ev.bind (impl_marks m ((textOf l).size : Int) (by omega) (fun y hy => by have := hn y hy; omega)) ?_)
    cases hm : mkOK m ((textOf l).size : Int) with
    | false => exact Ev.congr (fun k => by rw [if_neg (by simp), if_neg (by simp)]) (Ev.now _)
    | true =>
      have ht := tree_len (textOf l)
      refine Ev.congr (fun k => by rw [if_pos rfl]) (Ev.bind (impl_of (textOf l) [] (by omega)) (Ev.bind (impl_nodes (tree (textOf l)) l (by omega)) ?_))
      cases he : eqAll (tree (textOf l)) l with
      | false => exact Ev.congr (fun k => by rw [if_neg (by simp), if_neg (by simp)]) (Ev.now _)
      | true => exact Ev.congr (fun k => by rw [if_pos rfl, if_pos ⟨rfl, rfl⟩]) (Ev.now _)
end Go.Proofs.YtmfnipkfpjpjeaaDoor.PR
end
section
namespace Go.Proofs.YtmfnipkfpjpjeaaDoor.PR
open Go.RowKit Go.Proofs.YtmfnipkfpjpjeaaDoorW.PrintWords Go.Proofs.YtmfnipkfpjpjeaaDoorW.PrintLast Go.Proofs.YtmfnipkfpjpjeaaDoorW.PrintMore
set_option linter.unusedVariables false
set_option linter.unusedSimpArgs false
def ropeText (l : List S30) (m : List S56) : ByteArray := if fault l m = 0 then textOf l else ⟨#[]⟩
theorem impl_ropeText_ev (l : List S30) (m : List S56) (h : Small l m) : Ev (fun k => impl_RopeText.f k l m) (ropeText l m) := by
  have h1 := h.ht
  refine Ev.congr (fun k => by rw [impl_RopeText.f]) (Ev.bind (impl_fault l m h) ?_)
  unfold ropeText
  by_cases hf : fault l m = 0
  · rw [if_pos hf]
    exact Ev.congr (fun k => by rw [if_pos hf, impl_text l m (by omega), Option.bind_some]) (Ev.now _)
  · rw [if_neg hf]
    exact Ev.congr (fun k => by rw [if_neg hf]) (Ev.now _)
end Go.Proofs.YtmfnipkfpjpjeaaDoor.PR
end
section
namespace Go.Proofs.YtmfnipkfpjpjeaaDoor.PR
open Go.RowKit Go.Proofs.YtmfnipkfpjpjeaaDoorW.PrintWords Go.Proofs.YtmfnipkfpjpjeaaDoorW.PrintLast Go.Proofs.YtmfnipkfpjpjeaaDoorW.PrintMore
set_option linter.unusedVariables false
set_option linter.unusedSimpArgs false
def lineAt (l : List S30) (m : List S56) (a : Int) : Int := if fault l m = 0 then (if a < 0 then -1 else if a > ((textOf l).size : Int) then -1 else ((ends ((textOf l).extract 0 a.toNat) : Nat) : Int)) else -1
theorem impl_line_ev (l : List S30) (m : List S56) (h : Small l m) (a : Int) : Ev (fun k => impl_LineAt.f k l m a) (lineAt l m a) := by
  have h1 := h.ht
  refine Ev.congr (fun k => by rw [impl_LineAt.f]) (Ev.bind (impl_fault l m h) ?_)
  unfold lineAt
  by_cases hf : fault l m = 0
  · rw [if_pos hf, if_pos hf]
    refine Ev.congr (fun k => by first | rw [if_pos hf, impl_text l m (by omega), Option.bind_some] | rw [impl_text l m (by omega), Option.bind_some]) ?_
    by_cases h2 : a < 0
    · rw [if_pos h2]
      exact Ev.congr (fun k => by rw [if_pos h2]) (Ev.now _)
    · rw [if_neg h2]
      by_cases h3 : a > ((textOf l).size : Int)
      · rw [if_pos h3]
        exact Ev.congr (fun k => by rw [if_neg h2, if_pos h3]) (Ev.now _)
      · rw [if_neg h3]
        exact Ev.congr (fun k => by rw [if_neg h2, if_neg h3, if_pos (by omega), if_pos (by omega), count_ends, Option.bind_some]) (Ev.now _)
  · exact Ev.congr (fun k => by rw [if_neg hf, if_neg hf]) (Ev.now _)
end Go.Proofs.YtmfnipkfpjpjeaaDoor.PR
end
section
namespace Go.Proofs.YtmfnipkfpjpjeaaDoor.PR
open Go.RowKit Go.Proofs.YtmfnipkfpjpjeaaDoorW.PrintWords Go.Proofs.YtmfnipkfpjpjeaaDoorW.PrintLast Go.Proofs.YtmfnipkfpjpjeaaDoorW.PrintMore
set_option linter.unusedVariables false
set_option linter.unusedSimpArgs false
def pieceOf (t : ByteArray) (a b : Int) : ByteArray := if a < 0 then ⟨#[]⟩ else if a > b then ⟨#[]⟩ else if b > (t.size : Int) then ⟨#[]⟩ else t.extract a.toNat b.toNat
theorem impl_piece_ev (l : List S30) (m : List S56) (h : Small l m) (a b : Int) : Ev (fun k => impl_Piece.f k l m a b) (pieceOf (ropeText l m) a b) := by
  refine Ev.congr (fun k => by rw [impl_Piece.f]) (Ev.bind (impl_ropeText_ev l m h) (Ev.congr (fun k => ?_) (Ev.now _)))
  unfold pieceOf
  repeat' split
  all_goals first | rfl | (exfalso; omega)
end Go.Proofs.YtmfnipkfpjpjeaaDoor.PR
end
section
namespace Go.Proofs.YtmfnipkfpjpjeaaDoor.PR
open Go.RowKit Go.Proofs.YtmfnipkfpjpjeaaDoorW.PrintWords Go.Proofs.YtmfnipkfpjpjeaaDoorW.PrintLast Go.Proofs.YtmfnipkfpjpjeaaDoorW.PrintMore
set_option linter.unusedVariables false
set_option linter.unusedSimpArgs false
def plc : Nat → ByteArray → Int → Nat → Int
  | 0, _, _, _ => -1
  | f + 1, s, x, i => if gb s i = 10 then (if wrap64 (x - 1) = 0 then ((i + 1 : Nat) : Int) else plc f s (wrap64 (x - 1)) (i + 1)) else plc f s x (i + 1)
theorem impl_plc (s : ByteArray) (hs : s.size ≤ 1099511627776) : ∀ (f i : Nat) (x : Int), i + f = s.size → Ev (fun k => impl_PlaceOfLine.l0 k x s (s.size : Int) (i : Int)) (plc f s x i) := by
  intro f
  induction f with
  | zero =>
    intro i x hi
    exact Ev.succ (Ev.congr (fun k => by rw [impl_PlaceOfLine.l0, if_neg (by omega)]; rfl) (Ev.now _))
  | succ f ih =>
    intro i x hi
    have e1 : wrap64 ((i : Int) + 1) = ((i + 1 : Nat) : Int) := by rw [w64 (by omega) (by omega)]; omega
    have e2 := bt_gb s i (by omega)
    rw [plc]
    by_cases h4 : gb s i = 10
    · rw [if_pos h4]
      by_cases h5 : wrap64 (x - 1) = 0
      · rw [if_pos h5]
        exact Ev.succ (Ev.congr (fun k => by rw [impl_PlaceOfLine.l0, if_pos (by omega), if_pos (by omega), if_pos (by omega), if_pos (by omega), if_pos h5, e1]) (Ev.now _))
      · rw [if_neg h5]
        exact Ev.succ (Ev.congr (fun k => by rw [impl_PlaceOfLine.l0, if_pos (by omega), if_pos (by omega), if_pos (by omega), if_pos (by omega), if_neg h5, e1]) (ih (i + 1) _ (by omega)))
    · rw [if_neg h4]
      exact Ev.succ (Ev.congr (fun k => by rw [impl_PlaceOfLine.l0, if_pos (by omega), if_pos (by omega), if_pos (by omega), if_neg (by omega), e1]) (ih (i + 1) _ (by omega)))
def placeOf (l : List S30) (m : List S56) (a : Int) : Int := if fault l m = 0 then (if a = 0 then 0 else plc (textOf l).size (textOf l) a 0) else -1
theorem impl_place_ev (l : List S30) (m : List S56) (h : Small l m) (a : Int) : Ev (fun k => impl_PlaceOfLine.f k l m a) (placeOf l m a) := by
  have h1 := h.ht
  have hz := textOf_size l
  refine Ev.congr (fun k => by rw [impl_PlaceOfLine.f]) (Ev.bind (impl_fault l m h) ?_)
  unfold placeOf
  by_cases hf : fault l m = 0
  · rw [if_pos hf]
    refine Ev.congr (fun k => by rw [if_pos hf, impl_text l m (by omega), Option.bind_some]) ?_
    by_cases h2 : a = 0
    · rw [if_pos h2]
      exact Ev.congr (fun k => by rw [if_pos h2]) (Ev.now _)
    · rw [if_neg h2]
      exact Ev.congr (fun k => by rw [if_neg h2]; rfl) (impl_plc (textOf l) (by omega) (textOf l).size 0 a (by omega))
  · rw [if_neg hf]
    exact Ev.congr (fun k => by rw [if_neg hf]) (Ev.now _)
end Go.Proofs.YtmfnipkfpjpjeaaDoor.PR
end
section
namespace Go.Proofs.YtmfnipkfpjpjeaaDoor.PR
open Go.RowKit Go.Proofs.YtmfnipkfpjpjeaaDoorW.PrintWords Go.Proofs.YtmfnipkfpjpjeaaDoorW.PrintLast Go.Proofs.YtmfnipkfpjpjeaaDoorW.PrintMore
set_option linter.unusedVariables false
set_option linter.unusedSimpArgs false
theorem u64_nonneg (x : Int) : 0 ≤ IntKind.u64.wrap x ∧ IntKind.u64.wrap x ≤ 18446744073709551615 := by
  simp [IntKind.wrap, IntKind.signed, IntKind.bits]; omega
theorem tmod_range (x a : Int) (hx : 0 ≤ x) (ha : 1 < a) : 0 ≤ Int.tmod x a ∧ Int.tmod x a < a := by
  rw [Int.tmod_eq_emod_of_nonneg hx]
  exact ⟨Int.emod_nonneg _ (by omega), Int.emod_lt_of_pos _ (by omega)⟩
theorem n_ok (s0 : List Int) (s1 s2 s3 a : Int) (h0 : 0 ≤ s1) (h1 : s1 ≤ (s0.length : Int)) (hl : s0.length ≤ 1048576) (ha : a ≤ 9223372036854775807) :
    ∃ r t1 t2, spec_l01Src_n.f s0 s1 s2 s3 a = some (r, t1, t2, s3) ∧ 0 ≤ t1 ∧ t1 ≤ (s0.length : Int) ∧ 0 ≤ r ∧ (1 < a → r < a) ∧ (a ≤ 1 → r = 0) := by
  unfold spec_l01Src_n.f
  by_cases h2 : a ≤ 1
  · exact ⟨0, s1, s2, by rw [if_pos h2], h0, h1, by omega, by omega, fun _ => rfl⟩
  · rw [if_neg h2, if_pos ha]
    by_cases h3 : s1 < (s0.length : Int)
    · rw [if_pos h3, if_pos h0]
      have hm := tmod_range (IntKind.u64.wrap (IntKind.u64.wrap (rd s0 s1) + mixN s2 / 1048576)) a (u64_nonneg _).1 (by omega)
      refine ⟨_, _, _, rfl, ?_, ?_, ?_, fun _ => ?_, fun h => absurd h h2⟩
      · rw [w64 (by omega) (by omega)]; omega
      · rw [w64 (by omega) (by omega)]; omega
      · rw [w64 (by omega) (by omega)]; exact hm.1
      · rw [w64 (by omega) (by omega)]; exact hm.2
    · rw [if_neg h3]
      have hm := tmod_range (IntKind.u64.wrap (mixN s2 / 1048576)) a (u64_nonneg _).1 (by omega)
      refine ⟨_, _, _, rfl, h0, h1, ?_, fun _ => ?_, fun h => absurd h h2⟩
      · rw [w64 (by omega) (by omega)]; exact hm.1
      · rw [w64 (by omega) (by omega)]; exact hm.2
theorem source_ok (l : List Int) (hl : l.length ≤ 1048576) : ∃ s2 s3, Ev (fun k => spec_l01Source.f k l) (l, 0, s2, s3) ∧ 0 ≤ s3 ∧ s3 ≤ 12 := by
  have e1 : wrap64 ((l.length : Int) / 20) = (l.length : Int) / 20 := w64 (by omega) (by omega)
  have fin : ∀ m : Int, ∃ s2 s3, (if (wrap64 ((l.length : Int) / 20)) > 12 then some (l, (0 : Int), m, (12 : Int)) else some (l, 0, m, wrap64 ((l.length : Int) / 20))) = some (l, 0, s2, s3) ∧ 0 ≤ s3 ∧ s3 ≤ 12 := by
    intro m
    rw [e1]
    by_cases h : (l.length : Int) / 20 > 12
    · exact ⟨m, 12, by rw [if_pos h], by omega, by omega⟩
    · exact ⟨m, _, by rw [if_neg h], by omega, by omega⟩
  have key : ∀ (f i : Nat) (m z : Int), 64 ≤ i + f → ∃ s2 s3, Ev (fun k => spec_l01Source.l0 k l (i : Int) l 0 m z) (l, 0, s2, s3) ∧ 0 ≤ s3 ∧ s3 ≤ 12 := by
    intro f
    induction f with
    | zero =>
      intro i m z hi
      obtain ⟨s2, s3, h, h1, h2⟩ := fin m
      refine ⟨s2, s3, Ev.succ (Ev.congr (fun k => ?_) (Ev.now _)), h1, h2⟩
      rw [spec_l01Source.l0, ← h]
      by_cases h3 : (i : Int) < (l.length : Int)
      · rw [if_pos h3, if_neg (by omega)]
      · rw [if_neg h3]
    | succ f ih =>
      intro i m z hi
      have e2 : wrap64 ((i : Int) + 1) = ((i + 1 : Nat) : Int) ∨ 64 ≤ i := by
        by_cases h : 64 ≤ i
        · exact .inr h
        · exact .inl (by rw [w64 (by omega) (by omega)]; omega)
      by_cases h3 : (i : Int) < (l.length : Int) ∧ (i : Int) < 64
      · obtain ⟨s2, s3, h, h1, h2⟩ := ih (i + 1) (IntKind.u64.wrap ((Go.bits .xor .u64 m (IntKind.u64.wrap (rd l (i : Int)))) * 1099511628211)) z (by omega)
        refine ⟨s2, s3, Ev.succ (Ev.congr (fun k => ?_) h), h1, h2⟩
        rw [spec_l01Source.l0, if_pos h3.1, if_pos h3.2, if_pos (by omega), e2.resolve_right (by omega)]
      · obtain ⟨s2, s3, h, h1, h2⟩ := fin m
        refine ⟨s2, s3, Ev.succ (Ev.congr (fun k => ?_) (Ev.now _)), h1, h2⟩
        rw [spec_l01Source.l0, ← h]
        by_cases h4 : (i : Int) < (l.length : Int)
        · rw [if_pos h4, if_neg (by omega)]
        · rw [if_neg h4]
  exact key 64 0 88172645463325252 0 (by omega)
theorem long_ok (s0 : List Int) (s1 s2 s3 n : Int) (t : ByteArray) (ht : 1 ≤ t.size) (ht2 : t.size ≤ 64) (hn : 0 ≤ n) (hn2 : n ≤ 1048576) : ∃ u, Ev (fun k => spec_l01Src_long.f k s0 s1 s2 s3 t n) (u, s1, s2, s3) ∧ (u.size : Int) = n := by
  have key : ∀ (f : Nat) (L : List Int), n ≤ (L.length : Int) + f → L.length ≤ 1048640 → ∃ u, Ev (fun k => spec_l01Src_long.l0 k t n L s0 s1 s2 s3) (u, s1, s2, s3) ∧ (u.size : Int) = n := by
    intro f
    induction f with
    | zero =>
      intro L hL hL2
      refine ⟨_, Ev.succ (Ev.congr (fun k => by rw [spec_l01Src_long.l0, if_neg (by omega), if_pos hn, if_pos (by omega)]) (Ev.now _)), ?_⟩
      rw [strOfNums_size, List.length_take]; omega
    | succ f ih =>
      intro L hL hL2
      by_cases h : (L.length : Int) < n
      · have hb := bytesOf_length t
        obtain ⟨u, hu, hz⟩ := ih (L ++ bytesOf t) (by rw [List.length_append, hb]; omega) (by rw [List.length_append, hb]; omega)
        exact ⟨u, Ev.succ (Ev.congr (fun k => by rw [spec_l01Src_long.l0, if_pos h, if_pos (by omega)]) hu), hz⟩
      · refine ⟨_, Ev.succ (Ev.congr (fun k => by rw [spec_l01Src_long.l0, if_neg h, if_pos hn, if_pos (by omega)]) (Ev.now _)), ?_⟩
        rw [strOfNums_size, List.length_take]; omega
  exact key n.toNat [] (by simp; omega) (by simp)
theorem pick_ok (s0 : List Int) (s1 s2 s3 : Int) (l : List ByteArray) (h0 : 0 ≤ s1) (h1 : s1 ≤ (s0.length : Int)) (hl : s0.length ≤ 1048576) (hn : 1 ≤ l.length) (hn2 : l.length ≤ 100) (hz : ∀ x ∈ l, x.size ≤ 64) :
    ∃ x t1 t2, spec_l01Src_pick.f s0 s1 s2 s3 l = some (x, t1, t2, s3) ∧ 0 ≤ t1 ∧ t1 ≤ (s0.length : Int) ∧ x.size ≤ 64 := by
  obtain ⟨r, t1, t2, h, a1, a2, a3, a4, a5⟩ := n_ok s0 s1 s2 s3 (l.length : Int) h0 h1 hl (by omega)
  have hr : r < (l.length : Int) := by
    by_cases h2 : (1 : Int) < (l.length : Int)
    · exact a4 h2
    · have := a5 (by omega); omega
  refine ⟨_, t1, t2, by rw [spec_l01Src_pick.f, h, Option.bind_some, if_pos a3, if_pos hr], a1, a2, ?_⟩
  have hi : r.toNat < l.length := by omega
  have : rdOf ByteArray.empty l r = l[r.toNat] := by simp [rdOf, List.getD_eq_getElem?_getD, List.getElem?_eq_getElem hi]
  show (rdOf ByteArray.empty l r).size ≤ 64
  rw [this]
  exact hz _ (List.getElem_mem hi)
theorem write_ev (p : Int) : Ev (fun k => spec_l01Write.f k p) (wr p) := Ev.succ (Ev.congr (fun k => write_eq k p) (Ev.now _))
theorem wr_le (p : Int) : (wr p).size ≤ 4 := by
  unfold wr
  split <;> rw [wr1_size] <;> (repeat' split) <;> omega
theorem ropeText_ok (s0 : List Int) (s1 s2 s3 : Int) (h0 : 0 ≤ s1) (h1 : s1 ≤ (s0.length : Int)) (hl : s0.length ≤ 1048576) (h3 : 0 ≤ s3) (h4 : s3 ≤ 12) :
    ∃ t q, Ev (fun k => spec_l01Src_ropeText.f k s0 s1 s2 s3) (t, q) ∧ t.size ≤ 1048576 := by
  have key : ∀ (f : Nat) (x : ByteArray) (t1 t2 : Int), f ≤ 64 → 0 ≤ t1 → t1 ≤ (s0.length : Int) → x.size + f * 64 ≤ 8192 → ∃ t q, Ev (fun k => spec_l01Src_ropeText.l0 k x (f : Int) s0 t1 t2 s3) (t, q) ∧ t.size ≤ 1048576 := by
    intro f
    induction f with
    | zero =>
      intro x t1 t2 hf a1 a2 hx
      obtain ⟨r, u1, u2, hn, b1, b2, b3, b4, b5⟩ := n_ok s0 t1 t2 s3 60 a1 a2 hl (by omega)
      have ho : spec_l01Src_one.f s0 t1 t2 s3 60 = some ((r == 0), u1, u2, s3) := by rw [spec_l01Src_one.f, hn, Option.bind_some]
      by_cases hr : r = 0
      · obtain ⟨r2, v1, v2, hn2, c1, c2, c3, c4, c5⟩ := n_ok s0 u1 u2 s3 5 b1 b2 hl (by omega)
        have hr2 := c4 (by omega)
        have ew : wrap64 (65533 + r2) = 65533 + r2 := w64 (by omega) (by omega)
        obtain ⟨u, hu, hz⟩ := long_ok s0 v1 v2 s3 (65533 + r2) (⟨#[97, 98, 99, 10]⟩ : ByteArray) (by decide) (by decide) (by omega) (by omega)
        refine ⟨u, (v1, v2, s3), Ev.succ (Ev.congr (fun k => ?_) (Ev.bind (f := fun _ bt597 => some (bt597.1, bt597.2.1, bt597.2.2.1, bt597.2.2.2)) hu (Ev.now _))), by omega⟩
        rw [spec_l01Src_ropeText.l0, if_neg (by omega), ho, Option.bind_some, if_pos (by simp [hr])]
        simp only [hn2, Option.bind_some, ew]
      · refine ⟨x, (u1, u2, s3), Ev.succ (Ev.congr (fun k => ?_) (Ev.now _)), by omega⟩
        rw [spec_l01Src_ropeText.l0, if_neg (by omega), ho, Option.bind_some, if_neg (by simp [hr])]
    | succ f ih =>
      intro x t1 t2 hf a1 a2 hx
      have z1 := wr_le 512
      have z2 := wr_le 24576
      have z3 := wr_le 24577
      have z4 := wr_le 65536
      have z5 : (wr 24576 ++ wr 24577).size = (wr 24576).size + (wr 24577).size := ByteArray.size_append
      obtain ⟨y, u1, u2, hp, b1, b2, b3⟩ := pick_ok s0 t1 t2 s3 [(⟨#[97, 98, 99, 100, 101, 102, 103, 104, 105, 106]⟩ : ByteArray), (⟨#[10]⟩ : ByteArray), (⟨#[120, 121]⟩ : ByteArray), wr 512, wr 24576 ++ wr 24577, (⟨#[255]⟩ : ByteArray), (⟨#[119, 111, 114, 100, 32]⟩ : ByteArray), (⟨#[10, 10]⟩ : ByteArray), wr 65536, (⟨#[48, 49, 50, 51, 52, 53, 54, 55, 56, 57, 48, 49, 50, 51, 52, 53, 54, 55, 56, 57, 48, 49, 50, 51, 52, 53, 54, 55, 56, 57, 48, 49, 50, 51, 52, 53, 54, 55, 56, 57]⟩ : ByteArray)] a1 a2 hl (by decide) (by decide) (by
        intro z hz
        simp only [List.mem_cons, List.mem_nil_iff, or_false] at hz
        rcases hz with rfl | rfl | rfl | rfl | rfl | rfl | rfl | rfl | rfl | rfl
        all_goals first | omega | decide)
      have hxy : (x ++ y).size = x.size + y.size := ByteArray.size_append
      obtain ⟨t, q, ht, hz⟩ := ih (x ++ y) u1 u2 (by omega) b1 b2 (by omega)
      have e1 : wrap64 (((f + 1 : Nat) : Int) - 1) = (f : Int) := by rw [w64 (by omega) (by omega)]; omega
      refine ⟨t, q, Ev.succ ?_, hz⟩
      refine Ev.congr (fun k => by rw [spec_l01Src_ropeText.l0, if_pos (by omega)]) ?_
      refine Ev.bind (write_ev 512) ?_
      refine Ev.bind (write_ev 24576) ?_
      refine Ev.bind (write_ev 24577) ?_
      refine Ev.congr (fun k => by rw [if_pos (by omega)]) ?_
      refine Ev.bind (write_ev 65536) ?_
      refine Ev.congr (fun k => ?_) ht
      rw [hp, Option.bind_some, e1]
      exact if_pos (show x.size + y.size ≤ 9223372036854775807 by omega)
  have ew : wrap64 (6 + s3) = 6 + s3 := w64 (by omega) (by omega)
  obtain ⟨r, u1, u2, hn, b1, b2, b3, b4, b5⟩ := n_ok s0 s1 s2 s3 (6 + s3) h0 h1 hl (by omega)
  have hr := b4 (by omega)
  obtain ⟨t, q, ht, hz⟩ := key r.toNat (⟨#[]⟩ : ByteArray) u1 u2 (by omega) b1 b2 (by simp [ByteArray.size]; omega)
  refine ⟨t, q, Ev.congr (fun k => ?_) ht, hz⟩
  rw [spec_l01Src_ropeText.f, ew, hn, Option.bind_some, show ((r.toNat : Nat) : Int) = r from by omega]
theorem draw_ok (l : List Int) (hl : l.length ≤ 1048576) : ∃ t, Ev (fun k => spec_DrawRopeOf.f k l) t ∧ t.size ≤ 1048576 := by
  obtain ⟨s2, s3, h, h1, h2⟩ := source_ok l hl
  obtain ⟨t, q, ht, hz⟩ := ropeText_ok l 0 s2 s3 (by omega) (by omega) hl h1 h2
  exact ⟨t, Ev.congr (fun k => by rw [spec_DrawRopeOf.f]) (Ev.bind h (Ev.bind (f := fun _ bt606 => some bt606.1) ht (Ev.now _))), hz⟩
theorem ext_list (s : ByteArray) (a b : Nat) (h : a ≤ b) (hb : b ≤ s.size) : (s.extract a b).data.toList = (s.data.toList.take b).drop a := by
  have : (s.extract a b).data = s.data.extract a b := ByteArray.data_extract
  rw [this, Array.toList_extract]
  simp [List.extract_eq_take_drop, List.drop_take]
theorem join_bld : ∀ (f b : Nat) (s : ByteArray), s.size ≤ f → 0 < s.size → ropeJoin (bld f b s) = s.data.toList
  | 0, b, s, h, h0 => by omega
  | f + 1, b, s, h, h0 => by
    rw [bld]
    by_cases h64 : s.size ≤ 64
    · rw [if_pos h64]; simp [ropeJoin]
    · rw [if_neg h64]
      have hc := cut_pos s (by omega)
      have z1 : (s.extract 0 (cut s)).size = cut s := by rw [ByteArray.size_extract]; omega
      have z2 : (s.extract (cut s) s.size).size = s.size - cut s := by rw [ByteArray.size_extract]; omega
      have A := join_bld f (b + 1) (s.extract 0 (cut s)) (by omega) (by omega)
      have B := join_bld f (b + 1 + (bld f (b + 1) (s.extract 0 (cut s))).length) (s.extract (cut s) s.size) (by omega) (by omega)
      rw [ext_list s 0 (cut s) (by omega) (by omega)] at A
      rw [ext_list s (cut s) s.size (by omega) (by omega)] at B
      have hl : s.data.toList.length = s.size := by simp
      rw [List.take_of_length_le (by omega)] at B
      simp only [ropeJoin, List.flatMap_cons, List.flatMap_append] at A B ⊢
      rw [A, B, List.drop_zero, List.take_append_drop]
      rfl
theorem text_tree (s : ByteArray) : textOf (tree s) = s := by
  have : ropeJoin (tree s) = s.data.toList := by
    unfold tree
    by_cases h : s.size = 0
    · rw [if_pos h]
      have : s.data.toList = [] := by
        have hl : s.data.toList.length = s.size := by simp
        exact List.length_eq_zero_iff.1 (by omega)
      rw [this]; rfl
    · rw [if_neg h]; exact join_bld s.size 0 s (by omega) (by omega)
  unfold textOf
  rw [this]
theorem eq_self (x : List S30) : eqAll x x = true := by
  have : ∀ (f i : Nat), eqFrom f x x i = true := by
    intro f
    induction f with
    | zero => intro i; rfl
    | succ f ih => intro i; rw [eqFrom, ih]; simp [neAt]
  simp [eqAll, this]
theorem tree_small (s : ByteArray) (h : s.size ≤ 65536) : Small (tree s) [] where
  hl := by have := tree_len s; omega
  ht := by have := textOf_size (tree s); rw [text_tree] at this; omega
  hm := by simp
  hn := by intro y hy; cases hy
theorem fault_tree (s : ByteArray) (h : s.size ≤ 65536) : fault (tree s) [] = 0 := by
  unfold fault
  rw [text_tree, if_neg (by omega), if_pos ⟨by simp [mkOK, mkFrom], eq_self _⟩]
def nl (s : ByteArray) (i : Nat) : Nat := (s.data.toList.take i).count 10
theorem ends_take (s : ByteArray) (a : Nat) (h : a ≤ s.size) : ends (s.extract 0 a) = nl s a := by
  unfold ends nl Lib.countByte
  rw [ext_list s 0 a (by omega) h, List.drop_zero]
theorem nl_succ (s : ByteArray) (i : Nat) (h : i < s.size) : nl s (i + 1) = nl s i + (if gb s i = 10 then 1 else 0) := by
  have hl : i < s.data.toList.length := by simpa using h
  unfold nl
  rw [List.take_succ_eq_append_getElem hl, List.count_append]
  congr 1
  have e : s.data.toList[i] = UInt8.ofNat (gb s i) := by
    have := gb_drop s i h
    rw [List.drop_eq_getElem_cons hl] at this
    exact (List.cons.inj this).1
  rw [e]
  have hg := gb_lt s i
  by_cases h1 : gb s i = 10
  · rw [if_pos h1, h1]; rfl
  · rw [if_neg h1]
    have : UInt8.ofNat (gb s i) ≠ 10 := by
      intro h4
      have h5 := congrArg UInt8.toNat h4
      rw [UInt8.toNat_ofNat_of_lt' hg] at h5
      exact h1 h5
    simp [this]
theorem plc_at (s : ByteArray) (hs : s.size ≤ 1048576) (a : Nat) (ha : a ≤ s.size) : ∀ (f i : Nat) (x : Nat), i + f = s.size → i ≤ a → 1 ≤ x → nl s a = nl s i + x → ∃ p : Nat, plc f s (x : Int) i = (p : Int) ∧ p ≤ a ∧ nl s p = nl s i + x := by
  intro f
  induction f with
  | zero =>
    intro i x hi hia hx hn
    have : a = i := by omega
    subst this
    omega
  | succ f ih =>
    intro i x hi hia hx hn
    have hia' : i < a := by
      rcases Nat.lt_or_ge i a with h | h
      · exact h
      · have : a = i := by omega
        subst this; omega
    have hxb : x ≤ 1048576 := by
      have : nl s a ≤ a := by unfold nl; exact Nat.le_trans List.count_le_length (by simp; omega)
      omega
    have e := nl_succ s i (by omega)
    have e1 : wrap64 ((x : Int) - 1) = ((x - 1 : Nat) : Int) := by rw [w64 (by omega) (by omega)]; omega
    rw [plc]
    by_cases h1 : gb s i = 10
    · rw [if_pos h1] at e
      rw [if_pos h1, e1]
      by_cases h2 : x = 1
      · subst h2
        refine ⟨i + 1, by rw [if_pos (by simp)], by omega, e⟩
      · rw [if_neg (by omega)]
        obtain ⟨p, hp, h3, h4⟩ := ih (i + 1) (x - 1) (by omega) (by omega) (by omega) (by omega)
        exact ⟨p, hp, h3, by omega⟩
    · rw [if_neg h1] at e
      rw [if_neg h1]
      obtain ⟨p, hp, h3, h4⟩ := ih (i + 1) x (by omega) (by omega) hx (by omega)
      exact ⟨p, hp, h3, by omega⟩
theorem line_tree (s : ByteArray) (h : s.size ≤ 65536) (a : Nat) (ha : a ≤ s.size) : lineAt (tree s) [] (a : Int) = ((nl s a : Nat) : Int) := by
  unfold lineAt
  rw [fault_tree s h, if_pos rfl, text_tree, if_neg (by omega), if_neg (by omega), Int.toNat_natCast, ends_take s a ha]
theorem place_tree (s : ByteArray) (h : s.size ≤ 65536) (a : Nat) (ha : a ≤ s.size) : ∃ p : Nat, placeOf (tree s) [] ((nl s a : Nat) : Int) = (p : Int) ∧ p ≤ a ∧ nl s p = nl s a := by
  unfold placeOf
  rw [fault_tree s h, if_pos rfl, text_tree]
  have h0 : nl s 0 = 0 := by simp [nl]
  by_cases h1 : nl s a = 0
  · exact ⟨0, by rw [h1]; rfl, by omega, by omega⟩
  · rw [if_neg (by omega)]
    obtain ⟨p, hp, h3, h4⟩ := plc_at s (by omega) a ha s.size 0 (nl s a) (by omega) (by omega) (by omega) (by omega)
    exact ⟨p, hp, h3, by omega⟩
theorem impl_RopeOf_ev (t : ByteArray) (h : t.size ≤ 1048576) : Ev (fun k => impl_RopeOf.f k t) (if t.size ≤ 65536 then tree t else [], []) := by
  by_cases h1 : t.size ≤ 65536
  · rw [if_pos h1]
    refine Ev.congr (fun k => by rw [impl_RopeOf.f, impl_long.f, Option.bind_some, if_neg (by simp; omega)]) ?_
    exact Ev.bind (impl_of t [] (by omega)) (Ev.now _)
  · rw [if_neg h1]
    exact Ev.congr (fun k => by rw [impl_RopeOf.f, impl_long.f, Option.bind_some, if_pos (by simp; omega)]) (Ev.now _)
theorem spec_RopeOf_ev (t : ByteArray) (h : t.size ≤ 1048576) : Ev (fun k => spec_RopeOf.f k t) (if t.size ≤ 65536 then tree t else [], []) := by
  by_cases h1 : t.size ≤ 65536
  · rw [if_pos h1]
    exact Ev.congr (fun k => by rw [spec_RopeOf.f, if_neg (by omega)]) (Ev.bind (spec_of t (by omega)) (Ev.now _))
  · rw [if_neg h1]
    exact Ev.congr (fun k => by rw [spec_RopeOf.f, if_pos (by omega)]) (Ev.now _)
theorem lw_ok (l : List Int) (i : Int) (hi : 0 ≤ i ∧ i ≤ 1) (hl : l.length ≤ 1048576) (hb : ∀ x ∈ l, 0 ≤ x ∧ x ≤ 255) : ∃ r : Nat, laws_lwAt.f l i 256 = some (r : Int) ∧ r < 256 := by
  unfold laws_lwAt.f
  rw [if_neg (by omega)]
  by_cases h0 : (l.length : Int) = 0
  · exact ⟨0, by rw [if_pos h0]; rfl, by omega⟩
  · rw [if_neg h0]
    have hm : 0 ≤ Int.tmod i (l.length : Int) ∧ Int.tmod i (l.length : Int) < (l.length : Int) := by
      rw [Int.tmod_eq_emod_of_nonneg hi.1]
      exact ⟨Int.emod_nonneg _ (by omega), Int.emod_lt_of_pos _ (by omega)⟩
    rw [if_pos hm.1, if_pos hm.2, if_neg (by omega)]
    have hx : 0 ≤ rd l (Int.tmod i (l.length : Int)) ∧ rd l (Int.tmod i (l.length : Int)) ≤ 255 := by
      have hlt : (Int.tmod i (l.length : Int)).toNat < l.length := by omega
      have : rd l (Int.tmod i (l.length : Int)) = l[(Int.tmod i (l.length : Int)).toNat] := by simp [rd, List.getD_eq_getElem?_getD, List.getElem?_eq_getElem hlt]
      rw [this]
      exact hb _ (List.getElem_mem hlt)
    refine ⟨(rd l (Int.tmod i (l.length : Int))).toNat, ?_, by omega⟩
    rw [w64 (by omega) (by omega), Int.tmod_eq_emod_of_nonneg hx.1, Int.emod_eq_of_lt hx.1 (by omega)]
    congr 1; omega
theorem rope_j4 (t : ByteArray) (ht : t.size ≤ 65536) (a b : Nat) (hab : a ≤ b) (hb : b ≤ t.size) : Ev (fun k => laws_FnRope.j4 k t (a : Int) (b : Int) (tree t) []) true := by
  have key : ∀ (f i : Nat), i + f = a → Ev (fun k => laws_FnRope.l1 k t (a : Int) (b : Int) ((nl t i : Nat) : Int) (i : Int) (tree t) []) true := by
    intro f
    induction f with
    | zero =>
      intro i hi
      have : i = a := by omega
      subst this
      have S := tree_small t ht
      have hA := line_tree t ht i (by omega)
      obtain ⟨p, hp, hpa, hpn⟩ := place_tree t ht i (by omega)
      have L := impl_line_ev (tree t) [] S (i : Int)
      rw [hA] at L
      have P := impl_place_ev (tree t) [] S ((nl t i : Nat) : Int)
      rw [hp] at P
      have F := impl_fault (tree t) [] S
      rw [fault_tree t ht] at F
      have T := impl_ropeText_ev (tree t) [] S
      have hT : ropeText (tree t) [] = t := by unfold ropeText; rw [fault_tree t ht, if_pos rfl, text_tree]
      rw [hT] at T
      have C := impl_piece_ev (tree t) [] S (i : Int) (b : Int)
      rw [hT] at C
      have hC : pieceOf t (i : Int) (b : Int) = t.extract i b := by
        unfold pieceOf
        rw [if_neg (by omega), if_neg (by omega), if_neg (by omega), Int.toNat_natCast, Int.toNat_natCast]
      rw [hC] at C
      have L2 := impl_line_ev (tree t) [] S (p : Int)
      rw [line_tree t ht p (by omega), hpn] at L2
      refine Ev.succ (Ev.congr (fun k => by rw [laws_FnRope.l1, if_neg (by omega)]) ?_)
      refine Ev.bind L ?_
      refine Ev.bind P ?_
      refine Ev.bind F ?_
      refine Ev.congr (fun k => by rw [if_pos rfl]) ?_
      refine Ev.bind T ?_
      refine Ev.congr (fun k => by rw [if_pos rfl]) ?_
      refine Ev.bind C ?_
      refine Ev.congr (fun k => by rw [if_pos (by omega), if_pos (by omega), if_pos (by omega), Int.toNat_natCast, Int.toNat_natCast, if_pos rfl, if_pos rfl, if_pos (by omega), if_pos (by omega)]) ?_
      refine Ev.bind L2 ?_
      exact Ev.congr (fun k => by simp) (Ev.now _)
    | succ f ih =>
      intro i hi
      have hi' : i < t.size := by omega
      have e := nl_succ t i hi'
      have hn : nl t i ≤ i := by unfold nl; exact Nat.le_trans List.count_le_length (by simp; omega)
      have e1 : wrap64 ((i : Int) + 1) = ((i + 1 : Nat) : Int) := by rw [w64 (by omega) (by omega)]; omega
      obtain ⟨q, hq⟩ : ∃ q, nl t i = q := ⟨_, rfl⟩
      rw [hq] at hn e ⊢
      have e2 : wrap64 ((q : Int) + 1) = ((q + 1 : Nat) : Int) := by rw [w64 (by omega) (by omega)]; omega
      have hg := bt_gb t i hi'
      have := ih (i + 1) (by omega)
      rw [e] at this
      by_cases h1 : gb t i = 10
      · rw [if_pos h1] at this
        refine Ev.succ (Ev.congr (fun k => ?_) this)
        rw [laws_FnRope.l1, if_pos (by omega), if_pos (by omega), if_pos (by omega), if_pos (by omega), e1, e2]
      · rw [if_neg h1] at this
        refine Ev.succ (Ev.congr (fun k => ?_) this)
        rw [laws_FnRope.l1, if_pos (by omega), if_pos (by omega), if_pos (by omega), if_neg (by omega), e1]
        rfl
  have h0 : nl t 0 = 0 := by simp [nl]
  have := key a 0 (by omega)
  rw [h0] at this
  exact Ev.succ (Ev.congr (fun k => by rw [laws_FnRope.j4]; rfl) this)
theorem FnRope_ev (l : List Int) (m : List Int) (hm : m.length ≤ 9223372036854775807) (hb : ∀ x ∈ m, 0 ≤ x ∧ x ≤ 255) : Ev (fun k => laws_FnRope.f k l m) true := by
  have no : Ev (fun k => laws_FnRope.j0 k l m true) true := Ev.succ (Ev.congr (fun k => by rw [laws_FnRope.j0, if_pos rfl]) (Ev.now _))
  by_cases h1 : (l.length : Int) > 1048576
  · exact Ev.congr (fun k => by rw [laws_FnRope.f, if_pos h1]) no
  · refine Ev.congr (fun k => by rw [laws_FnRope.f, if_neg h1]) ?_
    by_cases h2 : (m.length : Int) > 1048576
    · rw [show decide ((m.length : Int) > 1048576) = true from decide_eq_true h2]; exact no
    · rw [show decide ((m.length : Int) > 1048576) = false from decide_eq_false h2]
      obtain ⟨t, hd, hz⟩ := draw_ok l (by omega)
      refine Ev.succ (Ev.congr (fun k => by rw [laws_FnRope.j0, if_neg (by simp)]) ?_)
      refine Ev.bind hd ?_
      refine Ev.bind (impl_RopeOf_ev t hz) ?_
      refine Ev.bind (spec_RopeOf_ev t hz) ?_
      generalize hx : (if t.size ≤ 65536 then tree t else []) = x
      refine Ev.congr (fun k => by rw [if_pos rfl]) ?_
      refine Ev.succ (Ev.congr (fun k => by rw [laws_FnRope.j1, if_neg (by simp)]) ?_)
      have hxl : x.length ≤ 131072 := by
        rw [← hx]
        split
        · have := tree_len t; omega
        · simp
      have key : ∀ (f i : Nat), i + f = x.length → Ev (fun k => laws_FnRope.l0 k m t (i : Int) x [] x []) true := by
        intro f
        induction f with
        | zero =>
          intro i hi
          refine Ev.succ (Ev.congr (fun k => by rw [laws_FnRope.l0, if_neg (by omega)]) ?_)
          by_cases h3 : (t.size : Int) > 65536
          · refine Ev.congr (fun k => by rw [if_pos h3]) ?_
            have : x = [] := by rw [← hx, if_neg (by omega)]
            subst this
            exact Ev.now _
          · refine Ev.congr (fun k => by rw [if_neg h3]) ?_
            have hxt : x = tree t := by rw [← hx, if_pos (by omega)]
            subst hxt
            obtain ⟨a, ha, ha2⟩ := lw_ok m 0 (by omega) (by omega) hb
            obtain ⟨b, hb1, hb2⟩ := lw_ok m 1 (by omega) (by omega) hb
            have e1 : wrap64 ((a : Int) + (b : Int)) = ((a + b : Nat) : Int) := by rw [w64 (by omega) (by omega)]; omega
            refine Ev.congr (fun k => by rw [ha, Option.bind_some, hb1, Option.bind_some, e1]) ?_
            have fin : ∀ c : Nat, c ≤ t.size → Ev (fun k => laws_FnRope.j3 k t (a : Int) (c : Int) (tree t) []) true := by
              intro c hc
              by_cases h4 : (a : Int) > (c : Int)
              · exact Ev.succ (Ev.congr (fun k => by rw [laws_FnRope.j3, if_pos h4]) (rope_j4 t (by omega) c c (by omega) hc))
              · exact Ev.succ (Ev.congr (fun k => by rw [laws_FnRope.j3, if_neg h4]) (rope_j4 t (by omega) a c (by omega) hc))
            by_cases h5 : ((a + b : Nat) : Int) > (t.size : Int)
            · exact Ev.congr (fun k => by rw [if_pos h5]) (fin t.size (by omega))
            · exact Ev.congr (fun k => by rw [if_neg h5]) (fin (a + b) (by omega))
        | succ f ih =>
          intro i hi
          have e1 : wrap64 ((i : Int) + 1) = ((i + 1 : Nat) : Int) := by rw [w64 (by omega) (by omega)]; omega
          refine Ev.succ (Ev.congr (fun k => ?_) (ih (i + 1) (by omega)))
          rw [laws_FnRope.l0, if_pos (by omega), if_pos (by omega), if_pos (by omega), if_neg (by simp), e1]
      exact key x.length 0 (by omega)
theorem u8_range {a : Int} (w : (Lit.int .u8 a).wf = true) : 0 ≤ a ∧ a ≤ 255 := by
  simp only [Lit.wf, Bool.and_eq_true, decide_eq_true_eq] at w
  exact w
theorem Pure.FnRope (l : List Int) (hl : l.length ≤ maxLen) (hg : ∀ y ∈ l, (fun x : Int => (Lit.int .u8 x).wf = true) y) (m : List Int) (hm : m.length ≤ maxLen) (hg' : ∀ y ∈ m, (fun x : Int => (Lit.int .u8 x).wf = true) y) : ∃ k, laws_FnRope.f k l m = some true :=
  Ev.rounds (FnRope_ev l m hm (fun x hx => u8_range (hg' x hx)))
end Go.Proofs.YtmfnipkfpjpjeaaDoor.PR
end
