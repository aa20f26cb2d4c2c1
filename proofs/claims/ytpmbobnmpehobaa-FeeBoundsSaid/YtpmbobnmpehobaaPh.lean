/- The bound of some rounds, and the rounds with the greatest one, are as specified, for every box and every list of rounds. -/
import Derived.Test.YtpmbobnmpehobaaPg
import Derived.Test.YtpmbobnmpehobaaPe
set_option linter.unusedVariables false
set_option linter.unusedSimpArgs false
set_option linter.unusedSectionVars false
set_option maxRecDepth 10000
set_option maxHeartbeats 4000000
namespace Go.Eng
open Go Go.Proofs
abbrev lstO (l : List Int) : PV := .own 1 (l.map I)
theorem bits_bd {n s : Nat} : ∀ x ∈ bitsL n s, 0 ≤ x ∧ x ≤ (n : Int) - 1 := fun x hx => by
  simp only [bitsL, List.mem_map, List.mem_filter, List.mem_range] at hx
  obtain ⟨r, ⟨h, _⟩, rfl⟩ := hx
  simp only [Int.ofNat_eq_natCast]; omega
theorem bits_len {n s : Nat} : (bitsL n s).length ≤ n := by
  have := List.length_filter_le (fun r => Nat.beq ((s >>> r) % 2) 1) (List.range n)
  simpa [bitsL] using this
theorem bits_next {n s : Nat} : bitsL (n + 1) s = bitsL n s ++ (if Nat.beq ((s >>> n) % 2) 1 then [(n : Int)] else []) := by
  simp only [bitsL, List.range_succ, List.filter_append, List.map_append, List.filter_cons, List.filter_nil]
  split <;> rfl
theorem all_next {n : Nat} {L : List (List Int)} {s : Nat} (hL : L = (List.range s).map (bitsL n)) : L ++ [bitsL n s] = (List.range (s + 1)).map (bitsL n) := by
  rw [hL, List.range_succ, List.map_append]; rfl
def gotG (b : Dk) : List Int × Int := if boxErr b = 0 then goG (bndS b) (bitsAll b.rs.length) else ([], 0)
theorem go_memG {w : List Int → Int} (L : List (List Int)) : (goG w L).1 = [] ∨ (goG w L).1 ∈ L := by
  have key : ∀ (T L : List (List Int)) m, (m.1 = [] ∨ m.1 ∈ L) → ((T.foldl (bstG w) m).1 = [] ∨ (T.foldl (bstG w) m).1 ∈ L ++ T) := by
    intro T
    induction T with
    | nil => intro L m h; simpa using h
    | cons l T ih =>
      intro L m h
      have := ih (L ++ [l]) (bstG w m l) (by
        unfold bstG; split
        · exact .inr (by simp)
        · exact h.imp id fun h => List.mem_append_left _ h)
      rwa [List.append_assoc] at this
  have := key L [] ([], 0) (.inl rfl)
  rwa [List.nil_append] at this
theorem goG_next {w : List Int → Int} {L : List (List Int)} {l : List Int} : goG w (L ++ [l]) = bstG w (goG w L) l := by simp [goG]
theorem goR_next {w : List Int → Int} {L : List (List Int)} {l : List Int} : goR w (L ++ [l]) = bstR w (goR w L) l := by simp [goR]
theorem bstG_t {w : List Int → Int} {m : List Int × Int} {l : List Int} (h : w l > m.2 ∨ w l = m.2 ∧ (l.length < m.1.length ∨ l.length = m.1.length ∧ ltL l m.1 = true)) : bstG w m l = (l, w l) := by
  unfold bstG; rw [if_pos]; simpa using h
theorem bstG_f {w : List Int → Int} {m : List Int × Int} {l : List Int} (h : ¬ (w l > m.2 ∨ w l = m.2 ∧ (l.length < m.1.length ∨ l.length = m.1.length ∧ ltL l m.1 = true))) : bstG w m l = m := by
  unfold bstG; rw [if_neg]; simpa using h
theorem bstR_t {w : List Int → Int} {m : List Int × Int} {l : List Int} (h : w l > m.2 ∨ w l = m.2 ∧ l.length < m.1.length) : bstR w m l = (l, w l) := by
  unfold bstR; rw [if_pos]; simpa using h
theorem bstR_f {w : List Int → Int} {m : List Int × Int} {l : List Int} (h : ¬ (w l > m.2 ∨ w l = m.2 ∧ l.length < m.1.length)) : bstR w m l = m := by
  unfold bstR; rw [if_neg]; simpa using h
def bitB (s r : Nat) : Bool := decide (((BitVec.ofInt IntKind.i64.bits ((s : Int).fdiv (2 ^ min (r : Int).toNat IntKind.i64.bits)) &&& BitVec.ofInt IntKind.i64.bits 1).toNat : Int) = ((s >>> r % 2 : Nat) : Int))
theorem bitB_all : (List.range 128).all (fun s => (List.range 7).all fun r => bitB s r) = true := by kernel_rfl
theorem bit_and {s r : Nat} (hs : s < 128) (hr : r < 7) : ((BitVec.ofInt IntKind.i64.bits ((s : Int).fdiv (2 ^ min (r : Int).toNat IntKind.i64.bits)) &&& BitVec.ofInt IntKind.i64.bits 1).toNat : Int) = ((s >>> r % 2 : Nat) : Int) := by
  have h := bitB_all
  simp only [List.all_eq_true, List.mem_range] at h
  exact of_decide_eq_true (h s hs r hr)
theorem beq_t {s r : Nat} (h : s >>> r % 2 = 1) : Nat.beq ((s >>> r) % 2) 1 = true := by rw [h]; rfl
theorem beq_f {s r : Nat} (h : ¬ s >>> r % 2 = 1) : Nat.beq ((s >>> r) % 2) 1 = false := by
  cases e : Nat.beq ((s >>> r) % 2) 1 with
  | false => rfl
  | true => exact absurd (Nat.eq_of_beq_eq_true e) h
theorem subsF_len : ∀ {k f : Nat}, k ≤ 7 → (subsF k f).length ≤ 2 ^ k
  | 0, _, _ => by simp [subsF]
  | k + 1, f, h => by
    have := subsF_len (k := k) (f := f + 1) (by omega)
    simp only [subsF, List.length_cons, List.length_append, List.length_map, List.length_tail]
    obtain ⟨T, hT⟩ := subs_head (n := k) (f := f + 1)
    have h1 : 1 ≤ (subsF k (f + 1)).length := by rw [hT]; simp
    rw [Nat.pow_succ]; omega
theorem subsF_mem : ∀ {k f : Nat}, ∀ l ∈ subsF k f, l.length ≤ k
  | 0, _, l, h => by simp [subsF] at h; simp [h]
  | k + 1, f, l, h => by
    simp only [subsF, List.mem_cons, List.mem_append, List.mem_map] at h
    rcases h with rfl | ⟨q, h, rfl⟩ | h
    · simp
    · have := subsF_mem q h; simp; omega
    · have := subsF_mem l (List.mem_of_mem_tail h); omega
theorem subsP_len {k f j : Nat} (hk : k ≤ 7) (hj : j ≤ k) : (subsP k f j).length ≤ 128 := by
  have key : ∀ d, j + d ≤ k → (subsP k f j).length ≤ (subsP k f (j + d)).length := by
    intro d
    induction d with
    | zero => intro _; exact Nat.le_refl _
    | succ d ih =>
      intro h
      refine Nat.le_trans (ih (by omega)) ?_
      rw [← Nat.add_assoc, subs_next, List.length_append]; omega
  have h := key (k - j) (by omega)
  rw [show j + (k - j) = k by omega, subs_all] at h
  have h2 := subsF_len (k := k) (f := f) hk
  have h3 : 2 ^ k ≤ 2 ^ 7 := Nat.pow_le_pow_right (by omega) hk
  omega
theorem subsF_bd : ∀ {k f : Nat}, ∀ l ∈ subsF k f, ∀ x ∈ l, 0 ≤ x ∧ x ≤ ((f + k : Nat) : Int) - 1
  | 0, _, l, h => by simp [subsF] at h; simp [h]
  | k + 1, f, l, h => by
    simp only [subsF, List.mem_cons, List.mem_append, List.mem_map] at h
    rcases h with rfl | ⟨q, h, rfl⟩ | h
    · simp
    · intro x hx
      rcases List.mem_cons.1 hx with rfl | hx
      · omega
      · have := subsF_bd q h x hx; omega
    · intro x hx
      have := subsF_bd l (List.mem_of_mem_tail h) x hx; omega
section
variable [Yo]
theorem f71 (b : Dk) (hb : Small b) : FG 71 [boxV b] (.tup [lstO (gotG b).1, I (gotG b).2, I (boxErr b)]) := by
  by_cases h : boxErr b = 0
  · have hg := box_good h
    have hbl := hg.len
    refine gives_ofX Try.f71 ?_
    have hp7 : (2 : Nat) ^ b.rs.length ≤ 128 := Nat.pow_le_pow_right (n := 2) (by omega) hbl
    have hP1 : (1 : Int) * 2 ^ min (↑b.rs.length : Int).toNat IntKind.i64.bits = ((2 ^ b.rs.length : Nat) : Int) := by
      rw [Int.one_mul, show min (↑b.rs.length : Int).toNat IntKind.i64.bits = b.rs.length by simp [IntKind.bits]; omega]
      simp
    have hP2 : -9223372036854775808 ≤ (1 : Int) * 2 ^ min (↑b.rs.length : Int).toNat IntKind.i64.bits ∧ (1 : Int) * 2 ^ min (↑b.rs.length : Int).toNat IntKind.i64.bits < 9223372036854775808 := by
      rw [hP1]; generalize 2 ^ b.rs.length = N at *; omega
    refine V_seq (V_region (S_go 4 (S_end (V_seq (V_region (S_go 1 (S_a [(6, .ret (PV.tup [(deskV b (feesOf b)).ref, I 0]) ([]))] (ap (f101_1 (b) (by omega) (by omega)) an) (S_go 5 (S_end (V_seq (V_seq (V_region (S_go 2 (S_end (V_false (V_skip (V_seq (V_region (S_go 1 (S_end (V_seq (V_region (S_go 1 (S_end (V_seq (V_seq (V_region (S_go 2 (S_a [(0, .n (b.rs.length))] (ap ((by simp) : some (List.map rndV b.rs).length = some b.rs.length) an) (S_a [(1, .v (PV.int IntKind.i64 (↑(1 * 2 ^ min (↑b.rs.length : Int).toNat IntKind.i64.bits) : Int)))] (ap ((wrapE (by omega) (by assumption)) : PV.int IntKind.i64 (IntKind.i64.wrap (1 * 2 ^ min (↑b.rs.length : Int).toNat IntKind.i64.bits)) = PV.int IntKind.i64 (↑(1 * 2 ^ min (↑b.rs.length : Int).toNat IntKind.i64.bits) : Int)) an) (S_go 1 (S_end (V_block 0 ?_)))))))))))))))))))))))))))))))))
    clear hP2
    obtain ⟨N, hN⟩ : ∃ N, N = 2 ^ b.rs.length := ⟨_, rfl⟩
    rw [← hN] at hP1 hp7
    refine V_loopS (fun (s, m) => s ≤ N ∧ m = goG (bndS b) ((List.range s).map (bitsL b.rs.length))) (fun (s, m) => [(7, lstO m.1), (8, I m.2), (25, I (s : Nat))]) (fun (s, _) => N - s) ((0 : Nat), (([] : List Int), (0 : Int))) ⟨Nat.zero_le _, rfl⟩ fun (s, m) ⟨hs, hm⟩ => ?_
    by_cases hsl : s < N
    · have hml : m.1.length ≤ 7 := by
        rcases go_memG (w := bndS b) ((List.range s).map (bitsL b.rs.length)) with e | e
        · rw [hm, e]; simp
        · obtain ⟨q, _, e⟩ := List.mem_map.1 e
          rw [hm, ← e]; have := bits_len (n := b.rs.length) (s := q); omega
      refine V_seq (V_region (S_go 1 (S_end (V_seq (V_decT ((↑s : Int) < 1 * 2 ^ min (↑b.rs.length : Int).toNat IntKind.i64.bits) (by omega) (V_skip (V_seq (V_block 1 (V_seq (V_region (S_go 2 (S_end (V_seq (V_region (S_go 1 (S_end (V_seq (V_seq (V_region (S_go 2 (S_a [(0, .n (b.rs.length))] (ap ((by simp) : some (List.map rndV b.rs).length = some b.rs.length) an) (S_go 1 (S_end (V_block 2 ?_))))))))))))))))))))))))
      refine V_loopS (fun (r, l) => r ≤ b.rs.length ∧ l = bitsL r s) (fun (r, l) => [(10, lstO l), (31, I (r : Nat))]) (fun (r, _) => b.rs.length - r) ((0 : Nat), ([] : List Int)) ⟨Nat.zero_le _, rfl⟩ fun (r, l) ⟨hr, hl⟩ => ?_
      have hll : l.length ≤ r := by rw [hl]; exact bits_len
      by_cases hrl : r < b.rs.length
      · have hbit := bit_and (s := s) (r := r) (by omega) (by omega)
        refine V_seq (V_region (S_go 1 (S_end (V_seq (V_decT ((↑r : Int) < (↑b.rs.length : Int)) (by omega) (V_skip (V_seq (V_block 3 (V_seq (V_region (S_go 2 (S_end (V_seq (V_region (S_go 3 (S_a [(1, .v (PV.int IntKind.i64 (↑(BitVec.ofInt IntKind.i64.bits ((↑s : Int).fdiv (2 ^ min (↑r : Int).toNat IntKind.i64.bits)) &&& BitVec.ofInt IntKind.i64.bits 1).toNat : Int)))] (ap ((wrapE rfl (by omega)) : PV.int IntKind.i64 (IntKind.i64.wrap (↑(BitVec.ofInt IntKind.i64.bits ((↑s : Int).fdiv (2 ^ min (↑r : Int).toNat IntKind.i64.bits)) &&& BitVec.ofInt IntKind.i64.bits 1).toNat : Int)) = PV.int IntKind.i64 (↑(BitVec.ofInt IntKind.i64.bits ((↑s : Int).fdiv (2 ^ min (↑r : Int).toNat IntKind.i64.bits)) &&& BitVec.ofInt IntKind.i64.bits 1).toNat : Int)) an) (S_go 1 (S_end (V_dec ((↑(BitVec.ofInt IntKind.i64.bits ((↑s : Int).fdiv (2 ^ min (↑r : Int).toNat IntKind.i64.bits)) &&& BitVec.ofInt IntKind.i64.bits 1).toNat : Int) = 1) (fun k0 => (V_region (S_go 3 (S_a [(4, .ob), (0, .ob), (0, .ob), (2, .v (PV.own 1 (List.map I (l ++ [(↑r : Int)]))))] (ap ((by exact ble_of (by simp only [List.length_map, List.length_set, List.length_append, List.length_cons, List.length_nil, limit] <;> omega)) : (0 + (List.map I l).length).ble (List.map I l).length = true) (ap ((by exact ble_of (by simp only [List.length_map, List.length_set, List.length_append, List.length_cons, List.length_nil, limit] <;> omega)) : ((List.map I l).length + [PV.int IntKind.i64 (↑r : Int)].length).ble limit = true) (ap ((by exact beq_of (by simp <;> omega)) : (0 + (List.map I l).length).beq (List.map I l).length = true) (ap ((by simp) : PV.own 1 (List.map I l ++ [PV.int IntKind.i64 (↑r : Int)]) = PV.own 1 (List.map I (l ++ [(↑r : Int)]))) an)))) (S_go 1 (S_end (V_region (S_a [(1, .v (PV.int IntKind.i64 (↑(r + 1) : Int)))] (ap ((wrapE (by omega) (by omega)) : PV.int IntKind.i64 (IntKind.i64.wrap ((↑r : Int) + 1)) = PV.int IntKind.i64 (↑(r + 1) : Int)) an) (S_go 1 (S_end ?_)))))))))) (fun k0 => (V_skip (V_region (S_a [(1, .v (PV.int IntKind.i64 (↑(r + 1) : Int)))] (ap ((wrapE (by omega) (by omega)) : PV.int IntKind.i64 (IntKind.i64.wrap ((↑r : Int) + 1)) = PV.int IntKind.i64 (↑(r + 1) : Int)) an) (S_go 1 (S_end ?_)))))))))))))))))))))))))
        · exact ⟨(r + 1, l ++ [(r : Int)]), ⟨by omega, by rw [bits_next, beq_t (by omega), hl]; rfl⟩, by simp only; omega, by kernel_rfl, by kernel_rfl⟩
        · exact ⟨(r + 1, l), ⟨by omega, by rw [bits_next, beq_f (by omega), hl]; simp⟩, by simp only; omega, by kernel_rfl, by kernel_rfl⟩
      · obtain rfl : r = b.rs.length := by omega
        have hlb : ∀ x ∈ l, 0 ≤ x ∧ x ≤ (b.rs.length : Int) - 1 := by rw [hl]; exact bits_bd
        have hnx := goG_next (w := bndS b) (L := (List.range s).map (bitsL b.rs.length)) (l := l)
        have hax := all_next (n := b.rs.length) (L := (List.range s).map (bitsL b.rs.length)) (s := s) rfl
        rw [← hl] at hax
        rw [hax, ← hm] at hnx
        refine V_seq (V_region (S_go 1 (S_end (V_seq (V_decF ((↑b.rs.length : Int) < (↑b.rs.length : Int)) (by omega) (V_exit 2 (V_seq (V_region (S_go 2 (S_a [(4, .ob), (0, .v (PV.sl (List.map I l))), (2, .ret (I (bndS b l)) ([]))] (ap ((by exact ble_of (by simp only [List.length_map, List.length_set, List.length_append, List.length_cons, List.length_nil, limit] <;> omega)) : (0 + (List.map I l).length).ble (List.map I l).length = true) (ap ((sl_ext (freezes_all (freezes_mapH _))) : PV.sl (freezes (List.take (List.map I l).length (List.drop 0 (List.map I l)))) = PV.sl (List.map I l)) (ap (f119 (b) (l) (by omega) (by omega) (by omega)) an))) (S_go 1 (S_end (V_seq (V_region (S_go 4 (S_dec 50 (bndS b l > m.snd) (fun k0 => (S_go 24 (S_end (V_true (V_region (S_go 2 (S_a [(2, .yes)] (ap ((by exact beq_of (by simp <;> omega)) : (Nat.beq 0 0 && (List.map I l).length.beq (List.map I l).length) = true) an) (S_go 1 (S_end (V_region (S_a [(1, .v (PV.int IntKind.i64 (↑(s + 1) : Int)))] (ap ((wrapE (by omega) (by omega)) : PV.int IntKind.i64 (IntKind.i64.wrap ((↑s : Int) + 1)) = PV.int IntKind.i64 (↑(s + 1) : Int)) an) (S_go 1 (S_end ?_))))))))))))) (fun k0 => (S_go 4 (S_dec 54 (bndS b l = m.snd) (fun k1 => (S_go 1 (S_a [(0, .n (l.length))] (ap ((by simp) : some (List.map I l).length = some l.length) an) (S_go 1 (S_a [(0, .n (m.fst.length))] (ap ((by simp) : some (List.map I m.fst).length = some m.fst.length) an) (S_go 2 (S_dec 60 ((↑l.length : Int) < (↑m.fst.length : Int)) (fun k2 => (S_go 14 (S_end (V_true (V_region (S_go 2 (S_a [(2, .yes)] (ap ((by exact beq_of (by simp <;> omega)) : (Nat.beq 0 0 && (List.map I l).length.beq (List.map I l).length) = true) an) (S_go 1 (S_end (V_region (S_a [(1, .v (PV.int IntKind.i64 (↑(s + 1) : Int)))] (ap ((wrapE (by omega) (by omega)) : PV.int IntKind.i64 (IntKind.i64.wrap ((↑s : Int) + 1)) = PV.int IntKind.i64 (↑(s + 1) : Int)) an) (S_go 1 (S_end ?_))))))))))))) (fun k2 => (S_go 1 (S_a [(0, .n (l.length))] (ap ((by simp) : some (List.map I l).length = some l.length) an) (S_go 1 (S_a [(0, .n (m.fst.length))] (ap ((by simp) : some (List.map I m.fst).length = some m.fst.length) an) (S_go 2 (S_dec 66 ((↑l.length : Int) = (↑m.fst.length : Int)) (fun k3 => (S_go 2 (S_a [(3, .ob), (0, .v (PV.sl (List.map I l))), (1, .ob), (0, .v (PV.sl (List.map I m.fst))), (2, .ret (I (cmpL l m.fst)) ([]))] (ap ((by exact ble_of (by simp only [List.length_map, List.length_set, List.length_append, List.length_cons, List.length_nil, limit] <;> omega)) : (0 + (List.map I l).length).ble (List.map I l).length = true) (ap ((sl_ext (freezes_all (freezes_mapH _))) : PV.sl (freezes (List.take (List.map I l).length (List.drop 0 (List.map I l)))) = PV.sl (List.map I l)) (ap ((by exact ble_of (by simp only [List.length_map, List.length_set, List.length_append, List.length_cons, List.length_nil, limit] <;> omega)) : (0 + (List.map I m.fst).length).ble (List.map I m.fst).length = true) (ap ((sl_ext (freezes_all (freezes_mapH _))) : PV.sl (freezes (List.take (List.map I m.fst).length (List.drop 0 (List.map I m.fst)))) = PV.sl (List.map I m.fst)) (ap (f121 (l) (m.fst) (by omega) (by omega)) an))))) (S_go 5 (S_end (V_dec (cmpL l m.fst < 0) (fun k4 => (V_region (S_go 2 (S_a [(2, .yes)] (ap ((by exact beq_of (by simp <;> omega)) : (Nat.beq 0 0 && (List.map I l).length.beq (List.map I l).length) = true) an) (S_go 1 (S_end (V_region (S_a [(1, .v (PV.int IntKind.i64 (↑(s + 1) : Int)))] (ap ((wrapE (by omega) (by omega)) : PV.int IntKind.i64 (IntKind.i64.wrap ((↑s : Int) + 1)) = PV.int IntKind.i64 (↑(s + 1) : Int)) an) (S_go 1 (S_end ?_)))))))))) (fun k4 => (V_skip (V_region (S_a [(1, .v (PV.int IntKind.i64 (↑(s + 1) : Int)))] (ap ((wrapE (by omega) (by omega)) : PV.int IntKind.i64 (IntKind.i64.wrap ((↑s : Int) + 1)) = PV.int IntKind.i64 (↑(s + 1) : Int)) an) (S_go 1 (S_end ?_)))))))))))) (fun k3 => (S_go 8 (S_end (V_false (V_skip (V_region (S_a [(1, .v (PV.int IntKind.i64 (↑(s + 1) : Int)))] (ap ((wrapE (by omega) (by omega)) : PV.int IntKind.i64 (IntKind.i64.wrap ((↑s : Int) + 1)) = PV.int IntKind.i64 (↑(s + 1) : Int)) an) (S_go 1 (S_end ?_))))))))))))))))))))))) (fun k1 => (S_go 20 (S_end (V_false (V_skip (V_region (S_a [(1, .v (PV.int IntKind.i64 (↑(s + 1) : Int)))] (ap ((wrapE (by omega) (by omega)) : PV.int IntKind.i64 (IntKind.i64.wrap ((↑s : Int) + 1)) = PV.int IntKind.i64 (↑(s + 1) : Int)) an) (S_go 1 (S_end ?_))))))))))))))))))))))))))))
        · exact ⟨(s + 1, (l, bndS b l)), ⟨by omega, by rw [hnx, bstG_t (.inl k0)]⟩, by simp only; omega, by kernel_rfl, by kernel_rfl⟩
        · exact ⟨(s + 1, (l, bndS b l)), ⟨by omega, by rw [hnx, bstG_t (.inr ⟨k1, .inl (by omega)⟩)]⟩, by simp only; omega, by kernel_rfl, by kernel_rfl⟩
        · exact ⟨(s + 1, (l, bndS b l)), ⟨by omega, by rw [hnx, bstG_t (.inr ⟨k1, .inr ⟨by omega, cmpL_lt.1 k4⟩⟩)]⟩, by simp only; omega, by kernel_rfl, by kernel_rfl⟩
        · exact ⟨(s + 1, m), ⟨by omega, by rw [hnx, bstG_f (by rintro (h | ⟨h, h2 | ⟨h2, h3⟩⟩) <;> first | omega | exact k4 (cmpL_lt.2 h3))]⟩, by simp only; omega, by kernel_rfl, by kernel_rfl⟩
        · exact ⟨(s + 1, m), ⟨by omega, by rw [hnx, bstG_f (by rintro (h | ⟨h, h2 | ⟨h2, h3⟩⟩) <;> omega)]⟩, by simp only; omega, by kernel_rfl, by kernel_rfl⟩
        · exact ⟨(s + 1, m), ⟨by omega, by rw [hnx, bstG_f (by rintro (h | ⟨h, h2 | ⟨h2, h3⟩⟩) <;> omega)]⟩, by simp only; omega, by kernel_rfl, by kernel_rfl⟩
    · refine V_seq (V_region (S_go 1 (S_end (V_seq (V_decF ((↑s : Int) < 1 * 2 ^ min (↑b.rs.length : Int).toNat IntKind.i64.bits) (by omega) (V_exit 0 (V_seq (V_region (S_go 2 (S_a [(2, .yes)] (ap ((by exact beq_of (by simp <;> omega)) : (Nat.beq 0 0 && (List.map I m.fst).length.beq (List.map I m.fst).length) = true) an) (S_go 2 (S_end (V_ret (E_a [(1, .yes), (1, .v (PV.own 1 (List.map I m.fst)))] (ap ((by exact ble_of (by simp only [List.length_map, List.length_set, List.length_append, List.length_cons, List.length_nil, limit] <;> omega)) : (0 + (List.map I m.fst).length).ble (List.map I m.fst).length = true) (ap ((own_ext take_allL) : PV.own 1 (List.take (List.map I m.fst).length (List.drop 0 (List.map I m.fst))) = PV.own 1 (List.map I m.fst)) an)) (PV.tup [PV.own 1 (List.map I m.fst), PV.int IntKind.i64 m.snd, PV.int IntKind.i64 0]) ([]) ?_ rfl))))))))))))))
      have e : gotG b = m := by simp only [gotG, h, if_true]; rw [hm, show s = 2 ^ b.rs.length by omega]; rfl
      rw [e, h]
  · refine gives_ofX Try.f71 ?_
    have e : gotG b = ([], 0) := by simp only [gotG, h, if_false]
    rw [e]
    refine V_seq (V_region (S_go 4 (S_end (V_seq (V_region (S_go 1 (S_a [(6, .ret (PV.tup [PV.nilp, I (boxErr b)]) ([]))] (ap (f101_2 (b) (by omega) (by omega)) an) (S_go 5 (S_end (V_seq (V_seq (V_region (S_go 2 (S_end (V_ndecT (boxErr b = 0) (by omega) (V_seq (V_region (S_go 4 (S_end (V_ret (E_a [] an (PV.tup [PV.own 1 [], PV.int IntKind.i64 0, PV.int IntKind.i64 (boxErr b)]) ([]) rfl rfl)))))))))))))))))))))
theorem f122 (m : Nat) (hm : m ≤ 7) : ∀ k f, f + k = m → FG 122 [I (f : Nat), I (m : Nat)] (.sl ((subsF k f).map ints)) := by
  intro k
  induction k using Nat.strongRecOn with
  | ind k ih =>
  intro f hf
  refine gives_ofX Try.f122 ?_
  refine V_seq (V_region (S_go 1 (S_end (V_seq (V_region (S_go 2 (S_end (V_seq (V_seq (V_region (S_go 2 (S_end (V_block 0 ?_)))))))))))))
  refine V_loopS (fun (j, Q) => j ≤ k ∧ Q = subsP k f j) (fun (j, Q) => [(5, .own 1 (Q.map lstO)), (6, I (f + j : Nat))]) (fun (j, _) => k - j) ((0 : Nat), ([[]] : List (List Int))) ⟨Nat.zero_le _, rfl⟩ fun (j, Q) ⟨hj, hQ⟩ => ?_
  have hQl : Q.length ≤ 1000 := by rw [hQ]; have := subsP_len (k := k) (f := f) (j := j) (by omega) (by omega); omega
  by_cases hjk : j < k
  · have h := ih (k - j - 1) (by omega) (f + j + 1) (by omega)
    have hnx : subsP k f (j + 1) = Q ++ (subsF (k - j - 1) (f + j + 1)).map (((f + j : Nat) : Int) :: ·) := by rw [hQ]; exact subs_next
    have hle := subsF_mem (k := k - j - 1) (f := f + j + 1)
    have hRl : (subsF (k - j - 1) (f + j + 1)).length ≤ 128 := by
      have h1 := subsF_len (k := k - j - 1) (f := f + j + 1) (by omega)
      have h2 : 2 ^ (k - j - 1) ≤ 2 ^ 7 := Nat.pow_le_pow_right (by omega) (by omega)
      omega
    generalize subsF (k - j - 1) (f + j + 1) = R at *
    refine V_seq (V_seq (V_region (S_go 3 (S_end (V_decT ((↑(f + j) : Int) < (↑m : Int)) (by omega) (V_skip (V_seq (V_block 1 (V_seq (V_region (S_go 1 (S_a [(1, .v (PV.int IntKind.i64 (↑(f + j + 1) : Int)))] (ap ((wrapE (by omega) (by omega)) : PV.int IntKind.i64 (IntKind.i64.wrap ((↑(f + j) : Int) + 1)) = PV.int IntKind.i64 (↑(f + j + 1) : Int)) an) (S_go 1 (S_a [(8, .ret (PV.sl (List.map ints R)) ([]))] (ap (h) an) (S_go 1 (S_end (V_seq (V_region (S_go 1 (S_end (V_block 2 ?_)))))))))))))))))))))
    refine V_loopS (fun (i, S) => i ≤ R.length ∧ S = Q ++ (R.take i).map (((f + j : Nat) : Int) :: ·)) (fun (i, S) => [(5, .own 1 (S.map lstO)), (8, I (i : Nat))]) (fun (i, _) => R.length - i) ((0 : Nat), Q) ⟨Nat.zero_le _, by simp⟩ fun (i, S) ⟨hi, hS⟩ => ?_
    have hSl : S.length ≤ 2000 := by rw [hS]; simp; omega
    by_cases hil : i < R.length
    · have hRi : (R.getD i []).length ≤ 1000 := by rw [getD_lt hil]; have := hle _ (List.getElem_mem hil); omega
      refine V_seq (V_seq (V_region (S_go 2 (S_a [(0, .n (R.length))] (ap ((by simp) : some (List.map ints R).length = some R.length) an) (S_go 1 (S_end (V_decT ((↑i : Int) < (↑R.length : Int)) (by omega) (V_skip (V_seq (V_block 3 (V_region (S_go 5 (S_a [(2, .v (PV.sl (List.map I (R.getD i []))))] (ap (getm ([]) (by omega) : (List.map ints R)[i]? = some (PV.sl (List.map I (R.getD i [])))) an) (S_go 1 (S_a [(0, .ob), (0, .ob), (0, .ob), (3, .ob)] (ap ((by exact all_map _) : ((List.map I (R.getD i [])).all fun x => x.plain) = true) (ap ((by exact all_map _) : ((List.map I (R.getD i [])).all fun y => y.cells.length.beq ((fun x => x.size) Try.prog.types[3]) && y.cells.all fun q => q.oneCell) = true) (ap ((by exact List.isEmpty_iff.2 (wayss_map _)) : (wayss (List.map I (R.getD i []))).isEmpty = true) (ap ((by exact ble_of (by simp only [List.length_map, List.length_set, List.length_append, List.length_cons, List.length_nil, limit] <;> omega)) : ([PV.int IntKind.i64 (↑(f + j) : Int)].length + (List.map I (R.getD i [])).length).ble limit = true) an)))) (S_go 1 (S_a [(4, .ob), (0, .ob), (0, .ob), (2, .v (PV.own 1 (List.map lstO (S ++ [(↑(f + j) : Int) :: R.getD i []]))))] (ap ((by exact ble_of (by simp only [List.length_map, List.length_set, List.length_append, List.length_cons, List.length_nil, limit] <;> omega)) : (0 + (List.map lstO S).length).ble (List.map lstO S).length = true) (ap ((by exact ble_of (by simp only [List.length_map, List.length_set, List.length_append, List.length_cons, List.length_nil, limit] <;> omega)) : ((List.map lstO S).length + [PV.own 1 (PV.int IntKind.i64 (↑(f + j) : Int) :: List.map I (R.getD i []))].length).ble limit = true) (ap ((by exact beq_of (by simp <;> omega)) : (0 + (List.map lstO S).length).beq (List.map lstO S).length = true) (ap ((by simp) : PV.own 1 (List.map lstO S ++ [PV.own 1 (PV.int IntKind.i64 (↑(f + j) : Int) :: List.map I (R.getD i []))]) = PV.own 1 (List.map lstO (S ++ [(↑(f + j) : Int) :: R.getD i []]))) an)))) (S_go 1 (S_end (V_region (S_go 1 (S_a [(1, .v (PV.int IntKind.i64 (↑(i + 1) : Int)))] (ap ((wrapE (by omega) (by omega)) : PV.int IntKind.i64 (IntKind.i64.wrap ((↑i : Int) + 1)) = PV.int IntKind.i64 (↑(i + 1) : Int)) an) (S_go 1 (S_end ?_))))))))))))))))))))))))
      refine ⟨(i + 1, S ++ [((f + j : Nat) : Int) :: R.getD i []]), ⟨by omega, ?_⟩, by simp only; omega, by kernel_rfl, by kernel_rfl⟩
      rw [hS, List.append_assoc, List.take_add_one, List.getElem?_eq_getElem hil, getD_lt hil, List.map_append]; rfl
    · refine V_seq (V_seq (V_region (S_go 2 (S_a [(0, .n (R.length))] (ap ((by simp) : some (List.map ints R).length = some R.length) an) (S_go 1 (S_end (V_decF ((↑i : Int) < (↑R.length : Int)) (by omega) (V_exit 2 (V_region (S_go 1 (S_a [(1, .v (PV.int IntKind.i64 (↑(f + j + 1) : Int)))] (ap ((wrapE (by omega) (by omega)) : PV.int IntKind.i64 (IntKind.i64.wrap ((↑(f + j) : Int) + 1)) = PV.int IntKind.i64 (↑(f + j + 1) : Int)) an) (S_go 1 (S_end ?_)))))))))))))
      exact ⟨(j + 1, S), ⟨by omega, by rw [hnx, hS, List.take_of_length_le (by omega)]⟩, by simp only; omega, by kernel_rfl, by kernel_rfl⟩
  · obtain rfl : j = k := by omega
    rw [subs_all] at hQ
    subst hQ
    refine V_seq (V_seq (V_region (S_go 3 (S_end (V_decF ((↑(f + j) : Int) < (↑m : Int)) (by omega) (V_exit 0 (V_seq (V_region (S_go 1 (S_a [(2, .yes)] (ap ((by exact beq_of (by simp <;> omega)) : (Nat.beq 0 0 && (List.map lstO (subsF j f)).length.beq (List.map lstO (subsF j f)).length) = true) an) (S_end (V_ret (E_a [(1, .envv ([(1, PV.int IntKind.i64 (↑m : Int)), (4, PV.sl (List.map (fun x => PV.sl (List.map I x)) (subsF j f))), (6, PV.int IntKind.i64 (↑(f + j) : Int)), (13, PV.bool (decide ((↑(f + j) : Int) < (↑m : Int)))), (36, PV.bor 5 [] 1 0 (List.map lstO (subsF j f)).length)]) (PV.sl (List.map (fun x => PV.sl (List.map I x)) (subsF j f))))] (ap (And.intro (Eq.trans (by kernel_rfl : Env.frz [(1, PV.int IntKind.i64 (↑m : Int)), (4, PV.own 1 (List.map lstO (subsF j f))), (6, PV.int IntKind.i64 (↑(f + j) : Int)), (13, PV.bool (decide ((↑(f + j) : Int) < (↑m : Int)))), (36, PV.bor 5 [] 1 0 (List.map lstO (subsF j f)).length)] 4 [] = some [(1, PV.int IntKind.i64 (↑m : Int)), (4, PV.sl (freezes (List.map lstO (subsF j f)))), (6, PV.int IntKind.i64 (↑(f + j) : Int)), (13, PV.bool (decide ((↑(f + j) : Int) < (↑m : Int)))), (36, PV.bor 5 [] 1 0 (List.map lstO (subsF j f)).length)]) ((by simp only [show freezes (List.map lstO (subsF j f)) = List.map (fun x => PV.sl (List.map I x)) (subsF j f) from (by first | exact freezes_mapI _ | exact freezes_mapH _ | exact freezes_all (freezes_mapH _) | exact freezes_to (by simp [take_mapL]) (freezes_mapI _))]) : some [(1, PV.int IntKind.i64 (↑m : Int)), (4, PV.sl (freezes (List.map lstO (subsF j f)))), (6, PV.int IntKind.i64 (↑(f + j) : Int)), (13, PV.bool (decide ((↑(f + j) : Int) < (↑m : Int)))), (36, PV.bor 5 [] 1 0 (List.map lstO (subsF j f)).length)] = some [(1, PV.int IntKind.i64 (↑m : Int)), (4, PV.sl (List.map (fun x => PV.sl (List.map I x)) (subsF j f))), (6, PV.int IntKind.i64 (↑(f + j) : Int)), (13, PV.bool (decide ((↑(f + j) : Int) < (↑m : Int)))), (36, PV.bor 5 [] 1 0 (List.map lstO (subsF j f)).length)])) (inl_own (by first | exact freezes_mapI _ | exact freezes_mapH _) : PV.mapW (inl 4 [] (PV.own 1 (List.map lstO (subsF j f)))) (PV.bor 4 [] 1 0 (List.map lstO (subsF j f)).length) = PV.sl (List.map (fun x => PV.sl (List.map I x)) (subsF j f)))) an) (PV.sl (List.map (fun x => PV.sl (List.map I x)) (subsF j f))) ([]) rfl rfl)))))))))))))
theorem f72 (b : Dk) (hb : Small b) : FG 72 [boxV b] (.tup [ints (gotG b).1, I (gotG b).2, I (boxErr b)]) := by
  by_cases h : boxErr b = 0
  · have hg := box_good h
    have hbl := hg.len
    have h122 := f122 b.rs.length hbl b.rs.length 0 (Nat.zero_add _)
    have hle := subsF_mem (k := b.rs.length) (f := 0)
    have hbd := subsF_bd (k := b.rs.length) (f := 0)
    rw [Nat.zero_add] at hbd
    have hRl : (subsF b.rs.length 0).length ≤ 128 := by
      have h1 := subsF_len (k := b.rs.length) (f := 0) hbl
      have h2 : 2 ^ b.rs.length ≤ 2 ^ 7 := Nat.pow_le_pow_right (by omega) hbl
      omega
    have hR : gotG b = goR (bndS b) (subsF b.rs.length 0) := by simp only [gotG, h, if_true]; exact go_same (bnd_nil b) hbl
    generalize subsF b.rs.length 0 = R at *
    refine gives_ofX Try.f72 ?_
    refine V_seq (V_region (S_go 4 (S_end (V_seq (V_seq (V_region (S_go 1 (S_a [(6, .ret (I (boxErr b)) ([]))] (ap (f59 (b) (by omega)) an) (S_go 1 (S_end (V_seq (V_region (S_go 2 (S_end (V_ndecF (boxErr b = 0) (by omega) (V_skip (V_seq (V_region (S_go 2 (S_a [(0, .n (b.rs.length))] (ap ((by simp) : some (List.map rndV b.rs).length = some b.rs.length) an) (S_a [(8, .ret (PV.sl (List.map ints R)) ([]))] (ap (h122) an) (S_go 1 (S_end (V_seq (V_region (S_go 1 (S_end (V_seq (V_region (S_go 1 (S_end (V_seq (V_seq (V_region (S_go 1 (S_end (V_block 0 ?_)))))))))))))))))))))))))))))))))))))
    refine V_loopS (fun (i, o, m) => i ≤ R.length ∧ ((match o with | none => [] | some q => q), m) = goR (bndS b) (R.take i) ∧ ∀ q, o = some q → q.length ≤ 7) (fun (i, o, m) => [(7, match o with | none => .own 1 [] | some q => ints q), (8, I m), (9, I (i : Nat))]) (fun (i, _) => R.length - i) ((0 : Nat), (none : Option (List Int)), (0 : Int)) ⟨Nat.zero_le _, rfl, fun q h => nomatch h⟩ fun (i, o, m) ⟨hi, ho, hq⟩ => ?_
    by_cases hil : i < R.length
    · have hm := List.getElem_mem hil
      have h1 := hle _ hm
      have h2 := hbd _ hm
      have hnx := goR_next (w := bndS b) (L := R.take i) (l := R[i])
      have htk : R.take i ++ [R[i]] = R.take (i + 1) := by rw [List.take_add_one, List.getElem?_eq_getElem hil]; rfl
      rw [htk, ← ho] at hnx
      rw [← getD_lt (d := []) hil] at h1 h2 hnx
      cases o with
      | none =>
        refine V_seq (V_seq (V_region (S_go 2 (S_a [(0, .n (R.length))] (ap ((by simp) : some (List.map ints R).length = some R.length) an) (S_go 1 (S_end (V_decT ((↑i : Int) < (↑R.length : Int)) (by omega) (V_skip (V_seq (V_block 1 (V_seq (V_region (S_go 3 (S_a [(2, .v (PV.sl (List.map I (R.getD i []))))] (ap (getm ([]) (by omega) : (List.map ints R)[i]? = some (PV.sl (List.map I (R.getD i [])))) an) (S_go 1 (S_a [(8, .ret (I (bndS b (R.getD i []))) ([]))] (ap (f120 (b) (R.getD i []) (by omega) (by omega) (by omega) (by omega)) an) (S_go 1 (S_end (V_seq (V_region (S_go 4 (S_dec 35 (bndS b (R.getD i []) > m) (fun k0 => (S_go 14 (S_end (V_true (V_region (S_go 2 (S_a [(2, .v (PV.sl (List.map I (R.getD i []))))] (ap (getm ([]) (by omega) : (List.map ints R)[i]? = some (PV.sl (List.map I (R.getD i [])))) an) (S_go 4 (S_end (V_region (S_go 1 (S_a [(1, .v (PV.int IntKind.i64 (↑(i + 1) : Int)))] (ap ((wrapE (by omega) (by omega)) : PV.int IntKind.i64 (IntKind.i64.wrap ((↑i : Int) + 1)) = PV.int IntKind.i64 (↑(i + 1) : Int)) an) (S_go 1 (S_end ?_)))))))))))))) (fun k0 => (S_go 4 (S_dec 39 (bndS b (R.getD i []) = m) (fun k1 => (S_go 2 (S_a [(2, .v (PV.sl (List.map I (R.getD i []))))] (ap (getm ([]) (by omega) : (List.map ints R)[i]? = some (PV.sl (List.map I (R.getD i [])))) an) (S_go 1 (S_a [(0, .n ((R.getD i []).length))] (ap ((by simp) : some (List.map I (R.getD i [])).length = some (R.getD i []).length) an) (S_go 1 (S_go 4 (S_end (V_false (V_skip (V_region (S_go 1 (S_a [(1, .v (PV.int IntKind.i64 (↑(i + 1) : Int)))] (ap ((wrapE (by omega) (by omega)) : PV.int IntKind.i64 (IntKind.i64.wrap ((↑i : Int) + 1)) = PV.int IntKind.i64 (↑(i + 1) : Int)) an) (S_go 1 (S_end ?_))))))))))))))) (fun k1 => (S_go 10 (S_end (V_false (V_skip (V_region (S_go 1 (S_a [(1, .v (PV.int IntKind.i64 (↑(i + 1) : Int)))] (ap ((wrapE (by omega) (by omega)) : PV.int IntKind.i64 (IntKind.i64.wrap ((↑i : Int) + 1)) = PV.int IntKind.i64 (↑(i + 1) : Int)) an) (S_go 1 (S_end ?_)))))))))))))))))))))))))))))))))))
        · refine ⟨(i + 1, some (R.getD i []), bndS b (R.getD i [])), ⟨by omega, by rw [hnx, bstR_t (.inl k0)], fun q h => ?_⟩, by simp only; omega, by kernel_rfl, by kernel_rfl⟩
          cases h; omega
        · refine ⟨(i + 1, none, m), ⟨by omega, by rw [hnx, bstR_f (by rintro (h | ⟨h, h2⟩) <;> simp at * <;> omega)], fun q h => nomatch h⟩, by simp only; omega, by kernel_rfl, by kernel_rfl⟩
        · refine ⟨(i + 1, none, m), ⟨by omega, by rw [hnx, bstR_f (by rintro (h | ⟨h, h2⟩) <;> simp at * <;> omega)], fun q h => nomatch h⟩, by simp only; omega, by kernel_rfl, by kernel_rfl⟩
      | some o =>
        have hoq := hq o rfl
        refine V_seq (V_seq (V_region (S_go 2 (S_a [(0, .n (R.length))] (ap ((by simp) : some (List.map ints R).length = some R.length) an) (S_go 1 (S_end (V_decT ((↑i : Int) < (↑R.length : Int)) (by omega) (V_skip (V_seq (V_block 1 (V_seq (V_region (S_go 3 (S_a [(2, .v (PV.sl (List.map I (R.getD i []))))] (ap (getm ([]) (by omega) : (List.map ints R)[i]? = some (PV.sl (List.map I (R.getD i [])))) an) (S_go 1 (S_a [(8, .ret (I (bndS b (R.getD i []))) ([]))] (ap (f120 (b) (R.getD i []) (by omega) (by omega) (by omega) (by omega)) an) (S_go 1 (S_end (V_seq (V_region (S_go 4 (S_dec 35 (bndS b (R.getD i []) > m) (fun k0 => (S_go 14 (S_end (V_true (V_region (S_go 2 (S_a [(2, .v (PV.sl (List.map I (R.getD i []))))] (ap (getm ([]) (by omega) : (List.map ints R)[i]? = some (PV.sl (List.map I (R.getD i [])))) an) (S_go 4 (S_end (V_region (S_go 1 (S_a [(1, .v (PV.int IntKind.i64 (↑(i + 1) : Int)))] (ap ((wrapE (by omega) (by omega)) : PV.int IntKind.i64 (IntKind.i64.wrap ((↑i : Int) + 1)) = PV.int IntKind.i64 (↑(i + 1) : Int)) an) (S_go 1 (S_end ?_)))))))))))))) (fun k0 => (S_go 4 (S_dec 39 (bndS b (R.getD i []) = m) (fun k1 => (S_go 2 (S_a [(2, .v (PV.sl (List.map I (R.getD i []))))] (ap (getm ([]) (by omega) : (List.map ints R)[i]? = some (PV.sl (List.map I (R.getD i [])))) an) (S_go 1 (S_a [(0, .n ((R.getD i []).length))] (ap ((by simp) : some (List.map I (R.getD i [])).length = some (R.getD i []).length) an) (S_go 1 (S_a [(0, .n (o.length))] (ap ((by simp) : some (List.map I o).length = some o.length) an) (S_go 3 (S_end (V_dec ((↑(R.getD i []).length : Int) < (↑o.length : Int)) (fun k2 => (V_region (S_go 2 (S_a [(2, .v (PV.sl (List.map I (R.getD i []))))] (ap (getm ([]) (by omega) : (List.map ints R)[i]? = some (PV.sl (List.map I (R.getD i [])))) an) (S_go 4 (S_end (V_region (S_go 1 (S_a [(1, .v (PV.int IntKind.i64 (↑(i + 1) : Int)))] (ap ((wrapE (by omega) (by omega)) : PV.int IntKind.i64 (IntKind.i64.wrap ((↑i : Int) + 1)) = PV.int IntKind.i64 (↑(i + 1) : Int)) an) (S_go 1 (S_end ?_))))))))))) (fun k2 => (V_skip (V_region (S_go 1 (S_a [(1, .v (PV.int IntKind.i64 (↑(i + 1) : Int)))] (ap ((wrapE (by omega) (by omega)) : PV.int IntKind.i64 (IntKind.i64.wrap ((↑i : Int) + 1)) = PV.int IntKind.i64 (↑(i + 1) : Int)) an) (S_go 1 (S_end ?_))))))))))))))))) (fun k1 => (S_go 10 (S_end (V_false (V_skip (V_region (S_go 1 (S_a [(1, .v (PV.int IntKind.i64 (↑(i + 1) : Int)))] (ap ((wrapE (by omega) (by omega)) : PV.int IntKind.i64 (IntKind.i64.wrap ((↑i : Int) + 1)) = PV.int IntKind.i64 (↑(i + 1) : Int)) an) (S_go 1 (S_end ?_)))))))))))))))))))))))))))))))))))
        · refine ⟨(i + 1, some (R.getD i []), bndS b (R.getD i [])), ⟨by omega, by rw [hnx, bstR_t (.inl k0)], fun q h => ?_⟩, by simp only; omega, by kernel_rfl, by kernel_rfl⟩
          cases h; omega
        · refine ⟨(i + 1, some (R.getD i []), bndS b (R.getD i [])), ⟨by omega, by rw [hnx, bstR_t (.inr ⟨k1, by simp only; omega⟩)], fun q h => ?_⟩, by simp only; omega, by kernel_rfl, by kernel_rfl⟩
          cases h; omega
        · exact ⟨(i + 1, some o, m), ⟨by omega, by rw [hnx, bstR_f (by rintro (h | ⟨h, h2⟩) <;> simp only at * <;> omega)], hq⟩, by simp only; omega, by kernel_rfl, by kernel_rfl⟩
        · exact ⟨(i + 1, some o, m), ⟨by omega, by rw [hnx, bstR_f (by rintro (h | ⟨h, h2⟩) <;> simp only at * <;> omega)], hq⟩, by simp only; omega, by kernel_rfl, by kernel_rfl⟩
    · rw [List.take_of_length_le (by omega)] at ho
      rw [← hR] at ho
      cases o with
      | none =>
        refine V_seq (V_seq (V_region (S_go 2 (S_a [(0, .n (R.length))] (ap ((by simp) : some (List.map ints R).length = some R.length) an) (S_go 1 (S_end (V_decF ((↑i : Int) < (↑R.length : Int)) (by omega) (V_exit 0 (V_seq (V_region (S_go 5 (S_end (V_ret (E_a [] an (PV.tup [PV.sl [], PV.int IntKind.i64 m, PV.int IntKind.i64 0]) ([]) ?_ rfl))))))))))))))
        rw [← ho, h]
        rfl
      | some o =>
        refine V_seq (V_seq (V_region (S_go 2 (S_a [(0, .n (R.length))] (ap ((by simp) : some (List.map ints R).length = some R.length) an) (S_go 1 (S_end (V_decF ((↑i : Int) < (↑R.length : Int)) (by omega) (V_exit 0 (V_seq (V_region (S_go 5 (S_end (V_ret (E_a [] an (PV.tup [PV.sl (List.map I o), PV.int IntKind.i64 m, PV.int IntKind.i64 0]) ([]) ?_ rfl))))))))))))))
        rw [← ho, h]
  · have e : gotG b = ([], 0) := by simp only [gotG, h, if_false]
    rw [e]
    refine gives_ofX Try.f72 ?_
    refine V_seq (V_region (S_go 4 (S_end (V_seq (V_seq (V_region (S_go 1 (S_a [(6, .ret (I (boxErr b)) ([]))] (ap (f59 (b) (by omega)) an) (S_go 1 (S_end (V_seq (V_region (S_go 2 (S_end (V_ndecT (boxErr b = 0) (by omega) (V_seq (V_region (S_go 4 (S_end (V_ret (E_a [] an (PV.tup [PV.sl [], PV.int IntKind.i64 0, PV.int IntKind.i64 (boxErr b)]) ([]) rfl rfl)))))))))))))))))))))
end
end Go.Eng
set_option maxRecDepth 10000
set_option maxHeartbeats 4000000
namespace Go.Eng
open Go Go.Proofs
section
variable [Yo]
theorem gotG_len (b : Dk) : (gotG b).1.length ≤ 7 := by
  unfold gotG; split
  · rename_i h
    have hbl := (box_good h).len
    rcases go_memG (w := bndS b) (bitsAll b.rs.length) with e | e
    · rw [e]; simp
    · obtain ⟨q, _, e⟩ := List.mem_map.1 e
      rw [← e]; have := bits_len (n := b.rs.length) (s := q); omega
  · simp
end
theorem f13 (b : Dk) (l : List Int) : FG 13 [boxV b, ints l] (.bool true) := by
  cases hg : greatB b with
  | true =>
    have h29 : FG 29 [boxV b] (.bool true) := hg ▸ f29 b
    refine gives_ofX Try.f13 ?_
    refine V_seq (V_region (S_go 2 (S_end (V_seq (V_seq (V_region (S_go 1 (S_a [(6, .ret (PV.bool true) ([]))] (ap (h29) an) (S_go 5 (S_end (V_true (V_seq (V_region (S_a [(4, .ret (PV.bool true) ([]))] (ap (f16) an) (S_go 1 (S_end (V_ret (E_a [] an (PV.bool true) ([]) rfl rfl))))))))))))))))))
  | false =>
    have h29 : FG 29 [boxV b] (.bool false) := hg ▸ f29 b
    obtain ⟨hb, hb2⟩ := great_f hg
    have hsm := great_small hg
    have hgl := gotG_len b
    by_cases hlen : l.length ≤ 12
    · refine gives_ofX Try.f13 ?_
      refine V_seq (V_region (S_go 2 (S_end (V_seq (V_seq (V_region (S_go 1 (S_a [(6, .ret (PV.bool false) ([]))] (ap (h29) an) (S_go 2 (S_a [(0, .n (l.length))] (ap ((by simp) : some (List.map I l).length = some l.length) an) (S_go 2 (S_end (V_decF ((↑l.length : Int) > 12) (by omega) (V_skip (V_seq (V_region (S_go 1 (S_a [(6, .ret (PV.agg [I b.cr, I b.wd, I b.st, I b.fn, PV.own 3 (List.map rndV b.rs)]) ([]))] (ap (f30 (b) (by omega) (by omega)) an) (S_go 1 (S_a [(6, .ret (PV.agg [I b.cr, I b.wd, I b.st, I b.fn, PV.own 3 (List.map rndO b.rs)]) ([]))] (ap (f31 (b) (by omega) (by omega)) an) (S_go 1 (S_a [(6, .ret (PV.own 1 (List.map I l)) ([]))] (ap (f17 (l) (by omega)) an) (S_go 3 (S_a [(3, .v (PV.agg [PV.int IntKind.i64 b.cr, PV.int IntKind.i64 b.wd, PV.int IntKind.i64 b.st, PV.int IntKind.i64 b.fn, PV.sl (List.map (fun x => PV.agg [PV.int IntKind.i64 x.w, PV.int IntKind.i64 x.s, PV.sl (List.map I x.may)]) b.rs)]))] (ap ((by simp only [show freezes (List.map rndO b.rs) = List.map (fun x => PV.agg [PV.int IntKind.i64 x.w, PV.int IntKind.i64 x.s, PV.sl (List.map I x.may)]) b.rs from (by first | exact freezes_mapI _ | exact freezes_mapH _ | exact freezes_all (freezes_mapH _) | exact freezes_to (by simp [take_mapL]) (freezes_mapI _))]) : PV.agg [PV.int IntKind.i64 b.cr, PV.int IntKind.i64 b.wd, PV.int IntKind.i64 b.st, PV.int IntKind.i64 b.fn, PV.sl (freezes (List.map rndO b.rs))] = PV.agg [PV.int IntKind.i64 b.cr, PV.int IntKind.i64 b.wd, PV.int IntKind.i64 b.st, PV.int IntKind.i64 b.fn, PV.sl (List.map (fun x => PV.agg [PV.int IntKind.i64 x.w, PV.int IntKind.i64 x.s, PV.sl (List.map I x.may)]) b.rs)]) an) (S_go 1 (S_end (V_seq (V_region (S_go 2 (S_a [(12, .ob), (0, .v (PV.sl (List.map rndV b.rs))), (1, .ob), (0, .v (PV.sl (List.map I l))), (2, .ret (PV.tup [I (bndV b l), I (bndErr b l)]) ([]))] (ap ((by exact ble_of (by simp only [List.length_map, List.length_set, List.length_append, List.length_cons, List.length_nil, limit] <;> omega)) : (0 + (List.map rndV b.rs).length).ble (List.map rndV b.rs).length = true) (ap ((sl_ext (freezes_all (freezes_mapH _))) : PV.sl (freezes (List.take (List.map rndV b.rs).length (List.drop 0 (List.map rndV b.rs)))) = PV.sl (List.map rndV b.rs)) (ap ((by exact ble_of (by simp only [List.length_map, List.length_set, List.length_append, List.length_cons, List.length_nil, limit] <;> omega)) : (0 + (List.map I l).length).ble (List.map I l).length = true) (ap ((sl_ext (freezes_all (freezes_mapH _))) : PV.sl (freezes (List.take (List.map I l).length (List.drop 0 (List.map I l)))) = PV.sl (List.map I l)) (ap (f69 (b) (l) (by omega) (by omega)) an))))) (S_go 5 (S_end (V_seq (V_region (S_go 2 (S_a [(8, .ret (PV.tup [I (bndV b l), I (bndErr b l)]) ([]))] (ap (f70 (b) (l) (by omega) (by omega)) an) (S_go 5 (S_end (V_seq (V_seq (V_region (S_go 4 (S_ndecF 43 (bndV b l = bndV b l) (by omega) (S_go 4 (S_end (V_ndecF (bndErr b l = bndErr b l) (by omega) (V_skip (V_seq (V_region (S_go 1 (S_a [(12, .ob), (0, .v (PV.sl (List.map rndV b.rs))), (2, .ret (PV.tup [lstO (gotG b).fst, I (gotG b).snd, I (boxErr b)]) ([])), (1, .yes)] (ap ((by exact ble_of (by simp only [List.length_map, List.length_set, List.length_append, List.length_cons, List.length_nil, limit] <;> omega)) : (0 + (List.map rndV b.rs).length).ble (List.map rndV b.rs).length = true) (ap ((sl_ext (freezes_all (freezes_mapH _))) : PV.sl (freezes (List.take (List.map rndV b.rs).length (List.drop 0 (List.map rndV b.rs)))) = PV.sl (List.map rndV b.rs)) (ap (f71 (b) (by omega)) (ap ((by exact ob_and (frees_map _) rfl) : (PV.tup [lstO (gotG b).fst, I (gotG b).snd, I (boxErr b)]).free = true) an)))) (S_go 7 (S_end (V_seq (V_region (S_go 1 (S_a [(6, .ret (PV.tup [ints (gotG b).fst, I (gotG b).snd, I (boxErr b)]) ([]))] (ap (f72 (b) (by omega)) an) (S_go 7 (S_end (V_seq (V_region (S_go 4 (S_decT 63 ((gotG b).snd = (gotG b).snd) (by omega) (S_go 5 (S_decT 68 (boxErr b = boxErr b) (by omega) (S_go 2 (S_a [(3, .ob), (0, .v (PV.sl (List.map I (gotG b).fst))), (4, .ret (PV.bool (decide ((gotG b).fst = (gotG b).fst))) ([]))] (ap ((by exact ble_of (by simp only [List.length_map, List.length_set, List.length_append, List.length_cons, List.length_nil, limit] <;> omega)) : (0 + (List.map I (gotG b).fst).length).ble (List.map I (gotG b).fst).length = true) (ap ((sl_ext (freezes_all (freezes_mapH _))) : PV.sl (freezes (List.take (List.map I (gotG b).fst).length (List.drop 0 (List.map I (gotG b).fst)))) = PV.sl (List.map I (gotG b).fst)) (ap (f20 ((gotG b).fst) ((gotG b).fst) (by omega)) an))) (S_go 2 (S_decT 73 ((gotG b).fst = (gotG b).fst) (by (simp; done)) (S_go 2 (S_a [(12, .ob), (0, .v (PV.sl (List.map rndV b.rs))), (4, .ret (PV.bool true) ([]))] (ap ((by exact ble_of (by simp only [List.length_map, List.length_set, List.length_append, List.length_cons, List.length_nil, limit] <;> omega)) : (0 + (List.map rndV b.rs).length).ble (List.map rndV b.rs).length = true) (ap ((sl_ext (freezes_all (freezes_mapH _))) : PV.sl (freezes (List.take (List.map rndV b.rs).length (List.drop 0 (List.map rndV b.rs)))) = PV.sl (List.map rndV b.rs)) (ap (f38 (b) (b) (by omega) (by omega) (by first | omega | (simp <;> omega))) an))) (S_go 4 (S_a [(3, .ob), (0, .v (PV.sl (List.map I l))), (4, .ret (PV.bool (decide (l = l))) ([]))] (ap ((by exact ble_of (by simp only [List.length_map, List.length_set, List.length_append, List.length_cons, List.length_nil, limit] <;> omega)) : (0 + (List.map I l).length).ble (List.map I l).length = true) (ap ((sl_ext (freezes_all (freezes_mapH _))) : PV.sl (freezes (List.take (List.map I l).length (List.drop 0 (List.map I l)))) = PV.sl (List.map I l)) (ap (f20 (l) (l) (by omega)) an))) (S_go 2 (S_decT 83 (l = l) (by (simp; done)) (S_a [(4, .ret (PV.bool true) ([]))] (ap (f16) an) (S_go 2 (S_end (V_ret (E_a [] an (PV.bool true) ([]) rfl rfl))))))))))))))))))))))))))))))))))))))))))))))))))))))))))))))))))))))))))))))))
    · refine gives_ofX Try.f13 ?_
      refine V_seq (V_region (S_go 2 (S_end (V_seq (V_seq (V_region (S_go 1 (S_a [(6, .ret (PV.bool false) ([]))] (ap (h29) an) (S_go 2 (S_a [(0, .n (l.length))] (ap ((by simp) : some (List.map I l).length = some l.length) an) (S_go 2 (S_end (V_decT ((↑l.length : Int) > 12) (by omega) (V_seq (V_region (S_a [(4, .ret (PV.bool true) ([]))] (ap (f16) an) (S_go 1 (S_end (V_ret (E_a [] an (PV.bool true) ([]) rfl rfl))))))))))))))))))))
end Go.Eng
