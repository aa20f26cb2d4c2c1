/- FeeDivided of the given program answers true for every input and leaves its arguments as they were; no conditions. -/
import Derived.Test.YtpmbobnmpehobaaProg
import Derived.Test.YtpmbobnmpehobaaPa
import Derived.Test.YtpmbobnmpehobaaPe
set_option linter.unusedVariables false
set_option linter.unusedSimpArgs false
set_option linter.unusedSectionVars false
namespace Go.Eng
open Go Go.Proofs
theorem getD_lt {α : Type} {l : List α} {i : Nat} {d : α} (h : i < l.length) : l.getD i d = l[i] := by simp [List.getD, List.getElem?_eq_getElem h]
theorem foldl_take' {α β : Type} {f : β → α → β} {b : β} {l : List α} {i : Nat} {d : α} (h : i < l.length) : (l.take (i + 1)).foldl f b = f ((l.take i).foldl f b) (l.getD i d) := by
  rw [getD_lt h]; exact foldl_take h
theorem take_next {α : Type} {l m : List α} {i : Nat} {d : α} (h : i < l.length) (h' : i < m.length) (ha : l.take i = m.take i) (he : l.getD i d = m.getD i d) : l.take (i + 1) = m.take (i + 1) := by
  rw [getD_lt h, getD_lt h'] at he
  rw [List.take_add_one, List.take_add_one, ha, List.getElem?_eq_getElem h, List.getElem?_eq_getElem h', he]
def wsum (l : List Int) : Int := l.foldl (fun a x => IntKind.i64.wrap (a + x)) 0
section
variable [Yo]
abbrev FG (f : FuncId) (args : List PV) (v : PV) : Prop := Gives Try.prog feeH f args [] v []
theorem f78 (n lo hi : Int) : FG 78 [I n, I lo, I hi] (.bool (decide (lo ≤ n) && decide (n ≤ hi))) := by
  refine gives_ofX Try.f78 ?_
  refine V_seq (V_region (S_go 1 (S_end (V_seq (V_region (S_go 4 (S_dec 10 (n ≥ lo) (fun k0 => (S_go 5 (S_end (V_ret (E_a [] an (PV.bool (decide (n ≤ hi))) ([]) (by simp [*]) rfl))))) (fun k0 => (S_go 5 (S_end (V_ret (E_a [] an (PV.bool false) ([]) (by simp [*]) rfl))))))))))))
theorem f84 (n lo hi : Int) : FG 84 [I n, I lo, I hi] (.bool (decide (n < lo) || decide (hi < n))) := by
  refine gives_ofX Try.f84 ?_
  refine V_seq (V_region (S_go 1 (S_end (V_seq (V_region (S_go 4 (S_dec 10 (n < lo) (fun k0 => (S_go 5 (S_end (V_ret (E_a [] an (PV.bool true) ([]) (by simp [*]) rfl))))) (fun k0 => (S_go 5 (S_end (V_ret (E_a [] an (PV.bool (decide (n > hi))) ([]) (by simp [*]) rfl))))))))))))
theorem f81 (l : List Int) (hl : l.length < 4294967296) : FG 81 [ints l] (I (wsum l)) := by
  refine gives_ofX Try.f81 ?_
  refine V_seq (V_region (S_go 1 (S_end (V_seq (V_region (S_go 1 (S_end (V_seq (V_seq (V_region (S_go 1 (S_a [(0, .n (l.length))] (ap ((by simp) : some (List.map I l).length = some l.length) an) (S_go 1 (S_end (V_block 0 ?_)))))))))))))))
  refine V_loopS (fun (i, a) => i ≤ l.length ∧ a = wsum (l.take i)) (fun (i, a) => [(3, I a), (8, I (i : Nat))]) (fun (i, _) => l.length - i) ((0 : Nat), (0 : Int)) (by simp [wsum]) fun (i, a) ⟨hi, ha⟩ => ?_
  refine V_seq (V_region (S_go 1 (S_end (V_seq (V_dec ((↑i : Int) < (↑l.length : Int)) (fun k0 => (V_skip (V_seq (V_block 1 (V_seq (V_region (S_a [(2, .v (PV.int IntKind.i64 (l.getD i 0)))] (ap (getm (0) (by omega) : (List.map I l)[i]? = some (PV.int IntKind.i64 (l.getD i 0))) an) (S_go 2 (S_end (V_region (S_go 2 (S_go 1 (S_go 1 (S_end (V_region (S_a [(1, .v (PV.int IntKind.i64 (↑(i + 1) : Int)))] (ap ((wrapE (by omega) (by omega)) : PV.int IntKind.i64 (IntKind.i64.wrap ((↑i : Int) + 1)) = PV.int IntKind.i64 (↑(i + 1) : Int)) an) (S_go 1 (S_end ?_)))))))))))))))))) (fun k0 => (V_exit 0 (V_seq (V_region (S_go 2 (S_end (V_ret (E_a [] an (PV.int IntKind.i64 a) ([]) ?_ rfl)))))))))))))
  · exact ⟨(i + 1, IntKind.i64.wrap (a + l.getD i 0)), ⟨by omega, by rw [ha]; exact (foldl_take' (f := fun a x => IntKind.i64.wrap (a + x)) (by omega)).symm⟩, by simp only; omega, by kernel_rfl, by kernel_rfl⟩
  · rw [ha, List.take_of_length_le (by omega)]
theorem f80 (n : Int) : FG 80 [I n] (.bool (decide (0 ≤ n) && decide (n ≤ 100000))) := by
  refine gives_ofX Try.f80 ?_
  refine V_seq (V_region (S_go 1 (S_end (V_seq (V_region (S_go 1 (S_a [(10, .ret (PV.bool (decide (0 ≤ n) && decide (n ≤ 100000))) ([]))] (ap (f78 (n) (0) (100000)) an) (S_go 1 (S_end (V_ret (E_a [] an (PV.bool (decide (0 ≤ n) && decide (n ≤ 100000))) ([]) rfl rfl)))))))))))
theorem f85 (l m : List Int) (hl : l.length < 4294967296) : FG 85 [ints l, ints m] (.bool (decide (l = m))) := by
  refine gives_ofX Try.f85 ?_
  refine V_seq (V_region (S_go 1 (S_end (V_seq (V_seq (V_region (S_go 1 (S_a [(0, .n (l.length))] (ap ((by simp) : some (List.map I l).length = some l.length) an) (S_go 1 (S_a [(0, .n (m.length))] (ap ((by simp) : some (List.map I m).length = some m.length) an) (S_go 1 (S_end (V_ndec ((↑l.length : Int) = (↑m.length : Int)) (fun k0 => (V_seq (V_region (S_go 1 (S_end (V_ret (E_a [] an (PV.bool false) ([]) ?_ rfl))))))) (fun k0 => (V_skip (V_seq (V_seq (V_region (S_go 1 (S_a [(0, .n (l.length))] (ap ((by simp) : some (List.map I l).length = some l.length) an) (S_go 1 (S_end (V_block 0 ?_)))))))))))))))))))))))
  · simp; intro h; subst h; simp at *
  refine V_loopS (fun i => i ≤ l.length ∧ l.take i = m.take i) (fun i => [(13, I (i : Nat))]) (fun i => l.length - i) (0 : Nat) (by simp) fun i ⟨hi, ha⟩ => ?_
  refine V_seq (V_region (S_go 1 (S_end (V_seq (V_dec ((↑i : Int) < (↑l.length : Int)) (fun k1 => (V_skip (V_seq (V_block 1 (V_seq (V_region (S_go 2 (S_end (V_seq (V_region (S_go 2 (S_a [(2, .v (PV.int IntKind.i64 (l.getD i 0)))] (ap (getm (0) (by omega) : (List.map I l)[i]? = some (PV.int IntKind.i64 (l.getD i 0))) an) (S_go 3 (S_a [(2, .v (PV.int IntKind.i64 (m.getD i 0)))] (ap (getm (0) (by omega) : (List.map I m)[i]? = some (PV.int IntKind.i64 (m.getD i 0))) an) (S_go 2 (S_end (V_ndec (l.getD i 0 = m.getD i 0) (fun k2 => (V_seq (V_region (S_go 1 (S_end (V_ret (E_a [] an (PV.bool false) ([]) ?_ rfl))))))) (fun k2 => (V_skip (V_region (S_a [(1, .v (PV.int IntKind.i64 (↑(i + 1) : Int)))] (ap ((wrapE (by omega) (by omega)) : PV.int IntKind.i64 (IntKind.i64.wrap ((↑i : Int) + 1)) = PV.int IntKind.i64 (↑(i + 1) : Int)) an) (S_go 1 (S_end ?_))))))))))))))))))))))) (fun k1 => (V_exit 0 (V_seq (V_region (S_go 1 (S_end (V_ret (E_a [] an (PV.bool true) ([]) ?_ rfl)))))))))))))
  · simp; intro h; subst h; omega
  · refine ⟨i + 1, ⟨by omega, ?_⟩, by omega, by kernel_rfl, by kernel_rfl⟩
    exact take_next (d := 0) (by omega) (by omega) ha (by assumption)
  · rw [List.take_of_length_le (by omega), List.take_of_length_le (by omega)] at ha
    simp [ha]
theorem f20 (l m : List Int) (hl : l.length < 4294967296) : FG 20 [ints l, ints m] (.bool (decide (l = m))) := by
  refine gives_ofX Try.f20 ?_
  refine V_seq (V_region (S_go 1 (S_end (V_seq (V_region (S_go 2 (S_a [(8, .ret (PV.bool (decide (l = m))) ([]))] (ap (f85 (l) (m) (by omega)) an) (S_go 1 (S_end (V_ret (E_a [] an (PV.bool (decide (l = m))) ([]) rfl rfl)))))))))))
end
end Go.Eng
namespace Go.Eng
open Go Go.Proofs
def idxF {α : Type} (φ : α → Bool) (l : List α) : Int := if l.findIdx φ < l.length then (l.findIdx φ : Int) else -1
theorem idxF_found {α : Type} {φ : α → Bool} {l : List α} {i : Nat} (h : i < l.length) (h0 : ∀ j (hj : j < i), φ (l[j]'(by omega)) = false) (hi : φ l[i] = true) : idxF φ l = i := by
  have : l.findIdx φ = i := by
    rw [List.findIdx_eq h]
    exact ⟨hi, fun j hj => by simpa using h0 j hj⟩
  simp [idxF, this, h]
theorem idxF_none {α : Type} {φ : α → Bool} {l : List α} (h0 : ∀ j (hj : j < l.length), φ (l[j]'hj) = false) : idxF φ l = -1 := by
  have : ¬ l.findIdx φ < l.length := by
    intro h
    have := List.findIdx_getElem (w := h)
    rw [h0 _ h] at this; cases this
  simp [idxF, this]
theorem idxF_ge {α : Type} (φ : α → Bool) (l : List α) : decide (idxF φ l ≥ 0) = l.any φ := by
  unfold idxF
  split
  · rename_i h
    have := List.findIdx_getElem (w := h)
    have h2 : l.any φ = true := List.any_eq_true.2 ⟨_, List.getElem_mem h, this⟩
    rw [h2]; simp
  · rename_i h
    have h2 : l.any φ = false := by
      rw [List.any_eq_false]
      intro x hx hp
      exact h (List.findIdx_lt_length_of_exists ⟨x, hx, hp⟩)
    rw [h2]; simp
section
variable [Yo]
theorem f126_1  (x : Int) : FG 126 [I x, .ref (.func 80 [] [])] (.bool (!(decide (0 ≤ x) && decide (x ≤ 100000)))) := by
  refine gives_ofX Try.f126 ?_
  refine V_seq (V_region (S_go 1 (S_end (V_seq (V_region (S_go 2 (S_a [(6, .ret (PV.bool (decide (0 ≤ x) && decide (x ≤ 100000))) ([]))] (ap (f80 (x)) an) (S_go 2 (S_end (V_ret (E_a [] an (PV.bool !(decide (0 ≤ x) && decide (x ≤ 100000))) ([]) rfl rfl)))))))))))
theorem f118_1n  (l : List Int) (hl : l.length < 4294967296) : FG 118 [ints l, .func 126 [] [.ref (.func 80 [] [])]] (I (idxF (fun x => !(decide (0 ≤ x) && decide (x ≤ 100000))) l)) := by
  refine gives_ofX Try.f118 ?_
  refine V_seq (V_region (S_go 1 (S_end (V_seq (V_seq (V_region (S_go 1 (S_a [(0, .n (l.length))] (ap ((by simp) : some (List.map I l).length = some l.length) an) (S_go 1 (S_end (V_block 0 ?_)))))))))))
  refine V_loopS (fun i => i ≤ l.length ∧ ∀ j, j < i → (fun x => !(decide (0 ≤ x) && decide (x ≤ 100000))) (l.getD j 0) = false) (fun i => [(8, I (i : Nat))]) (fun i => l.length - i) (0 : Nat) (by simp) fun i ⟨hi, ha⟩ => ?_
  refine V_seq (V_region (S_go 1 (S_end (V_seq (V_dec ((↑i : Int) < (↑l.length : Int)) (fun k0 => (V_skip (V_seq (V_block 1 (V_seq (V_region (S_go 2 (S_end (V_seq (V_region (S_go 3 (S_a [(2, .v (PV.int IntKind.i64 (l.getD i 0)))] (ap (getm (0) (by omega) : (List.map I l)[i]? = some (PV.int IntKind.i64 (l.getD i 0))) an) (S_go 1 (S_a [(7, .ret (PV.bool !(decide (0 ≤ l.getD i 0) && decide (l.getD i 0 ≤ 100000))) ([]))] (ap (f126_1 (l.getD i 0)) an) (S_end (V_if (!(decide (0 ≤ l.getD i 0) && decide (l.getD i 0 ≤ 100000))) (fun k1 => (V_seq (V_region (S_go 2 (S_end (V_ret (E_a [] an (PV.int IntKind.i64 (↑i : Int)) ([]) ?_ rfl))))))) (fun k1 => (V_skip (V_region (S_a [(1, .v (PV.int IntKind.i64 (↑(i + 1) : Int)))] (ap ((wrapE (by omega) (by omega)) : PV.int IntKind.i64 (IntKind.i64.wrap ((↑i : Int) + 1)) = PV.int IntKind.i64 (↑(i + 1) : Int)) an) (S_go 1 (S_end ?_)))))))))))))))))))))) (fun k0 => (V_exit 0 (V_seq (V_region (S_go 1 (S_end (V_ret (E_a [] an (PV.int IntKind.i64 (-1)) ([]) ?_ rfl)))))))))))))
  · rw [idxF_found (i := i) (by omega) (fun j hj => by rw [← getD_lt (d := 0)]; exact ha j hj) (by rw [← getD_lt (d := 0)]; assumption)]
  · refine ⟨i + 1, ⟨by omega, fun j hj => ?_⟩, by omega, by kernel_rfl, by kernel_rfl⟩
    rcases Nat.lt_succ_iff_lt_or_eq.1 hj with h | rfl
    · exact ha j h
    · assumption
  · rw [idxF_none fun j hj => by rw [← getD_lt (d := 0)]; exact ha j (by omega)]
theorem f65_1n  (l : List Int) (hl : l.length < 4294967296) : FG 65 [ints l, .func 126 [] [.ref (.func 80 [] [])]] (.bool (l.any (fun x => !(decide (0 ≤ x) && decide (x ≤ 100000))))) := by
  refine gives_ofX Try.f65 ?_
  refine V_seq (V_region (S_go 1 (S_end (V_seq (V_region (S_go 2 (S_a [(6, .ret (I (idxF (fun x => !(decide (0 ≤ x) && decide (x ≤ 100000))) l)) ([]))] (ap (f118_1n (l) (by omega)) an) (S_go 2 (S_end (V_ret (E_a [] an (PV.bool (decide (idxF (fun x => !(decide (0 ≤ x) && decide (x ≤ 100000))) l ≥ 0))) ([]) ?_ rfl)))))))))))
  rw [idxF_ge]
theorem f79_1  (l : List Int) (hl : l.length < 4294967296) : FG 79 [ints l, .func 80 [] []] (.bool (l.all (fun x => decide (0 ≤ x) && decide (x ≤ 100000)))) := by
  refine gives_ofX Try.f79 ?_
  refine V_seq (V_region (S_go 2 (S_end (V_seq (V_region (S_go 2 (S_a [(12, .ret (PV.bool (l.any fun x => !(decide (0 ≤ x) && decide (x ≤ 100000)))) ([]))] (ap (f65_1n (l) (by omega)) an) (S_go 2 (S_end (V_ret (E_a [] an (PV.bool !l.any fun x => !(decide (0 ≤ x) && decide (x ≤ 100000))) ([]) ?_ rfl)))))))))))
  simp [List.not_any_eq_all_not]
end
end Go.Eng
namespace Go.Eng
open Go Go.Proofs
section
variable [Yo]
theorem f17 (l : List Int) (hl : l.length < 1000000) : FG 17 [ints l] (.own 1 (l.map I)) := by
  refine gives_ofX Try.f17 ?_
  refine V_seq (V_region (S_go 1 (S_end (V_seq (V_region (S_go 1 (S_a [(0, .n (l.length))] (ap ((by simp) : some (List.map I l).length = some l.length) an) (S_a [(4, .ob), (0, .ob), (1, .v (PV.own 1 (List.map I (List.replicate l.length 0))))] (ap ((by exact dec_of (by omega)) : decide (l.length ≤ l.length) = true) (ap ((by exact dec_of (by simp [limit] <;> omega)) : decide (l.length ≤ limit) = true) (ap ((by simp) : PV.own 1 (List.replicate l.length (PV.int IntKind.i64 0)) = PV.own 1 (List.map I (List.replicate l.length 0))) an))) (S_go 1 (S_end (V_seq (V_region (S_go 2 (S_copyL (fun q => q) 3 1 (List.map I (List.replicate l.length 0)) (List.map I l) (List.map I l) (fits_map fun _ _ => (by first | exact fits_one | exact ⟨rfl, rfl, rfl, rfl, Nat.le_refl _, rfl⟩)) (by simp <;> omega) (map_all (by simp <;> omega)) Lens.nil (S_end (V_seq (V_region (S_go 1 (S_a [(2, .yes)] (ap ((by exact beq_of (by simp <;> omega)) : (Nat.beq 0 0 && (List.map I l).length.beq (List.map I l).length) = true) an) (S_end (V_ret (E_a [(1, .yes), (1, .v (PV.own 1 (List.map I l)))] (ap ((by exact ble_of (by simp <;> omega)) : (0 + (List.map I l).length).ble (List.map I l).length = true) (ap ((by simp [take_mapL]) : PV.own 1 (List.take (List.map I l).length (List.drop 0 (List.map I l))) = PV.own 1 (List.map I l)) an)) (PV.own 1 (List.map I l)) ([]) rfl rfl))))))))))))))))))))))
end
def cmpD (coins : Int) (parts : List Int) (all : Int) (i k : Int) : Int := (coins * parts.getD k.toNat 0).tmod all - (coins * parts.getD i.toNat 0).tmod all
theorem mul_bd {a b : Int} (h1 : 0 ≤ a ∧ a ≤ 100000) (h2 : 0 ≤ b ∧ b ≤ 100000) : 0 ≤ a * b ∧ a * b ≤ 10000000000 := by
  constructor
  · exact Int.mul_nonneg h1.1 h2.1
  · calc a * b ≤ 100000 * 100000 := Int.mul_le_mul h1.2 h2.2 h2.1 (by omega)
      _ = 10000000000 := by decide
theorem getD_all {l : List Int} {p : Int → Prop} (h : ∀ x ∈ l, p x) (i : Nat) (hi : i < l.length) : p (l.getD i 0) := by
  rw [getD_lt hi]; exact h _ (List.getElem_mem hi)
theorem tmod_bd {a b : Int} (hb : 0 < b) (ha : 0 ≤ a) : 0 ≤ a.tmod b ∧ a.tmod b < b := ⟨Int.tmod_nonneg _ ha, Int.tmod_lt_of_pos _ hb⟩
section
variable [Yo]
theorem f83 (i k coins : Int) (parts : List Int) (all : Int) (hi : 0 ≤ i ∧ i < parts.length) (hk : 0 ≤ k ∧ k < parts.length) (hc : 0 ≤ coins ∧ coins ≤ 100000) (hp : ∀ x ∈ parts, 0 ≤ x ∧ x ≤ 100000) (ha : 0 < all ∧ all < 1000000000) :
    FG 83 [I i, I k, .ref (I coins), .ref (ints parts), .ref (I all)] (I (cmpD coins parts all i k)) := by
  have h1 := getD_all hp i.toNat (by omega)
  have h2 := getD_all hp k.toNat (by omega)
  have h3 := mul_bd hc h1
  have h4 := mul_bd hc h2
  have h5 := tmod_bd ha.1 h3.1
  have h6 := tmod_bd ha.1 h4.1
  refine gives_ofX Try.f83 ?_
  refine V_seq (V_region (S_go 1 (S_end (V_seq (V_region (S_go 3 (S_a [(0, .ob), (1, .v (PV.int IntKind.i64 (parts.getD k.toNat 0)))] (ap ((by exact dec_of (by omega)) : decide (0 ≤ k) = true) (ap (getm (0) (by omega) : (List.map I parts)[k.toNat]? = some (PV.int IntKind.i64 (parts.getD k.toNat 0))) an)) (S_go 1 (S_a [(1, .v (PV.int IntKind.i64 (coins * parts.getD k.toNat 0)))] (ap ((wrapE rfl (by omega)) : PV.int IntKind.i64 (IntKind.i64.wrap (coins * parts.getD k.toNat 0)) = PV.int IntKind.i64 (coins * parts.getD k.toNat 0)) an) (S_go 1 (S_a [(0, .v (PV.int IntKind.i64 ((coins * parts.getD k.toNat 0).tmod all)))] (ap (bv_rem (by omega) rfl : binV Try.prog BinOp.rem 3 (PV.int IntKind.i64 (coins * parts.getD k.toNat 0)) (PV.int IntKind.i64 all) = some (PV.int IntKind.i64 ((coins * parts.getD k.toNat 0).tmod all))) an) (S_go 3 (S_a [(0, .ob), (1, .v (PV.int IntKind.i64 (parts.getD i.toNat 0)))] (ap ((by exact dec_of (by omega)) : decide (0 ≤ i) = true) (ap (getm (0) (by omega) : (List.map I parts)[i.toNat]? = some (PV.int IntKind.i64 (parts.getD i.toNat 0))) an)) (S_go 1 (S_a [(1, .v (PV.int IntKind.i64 (coins * parts.getD i.toNat 0)))] (ap ((wrapE rfl (by omega)) : PV.int IntKind.i64 (IntKind.i64.wrap (coins * parts.getD i.toNat 0)) = PV.int IntKind.i64 (coins * parts.getD i.toNat 0)) an) (S_go 1 (S_a [(0, .v (PV.int IntKind.i64 ((coins * parts.getD i.toNat 0).tmod all)))] (ap (bv_rem (by omega) rfl : binV Try.prog BinOp.rem 3 (PV.int IntKind.i64 (coins * parts.getD i.toNat 0)) (PV.int IntKind.i64 all) = some (PV.int IntKind.i64 ((coins * parts.getD i.toNat 0).tmod all))) an) (S_a [(1, .v (PV.int IntKind.i64 ((coins * parts.getD k.toNat 0).tmod all - (coins * parts.getD i.toNat 0).tmod all)))] (ap ((wrapE rfl (by omega)) : PV.int IntKind.i64 (IntKind.i64.wrap ((coins * parts.getD k.toNat 0).tmod all - (coins * parts.getD i.toNat 0).tmod all)) = PV.int IntKind.i64 ((coins * parts.getD k.toNat 0).tmod all - (coins * parts.getD i.toNat 0).tmod all)) an) (S_go 1 (S_end (V_ret (E_a [] an (PV.int IntKind.i64 ((coins * parts.getD k.toNat 0).tmod all - (coins * parts.getD i.toNat 0).tmod all)) ([]) rfl rfl))))))))))))))))))))))
end
def posB (lt : Int → Int → Bool) (s : List Int) (x : Int) : Nat → Nat
  | 0 => 0
  | j + 1 => if lt x (s.getD j 0) then posB lt s x j else j + 1
def insB (lt : Int → Int → Bool) (s : List Int) (x : Int) : List Int := s.take (posB lt s x s.length) ++ x :: s.drop (posB lt s x s.length)
def isort (lt : Int → Int → Bool) (l : List Int) : List Int := l.foldl (insB lt) []
theorem posB_le {lt : Int → Int → Bool} {s : List Int} {x : Int} : ∀ j, posB lt s x j ≤ j
  | 0 => Nat.le_refl _
  | j + 1 => by
    simp only [posB]; split
    · exact Nat.le_succ_of_le (posB_le j)
    · exact Nat.le_refl _
theorem insB_perm {lt : Int → Int → Bool} {s : List Int} {x : Int} : (insB lt s x).Perm (x :: s) := by
  unfold insB
  refine List.perm_middle.trans (List.Perm.cons _ ?_)
  rw [List.take_append_drop]
theorem isort_perm {lt : Int → Int → Bool} : ∀ (l s : List Int), (l.foldl (insB lt) s).Perm (l ++ s)
  | [], s => List.Perm.refl _
  | x :: l, s => by
    refine (isort_perm l (insB lt s x)).trans ?_
    refine (List.Perm.append_left l insB_perm).trans ?_
    exact List.perm_middle
theorem isort_len {lt : Int → Int → Bool} {l : List Int} : (isort lt l).length = l.length := by
  have := (isort_perm (lt := lt) l []).length_eq
  simpa [isort] using this
theorem isort_mem {lt : Int → Int → Bool} {l : List Int} {x : Int} : x ∈ isort lt l ↔ x ∈ l := by
  have := (isort_perm (lt := lt) l []).mem_iff (a := x)
  simpa [isort] using this
theorem swap_step {s rest : List Int} {x : Int} {j : Nat} (hj : j < s.length) : ((s.take (j + 1) ++ x :: (s.drop (j + 1) ++ rest)).set (j + 1) (s.getD j 0)).set j x = s.take j ++ x :: (s.drop j ++ rest) := by
  obtain ⟨A, y, B, rfl, rfl⟩ : ∃ A y B, s = A ++ y :: B ∧ A.length = j := ⟨s.take j, s[j], s.drop (j + 1), by rw [← List.drop_eq_getElem_cons hj, List.take_append_drop], by simp; omega⟩
  have h1 : (A ++ y :: B).take (A.length + 1) = A ++ [y] := by simp [List.take_append, List.take_of_length_le]
  have h2 : (A ++ y :: B).drop (A.length + 1) = B := by simp [List.drop_append]
  have h3 : (A ++ y :: B).getD A.length 0 = y := by simp
  rw [h1, h2, h3]
  simp [List.set_append]
theorem at_mid {s rest : List Int} {x : Int} {j : Nat} (hj : j ≤ s.length) : (s.take j ++ x :: (s.drop j ++ rest)).getD j 0 = x := by
  simp [List.getElem?_append, Nat.min_eq_left hj]
theorem at_pre {s rest : List Int} {x : Int} {j : Nat} (hj : j < s.length) : (s.take (j + 1) ++ x :: (s.drop (j + 1) ++ rest)).getD j 0 = s.getD j 0 := by
  simp [List.getElem?_append, Nat.min_eq_left (show j + 1 ≤ s.length by omega), List.getElem?_take, List.getElem?_eq_getElem hj]
theorem mid_len {s rest : List Int} {x : Int} {j : Nat} (hj : j ≤ s.length) : (s.take j ++ x :: (s.drop j ++ rest)).length = s.length + 1 + rest.length := by simp; omega
theorem mid_mem {s rest : List Int} {x y : Int} {j : Nat} : y ∈ s.take j ++ x :: (s.drop j ++ rest) ↔ y = x ∨ y ∈ s ∨ y ∈ rest := by
  have : y ∈ s ↔ y ∈ s.take j ∨ y ∈ s.drop j := by rw [← List.mem_append, List.take_append_drop]
  simp only [List.mem_append, List.mem_cons, this]
  constructor
  · rintro (h | h | h | h) <;> simp [h]
  · rintro (h | (h | h) | h) <;> simp [h]
theorem isort_next {lt : Int → Int → Bool} {l : List Int} {i : Nat} (hi : i < l.length) : isort lt (l.take (i + 1)) = insB lt (isort lt (l.take i)) (l.getD i 0) := by
  unfold isort; rw [foldl_take' hi]
def ltD (coins : Int) (parts : List Int) (all : Int) (x y : Int) : Bool := decide (cmpD coins parts all x y < 0)
section
variable [Yo]
theorem f142 (l : List Int) (coins : Int) (parts : List Int) (all : Int) (hl : l.length < 21) (hr : ∀ x ∈ l, 0 ≤ x ∧ x < parts.length) (hc : 0 ≤ coins ∧ coins ≤ 100000) (hp : ∀ x ∈ parts, 0 ≤ x ∧ x ≤ 100000) (ha : 0 < all ∧ all < 1000000000) :
    Gives Try.prog feeH 142 [.bor 50000000 [] 1 0 l.length, I 0, I l.length, .func 83 [] [.ref (I coins), .ref (ints parts), .ref (I all)]] [.own 1 (l.map I)] (.tup []) [.own 1 ((isort (ltD coins parts all) l).map I)] := by
  refine gives_ofX Try.f142 ?_
  refine V_seq (V_region (S_go 3 (S_end (V_block 0 ?_))))
  refine V_loopS (fun (i, m) => 1 ≤ i ∧ (i ≤ l.length ∨ l = [] ∧ i = 1) ∧ m = isort (ltD coins parts all) (l.take i) ++ l.drop i) (fun (i, m) => [(8, I (i : Nat)), (50000000, .own 1 (m.map I))]) (fun (i, _) => l.length - i) ((1 : Nat), l) ?_ fun (i, m) ⟨h1, hi, hm⟩ => ?_
  · refine ⟨Nat.le_refl _, ?_, ?_⟩
    · cases l with
      | nil => exact .inr ⟨rfl, rfl⟩
      | cons x l => exact .inl (by simp)
    · cases l with
      | nil => rfl
      | cons x l => simp [isort, insB, posB]
  have hml : m.length = l.length := by rw [hm]; simp [isort_len]; omega
  refine V_seq (V_seq (V_region (S_go 3 (S_end (V_dec ((↑i : Int) < (↑l.length : Int)) (fun k0 => (V_skip (V_seq (V_block 1 (V_seq (V_region (S_go 2 (S_end (V_block 2 ?_))))))))) (fun k0 => (V_exit 0 (E_a [] an (PV.tup []) ([PV.own 1 (List.map I m)]) rfl ?_))))))))
  · have hi' : i < l.length := by omega
    obtain ⟨s, hs⟩ : ∃ s, s = isort (ltD coins parts all) (l.take i) := ⟨_, rfl⟩
    obtain ⟨x, hx⟩ : ∃ x, x = l.getD i 0 := ⟨_, rfl⟩
    have hsl : s.length = i := by rw [hs, isort_len]; simp; omega
    have hm' : m = s.take i ++ x :: (s.drop i ++ l.drop (i + 1)) := by
      rw [hm, ← hs, List.take_of_length_le (by omega), List.drop_eq_nil_of_le (by omega : s.length ≤ i), List.drop_eq_getElem_cons hi', hx, getD_lt hi']; rfl
    have hxr : 0 ≤ x ∧ x < parts.length := by rw [hx, getD_lt hi']; exact hr _ (List.getElem_mem _)
    have hsr : ∀ y ∈ s, 0 ≤ y ∧ y < parts.length := fun y hy => hr y (List.mem_of_mem_take (isort_mem.1 (hs ▸ hy)))
    clear hm
    subst hm'
    refine V_loopS (fun (j, m) => j ≤ i ∧ m = s.take j ++ x :: (s.drop j ++ l.drop (i + 1)) ∧ posB (ltD coins parts all) s x i = posB (ltD coins parts all) s x j) (fun (j, m) => [(9, I (j : Nat)), (50000000, .own 1 (m.map I))]) (fun (j, _) => j) (i, s.take i ++ x :: (s.drop i ++ l.drop (i + 1))) ⟨Nat.le_refl _, rfl, rfl⟩ fun (j, m) ⟨hj, hm, hpos⟩ => ?_
    have hml : m.length = l.length := by rw [hm, mid_len (by omega)]; simp; omega
    refine V_seq (V_seq (V_region (S_go 4 (S_dec 21 ((↑j : Int) > 0) (fun k1 => (S_go 3 (S_a [(2, .ob), (1, .n (j))] (ap ((by exact dec_of (by omega)) : decide (j < l.length) = true) (ap ((by simp) : some (0 + j) = some j) an)) (S_a [(0, .cs false ([PV.int IntKind.i64 (m.getD j 0)]))] (ap (rc_at (q := PV.own 1 (List.map I m)) (xs := List.map I m) (x := PV.int IntKind.i64 (m.getD j 0)) rfl (getm (0) (by omega)) : readCells 50000000 (PV.own 1 (List.map I m)) [] j 0 1 = some (false, [PV.int IntKind.i64 (m.getD j 0)])) an) (S_go 2 (S_a [(1, .v (PV.int IntKind.i64 (↑(j - 1) : Int)))] (ap ((wrapE (by omega) (by omega)) : PV.int IntKind.i64 (IntKind.i64.wrap ((↑j : Int) - 1)) = PV.int IntKind.i64 (↑(j - 1) : Int)) an) (S_a [(2, .ob), (1, .n (j - 1))] (ap ((by exact dec_of (by omega)) : decide (j - 1 < l.length) = true) (ap ((by simp) : some (0 + (j - 1)) = some (j - 1)) an)) (S_a [(0, .cs false ([PV.int IntKind.i64 (m.getD (j - 1) 0)]))] (ap (rc_at (q := PV.own 1 (List.map I m)) (xs := List.map I m) (x := PV.int IntKind.i64 (m.getD (j - 1) 0)) rfl (getm (0) (by omega)) : readCells 50000000 (PV.own 1 (List.map I m)) [] (j - 1) 0 1 = some (false, [PV.int IntKind.i64 (m.getD (j - 1) 0)])) an) (S_a [(11, .ret (I (cmpD coins parts all (m.getD j 0) (m.getD (j - 1) 0))) ([]))] (ap (f83 (m.getD j 0) (m.getD (j - 1) 0) (coins) (parts) (all) ?_ ?_ (by omega) (by omega) (by omega)) an) (S_go 2 (S_end (V_dec (cmpD coins parts all (m.getD j 0) (m.getD (j - 1) 0) < 0) (fun k2 => (V_skip (V_seq (V_block 3 (V_region (S_go 4 (S_a [(1, .v (PV.int IntKind.i64 (↑(j - 1) : Int)))] (ap ((wrapE (by omega) (by omega)) : PV.int IntKind.i64 (IntKind.i64.wrap ((↑j : Int) - 1)) = PV.int IntKind.i64 (↑(j - 1) : Int)) an) (S_go 2 (S_a [(1, .v (PV.int IntKind.i64 (↑(j - 1) : Int)))] (ap ((wrapE (by omega) (by omega)) : PV.int IntKind.i64 (IntKind.i64.wrap ((↑j : Int) - 1)) = PV.int IntKind.i64 (↑(j - 1) : Int)) an) (S_a [(2, .ob), (1, .n (j - 1))] (ap ((by exact dec_of (by omega)) : decide (j - 1 < l.length) = true) (ap ((by simp) : some (0 + (j - 1)) = some (j - 1)) an)) (S_a [(0, .cs false ([PV.int IntKind.i64 (m.getD (j - 1) 0)]))] (ap (rc_at (q := PV.own 1 (List.map I m)) (xs := List.map I m) (x := PV.int IntKind.i64 (m.getD (j - 1) 0)) rfl (getm (0) (by omega)) : readCells 50000000 (PV.own 1 (List.map I m)) [] (j - 1) 0 1 = some (false, [PV.int IntKind.i64 (m.getD (j - 1) 0)])) an) (S_go 2 (S_a [(2, .ob), (1, .n (j))] (ap ((by exact dec_of (by omega)) : decide (j < l.length) = true) (ap ((by simp) : some (0 + j) = some j) an)) (S_a [(0, .cs false ([PV.int IntKind.i64 (m.getD j 0)]))] (ap (rc_at (q := PV.own 1 (List.map I m)) (xs := List.map I m) (x := PV.int IntKind.i64 (m.getD j 0)) rfl (getm (0) (by omega)) : readCells 50000000 (PV.own 1 (List.map I m)) [] j 0 1 = some (false, [PV.int IntKind.i64 (m.getD j 0)])) an) (S_a [(2, .ob), (1, .n (j))] (ap ((by exact dec_of (by omega)) : decide (j < l.length) = true) (ap ((by simp) : some (0 + j) = some j) an)) (S_a [(8, .root (PV.own 1 (List.map I (m.set j (m.getD (j - 1) 0)))) true)] (ap (wa_at (getm (0) (by omega)) map_set' : writeAt (PV.own 1 (List.map I m)) [] j 0 (PV.int IntKind.i64 (m.getD (j - 1) 0)).cells = some (PV.own 1 (List.map I (m.set j (m.getD (j - 1) 0)))) ∧ keptView (PV.own 1 (List.map I m)) (PV.own 1 (List.map I (m.set j (m.getD (j - 1) 0)))) [] = true) an) (S_a [(2, .ob), (1, .n (j - 1))] (ap ((by exact dec_of (by omega)) : decide (j - 1 < l.length) = true) (ap ((by simp) : some (0 + (j - 1)) = some (j - 1)) an)) (S_a [(8, .root (PV.own 1 (List.map I ((m.set j (m.getD (j - 1) 0)).set (j - 1) (m.getD j 0)))) true)] (ap (wa_at (getm (0) (by simp <;> omega)) map_set' : writeAt (PV.own 1 (List.map I (m.set j (m.getD (j - 1) 0)))) [] (j - 1) 0 (PV.int IntKind.i64 (m.getD j 0)).cells = some (PV.own 1 (List.map I ((m.set j (m.getD (j - 1) 0)).set (j - 1) (m.getD j 0)))) ∧ keptView (PV.own 1 (List.map I (m.set j (m.getD (j - 1) 0)))) (PV.own 1 (List.map I ((m.set j (m.getD (j - 1) 0)).set (j - 1) (m.getD j 0)))) [] = true) an) (S_end (V_region (S_go 1 (S_a [(1, .v (PV.int IntKind.i64 (↑(j - 1) : Int)))] (ap ((wrapE (by omega) (by omega)) : PV.int IntKind.i64 (IntKind.i64.wrap ((↑j : Int) - 1)) = PV.int IntKind.i64 (↑(j - 1) : Int)) an) (S_go 1 (S_end ?_)))))))))))))))))))))))) (fun k2 => (V_exit 2 (V_region (S_go 1 (S_a [(1, .v (PV.int IntKind.i64 (↑(i + 1) : Int)))] (ap ((wrapE (by omega) (by omega)) : PV.int IntKind.i64 (IntKind.i64.wrap ((↑i : Int) + 1)) = PV.int IntKind.i64 (↑(i + 1) : Int)) an) (S_go 1 (S_end ?_))))))))))))))))))) (fun k1 => (S_go 13 (S_end (V_false (V_exit 2 (V_region (S_go 1 (S_a [(1, .v (PV.int IntKind.i64 (↑(i + 1) : Int)))] (ap ((wrapE (by omega) (by omega)) : PV.int IntKind.i64 (IntKind.i64.wrap ((↑i : Int) + 1)) = PV.int IntKind.i64 (↑(i + 1) : Int)) an) (S_go 1 (S_end ?_))))))))))))))
    · rw [hm, at_mid (by omega)]; exact hxr
    · obtain ⟨j', rfl⟩ : ∃ j', j = j' + 1 := ⟨j - 1, by omega⟩
      rw [Nat.add_sub_cancel, hm, at_pre (by omega)]
      exact getD_all hsr j' (by omega)
    · obtain ⟨j', rfl⟩ : ∃ j', j = j' + 1 := ⟨j - 1, by omega⟩
      rw [Nat.add_sub_cancel, hm, at_mid (by omega), at_pre (by omega)] at k2
      refine ⟨(j' + 1 - 1, (m.set (j' + 1) (m.getD (j' + 1 - 1) 0)).set (j' + 1 - 1) (m.getD (j' + 1) 0)), ⟨by omega, ?_, ?_⟩, by simp, by kernel_rfl, by kernel_rfl⟩
      · rw [Nat.add_sub_cancel, hm, at_mid (by omega), at_pre (by omega), swap_step (by omega)]
      · rw [hpos, Nat.add_sub_cancel]
        have : ltD coins parts all x (s.getD j' 0) = true := decide_eq_true k2
        simp only [posB, this, if_true]
    · obtain ⟨j', rfl⟩ : ∃ j', j = j' + 1 := ⟨j - 1, by omega⟩
      rw [Nat.add_sub_cancel, hm, at_mid (by omega), at_pre (by omega)] at k2
      refine ⟨(i + 1, m), ⟨by omega, .inl (by omega), ?_⟩, by simp; omega, by kernel_rfl, by kernel_rfl⟩
      have h3 : ltD coins parts all x (s.getD j' 0) = false := decide_eq_false k2
      have h4 : posB (ltD coins parts all) s x s.length = j' + 1 := by
        rw [hsl, hpos]; simp only [posB, h3]; rfl
      rw [isort_next hi', ← hs, ← hx, insB, h4, hm]; simp
    · obtain rfl : j = 0 := by omega
      refine ⟨(i + 1, m), ⟨by omega, .inl (by omega), ?_⟩, by simp; omega, by kernel_rfl, by kernel_rfl⟩
      have h4 : posB (ltD coins parts all) s x s.length = 0 := by rw [hsl, hpos]; rfl
      rw [isort_next hi', ← hs, ← hx, insB, h4, hm]; simp
  · rw [hm]
    have hn : l.length ≤ i := by omega
    rw [List.take_of_length_le hn, List.drop_eq_nil_of_le hn, List.append_nil]
end
end Go.Eng
namespace Go.Eng
open Go Go.Proofs
theorem sum_take {l : List Int} {i : Nat} (h : i < l.length) : (l.take (i + 1)).sum = (l.take i).sum + l.getD i 0 := by
  rw [List.take_add_one, List.getElem?_eq_getElem h, getD_lt h, List.sum_append]; simp
theorem sum_bd {B : Int} {l : List Int} (hb : ∀ x ∈ l, -B ≤ x ∧ x ≤ B) : -(B * l.length) ≤ l.sum ∧ l.sum ≤ B * l.length := by
  induction l with
  | nil => simp
  | cons x l ih =>
    have h1 := hb x (by simp)
    have h2 := ih fun y hy => hb y (by simp [hy])
    simp only [List.sum_cons, List.length_cons, Int.natCast_add, Int.mul_add]
    omega
theorem sum_nn {l : List Int} (h : ∀ x ∈ l, 0 ≤ x) : 0 ≤ l.sum := by
  induction l with
  | nil => simp
  | cons x l ih =>
    have h1 := h x (by simp)
    have h2 := ih fun y hy => h y (by simp [hy])
    simp only [List.sum_cons]; omega
theorem sum_get {l : List Int} (h : ∀ x ∈ l, 0 ≤ x) (i : Nat) (hi : i < l.length) : l.getD i 0 ≤ l.sum := by
  induction l generalizing i with
  | nil => simp at hi
  | cons x l ih =>
    have h1 := h x (by simp)
    have h2 := sum_nn (l := l) fun y hy => h y (by simp [hy])
    simp only [List.sum_cons]
    cases i with
    | zero => simp; omega
    | succ i =>
      have := ih (fun y hy => h y (by simp [hy])) i (by simpa using hi)
      simp at this ⊢; omega
def divs (coins all : Int) (parts : List Int) : List Int := parts.map fun n => (coins * n).tdiv all
def rems (coins all : Int) (parts : List Int) : List Int := parts.map fun n => (coins * n).tmod all
theorem divs_rems (c S : Int) : ∀ l : List Int, (divs c S l).sum * S + (rems c S l).sum = c * l.sum
  | [] => by simp [divs, rems]
  | n :: l => by
    have ih := divs_rems c S l
    have h := Int.tdiv_mul_add_tmod (c * n) S
    simp only [divs, rems, List.map_cons, List.sum_cons, Int.add_mul, Int.mul_add] at ih ⊢
    omega
theorem rems_bd {c S : Int} (hS : 0 < S) (hc : 0 ≤ c) : ∀ {l : List Int}, (∀ x ∈ l, 0 ≤ x) → 0 ≤ (rems c S l).sum ∧ (rems c S l).sum + l.length ≤ l.length * S
  | [], _ => by simp [rems]
  | n :: l, h => by
    have ih := rems_bd hS hc (l := l) fun y hy => h y (by simp [hy])
    have h1 := h n (by simp)
    have h2 := tmod_bd hS (Int.mul_nonneg hc h1)
    simp only [rems, List.map_cons, List.sum_cons, List.length_cons, Int.natCast_add, Int.add_mul] at ih ⊢
    omega
theorem left_bd {c S : Int} {l : List Int} (hS : 0 < S) (hc : 0 ≤ c) (hl : ∀ x ∈ l, 0 ≤ x) (hs : l.sum = S) : 0 ≤ c - (divs c S l).sum ∧ c - (divs c S l).sum ≤ l.length := by
  have h1 := divs_rems c S l
  have h2 := rems_bd hS hc hl
  rw [hs] at h1
  have h3 : (c - (divs c S l).sum) * S = (rems c S l).sum := by rw [Int.sub_mul]; omega
  constructor
  · refine Int.nonneg_of_mul_nonneg_left ?_ hS
    omega
  · refine Int.le_of_mul_le_mul_right (a := S) ?_ hS
    omega
def upto (n : Nat) : List Int := (List.range n).map fun (i : Nat) => (i : Int)
def incs (l : List Int) (o : List Int) : List Int := l.foldl (fun o i => o.set i.toNat (o.getD i.toNat 0 + 1)) o
theorem incs_len : ∀ (l o : List Int), (incs l o).length = o.length
  | [], _ => rfl
  | x :: l, o => by
    have := incs_len l (o.set x.toNat (o.getD x.toNat 0 + 1))
    simp only [incs, List.foldl_cons] at this ⊢
    rw [this]; simp
theorem incs_bd : ∀ (l o : List Int) (i : Nat), o.getD i 0 ≤ (incs l o).getD i 0 ∧ (incs l o).getD i 0 ≤ o.getD i 0 + l.length
  | [], o, i => by simp [incs]
  | x :: l, o, i => by
    have h := incs_bd l (o.set x.toNat (o.getD x.toNat 0 + 1)) i
    have h2 : o.getD i 0 ≤ (o.set x.toNat (o.getD x.toNat 0 + 1)).getD i 0 ∧ (o.set x.toNat (o.getD x.toNat 0 + 1)).getD i 0 ≤ o.getD i 0 + 1 := by
      simp only [List.getD_eq_getElem?_getD, List.getElem?_set]
      split
      · rename_i he; subst he
        split
        · simp; omega
        · rename_i hn; simp [List.getElem?_eq_none (Nat.le_of_not_lt hn)]
      · omega
    have h3 : incs (x :: l) o = incs l (o.set x.toNat (o.getD x.toNat 0 + 1)) := rfl
    rw [h3]
    simp only [List.length_cons, Int.natCast_add]
    omega
theorem incs_next {q : List Int} {j : Nat} {o : List Int} (h : j < q.length) : incs (q.take (j + 1)) o = (incs (q.take j) o).set (q.getD j 0).toNat ((incs (q.take j) o).getD (q.getD j 0).toNat 0 + 1) := by
  unfold incs; rw [foldl_take' h]
theorem upto_mem {n : Nat} {x : Int} : x ∈ upto n ↔ 0 ≤ x ∧ x < n := by
  simp only [upto, List.mem_map, List.mem_range]
  constructor
  · rintro ⟨i, h, rfl⟩; omega
  · intro h; exact ⟨x.toNat, by omega, by omega⟩
section
variable [Yo]
theorem f81a (l : List Int) (hl : l.length < 1000) (hb : ∀ x ∈ l, -1000000000000 ≤ x ∧ x ≤ 1000000000000) : FG 81 [ints l] (I l.sum) := by
  refine gives_ofX Try.f81 ?_
  refine V_seq (V_region (S_go 1 (S_end (V_seq (V_region (S_go 1 (S_end (V_seq (V_seq (V_region (S_go 1 (S_a [(0, .n (l.length))] (ap ((by simp) : some (List.map I l).length = some l.length) an) (S_go 1 (S_end (V_block 0 ?_)))))))))))))))
  refine V_loopS (fun (i, a) => i ≤ l.length ∧ a = (l.take i).sum) (fun (i, a) => [(3, I a), (8, I (i : Nat))]) (fun (i, _) => l.length - i) ((0 : Nat), (0 : Int)) (by simp) fun (i, a) ⟨hi, ha⟩ => ?_
  have h1 := sum_bd (l := l.take i) (B := 1000000000000) fun x hx => hb x (List.mem_of_mem_take hx)
  have h2 : (l.take i).length = i := by simp; omega
  rw [h2] at h1
  have h3 : i < l.length → -1000000000000 ≤ l.getD i 0 ∧ l.getD i 0 ≤ 1000000000000 := fun h => by rw [getD_lt h]; exact hb _ (List.getElem_mem _)
  refine V_seq (V_region (S_go 1 (S_end (V_seq (V_dec ((↑i : Int) < (↑l.length : Int)) (fun k0 => (V_skip (V_seq (V_block 1 (V_seq (V_region (S_a [(2, .v (PV.int IntKind.i64 (l.getD i 0)))] (ap (getm (0) (by omega) : (List.map I l)[i]? = some (PV.int IntKind.i64 (l.getD i 0))) an) (S_go 2 (S_end (V_region (S_go 2 (S_a [(1, .v (PV.int IntKind.i64 (a + l.getD i 0)))] (ap ((wrapE rfl (by omega)) : PV.int IntKind.i64 (IntKind.i64.wrap (a + l.getD i 0)) = PV.int IntKind.i64 (a + l.getD i 0)) an) (S_go 1 (S_end (V_region (S_a [(1, .v (PV.int IntKind.i64 (↑(i + 1) : Int)))] (ap ((wrapE (by omega) (by omega)) : PV.int IntKind.i64 (IntKind.i64.wrap ((↑i : Int) + 1)) = PV.int IntKind.i64 (↑(i + 1) : Int)) an) (S_go 1 (S_end ?_)))))))))))))))))) (fun k0 => (V_exit 0 (V_seq (V_region (S_go 2 (S_end (V_ret (E_a [] an (PV.int IntKind.i64 a) ([]) ?_ rfl)))))))))))))
  · exact ⟨(i + 1, a + l.getD i 0), ⟨by omega, by rw [ha, sum_take (by omega)]⟩, by simp only; omega, by kernel_rfl, by kernel_rfl⟩
  · rw [ha, List.take_of_length_le (by omega)]
theorem f127 (l : List Int) (coins : Int) (parts : List Int) (all : Int) (hl : l.length < 20) (hr : ∀ x ∈ l, 0 ≤ x ∧ x < parts.length) (hc : 0 ≤ coins ∧ coins ≤ 100000) (hp : ∀ x ∈ parts, 0 ≤ x ∧ x ≤ 100000) (ha : 0 < all ∧ all < 1000000000) :
    Gives Try.prog feeH 127 [.bor 50000000 [] 1 0 l.length, I l.length, .func 83 [] [.ref (I coins), .ref (ints parts), .ref (I all)]] [.own 1 (l.map I)] (.tup []) [.own 1 ((isort (ltD coins parts all) l).map I)] := by
  refine gives_ofX Try.f127 ?_
  refine V_seq (V_region (S_go 1 (S_end (V_seq (V_region (S_go 3 (S_end (V_seq (V_block 0 ?_)))))))))
  refine V_loopS (fun _ => True) (fun (_ : Unit) => []) (fun _ => 0) () trivial fun _ _ => ?_
  refine V_seq (V_seq (V_region (S_go 3 (S_end (V_decF (20 ≤ (↑l.length : Int)) (by omega) (V_exit 0 (V_seq (V_region (S_go 4 (S_a [(9, .ret (PV.tup []) ([PV.own 1 (List.map I (isort (ltD coins parts all) l))]))] (ap (f142 (l) (coins) (parts) (all) (by omega) (by omega) (by omega) (by omega) (by omega)) an) (S_end (V_block 2 ?_))))))))))))
  refine V_loopS (fun _ => True) (fun (_ : Unit) => []) (fun _ => 0) () trivial fun _ _ => ?_
  refine V_seq (V_seq (V_region (S_go 3 (S_end (V_decF (20 < (↑l.length : Int)) (by omega) (V_exit 2 (E_a [] an (PV.tup []) ([PV.own 1 (List.map I (isort (ltD coins parts all) l))]) rfl rfl)))))))
theorem f82 (l : List Int) (coins : Int) (parts : List Int) (all : Int) (hl : l.length < 20) (hr : ∀ x ∈ l, 0 ≤ x ∧ x < parts.length) (hc : 0 ≤ coins ∧ coins ≤ 100000) (hp : ∀ x ∈ parts, 0 ≤ x ∧ x ≤ 100000) (ha : 0 < all ∧ all < 1000000000) :
    Gives Try.prog feeH 82 [.bor 50000000 [] 1 0 l.length, .func 83 [] [.ref (I coins), .ref (ints parts), .ref (I all)]] [.own 1 (l.map I)] (.tup []) [.own 1 ((isort (ltD coins parts all) l).map I)] := by
  refine gives_ofX Try.f82 ?_
  refine V_region (S_go 4 (S_a [(7, .ret (PV.tup []) ([PV.own 1 (List.map I (isort (ltD coins parts all) l))]))] (ap (f127 (l) (coins) (parts) (all) (by omega) (by omega) (by omega) (by omega) (by omega)) an) (S_end (E_a [] an (PV.tup []) ([PV.own 1 (List.map I (isort (ltD coins parts all) l))]) rfl rfl))))
def divide (coins : Int) (parts : List Int) : List Int × Int :=
  if !(decide (1 ≤ (parts.length : Int)) && decide ((parts.length : Int) ≤ 8)) then ([], 2)
  else if !(decide (0 ≤ coins) && decide (coins ≤ 100000)) then ([], 3)
  else if !parts.all (fun x => decide (0 ≤ x) && decide (x ≤ 100000)) then ([], 3)
  else if parts.sum = 0 then ([], 6)
  else (incs ((isort (ltD coins parts parts.sum) (upto parts.length)).take (coins - (divs coins parts.sum parts).sum).toNat) (divs coins parts.sum parts), 0)
theorem all_in {l : List Int} {lo hi : Int} (h : (!l.all fun x => decide (lo ≤ x) && decide (x ≤ hi)) = false) : ∀ x ∈ l, lo ≤ x ∧ x ≤ hi := by
  simpa [List.all_eq_true] using h
theorem in_and {n lo hi : Int} (h : (!(decide (lo ≤ n) && decide (n ≤ hi))) = false) : lo ≤ n ∧ n ≤ hi := by simpa using h
theorem f18 (coins : Int) (parts : List Int) (hl : parts.length < 1000) : FG 18 [I coins, ints parts] (.tup [.own 1 ((divide coins parts).1.map I), I (divide coins parts).2]) := by
  refine gives_ofX Try.f18 ?_
  refine V_seq (V_region (S_go 4 (S_end (V_seq (V_region (S_go 2 (S_end (V_seq (V_block 0 (V_seq (V_region (S_go 1 (S_a [(0, .n (parts.length))] (ap ((by simp) : some (List.map I parts).length = some parts.length) an) (S_a [(10, .ret (PV.bool (decide (1 ≤ (↑parts.length : Int)) && decide ((↑parts.length : Int) ≤ 8))) ([]))] (ap (f78 ((↑parts.length : Int)) (1) (8)) an) (S_go 2 (S_end (V_if (!(decide (1 ≤ (↑parts.length : Int)) && decide ((↑parts.length : Int) ≤ 8))) (fun k0 => (V_seq (V_region (S_go 2 (S_end (V_ret (E_a [] an (PV.tup [PV.own 1 [], PV.int IntKind.i64 2]) ([]) ?_ rfl))))))) (fun k0 => (V_seq (V_region (S_go 1 (S_a [(10, .ret (PV.bool (decide (0 ≤ coins) && decide (coins ≤ 100000))) ([]))] (ap (f78 (coins) (0) (100000)) an) (S_go 2 (S_case 22 (!(decide (0 ≤ coins) && decide (coins ≤ 100000))) (fun k1 => (S_go 5 (S_end (V_true (V_seq (V_region (S_go 2 (S_end (V_ret (E_a [] an (PV.tup [PV.own 1 [], PV.int IntKind.i64 3]) ([]) ?_ rfl)))))))))) (fun k1 => (S_go 1 (S_a [(7, .ret (PV.bool (parts.all fun x => decide (0 ≤ x) && decide (x ≤ 100000))) ([]))] (ap (f79_1 (parts) (by omega)) an) (S_go 3 (S_end (V_if (!parts.all fun x => decide (0 ≤ x) && decide (x ≤ 100000)) (fun k2 => (V_seq (V_region (S_go 2 (S_end (V_ret (E_a [] an (PV.tup [PV.own 1 [], PV.int IntKind.i64 3]) ([]) ?_ rfl))))))) (fun k2 => (V_skip (V_seq (V_seq (V_region (S_go 1 (S_a [(6, .ret (I parts.sum) ([]))] (ap (f81a (parts) (by omega) ?_) an) (S_go 1 (S_end (V_seq (V_region (S_go 2 (S_end (V_dec (parts.sum = 0) (fun k3 => (V_seq (V_region (S_go 2 (S_end (V_ret (E_a [] an (PV.tup [PV.own 1 [], PV.int IntKind.i64 6]) ([]) ?_ rfl))))))) (fun k3 => (V_skip (V_seq (V_region (S_go 2 (S_end (V_seq (V_seq (V_region (S_go 1 (S_a [(0, .n (parts.length))] (ap ((by simp) : some (List.map I parts).length = some parts.length) an) (S_go 1 (S_end (V_block 1 ?_))))))))))))))))))))))))))))))))))))))))))))))))))))))))))
  · simp only [divide, k0, if_true]; rfl
  · simp only [divide, k0, k1, if_true]; rfl
  · simp only [divide, k0, k1, k2, if_true]; rfl
  · intro x hx; have := all_in k2 x hx; omega
  · simp only [divide, k0, k1, k2, k3, if_true]; rfl
  have hc := in_and k1
  have hn := in_and k0
  have hp := all_in k2
  have hs := sum_bd (B := 100000) (l := parts) fun x hx => by have := hp x hx; omega
  have hs0 : 0 ≤ parts.sum := sum_nn fun x hx => (hp x hx).1
  have e : divide coins parts = (incs ((isort (ltD coins parts parts.sum) (upto parts.length)).take (coins - (divs coins parts.sum parts).sum).toNat) (divs coins parts.sum parts), 0) := by
    simp only [divide, k0, k1, k2, k3, if_false]; rfl
  rw [e]
  clear e
  generalize hS : parts.sum = S at *
  have hd : ∀ i, i < parts.length → 0 ≤ (coins * parts.getD i 0).tdiv S ∧ (coins * parts.getD i 0).tdiv S ≤ coins := by
    intro i hi
    have h1 := getD_all hp i hi
    have h2 := mul_bd hc h1
    have h3 := sum_get (fun x hx => (hp x hx).1) i hi
    rw [Int.tdiv_eq_ediv_of_nonneg h2.1]
    refine ⟨Int.ediv_nonneg h2.1 hs0, ?_⟩
    refine Int.ediv_le_of_le_mul (by omega) ?_
    exact Int.mul_le_mul_of_nonneg_left (by omega) hc.1
  refine V_loopS (fun (i, o, r) => i ≤ parts.length ∧ o = divs coins S (parts.take i) ∧ r = upto i) (fun (i, o, r) => [(7, .own 1 (o.map I)), (8, .own 1 (r.map I)), (33, I (i : Nat))]) (fun (i, _, _) => parts.length - i) ((0 : Nat), ([] : List Int), ([] : List Int)) ⟨Nat.zero_le _, rfl, rfl⟩ fun (i, o, r) ⟨hi, ho, hr⟩ => ?_
  have hl1 : o.length = i := by rw [ho]; simp [divs]; omega
  have hl2 : r.length = i := by rw [hr]; simp [upto]
  have hb := hd i
  have hb2 : i < parts.length → 0 ≤ coins * parts.getD i 0 ∧ coins * parts.getD i 0 ≤ 10000000000 := fun h => mul_bd hc (getD_all hp i h)
  have hob : ∀ x ∈ o, -1000000000000 ≤ x ∧ x ≤ 1000000000000 := by
    rw [ho]; intro x hx
    obtain ⟨n, hn', rfl⟩ := List.mem_map.1 hx
    obtain ⟨k, hk, rfl⟩ := List.getElem_of_mem (List.mem_of_mem_take hn')
    have := hd k hk
    rw [getD_lt hk] at this; omega
  have hSp : 0 < S := by omega
  have hrr : ∀ x ∈ r, 0 ≤ x ∧ x < parts.length := by rw [hr]; intro x hx; have := upto_mem.1 hx; omega
  have hlb := left_bd (l := parts) hSp hc.1 (fun x hx => (hp x hx).1) hS
  have hend : ¬ i < parts.length → o.sum = (divs coins S parts).sum := fun h => by rw [ho, List.take_of_length_le (by omega)]
  refine V_seq (V_region (S_go 1 (S_end (V_seq (V_dec ((↑i : Int) < (↑parts.length : Int)) (fun k4 => (V_skip (V_seq (V_block 2 (V_seq (V_region (S_go 1 (S_a [(2, .v (PV.int IntKind.i64 (parts.getD i 0)))] (ap (getm (0) (by omega) : (List.map I parts)[i]? = some (PV.int IntKind.i64 (parts.getD i 0))) an) (S_go 3 (S_end (V_region (S_go 3 (S_a [(1, .v (PV.int IntKind.i64 (coins * parts.getD i 0)))] (ap ((wrapE rfl (by omega)) : PV.int IntKind.i64 (IntKind.i64.wrap (coins * parts.getD i 0)) = PV.int IntKind.i64 (coins * parts.getD i 0)) an) (S_go 1 (S_a [(0, .v (PV.int IntKind.i64 ((coins * parts.getD i 0).tdiv S)))] (ap (bv_quo (by omega) rfl (by omega) : binV Try.prog BinOp.quo 3 (PV.int IntKind.i64 (coins * parts.getD i 0)) (PV.int IntKind.i64 S) = some (PV.int IntKind.i64 ((coins * parts.getD i 0).tdiv S))) an) (S_go 1 (S_a [(4, .ob), (0, .ob), (0, .ob), (2, .v (PV.own 1 (List.map I (o ++ [(coins * parts.getD i 0).tdiv S]))))] (ap ((by exact ble_of (by simp only [List.length_map, List.length_set, List.length_append, List.length_cons, List.length_nil, limit] <;> omega)) : (0 + (List.map I o).length).ble (List.map I o).length = true) (ap ((by exact ble_of (by simp only [List.length_map, List.length_set, List.length_append, List.length_cons, List.length_nil, limit] <;> omega)) : ((List.map I o).length + [PV.int IntKind.i64 ((coins * parts.getD i 0).tdiv S)].length).ble limit = true) (ap ((by exact beq_of (by simp <;> omega)) : (0 + (List.map I o).length).beq (List.map I o).length = true) (ap ((by simp) : PV.own 1 (List.map I o ++ [PV.int IntKind.i64 ((coins * parts.getD i 0).tdiv S)]) = PV.own 1 (List.map I (o ++ [(coins * parts.getD i 0).tdiv S]))) an)))) (S_go 3 (S_a [(4, .ob), (0, .ob), (0, .ob), (2, .v (PV.own 1 (List.map I (r ++ [(↑i : Int)]))))] (ap ((by exact ble_of (by simp only [List.length_map, List.length_set, List.length_append, List.length_cons, List.length_nil, limit] <;> omega)) : (0 + (List.map I r).length).ble (List.map I r).length = true) (ap ((by exact ble_of (by simp only [List.length_map, List.length_set, List.length_append, List.length_cons, List.length_nil, limit] <;> omega)) : ((List.map I r).length + [PV.int IntKind.i64 (↑i : Int)].length).ble limit = true) (ap ((by exact beq_of (by simp <;> omega)) : (0 + (List.map I r).length).beq (List.map I r).length = true) (ap ((by simp) : PV.own 1 (List.map I r ++ [PV.int IntKind.i64 (↑i : Int)]) = PV.own 1 (List.map I (r ++ [(↑i : Int)]))) an)))) (S_go 2 (S_end (V_region (S_a [(1, .v (PV.int IntKind.i64 (↑(i + 1) : Int)))] (ap ((wrapE (by omega) (by omega)) : PV.int IntKind.i64 (IntKind.i64.wrap ((↑i : Int) + 1)) = PV.int IntKind.i64 (↑(i + 1) : Int)) an) (S_go 1 (S_end ?_))))))))))))))))))))))))) (fun k4 => (V_exit 1 (V_seq (V_region (S_go 2 (S_a [(22, .vs ([PV.bor 50000000 [] 1 0 r.length, PV.func 83 [] [(PV.int IntKind.i64 coins).ref, (PV.sl (List.map I parts)).ref, (PV.int IntKind.i64 S).ref]])), (0, .ret (PV.tup []) ([PV.own 1 (List.map I (isort (ltD coins parts S) r))])), (2, .yes)] (ap ((by simp) : [PV.bor 50000000 [] 1 0 (List.map I r).length, PV.func 83 [] [(PV.int IntKind.i64 coins).ref, (PV.sl (List.map I parts)).ref, (PV.int IntKind.i64 S).ref]] = [PV.bor 50000000 [] 1 0 r.length, PV.func 83 [] [(PV.int IntKind.i64 coins).ref, (PV.sl (List.map I parts)).ref, (PV.int IntKind.i64 S).ref]]) (ap (f82 (r) (coins) (parts) (S) (by omega) (by omega) (by omega) (by omega) (by omega)) (ap ((by exact ob_and (frees_map _) rfl) : frees [PV.own 1 (List.map I (isort (ltD coins parts S) r))] = true) an))) (S_end (V_seq (V_seq (V_region (S_go 3 (S_a [(3, .ob), (0, .v (PV.sl (List.map I o))), (2, .ret (I o.sum) ([]))] (ap ((by exact ble_of (by simp only [List.length_map, List.length_set, List.length_append, List.length_cons, List.length_nil, limit] <;> omega)) : (0 + (List.map I o).length).ble (List.map I o).length = true) (ap ((sl_ext (freezes_to (by simp [take_mapL]) (freezes_mapI _))) : PV.sl (freezes (List.take (List.map I o).length (List.drop 0 (List.map I o)))) = PV.sl (List.map I o)) (ap (f81a (o) (by omega) (by omega)) an))) (S_a [(1, .v (PV.int IntKind.i64 (coins - o.sum)))] (ap ((wrapE rfl (by omega)) : PV.int IntKind.i64 (IntKind.i64.wrap (coins - o.sum)) = PV.int IntKind.i64 (coins - o.sum)) an) (S_a [(0, .ob), (3, .yes)] (ap ((by exact dec_of (by omega)) : decide (0 ≤ coins - o.sum) = true) (ap (?_ : (coins - o.sum).toNat.ble (List.map I (isort (ltD coins parts S) r)).length = true) an)) (S_go 2 (S_end (V_block 3 ?_))))))))))))))))))))))
  · refine ⟨(i + 1, o ++ [(coins * parts.getD i 0).tdiv S], r ++ [(i : Int)]), ⟨by omega, ?_, ?_⟩, by simp only; omega, by kernel_rfl, by kernel_rfl⟩
    · rw [ho, divs, divs, List.take_add_one, List.map_append, List.getElem?_eq_getElem (by omega : i < parts.length), getD_lt (by omega : i < parts.length)]; rfl
    · rw [hr, upto, upto, List.range_succ, List.map_append]; rfl
  · rw [hend (by omega)]; exact ble_of (by simp only [List.length_map, isort_len]; omega)
  have hm : (coins - o.sum).toNat = (coins - (divs coins S parts).sum).toNat := by rw [hend (by omega)]
  have hqr : ∀ x ∈ isort (ltD coins parts S) r, 0 ≤ x ∧ x < parts.length := fun x hx => hrr x (isort_mem.1 hx)
  have hql : (isort (ltD coins parts S) r).length = parts.length := by rw [isort_len]; omega
  have hoo : ∀ k, k < o.length → 0 ≤ o.getD k 0 ∧ o.getD k 0 ≤ 100000 := by
    intro k hk
    rw [ho, List.take_of_length_le (by omega), getD_lt (by simp [divs]; omega)]
    simp only [divs, List.getElem_map]
    have := hd k (by omega)
    rw [getD_lt (by omega)] at this; omega
  have hen : isort (ltD coins parts S) r = isort (ltD coins parts S) (upto parts.length) := by rw [hr, show i = parts.length by omega]
  have hoe : o = divs coins S parts := by rw [ho, List.take_of_length_le (by omega)]
  have hmn : (coins - o.sum).toNat ≤ parts.length := by rw [hm]; omega
  generalize hq : isort (ltD coins parts S) r = q at hqr hql hen
  generalize hmm : (coins - o.sum).toNat = m at hm hmn
  refine V_loopS (fun (j, p) => j ≤ m ∧ p = incs (q.take j) o) (fun (j, p) => [(7, .own 1 (p.map I)), (61, I (j : Nat))]) (fun (j, _) => m - j) ((0 : Nat), o) ⟨Nat.zero_le _, rfl⟩ fun (j, p) ⟨hj, hpp⟩ => ?_
  have hpl : p.length = parts.length := by rw [hpp, incs_len]; omega
  have hqj : j < m → 0 ≤ q.getD j 0 ∧ q.getD j 0 < parts.length := fun h => getD_all hqr j (by omega)
  have hpj : j < m → 0 ≤ p.getD (q.getD j 0).toNat 0 ∧ p.getD (q.getD j 0).toNat 0 ≤ 1000000 := fun h => by
    have h1 := incs_bd (q.take j) o (q.getD j 0).toNat
    have h2 := hoo (q.getD j 0).toNat (by have := hqj h; omega)
    have h3 : (q.take j).length ≤ 8 := by simp; omega
    rw [hpp]; omega
  refine V_seq (V_region (S_go 1 (S_end (V_seq (V_dec ((↑j : Int) < (↑(m - 0) : Int)) (fun k5 => (V_skip (V_seq (V_block 4 (V_seq (V_region (S_a [(2, .ob), (1, .n (j))] (ap ((by exact dec_of (by omega)) : decide (j < m - 0) = true) (ap ((by simp) : some (0 + j) = some j) an)) (S_a [(0, .cs false ([PV.int IntKind.i64 (q.getD j 0)]))] (ap (rc_at (q := PV.own 1 (List.map I q)) (xs := List.map I q) (x := PV.int IntKind.i64 (q.getD j 0)) rfl (getm (0) (by omega)) : readCells 8 (PV.own 1 (List.map I q)) [] j 0 1 = some (false, [PV.int IntKind.i64 (q.getD j 0)])) an) (S_go 1 (S_end (V_region (S_go 2 (S_a [(0, .ob), (1, .ob), (1, .n ((q.getD j 0).toNat))] (ap ((by exact dec_of (by omega)) : decide (0 ≤ q.getD j 0) = true) (ap ((by exact dec_of (by simp only [List.length_map, List.length_set, List.length_append, List.length_cons, List.length_nil] <;> omega)) : decide ((q.getD j 0).toNat < (List.map I p).length) = true) (ap ((by simp) : some (0 + (q.getD j 0).toNat) = some (q.getD j 0).toNat) an))) (S_a [(0, .cs false ([PV.int IntKind.i64 (p.getD (q.getD j 0).toNat 0)]))] (ap (rc_at (q := PV.own 1 (List.map I p)) (xs := List.map I p) (x := PV.int IntKind.i64 (p.getD (q.getD j 0).toNat 0)) rfl (getm (0) (by omega)) : readCells 7 (PV.own 1 (List.map I p)) [] (q.getD j 0).toNat 0 1 = some (false, [PV.int IntKind.i64 (p.getD (q.getD j 0).toNat 0)])) an) (S_a [(1, .v (PV.int IntKind.i64 (p.getD (q.getD j 0).toNat 0 + 1)))] (ap ((wrapE rfl (by omega)) : PV.int IntKind.i64 (IntKind.i64.wrap (p.getD (q.getD j 0).toNat 0 + 1)) = PV.int IntKind.i64 (p.getD (q.getD j 0).toNat 0 + 1)) an) (S_a [(0, .ob), (1, .ob), (1, .n ((q.getD j 0).toNat))] (ap ((by exact dec_of (by omega)) : decide (0 ≤ q.getD j 0) = true) (ap ((by exact dec_of (by simp only [List.length_map, List.length_set, List.length_append, List.length_cons, List.length_nil] <;> omega)) : decide ((q.getD j 0).toNat < (List.map I p).length) = true) (ap ((by simp) : some (0 + (q.getD j 0).toNat) = some (q.getD j 0).toNat) an))) (S_a [(8, .root (PV.own 1 (List.map I (p.set (q.getD j 0).toNat (p.getD (q.getD j 0).toNat 0 + 1)))) true)] (ap (wa_at (getm (0) (by omega)) map_set' : writeAt (PV.own 1 (List.map I p)) [] (q.getD j 0).toNat 0 (PV.int IntKind.i64 (p.getD (q.getD j 0).toNat 0 + 1)).cells = some (PV.own 1 (List.map I (p.set (q.getD j 0).toNat (p.getD (q.getD j 0).toNat 0 + 1)))) ∧ keptView (PV.own 1 (List.map I p)) (PV.own 1 (List.map I (p.set (q.getD j 0).toNat (p.getD (q.getD j 0).toNat 0 + 1)))) [] = true) an) (S_end (V_region (S_a [(1, .v (PV.int IntKind.i64 (↑(j + 1) : Int)))] (ap ((wrapE (by omega) (by omega)) : PV.int IntKind.i64 (IntKind.i64.wrap ((↑j : Int) + 1)) = PV.int IntKind.i64 (↑(j + 1) : Int)) an) (S_go 1 (S_end ?_)))))))))))))))))))))) (fun k5 => (V_exit 3 (V_seq (V_region (S_go 1 (S_a [(2, .yes)] (ap ((by exact beq_of (by simp <;> omega)) : (Nat.beq 0 0 && (List.map I p).length.beq (List.map I p).length) = true) an) (S_go 1 (S_end (V_ret (E_a [(1, .yes), (1, .v (PV.own 1 (List.map I p)))] (ap ((by exact ble_of (by simp only [List.length_map, List.length_set, List.length_append, List.length_cons, List.length_nil, limit] <;> omega)) : (0 + (List.map I p).length).ble (List.map I p).length = true) (ap ((by simp [take_mapL]) : PV.own 1 (List.take (List.map I p).length (List.drop 0 (List.map I p))) = PV.own 1 (List.map I p)) an)) (PV.tup [PV.own 1 (List.map I p), PV.int IntKind.i64 0]) ([]) ?_ rfl)))))))))))))))
  · refine ⟨(j + 1, p.set (q.getD j 0).toNat (p.getD (q.getD j 0).toNat 0 + 1)), ⟨by omega, ?_⟩, by simp only; omega, by kernel_rfl, by kernel_rfl⟩
    rw [hpp, incs_next (by omega)]
  · have : j = m := by omega
    rw [hpp, this, ← hm, ← hen, ← hoe]
end
end Go.Eng
namespace Go.Eng
theorem off_f {n lo hi : Int} (h : (decide (n < lo) || decide (hi < n)) = false) : lo ≤ n ∧ n ≤ hi := by simpa using h
theorem off_t {n lo hi : Int} (h : (decide (n < lo) || decide (hi < n)) = true) : n < lo ∨ hi < n := by simpa using h
def rk (R : List Int) (x : Int) : Int := R.getD x.toNat 0
def bef (R : List Int) (x y : Int) : Prop := rk R y < rk R x ∨ rk R x = rk R y ∧ x < y
theorem bef.trans {R : List Int} {x y z : Int} (h : bef R x y) (h' : bef R y z) : bef R x z := by
  unfold bef at *; omega
theorem ltD_eq {c S : Int} {p : List Int} {x y : Int} : ltD c p S x y = decide (rk (rems c S p) y < rk (rems c S p) x) := by
  have h : ∀ z : Int, rk (rems c S p) z = (c * p.getD z.toNat 0).tmod S := by
    intro z
    simp only [rk, rems, List.getD_eq_getElem?_getD, List.getElem?_map]
    cases p[z.toNat]? <;> simp
  unfold ltD cmpD
  rw [h, h]
  congr 1
  simp only [eq_iff_iff]; omega
theorem posB_spec {lt : Int → Int → Bool} {s : List Int} {x : Int} : ∀ j, (∀ k, posB lt s x j ≤ k → k < j → lt x (s.getD k 0) = true) ∧ (0 < posB lt s x j → lt x (s.getD (posB lt s x j - 1) 0) = false)
  | 0 => ⟨fun k h1 h2 => by omega, fun h => by simp [posB] at h⟩
  | j + 1 => by
    have ih := posB_spec (lt := lt) (s := s) (x := x) j
    cases hl : lt x (s.getD j 0) with
    | true =>
      have e : posB lt s x (j + 1) = posB lt s x j := by simp only [posB, hl, if_true]
      rw [e]
      refine ⟨fun k h1 h2 => ?_, ih.2⟩
      rcases Nat.lt_succ_iff_lt_or_eq.1 h2 with h | rfl
      · exact ih.1 k h1 h
      · exact hl
    | false =>
      have e : posB lt s x (j + 1) = j + 1 := by simp only [posB, hl]; rfl
      rw [e]
      exact ⟨fun k h1 h2 => by omega, fun _ => hl⟩
theorem insB_sorted {R : List Int} {lt : Int → Int → Bool} (hlt : ∀ x y, lt x y = decide (rk R y < rk R x)) {s : List Int} {x : Int} (hs : s.Pairwise (bef R)) (hx : ∀ y ∈ s, y < x) : (insB lt s x).Pairwise (bef R) := by
  obtain ⟨p, hp⟩ : ∃ p, p = posB lt s x s.length := ⟨_, rfl⟩
  have hpl : p ≤ s.length := hp ▸ posB_le _
  have hsp := posB_spec (lt := lt) (s := s) (x := x) s.length
  rw [← hp] at hsp
  unfold insB
  rw [← hp]
  have h0 := hs
  rw [← List.take_append_drop p s, List.pairwise_append] at h0
  obtain ⟨h1, h2, h3⟩ := h0
  have hd : ∀ b ∈ s.drop p, bef R x b := by
    intro b hb
    obtain ⟨k, hk, rfl⟩ := List.getElem_of_mem hb
    have := hsp.1 (p + k) (by omega) (by simp at hk; omega)
    rw [hlt, getD_lt (by simp at hk; omega)] at this
    rw [List.getElem_drop]
    exact .inl (by simpa using this)
  have ht : ∀ a ∈ s.take p, bef R a x := by
    intro a ha
    have hp0 : 0 < p := by
      rcases Nat.eq_zero_or_pos p with h | h
      · subst h; simp at ha
      · exact h
    have hlast := hsp.2 hp0
    rw [hlt, getD_lt (by omega)] at hlast
    have hl : bef R (s[p - 1]'(by omega)) x := by
      have h5 : ¬ rk R (s[p - 1]'(by omega)) < rk R x := by simpa using hlast
      have h6 := hx _ (List.getElem_mem (by omega : p - 1 < s.length))
      unfold bef; omega
    obtain ⟨k, hk, rfl⟩ := List.getElem_of_mem ha
    rw [List.getElem_take]
    have hk' : k < p := by simp at hk; omega
    rcases Nat.lt_or_ge k (p - 1) with h | h
    · exact (List.pairwise_iff_getElem.1 hs k (p - 1) (by omega) (by omega) h).trans hl
    · have : k = p - 1 := by omega
      subst this; exact hl
  rw [List.pairwise_append]
  refine ⟨h1, List.pairwise_cons.2 ⟨hd, h2⟩, fun a ha b hb => ?_⟩
  rcases List.mem_cons.1 hb with rfl | hb
  · exact ht a ha
  · exact h3 a ha b hb
theorem isort_sorted {R : List Int} {lt : Int → Int → Bool} (hlt : ∀ x y, lt x y = decide (rk R y < rk R x)) : ∀ n, (isort lt (upto n)).Pairwise (bef R)
  | 0 => List.Pairwise.nil
  | n + 1 => by
    have e : upto (n + 1) = upto n ++ [(n : Int)] := by simp [upto, List.range_succ]
    have : isort lt (upto (n + 1)) = insB lt (isort lt (upto n)) n := by rw [e, isort, List.foldl_append]; rfl
    rw [this]
    exact insB_sorted hlt (isort_sorted hlt n) fun y hy => (upto_mem.1 (isort_mem.1 hy)).2
def whoTo (r : List Int) : Nat → Nat
  | 0 => 0
  | k + 1 => if r.getD k 0 > r.getD (whoTo r k) 0 then k else whoTo r k
theorem whoTo_spec {r : List Int} : ∀ n, (∀ i, i < n → r.getD i 0 ≤ r.getD (whoTo r n) 0 ∧ (i < whoTo r n → r.getD i 0 < r.getD (whoTo r n) 0)) ∧ whoTo r n ≤ n ∧ (0 < n → whoTo r n < n)
  | 0 => ⟨fun i h => by omega, Nat.le_refl _, fun h => by omega⟩
  | k + 1 => by
    obtain ⟨ih, h1, h2⟩ := whoTo_spec (r := r) k
    by_cases h : r.getD k 0 > r.getD (whoTo r k) 0
    · have e : whoTo r (k + 1) = k := by simp only [whoTo, h, if_true]
      rw [e]
      refine ⟨fun i hi => ?_, by omega, fun _ => by omega⟩
      rcases Nat.lt_succ_iff_lt_or_eq.1 hi with h' | rfl
      · have := ih i h'; omega
      · omega
    · have e : whoTo r (k + 1) = whoTo r k := by simp only [whoTo, h, if_false]
      rw [e]
      refine ⟨fun i hi => ?_, by omega, fun _ => ?_⟩
      · rcases Nat.lt_succ_iff_lt_or_eq.1 hi with h' | rfl
        · exact ih i h'
        · exact ⟨by omega, fun hc => by omega⟩
      · rcases Nat.eq_zero_or_pos k with rfl | hk
        · simp [whoTo]
        · have := h2 hk; omega
theorem whoTo_uniq {r : List Int} {n w : Nat} (hw : w < n) (h : ∀ i, i < n → r.getD i 0 ≤ r.getD w 0 ∧ (i < w → r.getD i 0 < r.getD w 0)) : whoTo r n = w := by
  obtain ⟨h1, _, h3⟩ := whoTo_spec (r := r) n
  have h3 := h3 (by omega)
  have a := h1 w hw
  have b := h _ h3
  rcases Nat.lt_trichotomy (whoTo r n) w with hl | he | hg
  · have := b.2 hl; omega
  · exact he
  · have := a.2 hg; omega
def marks (q : List Int) (r : List Int) : List Int := q.foldl (fun r i => r.set i.toNat (-1)) r
theorem marks_len : ∀ (q r : List Int), (marks q r).length = r.length
  | [], _ => rfl
  | x :: q, r => by
    have := marks_len q (r.set x.toNat (-1))
    simp only [marks, List.foldl_cons] at this ⊢
    rw [this]; simp
theorem marks_get : ∀ (q r : List Int) (i : Nat), i < r.length → (∀ x ∈ q, 0 ≤ x) → (marks q r).getD i 0 = if (i : Int) ∈ q then -1 else r.getD i 0
  | [], r, i, _, _ => by simp [marks]
  | x :: q, r, i, hi, hq => by
    have ih := marks_get q (r.set x.toNat (-1)) i (by simpa using hi) fun y hy => hq y (by simp [hy])
    have e : marks (x :: q) r = marks q (r.set x.toNat (-1)) := rfl
    rw [e, ih]
    have hx := hq x (by simp)
    by_cases h1 : (i : Int) ∈ q
    · simp [h1]
    · simp only [h1, if_false, List.mem_cons, or_false]
      simp only [List.getD_eq_getElem?_getD, List.getElem?_set]
      by_cases h2 : (i : Int) = x
      · have : x.toNat = i := by omega
        simp [h2, this, hi]
      · have : ¬ x.toNat = i := by omega
        simp [h2, this]
def giveN : Nat → List Int × List Int → List Int × List Int
  | 0, s => s
  | k + 1, s => giveN k (s.1.set (whoTo s.2 s.2.length) (s.1.getD (whoTo s.2 s.2.length) 0 + 1), s.2.set (whoTo s.2 s.2.length) (-1))
theorem giveN_succ : ∀ (k : Nat) (s : List Int × List Int), giveN (k + 1) s = ((giveN k s).1.set (whoTo (giveN k s).2 (giveN k s).2.length) ((giveN k s).1.getD (whoTo (giveN k s).2 (giveN k s).2.length) 0 + 1), (giveN k s).2.set (whoTo (giveN k s).2 (giveN k s).2.length) (-1))
  | 0, _ => rfl
  | k + 1, s => by rw [giveN, giveN_succ k]; rfl
theorem giveN_eq {R D q : List Int} {n : Nat} (hR : R.length = n) (hD : D.length = n) (hR0 : ∀ x ∈ R, 0 ≤ x) (hq : q.Pairwise (bef R)) (hm : ∀ x, x ∈ q ↔ 0 ≤ x ∧ x < n) (hql : q.length = n) : ∀ k, k ≤ n → giveN k (D, R) = (incs (q.take k) D, marks (q.take k) R)
  | 0, _ => rfl
  | k + 1, hk => by
    have ih := giveN_eq hR hD hR0 hq hm hql k (by omega)
    have hkq : k < q.length := by omega
    have hqk := (hm _).1 (List.getElem_mem hkq)
    have hw : whoTo (marks (q.take k) R) n = (q.getD k 0).toNat := by
      rw [getD_lt hkq]
      have hpos : ∀ x ∈ q.take k, 0 ≤ x := fun x hx => ((hm x).1 (List.mem_of_mem_take hx)).1
      have hnot : ¬ q[k] ∈ q.take k := by
        intro h
        obtain ⟨j, hj, he⟩ := List.getElem_of_mem h
        have hj' : j < k := by simp at hj; omega
        rw [List.getElem_take] at he
        have := List.pairwise_iff_getElem.1 hq j k (by omega) hkq hj'
        rw [he] at this
        unfold bef at this; omega
      have hself : (marks (q.take k) R).getD q[k].toNat 0 = R.getD q[k].toNat 0 := by
        rw [marks_get _ _ _ (by omega) hpos]
        have : ((q[k].toNat : Nat) : Int) = q[k] := by omega
        rw [this, if_neg hnot]
      have hself0 : 0 ≤ R.getD q[k].toNat 0 := by rw [getD_lt (by omega)]; exact hR0 _ (List.getElem_mem _)
      refine whoTo_uniq (by omega) fun i hi => ?_
      rw [hself, marks_get _ _ _ (by omega) hpos]
      by_cases h : (i : Int) ∈ q.take k
      · rw [if_pos h]; omega
      · rw [if_neg h]
        obtain ⟨j, hj, he⟩ := List.getElem_of_mem ((hm (i : Int)).2 ⟨by omega, by omega⟩)
        have hkj : k ≤ j := by
          rcases Nat.lt_or_ge j k with h' | h'
          · exact (h (by rw [← he]; exact List.mem_take_iff_getElem.2 ⟨j, by omega, rfl⟩)).elim
          · exact h'
        have hi' : (R.getD i 0) = rk R q[j] := by rw [he]; simp [rk]
        rcases Nat.eq_or_lt_of_le hkj with rfl | hlt
        · have : q[k].toNat = i := by omega
          rw [this]; exact ⟨Int.le_refl _, fun hc => by omega⟩
        · have hb := List.pairwise_iff_getElem.1 hq k j hkq hj hlt
          unfold bef at hb
          rw [hi']
          have : rk R q[k] = R.getD q[k].toNat 0 := rfl
          omega
    rw [giveN_succ, ih]
    simp only [marks_len, hR, hw]
    rw [incs_next hkq]
    congr 1
    unfold marks; rw [foldl_take' hkq]
theorem rems_len {c S : Int} {p : List Int} : (rems c S p).length = p.length := by simp [rems]
theorem divs_len {c S : Int} {p : List Int} : (divs c S p).length = p.length := by simp [divs]
theorem divide_eq {c S : Int} {p : List Int} (hS : 0 < S) (hc : 0 ≤ c) (hp : ∀ x ∈ p, 0 ≤ x) (k : Nat) (hk : k ≤ p.length) : (giveN k (divs c S p, rems c S p)).1 = incs ((isort (ltD c p S) (upto p.length)).take k) (divs c S p) := by
  rw [giveN_eq (n := p.length) rems_len divs_len ?_ (isort_sorted (fun x y => ltD_eq) _) (fun x => by rw [isort_mem]; exact upto_mem) (by rw [isort_len]; simp [upto]) k hk]
  intro x hx
  obtain ⟨y, hy, rfl⟩ := List.mem_map.1 hx
  exact (tmod_bd hS (Int.mul_nonneg hc (hp y hy))).1
end Go.Eng
namespace Go.Eng
open Go Go.Proofs
theorem giveN_bd {o r : List Int} (i : Nat) : ∀ k, o.getD i 0 ≤ (giveN k (o, r)).1.getD i 0 ∧ (giveN k (o, r)).1.getD i 0 ≤ o.getD i 0 + (k : Nat)
  | 0 => by simp [giveN]
  | k + 1 => by
    have ih := giveN_bd i k (o := o) (r := r)
    rw [giveN_succ]
    have := incs_bd [((whoTo (giveN k (o, r)).2 (giveN k (o, r)).2.length : Nat) : Int)] (giveN k (o, r)).1 i
    simp only [incs, List.foldl_cons, List.foldl_nil, Int.toNat_natCast, List.length_cons, List.length_nil] at this
    simp only
    omega
theorem divs_snoc {c a : Int} {p : List Int} {j : Nat} (h : j < p.length) : divs c a (p.take (j + 1)) = divs c a (p.take j) ++ [(c * p.getD j 0).tdiv a] := by
  simp only [divs, List.take_add_one, List.getElem?_eq_getElem h, getD_lt h, List.map_append, Option.toList, List.map_cons, List.map_nil]
theorem rems_snoc {c a : Int} {p : List Int} {j : Nat} (h : j < p.length) : rems c a (p.take (j + 1)) = rems c a (p.take j) ++ [(c * p.getD j 0).tmod a] := by
  simp only [rems, List.take_add_one, List.getElem?_eq_getElem h, getD_lt h, List.map_append, Option.toList, List.map_cons, List.map_nil]
section
variable [Yo]
theorem f19 (coins : Int) (parts : List Int) (hl : parts.length < 1000) : FG 19 [I coins, ints parts] (.tup [.own 1 ((divide coins parts).1.map I), I (divide coins parts).2]) := by
  refine gives_ofX Try.f19 ?_
  refine V_seq (V_region (S_go 2 (S_end (V_seq (V_seq (V_region (S_go 1 (S_a [(0, .n (parts.length))] (ap ((by simp) : some (List.map I parts).length = some parts.length) an) (S_a [(10, .ret (PV.bool (decide ((↑parts.length : Int) < 1) || decide (8 < (↑parts.length : Int)))) ([]))] (ap (f84 ((↑parts.length : Int)) (1) (8)) an) (S_end (V_if (decide ((↑parts.length : Int) < 1) || decide (8 < (↑parts.length : Int))) (fun k0 => (V_seq (V_region (S_go 2 (S_end (V_ret (E_a [] an (PV.tup [PV.own 1 [], PV.int IntKind.i64 2]) ([]) ?_ rfl))))))) (fun k0 => (V_skip (V_seq (V_seq (V_region (S_go 1 (S_a [(10, .ret (PV.bool (decide (coins < 0) || decide (100000 < coins))) ([]))] (ap (f84 (coins) (0) (100000)) an) (S_end (V_if (decide (coins < 0) || decide (100000 < coins)) (fun k1 => (V_seq (V_region (S_go 2 (S_end (V_ret (E_a [] an (PV.tup [PV.own 1 [], PV.int IntKind.i64 3]) ([]) ?_ rfl))))))) (fun k1 => (V_skip (V_seq (V_region (S_go 1 (S_end (V_seq (V_seq (V_region (S_go 1 (S_end (V_block 0 ?_))))))))))))))))))))))))))))))))
  · have : (!(decide (1 ≤ (parts.length : Int)) && decide ((parts.length : Int) ≤ 8))) = true := by simp at k0 ⊢; omega
    simp only [divide, this, if_true]; rfl
  · have h0 : (!(decide (1 ≤ (parts.length : Int)) && decide ((parts.length : Int) ≤ 8))) = false := by simp at k0 ⊢; omega
    have : (!(decide (0 ≤ coins) && decide (coins ≤ 100000))) = true := by simp at k1 ⊢; omega
    simp only [divide, h0, this, if_true]; rfl
  have h0 : (!(decide (1 ≤ (parts.length : Int)) && decide ((parts.length : Int) ≤ 8))) = false := by simp at k0 ⊢; omega
  have h1 : (!(decide (0 ≤ coins) && decide (coins ≤ 100000))) = false := by simp at k1 ⊢; omega
  have hn := in_and h0
  have hc := in_and h1
  refine V_loopS (fun (i, a) => i ≤ parts.length ∧ (∀ x ∈ parts.take i, 0 ≤ x ∧ x ≤ 100000) ∧ a = (parts.take i).sum) (fun (i, a) => [(6, I a), (7, I (i : Nat))]) (fun (i, _) => parts.length - i) ((0 : Nat), (0 : Int)) (by simp) fun (i, a) ⟨hi, hp, ha⟩ => ?_
  have hs := sum_bd (B := 100000) (l := parts.take i) fun x hx => by have := hp x hx; omega
  have hli : (parts.take i).length = i := by simp; omega
  rw [hli] at hs
  refine V_seq (V_seq (V_region (S_go 2 (S_a [(0, .n (parts.length))] (ap ((by simp) : some (List.map I parts).length = some parts.length) an) (S_go 1 (S_end (V_dec ((↑i : Int) < (↑parts.length : Int)) (fun k2 => (V_skip (V_seq (V_block 1 (V_seq (V_seq (V_region (S_go 2 (S_a [(2, .v (PV.int IntKind.i64 (parts.getD i 0)))] (ap (getm (0) (by omega) : (List.map I parts)[i]? = some (PV.int IntKind.i64 (parts.getD i 0))) an) (S_go 1 (S_a [(10, .ret (PV.bool (decide (parts.getD i 0 < 0) || decide (100000 < parts.getD i 0))) ([]))] (ap (f84 (parts.getD i 0) (0) (100000)) an) (S_end (V_if (decide (parts.getD i 0 < 0) || decide (100000 < parts.getD i 0)) (fun k3 => (V_seq (V_region (S_go 2 (S_end (V_ret (E_a [] an (PV.tup [PV.own 1 [], PV.int IntKind.i64 3]) ([]) ?_ rfl))))))) (fun k3 => (V_skip (V_region (S_go 3 (S_a [(2, .v (PV.int IntKind.i64 (parts.getD i 0)))] (ap (getm (0) (by omega) : (List.map I parts)[i]? = some (PV.int IntKind.i64 (parts.getD i 0))) an) (S_go 1 (S_a [(1, .v (PV.int IntKind.i64 (a + parts.getD i 0)))] (ap ((wrapE rfl ?_) : PV.int IntKind.i64 (IntKind.i64.wrap (a + parts.getD i 0)) = PV.int IntKind.i64 (a + parts.getD i 0)) an) (S_go 1 (S_end (V_region (S_go 1 (S_a [(1, .v (PV.int IntKind.i64 (↑(i + 1) : Int)))] (ap ((wrapE (by omega) (by omega)) : PV.int IntKind.i64 (IntKind.i64.wrap ((↑i : Int) + 1)) = PV.int IntKind.i64 (↑(i + 1) : Int)) an) (S_go 1 (S_end ?_))))))))))))))))))))))))))) (fun k2 => (V_exit 0 (V_seq (V_seq (V_region (S_go 2 (S_end (V_dec (a = 0) (fun k4 => (V_seq (V_region (S_go 2 (S_end (V_ret (E_a [] an (PV.tup [PV.own 1 [], PV.int IntKind.i64 6]) ([]) ?_ rfl))))))) (fun k4 => (V_skip (V_seq (V_region (S_go 2 (S_end (V_seq (V_region (S_go 2 (S_end (V_seq (V_seq (V_region (S_go 1 (S_end (V_block 2 ?_)))))))))))))))))))))))))))))))
  · have : (!parts.all (fun x => decide (0 ≤ x) && decide (x ≤ 100000))) = true := by
      have hi' : i < parts.length := by omega
      simp only [Bool.not_eq_true', List.all_eq_false]
      refine ⟨parts[i], List.getElem_mem hi', ?_⟩
      rw [getD_lt hi'] at k3
      simp at k3 ⊢; omega
    simp only [divide, h0, h1, this, if_true]; rfl
  · have := off_f k3; omega
  · refine ⟨(i + 1, a + parts.getD i 0), ⟨by omega, ?_, by rw [ha, sum_take (by omega)]⟩, by simp only; omega, by kernel_rfl, by kernel_rfl⟩
    have hi' : i < parts.length := by omega
    intro x hx
    rw [List.take_add_one, List.getElem?_eq_getElem hi', List.mem_append] at hx
    rcases hx with hx | hx
    · exact hp x hx
    · simp at hx; subst hx
      rw [getD_lt hi'] at k3
      exact off_f k3
  · have hp' : (!parts.all (fun x => decide (0 ≤ x) && decide (x ≤ 100000))) = false := by
      rw [List.take_of_length_le (by omega)] at hp
      simp only [Bool.not_eq_false', List.all_eq_true]
      intro x hx; have := hp x hx; simp; omega
    rw [List.take_of_length_le (by omega)] at ha
    subst ha
    simp only [divide, h0, h1, hp', k4, if_true]; rfl
  rw [List.take_of_length_le (by omega)] at ha hp hs
  have hp' : (!parts.all (fun x => decide (0 ≤ x) && decide (x ≤ 100000))) = false := by
    simp only [Bool.not_eq_false', List.all_eq_true]
    intro x hx; have := hp x hx; simp; omega
  have hs0 := sum_nn fun x hx => (hp x hx).1
  have e : divide coins parts = (incs ((isort (ltD coins parts parts.sum) (upto parts.length)).take (coins - (divs coins parts.sum parts).sum).toNat) (divs coins parts.sum parts), 0) := by
    simp only [divide, h0, h1, hp', ← ha, k4, if_false]; rfl
  rw [e]
  clear e hli
  rw [← ha] at hs0 ⊢
  have hS : parts.sum = a := ha.symm
  clear ha
  have hd : ∀ i, i < parts.length → 0 ≤ (coins * parts.getD i 0).tdiv a ∧ (coins * parts.getD i 0).tdiv a ≤ coins := by
    intro i hi
    have h1 := getD_all hp i hi
    have h2 := mul_bd hc h1
    have h3 := sum_get (fun x hx => (hp x hx).1) i hi
    rw [Int.tdiv_eq_ediv_of_nonneg h2.1]
    refine ⟨Int.ediv_nonneg h2.1 hs0, ?_⟩
    refine Int.ediv_le_of_le_mul (by omega) ?_
    exact Int.mul_le_mul_of_nonneg_left (by omega) hc.1
  have hSp : 0 < a := by omega
  have hm : ∀ i, i < parts.length → coins * parts.getD i 0 - a * (coins * parts.getD i 0).tdiv a = (coins * parts.getD i 0).tmod a := fun i _ => by rw [Int.tmod_def]
  refine V_loopS (fun (j, o, r, left) => j ≤ parts.length ∧ o = divs coins a (parts.take j) ∧ r = rems coins a (parts.take j) ∧ left = coins - o.sum) (fun (j, o, r, left) => [(8, .own 1 (o.map I)), (9, .own 1 (r.map I)), (10, I left), (11, I (j : Nat))]) (fun (j, _) => parts.length - j) ((0 : Nat), ([] : List Int), ([] : List Int), coins) ⟨Nat.zero_le _, rfl, rfl, by simp⟩ fun (j, o, r, left) ⟨hj, ho, hr, hleft⟩ => ?_
  have hl1 : o.length = j := by rw [ho]; simp [divs]; omega
  have hl2 : r.length = j := by rw [hr]; simp [rems]; omega
  have hb := hd j
  have hb2 : j < parts.length → 0 ≤ coins * parts.getD j 0 ∧ coins * parts.getD j 0 ≤ 10000000000 := fun h => mul_bd hc (getD_all hp j h)
  have hos := sum_bd (B := 100000) (l := o) fun x hx => by
    rw [ho] at hx
    obtain ⟨n, hn', rfl⟩ := List.mem_map.1 hx
    obtain ⟨k, hk, rfl⟩ := List.getElem_of_mem (List.mem_of_mem_take hn')
    have := hd k hk
    rw [getD_lt hk] at this; omega
  have hmj := hm j
  have hmb : j < parts.length → 0 ≤ a * (coins * parts.getD j 0).tdiv a ∧ a * (coins * parts.getD j 0).tdiv a ≤ 10000000000 := fun h => by
    have h1 := hb2 h
    have h2 := tmod_bd hSp h1.1
    have h3 := hmj h
    have h4 := hb h
    exact ⟨Int.mul_nonneg hs0 h4.1, by omega⟩
  have hget : (o ++ [(coins * parts.getD j 0).tdiv a]).getD j 0 = (coins * parts.getD j 0).tdiv a := by simp [hl1]
  refine V_seq (V_seq (V_region (S_go 2 (S_a [(0, .n (parts.length))] (ap ((by simp) : some (List.map I parts).length = some parts.length) an) (S_go 1 (S_end (V_dec ((↑j : Int) < (↑parts.length : Int)) (fun k4 => (V_skip (V_seq (V_block 3 (V_seq (V_region (S_go 4 (S_a [(2, .v (PV.int IntKind.i64 (parts.getD j 0)))] (ap (getm (0) (by omega) : (List.map I parts)[j]? = some (PV.int IntKind.i64 (parts.getD j 0))) an) (S_go 1 (S_a [(1, .v (PV.int IntKind.i64 (coins * parts.getD j 0)))] (ap ((wrapE rfl (by omega)) : PV.int IntKind.i64 (IntKind.i64.wrap (coins * parts.getD j 0)) = PV.int IntKind.i64 (coins * parts.getD j 0)) an) (S_go 1 (S_a [(0, .v (PV.int IntKind.i64 ((coins * parts.getD j 0).tdiv a)))] (ap (bv_quo (by omega) rfl (by omega) : binV Try.prog BinOp.quo 3 (PV.int IntKind.i64 (coins * parts.getD j 0)) (PV.int IntKind.i64 a) = some (PV.int IntKind.i64 ((coins * parts.getD j 0).tdiv a))) an) (S_go 1 (S_a [(4, .ob), (0, .ob), (0, .ob), (2, .v (PV.own 1 (List.map I (o ++ [(coins * parts.getD j 0).tdiv a]))))] (ap ((by exact ble_of (by simp only [List.length_map, List.length_set, List.length_append, List.length_cons, List.length_nil, limit] <;> omega)) : (0 + (List.map I o).length).ble (List.map I o).length = true) (ap ((by exact ble_of (by simp only [List.length_map, List.length_set, List.length_append, List.length_cons, List.length_nil, limit] <;> omega)) : ((List.map I o).length + [PV.int IntKind.i64 ((coins * parts.getD j 0).tdiv a)].length).ble limit = true) (ap ((by exact beq_of (by simp <;> omega)) : (0 + (List.map I o).length).beq (List.map I o).length = true) (ap ((by simp) : PV.own 1 (List.map I o ++ [PV.int IntKind.i64 ((coins * parts.getD j 0).tdiv a)]) = PV.own 1 (List.map I (o ++ [(coins * parts.getD j 0).tdiv a]))) an)))) (S_go 1 (S_end (V_seq (V_region (S_go 4 (S_a [(2, .v (PV.int IntKind.i64 (parts.getD j 0)))] (ap (getm (0) (by omega) : (List.map I parts)[j]? = some (PV.int IntKind.i64 (parts.getD j 0))) an) (S_go 1 (S_a [(1, .v (PV.int IntKind.i64 (coins * parts.getD j 0)))] (ap ((wrapE rfl (by omega)) : PV.int IntKind.i64 (IntKind.i64.wrap (coins * parts.getD j 0)) = PV.int IntKind.i64 (coins * parts.getD j 0)) an) (S_go 3 (S_a [(2, .ob), (1, .n (j))] (ap ((by exact dec_of (by simp only [List.length_map, List.length_set, List.length_append, List.length_cons, List.length_nil] <;> omega)) : decide (j < (List.map I (o ++ [(coins * parts.getD j 0).tdiv a])).length) = true) (ap ((by simp) : some (0 + j) = some j) an)) (S_a [(0, .cs false ([PV.int IntKind.i64 ((o ++ [(coins * parts.getD j 0).tdiv a]).getD j 0)]))] (ap (rc_at (q := PV.own 1 (List.map I (o ++ [(coins * parts.getD j 0).tdiv a]))) (xs := List.map I (o ++ [(coins * parts.getD j 0).tdiv a])) (x := PV.int IntKind.i64 ((o ++ [(coins * parts.getD j 0).tdiv a]).getD j 0)) rfl (getm (0) (by simp <;> omega)) : readCells 8 (PV.own 1 (List.map I (o ++ [(coins * parts.getD j 0).tdiv a]))) [] j 0 1 = some (false, [PV.int IntKind.i64 ((o ++ [(coins * parts.getD j 0).tdiv a]).getD j 0)])) an) (S_a [(1, .v (PV.int IntKind.i64 (a * (o ++ [(coins * parts.getD j 0).tdiv a]).getD j 0)))] (ap ((wrapE rfl ?_) : PV.int IntKind.i64 (IntKind.i64.wrap (a * (o ++ [(coins * parts.getD j 0).tdiv a]).getD j 0)) = PV.int IntKind.i64 (a * (o ++ [(coins * parts.getD j 0).tdiv a]).getD j 0)) an) (S_a [(1, .v (PV.int IntKind.i64 (coins * parts.getD j 0 - a * (o ++ [(coins * parts.getD j 0).tdiv a]).getD j 0)))] (ap ((wrapE rfl ?_) : PV.int IntKind.i64 (IntKind.i64.wrap (coins * parts.getD j 0 - a * (o ++ [(coins * parts.getD j 0).tdiv a]).getD j 0)) = PV.int IntKind.i64 (coins * parts.getD j 0 - a * (o ++ [(coins * parts.getD j 0).tdiv a]).getD j 0)) an) (S_go 1 (S_a [(4, .ob), (0, .ob), (0, .ob), (2, .v (PV.own 1 (List.map I (r ++ [coins * parts.getD j 0 - a * (o ++ [(coins * parts.getD j 0).tdiv a]).getD j 0]))))] (ap ((by exact ble_of (by simp only [List.length_map, List.length_set, List.length_append, List.length_cons, List.length_nil, limit] <;> omega)) : (0 + (List.map I r).length).ble (List.map I r).length = true) (ap ((by exact ble_of (by simp only [List.length_map, List.length_set, List.length_append, List.length_cons, List.length_nil, limit] <;> omega)) : ((List.map I r).length + [PV.int IntKind.i64 (coins * parts.getD j 0 - a * (o ++ [(coins * parts.getD j 0).tdiv a]).getD j 0)].length).ble limit = true) (ap ((by exact beq_of (by simp <;> omega)) : (0 + (List.map I r).length).beq (List.map I r).length = true) (ap ((by simp) : PV.own 1 (List.map I r ++ [PV.int IntKind.i64 (coins * parts.getD j 0 - a * (o ++ [(coins * parts.getD j 0).tdiv a]).getD j 0)]) = PV.own 1 (List.map I (r ++ [coins * parts.getD j 0 - a * (o ++ [(coins * parts.getD j 0).tdiv a]).getD j 0]))) an)))) (S_go 1 (S_end (V_region (S_go 3 (S_a [(2, .ob), (1, .n (j))] (ap ((by exact dec_of (by simp only [List.length_map, List.length_set, List.length_append, List.length_cons, List.length_nil] <;> omega)) : decide (j < (List.map I (o ++ [(coins * parts.getD j 0).tdiv a])).length) = true) (ap ((by simp) : some (0 + j) = some j) an)) (S_a [(0, .cs false ([PV.int IntKind.i64 ((o ++ [(coins * parts.getD j 0).tdiv a]).getD j 0)]))] (ap (rc_at (q := PV.own 1 (List.map I (o ++ [(coins * parts.getD j 0).tdiv a]))) (xs := List.map I (o ++ [(coins * parts.getD j 0).tdiv a])) (x := PV.int IntKind.i64 ((o ++ [(coins * parts.getD j 0).tdiv a]).getD j 0)) rfl (getm (0) (by simp <;> omega)) : readCells 8 (PV.own 1 (List.map I (o ++ [(coins * parts.getD j 0).tdiv a]))) [] j 0 1 = some (false, [PV.int IntKind.i64 ((o ++ [(coins * parts.getD j 0).tdiv a]).getD j 0)])) an) (S_a [(1, .v (PV.int IntKind.i64 (left - (o ++ [(coins * parts.getD j 0).tdiv a]).getD j 0)))] (ap ((wrapE rfl (by omega)) : PV.int IntKind.i64 (IntKind.i64.wrap (left - (o ++ [(coins * parts.getD j 0).tdiv a]).getD j 0)) = PV.int IntKind.i64 (left - (o ++ [(coins * parts.getD j 0).tdiv a]).getD j 0)) an) (S_go 1 (S_end (V_region (S_go 1 (S_a [(1, .v (PV.int IntKind.i64 (↑(j + 1) : Int)))] (ap ((wrapE (by omega) (by omega)) : PV.int IntKind.i64 (IntKind.i64.wrap ((↑j : Int) + 1)) = PV.int IntKind.i64 (↑(j + 1) : Int)) an) (S_go 1 (S_end ?_))))))))))))))))))))))))))))))))))))))))))) (fun k4 => (V_exit 2 (V_seq (V_block 4 ?_)))))))))))
  · rw [hget]; have := hmb (by omega); omega
  · have h1 := hmj (by omega); have h2 := tmod_bd hSp (hb2 (by omega)).1; rw [hget]; omega
  · have hj' : j < parts.length := by omega
    refine ⟨(j + 1, o ++ [(coins * parts.getD j 0).tdiv a], r ++ [coins * parts.getD j 0 - a * (o ++ [(coins * parts.getD j 0).tdiv a]).getD j 0], left - (o ++ [(coins * parts.getD j 0).tdiv a]).getD j 0), ⟨by omega, ?_, ?_, ?_⟩, by simp only; omega, by kernel_rfl, by kernel_rfl⟩
    · rw [ho, divs_snoc hj']
    · rw [hget, hmj hj', hr, rems_snoc hj']
    · rw [hget, hleft]; simp; omega
  rw [List.take_of_length_le (by omega)] at ho hr
  have hL := left_bd hSp hc.1 (fun x hx => (hp x hx).1) hS
  rw [← ho, ← hleft] at hL
  rw [← divide_eq hSp hc.1 (fun x hx => (hp x hx).1) _ (by rw [← ho, ← hleft]; omega), ← ho, ← hr, ← hleft]
  have hG : ∀ k, (giveN k (o, r)).1.length = parts.length ∧ (giveN k (o, r)).2.length = parts.length := by
    intro k
    induction k with
    | zero => exact ⟨by simp only [giveN]; omega, by simp only [giveN]; omega⟩
    | succ k ih => rw [giveN_succ]; simpa using ih
  refine V_loopS (fun (k, o', r', left') => left' = left - (k : Nat) ∧ 0 ≤ left' ∧ (o', r') = giveN k (o, r)) (fun (_, o', r', left') => [(8, .own 1 (o'.map I)), (9, .own 1 (r'.map I)), (10, I left')]) (fun (_, _, _, left') => left'.toNat) ((0 : Nat), o, r, left) ⟨by simp, by omega, rfl⟩ fun (k, o', r', left') ⟨hk, hk0, he⟩ => ?_
  obtain ⟨ho', hr'⟩ : o'.length = parts.length ∧ r'.length = parts.length := by have := hG k; rw [← he] at this; exact this
  have hob : ∀ i, 0 ≤ o'.getD i 0 ∧ o'.getD i 0 ≤ 1000000 := by
    intro i
    have h1 := giveN_bd i k (o := o) (r := r)
    rw [← he] at h1
    have h2 : 0 ≤ o.getD i 0 ∧ o.getD i 0 ≤ coins := by
      rcases Nat.lt_or_ge i o.length with h | h
      · rw [ho, divs, getD_lt (by simp; omega)]
        have := hd i (by omega)
        rw [getD_lt (by omega)] at this
        simpa using this
      · rw [List.getD_eq_getElem?_getD, List.getElem?_eq_none h]; simp; omega
    simp only at h1; omega
  refine V_seq (V_seq (V_region (S_go 2 (S_end (V_dec (left' > 0) (fun k6 => (V_skip (V_block 5 (V_seq (V_region (S_go 1 (S_end (V_seq (V_seq (V_region (S_go 1 (S_end (V_block 6 ?_))))))))))))) (fun k6 => (V_exit 4 (V_seq (V_region (S_go 1 (S_a [(2, .yes)] (ap ((by exact beq_of (by simp <;> omega)) : (Nat.beq 0 0 && (List.map I o').length.beq (List.map I o').length) = true) an) (S_go 1 (S_end (V_ret (E_a [(1, .yes), (1, .v (PV.own 1 (List.map I o')))] (ap ((by exact ble_of (by simp only [List.length_map, List.length_set, List.length_append, List.length_cons, List.length_nil, limit] <;> omega)) : (0 + (List.map I o').length).ble (List.map I o').length = true) (ap ((by simp [take_mapL]) : PV.own 1 (List.take (List.map I o').length (List.drop 0 (List.map I o'))) = PV.own 1 (List.map I o')) an)) (PV.tup [PV.own 1 (List.map I o'), PV.int IntKind.i64 0]) ([]) ?_ rfl)))))))))))))))
  · refine V_loopS (fun (m, w) => m ≤ r'.length ∧ w = whoTo r' m) (fun (m, w) => [(12, I (w : Nat)), (13, I (m : Nat))]) (fun (m, _) => r'.length - m) ((0 : Nat), (0 : Nat)) ⟨Nat.zero_le _, rfl⟩ fun (m, w) ⟨hm', hw⟩ => ?_
    have hwb := (whoTo_spec (r := r') m).2
    rw [← hw] at hwb
    have hobw := hob w
    refine V_seq (V_seq (V_region (S_go 2 (S_a [(0, .n (r'.length))] (ap ((by simp) : some (List.map I r').length = some r'.length) an) (S_go 1 (S_end (V_dec ((↑m : Int) < (↑r'.length : Int)) (fun k7 => (V_skip (V_seq (V_block 7 (V_seq (V_region (S_go 2 (S_a [(2, .ob), (1, .n (m))] (ap ((by exact dec_of (by simp only [List.length_map, List.length_set, List.length_append, List.length_cons, List.length_nil] <;> omega)) : decide (m < (List.map I r').length) = true) (ap ((by simp) : some (0 + m) = some m) an)) (S_a [(0, .cs false ([PV.int IntKind.i64 (r'.getD m 0)]))] (ap (rc_at (q := PV.own 1 (List.map I r')) (xs := List.map I r') (x := PV.int IntKind.i64 (r'.getD m 0)) rfl (getm (0) (by omega)) : readCells 9 (PV.own 1 (List.map I r')) [] m 0 1 = some (false, [PV.int IntKind.i64 (r'.getD m 0)])) an) (S_go 2 (S_a [(2, .ob), (1, .n (w))] (ap ((by exact dec_of (by simp only [List.length_map, List.length_set, List.length_append, List.length_cons, List.length_nil] <;> omega)) : decide (w < (List.map I r').length) = true) (ap ((by simp) : some (0 + w) = some w) an)) (S_a [(0, .cs false ([PV.int IntKind.i64 (r'.getD w 0)]))] (ap (rc_at (q := PV.own 1 (List.map I r')) (xs := List.map I r') (x := PV.int IntKind.i64 (r'.getD w 0)) rfl (getm (0) (by omega)) : readCells 9 (PV.own 1 (List.map I r')) [] w 0 1 = some (false, [PV.int IntKind.i64 (r'.getD w 0)])) an) (S_go 1 (S_end (V_dec (r'.getD m 0 > r'.getD w 0) (fun k8 => (V_region (S_go 2 (S_end (V_region (S_go 1 (S_a [(1, .v (PV.int IntKind.i64 (↑(m + 1) : Int)))] (ap ((wrapE (by omega) (by omega)) : PV.int IntKind.i64 (IntKind.i64.wrap ((↑m : Int) + 1)) = PV.int IntKind.i64 (↑(m + 1) : Int)) an) (S_go 1 (S_end ?_))))))))) (fun k8 => (V_skip (V_region (S_go 1 (S_a [(1, .v (PV.int IntKind.i64 (↑(m + 1) : Int)))] (ap ((wrapE (by omega) (by omega)) : PV.int IntKind.i64 (IntKind.i64.wrap ((↑m : Int) + 1)) = PV.int IntKind.i64 (↑(m + 1) : Int)) an) (S_go 1 (S_end ?_)))))))))))))))))))))) (fun k7 => (V_exit 6 (V_seq (V_region (S_go 4 (S_a [(2, .ob), (1, .n (w))] (ap ((by exact dec_of (by simp only [List.length_map, List.length_set, List.length_append, List.length_cons, List.length_nil] <;> omega)) : decide (w < (List.map I o').length) = true) (ap ((by simp) : some (0 + w) = some w) an)) (S_a [(0, .cs false ([PV.int IntKind.i64 (o'.getD w 0)]))] (ap (rc_at (q := PV.own 1 (List.map I o')) (xs := List.map I o') (x := PV.int IntKind.i64 (o'.getD w 0)) rfl (getm (0) (by omega)) : readCells 8 (PV.own 1 (List.map I o')) [] w 0 1 = some (false, [PV.int IntKind.i64 (o'.getD w 0)])) an) (S_a [(1, .v (PV.int IntKind.i64 (o'.getD w 0 + 1)))] (ap ((wrapE rfl (by omega)) : PV.int IntKind.i64 (IntKind.i64.wrap (o'.getD w 0 + 1)) = PV.int IntKind.i64 (o'.getD w 0 + 1)) an) (S_a [(2, .ob), (1, .n (w))] (ap ((by exact dec_of (by simp only [List.length_map, List.length_set, List.length_append, List.length_cons, List.length_nil] <;> omega)) : decide (w < (List.map I o').length) = true) (ap ((by simp) : some (0 + w) = some w) an)) (S_a [(8, .root (PV.own 1 (List.map I (o'.set w (o'.getD w 0 + 1)))) true)] (ap (wa_at (getm (0) (by omega)) map_set' : writeAt (PV.own 1 (List.map I o')) [] w 0 (PV.int IntKind.i64 (o'.getD w 0 + 1)).cells = some (PV.own 1 (List.map I (o'.set w (o'.getD w 0 + 1)))) ∧ keptView (PV.own 1 (List.map I o')) (PV.own 1 (List.map I (o'.set w (o'.getD w 0 + 1)))) [] = true) an) (S_end (V_seq (V_region (S_go 2 (S_a [(2, .ob), (1, .n (w))] (ap ((by exact dec_of (by simp only [List.length_map, List.length_set, List.length_append, List.length_cons, List.length_nil] <;> omega)) : decide (w < (List.map I r').length) = true) (ap ((by simp) : some (0 + w) = some w) an)) (S_a [(7, .root (PV.own 1 (List.map I (r'.set w (-1)))) true)] (ap (wa_at (getm (0) (by omega)) map_set' : writeAt (PV.own 1 (List.map I r')) [] w 0 (PV.int IntKind.i64 (-1)).cells = some (PV.own 1 (List.map I (r'.set w (-1)))) ∧ keptView (PV.own 1 (List.map I r')) (PV.own 1 (List.map I (r'.set w (-1)))) [] = true) an) (S_end (V_region (S_go 1 (S_a [(1, .v (PV.int IntKind.i64 (left' - 1)))] (ap ((wrapE rfl (by omega)) : PV.int IntKind.i64 (IntKind.i64.wrap (left' - 1)) = PV.int IntKind.i64 (left' - 1)) an) (S_go 1 (S_end ?_)))))))))))))))))))))))))))))
    · exact ⟨(m + 1, m), ⟨by omega, by rw [whoTo, ← hw, if_pos k8]⟩, by simp only; omega, by kernel_rfl, by kernel_rfl⟩
    · exact ⟨(m + 1, w), ⟨by omega, by rw [whoTo, ← hw, if_neg k8]⟩, by simp only; omega, by kernel_rfl, by kernel_rfl⟩
    · have hmr : m = r'.length := by omega
      subst hmr
      refine ⟨(k + 1, o'.set w (o'.getD w 0 + 1), r'.set w (-1), left' - 1), ⟨by omega, by omega, ?_⟩, by simp only; omega, by kernel_rfl, by kernel_rfl⟩
      rw [giveN_succ, ← he, hw]
  · have : k = left.toNat := by omega
    rw [this] at he
    rw [← he]
end
end Go.Eng
namespace Go.Eng
open Go Go.Proofs
structure Rnd where
  w : Int
  s : Int
  may : List Int
  deriving Inhabited
abbrev rndV (r : Rnd) : PV := .agg [I r.w, I r.s, ints r.may]
structure Dk where
  cr : Int
  wd : Int
  st : Int
  fn : Int
  rs : List Rnd
abbrev boxV (b : Dk) : PV := .agg [I b.cr, I b.wd, I b.st, I b.fn, .sl (b.rs.map rndV)]
abbrev deskV (b : Dk) (fee : List Int) : PV := .agg [I b.cr, I b.wd, I b.st, I b.fn, .sl (b.rs.map rndV), ints fee]
def has (l : List Int) (v : Int) : Bool := l.any fun x => decide (v = x)
def rnd (b : Dk) (r : Nat) : Rnd := b.rs.getD r default
def Small (b : Dk) : Prop := b.rs.length < 4294967296 ∧ ∀ r ∈ b.rs, r.may.length < 4294967296
section
variable [Yo]
theorem f128 (l : List Int) (v : Int) (hl : l.length < 4294967296) : FG 128 [ints l, I v] (I (idxF (fun x => decide (v = x)) l)) := by
  refine gives_ofX Try.f128 ?_
  refine V_seq (V_region (S_go 1 (S_end (V_seq (V_seq (V_region (S_go 1 (S_a [(0, .n (l.length))] (ap ((by simp) : some (List.map I l).length = some l.length) an) (S_go 1 (S_end (V_block 0 ?_)))))))))))
  refine V_loopS (fun i => i ≤ l.length ∧ ∀ j, j < i → (fun x => decide (v = x)) (l.getD j 0) = false) (fun i => [(8, I (i : Nat))]) (fun i => l.length - i) (0 : Nat) (by simp) fun i ⟨hi, ha⟩ => ?_
  refine V_seq (V_region (S_go 1 (S_end (V_seq (V_dec ((↑i : Int) < (↑l.length : Int)) (fun k0 => (V_skip (V_seq (V_block 1 (V_seq (V_region (S_go 2 (S_end (V_seq (V_region (S_go 3 (S_a [(2, .v (PV.int IntKind.i64 (l.getD i 0)))] (ap (getm (0) (by omega) : (List.map I l)[i]? = some (PV.int IntKind.i64 (l.getD i 0))) an) (S_go 2 (S_end (V_dec (v = l.getD i 0) (fun k1 => (V_seq (V_region (S_go 2 (S_end (V_ret (E_a [] an (PV.int IntKind.i64 (↑i : Int)) ([]) ?_ rfl))))))) (fun k1 => (V_skip (V_region (S_a [(1, .v (PV.int IntKind.i64 (↑(i + 1) : Int)))] (ap ((wrapE (by omega) (by omega)) : PV.int IntKind.i64 (IntKind.i64.wrap ((↑i : Int) + 1)) = PV.int IntKind.i64 (↑(i + 1) : Int)) an) (S_go 1 (S_end ?_))))))))))))))))))))) (fun k0 => (V_exit 0 (V_seq (V_region (S_go 1 (S_end (V_ret (E_a [] an (PV.int IntKind.i64 (-1)) ([]) ?_ rfl)))))))))))))
  · rw [idxF_found (i := i) (by omega) (fun j hj => by rw [← getD_lt (d := 0)]; exact ha j hj) (by rw [← getD_lt (d := 0)]; exact decide_eq_true (by assumption))]
  · refine ⟨i + 1, ⟨by omega, fun j hj => ?_⟩, by omega, by kernel_rfl, by kernel_rfl⟩
    rcases Nat.lt_succ_iff_lt_or_eq.1 hj with h | rfl
    · exact ha j h
    · exact decide_eq_false (by assumption)
  · rw [idxF_none fun j hj => by rw [← getD_lt (d := 0)]; exact ha j (by omega)]
theorem f87 (l : List Int) (v : Int) (hl : l.length < 4294967296) : FG 87 [ints l, I v] (.bool (has l v)) := by
  refine gives_ofX Try.f87 ?_
  refine V_seq (V_region (S_go 1 (S_end (V_seq (V_region (S_go 2 (S_a [(8, .ret (I (idxF (fun x => decide (v = x)) l)) ([]))] (ap (f128 (l) (v) (by omega)) an) (S_go 2 (S_end (V_ret (E_a [] an (PV.bool (decide (idxF (fun x => decide (v = x)) l ≥ 0))) ([]) ?_ rfl)))))))))))
  rw [idxF_ge]; rfl
theorem f98 (b : Dk) (fee : List Int) (c : Int) (r : Nat) (hr : r < b.rs.length) (hb : Small b) : FG 98 [.ref (deskV b fee), I c, I r] (.bool (has (rnd b r).may c)) := by
  refine gives_ofX Try.f98 ?_
  have hm : (b.rs.getD r default).may.length < 4294967296 := hb.2 _ (by rw [getD_lt hr]; exact List.getElem_mem _)
  refine V_seq (V_region (S_go 1 (S_end (V_seq (V_region (S_go 6 (S_a [(2, .v (PV.agg [PV.int IntKind.i64 (b.rs.getD r default).w, PV.int IntKind.i64 (b.rs.getD r default).s, PV.sl (List.map I (b.rs.getD r default).may)]))] (ap (getm (default) (by omega) : (List.map rndV b.rs)[r]? = some (PV.agg [PV.int IntKind.i64 (b.rs.getD r default).w, PV.int IntKind.i64 (b.rs.getD r default).s, PV.sl (List.map I (b.rs.getD r default).may)])) an) (S_go 3 (S_a [(8, .ret (PV.bool (has (b.rs.getD r default).may c)) ([]))] (ap (f87 ((b.rs.getD r default).may) (c) (by omega)) an) (S_go 1 (S_end (V_ret (E_a [] an (PV.bool (has (b.rs.getD r default).may c)) ([]) rfl rfl)))))))))))))
end
def mvOk (b : Dk) (fee f share : List Int) (r t : Nat) : Bool := decide ((t : Int) ≠ share.getD r 0) && (has (rnd b r).may t && decide (f.getD t 0 + fee.getD r 0 < f.getD (share.getD r 0).toNat 0))
def mvRow (b : Dk) (fee f share : List Int) (r n : Nat) : List (Nat × Nat) := ((List.range n).filter (mvOk b fee f share r)).map fun t => (r, t)
def mvs (b : Dk) (fee f share : List Int) (n : Nat) : List (Nat × Nat) := (List.range n).flatMap fun r => mvRow b fee f share r b.cr.toNat
abbrev mvV (m : Nat × Nat) : PV := .agg [I m.1, I m.2]
abbrev mvCaps (b : Dk) (fee f share : List Int) : List PV := [.ref (ints share), .ref (.ref (deskV b fee)), .ref (.func 98 [.ref (deskV b fee)] []), .ref (.agg (f.map I))]
structure MvOk (b : Dk) (fee f share : List Int) : Prop where
  hsm : Small b
  hcr : 0 ≤ b.cr ∧ b.cr ≤ 4
  hf : f.length = 4
  hfee : fee.length = b.rs.length
  hshare : share.length = b.rs.length
  hsh : ∀ x ∈ share, 0 ≤ x ∧ x < 4
  hfb : ∀ i, -1000000 ≤ f.getD i 0 ∧ f.getD i 0 ≤ 1000000
  hfeeb : ∀ i, -1000000 ≤ fee.getD i 0 ∧ fee.getD i 0 ≤ 1000000
abbrev mvLog (b : Dk) (fee f share : List Int) (n : Nat) : List (List PV) := (mvs b fee f share n).map fun m => [mvV m]
theorem mvRow_succ {b : Dk} {fee f share : List Int} {r t : Nat} : mvRow b fee f share r (t + 1) = mvRow b fee f share r t ++ if mvOk b fee f share r t then [(r, t)] else [] := by
  simp only [mvRow, List.range_succ, List.filter_append, List.map_append]
  congr 1
  cases h : mvOk b fee f share r t <;> simp [h]
theorem mvs_succ {b : Dk} {fee f share : List Int} {r : Nat} : mvs b fee f share (r + 1) = mvs b fee f share r ++ mvRow b fee f share r b.cr.toNat := by
  simp only [mvs, List.range_succ, List.flatMap_append]; simp
theorem mvRow_pre {b : Dk} {fee f share : List Int} {r t n : Nat} (h : t ≤ n) : mvRow b fee f share r t <+: mvRow b fee f share r n := by
  induction h with
  | refl => exact List.prefix_refl _
  | step _ ih => rw [mvRow_succ]; exact ih.trans (List.prefix_append _ _)
theorem mvs_pre {b : Dk} {fee f share : List Int} {t n : Nat} (h : t ≤ n) : mvs b fee f share t <+: mvs b fee f share n := by
  induction h with
  | refl => exact List.prefix_refl _
  | step _ ih => rw [mvs_succ]; exact ih.trans (List.prefix_append _ _)
theorem mv_pre {b : Dk} {fee f share : List Int} {r t n : Nat} (hr : r < n) (ht : t ≤ b.cr.toNat) : mvs b fee f share r ++ mvRow b fee f share r t <+: mvs b fee f share n := by
  refine List.IsPrefix.trans ?_ (mvs_pre (Nat.succ_le_of_lt hr))
  rw [Nat.succ_eq_add_one, mvs_succ]
  exact (List.prefix_append_right_inj _).2 (mvRow_pre ht)
theorem pre_take {α : Type} {x y : List α} (h : x <+: y) {k : Int} (hk : k = x.length) : x = y.take k.toNat := by
  rw [hk, Int.toNat_natCast]; exact List.prefix_iff_eq_take.1 h
set_option maxRecDepth 10000 in
set_option maxHeartbeats 4000000 in
theorem f130w [Yo] {b : Dk} {fee f share : List Int} (h : MvOk b fee f share) (k : Int) (hk : k = -1 ∨ 1 ≤ k ∧ k ≤ (mvs b fee f share share.length).length) (i : Nat) : W Try.prog feeH 130 Try.f130.ntmps (Try.f130.body.getD .ret) (enterEnv ([] ++ PV.yld i :: mvCaps b fee f share) []) (some ⟨[], k, i⟩) fun x _ lg => (x = .norm ∨ x = .ret) ∧ lg.map (·.xs) = some (if k = -1 then mvLog b fee f share share.length else (mvLog b fee f share share.length).take k.toNat) := by
  obtain ⟨h1, h2, h3, h4, h5, h6, h7, h8⟩ := h
  have h1a := h1.1
  refine V_seq (V_region (S_go 1 (S_a [(0, .n (share.length))] (ap ((by simp) : some (List.map I share).length = some share.length) an) (S_go 1 (S_end (V_block 0 ?_))))))
  refine V_loopL (fun (r, xs, kc) => r ≤ share.length ∧ xs = mvLog b fee f share r ∧ kc = k - xs.length ∧ (k = -1 ∨ 1 ≤ kc)) (fun (r, _, _) => [(11, I (r : Nat))]) (fun (_, xs, kc) => some ⟨xs, kc, i⟩) (fun (r, _, _) => share.length - r) ((0 : Nat), ([] : List (List PV)), k) ⟨Nat.zero_le _, rfl, by simp, by omega⟩ fun (r, xs, kc) ⟨hr, hxs, hkc, hk1⟩ => ?_
  refine V_seq (V_region (S_go 1 (S_end (V_seq (V_dec ((↑r : Int) < (↑share.length : Int)) (fun k2 => (V_skip (V_seq (V_block 1 (V_seq (V_region (S_go 1 (S_a [(2, .v (PV.int IntKind.i64 (share.getD r 0)))] (ap (getm (0) (by omega) : (List.map I share)[r]? = some (PV.int IntKind.i64 (share.getD r 0))) an) (S_go 3 (S_end (V_seq (V_region (S_go 6 (S_end (V_block 2 ?_))))))))))))))) (fun k2 => (V_exit 0 ?_)))))))
  · refine V_loopL (fun (t, ys, kd) => t ≤ b.cr.toNat ∧ ys = xs ++ (mvRow b fee f share r t).map (fun m => [mvV m]) ∧ kd = k - ys.length ∧ (k = -1 ∨ 1 ≤ kd)) (fun (t, _, _) => [(21, I (t : Nat))]) (fun (_, ys, kd) => some ⟨ys, kd, i⟩) (fun (t, _, _) => b.cr.toNat - t) ((0 : Nat), xs, kc) ⟨Nat.zero_le _, by simp [mvRow], hkc, hk1⟩ fun (t, ys, kd) ⟨ht, hys, hkd, hk2⟩ => ?_
    have hshr := h6 (share.getD r 0) (by rw [getD_lt (by omega)]; exact List.getElem_mem _)
    have hf1 := h7 t
    have hf2 := h8 r
    have hpre := mv_pre (b := b) (fee := fee) (f := f) (share := share) (r := r) (t := t + 1) (n := share.length)
    have hno : mvOk b fee f share r t = false → ys = xs ++ (mvRow b fee f share r (t + 1)).map (fun m => [mvV m]) := fun h => by rw [mvRow_succ, h, hys]; simp
    refine V_seq (V_region (S_go 1 (S_end (V_seq (V_dec ((↑t : Int) < b.cr) (fun k4 => (V_skip (V_seq (V_block 3 (V_seq (V_region (S_go 2 (S_end (V_seq (V_region (S_go 4 (S_ndec 27 ((↑t : Int) = share.getD r 0) (fun k5 => (S_go 3 (S_a [(9, .ret (PV.bool (has (rnd b r).may (↑t : Int))) ([]))] (ap (f98 (b) (fee) ((↑t : Int)) (r) (by first | omega | (simp <;> omega)) (by omega)) an) (S_go 2 (S_case 33 (has (rnd b r).may (↑t : Int)) (fun k6 => (S_go 1 (S_a [(2, .ob), (0, .v ((PV.int IntKind.i64 (f.getD t 0)).ref))] (ap ((by exact dec_of (by omega)) : decide (t < 4) = true) (ap (sa_arrM (i := t) (by omega) (0) : stepAddr (PV.agg (List.map I f)).ref (t * (fun x => x.size) Try.prog.types[3]) none = some (PV.int IntKind.i64 (f.getD t 0)).ref) an)) (S_go 6 (S_a [(2, .v (PV.int IntKind.i64 (fee.getD r 0)))] (ap (getm (0) (by omega) : (List.map I fee)[r]? = some (PV.int IntKind.i64 (fee.getD r 0))) an) (S_go 1 (S_a [(1, .v (PV.int IntKind.i64 (f.getD t 0 + fee.getD r 0)))] (ap ((wrapE rfl (by omega)) : PV.int IntKind.i64 (IntKind.i64.wrap (f.getD t 0 + fee.getD r 0)) = PV.int IntKind.i64 (f.getD t 0 + fee.getD r 0)) an) (S_go 1 (S_a [(0, .ob), (1, .ob), (0, .v ((PV.int IntKind.i64 (f.getD (share.getD r 0).toNat 0)).ref))] (ap ((by exact dec_of (by omega)) : decide (0 ≤ share.getD r 0) = true) (ap ((by exact dec_of (by omega)) : decide ((share.getD r 0).toNat < 4) = true) (ap (sa_arrM (i := (share.getD r 0).toNat) (by omega) (0) : stepAddr (PV.agg (List.map I f)).ref ((share.getD r 0).toNat * (fun x => x.size) Try.prog.types[3]) none = some (PV.int IntKind.i64 (f.getD (share.getD r 0).toNat 0)).ref) an))) (S_go 4 (S_dec 50 (f.getD t 0 + fee.getD r 0 < f.getD (share.getD r 0).toNat 0) (fun k7 => (S_go 4 ?_)) (fun k7 => (S_go 7 (S_end (V_false (V_skip (V_region (S_a [(1, .v (PV.int IntKind.i64 (↑(t + 1) : Int)))] (ap ((wrapE (by omega) (by omega)) : PV.int IntKind.i64 (IntKind.i64.wrap ((↑t : Int) + 1)) = PV.int IntKind.i64 (↑(t + 1) : Int)) an) (S_go 1 (S_end ?_)))))))))))))))))))) (fun k6 => (S_go 24 (S_end (V_false (V_skip (V_region (S_a [(1, .v (PV.int IntKind.i64 (↑(t + 1) : Int)))] (ap ((wrapE (by omega) (by omega)) : PV.int IntKind.i64 (IntKind.i64.wrap ((↑t : Int) + 1)) = PV.int IntKind.i64 (↑(t + 1) : Int)) an) (S_go 1 (S_end ?_)))))))))))))) (fun k5 => (S_go 30 (S_end (V_false (V_skip (V_region (S_a [(1, .v (PV.int IntKind.i64 (↑(t + 1) : Int)))] (ap ((wrapE (by omega) (by omega)) : PV.int IntKind.i64 (IntKind.i64.wrap ((↑t : Int) + 1)) = PV.int IntKind.i64 (↑(t + 1) : Int)) an) (S_go 1 (S_end ?_))))))))))))))))))))) (fun k4 => (V_exit 2 (V_region (S_a [(1, .v (PV.int IntKind.i64 (↑(r + 1) : Int)))] (ap ((wrapE (by omega) (by omega)) : PV.int IntKind.i64 (IntKind.i64.wrap ((↑r : Int) + 1)) = PV.int IntKind.i64 (↑(r + 1) : Int)) an) (S_go 1 (S_end ?_)))))))))))
    · have hok : mvOk b fee f share r t = true := by simp only [mvOk, k6, decide_eq_true k5, decide_eq_true k7]; rfl
      have hys' : ys ++ [[mvV (r, t)]] = xs ++ (mvRow b fee f share r (t + 1)).map (fun m => [mvV m]) := by rw [mvRow_succ, hok, hys]; simp
      have hpre' : ys ++ [[mvV (r, t)]] <+: mvLog b fee f share share.length := by
        have := (hpre (by omega) (by omega)).map (fun m => [mvV m])
        rw [List.map_append] at this
        rw [hys', hxs]; exact this
      refine S_yield kd ys [mvV (r, t)] i (fun hk3 => ?_) (fun hk3 => ?_) (by omega)
      · refine S_go 2 (S_end (V_true (V_ret ?_)))
        refine ⟨.inr rfl, ?_⟩
        have hkk : k = (ys ++ [[mvV (r, t)]]).length := by simp; omega
        have hk1 : ¬ k = -1 := by omega
        rw [if_neg hk1, ← pre_take hpre' hkk]; show Option.map _ _ = _; kernel_rfl
      · refine S_go 2 (S_end (V_false (V_skip (V_region (S_a [(1, .v (PV.int IntKind.i64 (↑(t + 1) : Int)))] (ap ((wrapE (by omega) (by omega)) : PV.int IntKind.i64 (IntKind.i64.wrap ((↑t : Int) + 1)) = PV.int IntKind.i64 (↑(t + 1) : Int)) an) (S_go 1 (S_end ?_)))))))
        exact ⟨(t + 1, ys ++ [[mvV (r, t)]], kd - 1), ⟨by omega, hys', by simp; omega, by omega⟩, by simp only; omega, by kernel_rfl, by kernel_rfl⟩
    · refine ⟨(t + 1, ys, kd), ⟨by omega, hno (by simp only [mvOk, k6, decide_eq_false k7]; simp), hkd, hk2⟩, by simp only; omega, by kernel_rfl, by kernel_rfl⟩
    · refine ⟨(t + 1, ys, kd), ⟨by omega, hno (by simp only [mvOk, k6]; simp), hkd, hk2⟩, by simp only; omega, by kernel_rfl, by kernel_rfl⟩
    · refine ⟨(t + 1, ys, kd), ⟨by omega, hno (by simp only [mvOk, k5]; simp), hkd, hk2⟩, by simp only; omega, by kernel_rfl, by kernel_rfl⟩
    · have htc : t = b.cr.toNat := by omega
      refine ⟨(r + 1, ys, kd), ⟨by omega, ?_, hkd, hk2⟩, by simp only; omega, by kernel_rfl, by kernel_rfl⟩
      rw [hys, hxs, mvLog, mvLog, mvs_succ, htc, List.map_append]
  have hrl : r = share.length := by omega
  refine ⟨.inl rfl, ?_⟩
  subst hrl
  have hlen : xs.length = (mvs b fee f share share.length).length := by rw [hxs]; simp
  have hk1 : k = -1 := by omega
  rw [if_pos hk1, ← hxs]; show Option.map _ _ = _; kernel_rfl
theorem f130h {b : Dk} {fee f share : List Int} (h : MvOk b fee f share) (k : Int) (hk : k = -1 ∨ 1 ≤ k ∧ k ≤ (mvs b fee f share share.length).length) : @Hands (yo1 Try.prog feeH) 130 [] (mvCaps b fee f share) k (if k = -1 then mvLog b fee f share share.length else (mvLog b fee f share share.length).take k.toNat) :=
  hands_of Try.f130 (fun i => @f130w yo0 _ _ _ _ h k hk i) (by omega)
end Go.Eng
set_option maxRecDepth 10000
namespace Go.Eng
open Go Go.Proofs
abbrev four : Dk := ⟨2, 1, 2, 2, [⟨4, 2, [0, 1]⟩, ⟨3, 1, [0, 1]⟩, ⟨8, 1, [0, 1]⟩, ⟨1, 1, [1]⟩]⟩
abbrev fee4 : List Int := [12, 5, 10, 3]
section
variable [Yo]
theorem f88x : Gives Try.prog feeH 88 [boxV four, ints [0,0,0,1]] [] (.tup [.box (.agg [I 2, I 1, I 2, I 2, .sl (four.rs.map rndV), .own 1 (fee4.map I)]), I 0]) [] := Gives.closed 400
theorem f93x : Gives Try.prog feeH 93 [.ref (deskV four fee4), .bor 50000000 [(0, 0)] 1 0 4] [.box (.own 1 [I 0, I 0, I 0, I 1])] (.func 130 [] (.ref (.bor 50000000 [(0, 0)] 1 0 4) :: (mvCaps four fee4 [27, 3, 0, 0] []).tail)) [.box (.own 1 [I 0, I 0, I 0, I 1])] := Gives.closed 400
theorem f93y : Gives Try.prog feeH 93 [.ref (deskV four fee4), .bor 50000000 [(0, 0)] 1 0 4] [.box (.own 1 [I 1, I 0, I 0, I 1])] (.func 130 [] (.ref (.bor 50000000 [(0, 0)] 1 0 4) :: (mvCaps four fee4 [15, 15, 0, 0] []).tail)) [.box (.own 1 [I 1, I 0, I 0, I 1])] := Gives.closed 400
theorem f36w (hx : HandsAll 130 [] (mvCaps four fee4 [27, 3, 0, 0] [0,0,0,1]) [[mvV (0, 1)], [mvV (1, 1)], [mvV (2, 1)]]) (hy : HandsAll 130 [] (mvCaps four fee4 [15, 15, 0, 0] [1,0,0,1]) []) : Gives Try.prog feeH 36 [boxV four, ints [0,0,0,1]] [] (.tup [.own 1 [I 1, I 0, I 0, I 1], I 1, I 0]) [] := by
  refine gives_ofX Try.f36 ?_
  refine V_seq (V_region (S_go 4 (S_end (V_seq (V_region (S_go 2 (S_a [(8, .ret (PV.tup [(PV.agg [I 2, I 1, I 2, I 2, PV.sl (List.map rndV four.rs), PV.own 1 (List.map I fee4)]).box, I 0]) ([]))] (ap (f88x) an) (S_go 5 (S_end (V_seq (V_seq (V_region (S_go 2 (S_end (V_false (V_skip (V_seq (V_region (S_go 1 (S_go 1 (S_go 3 (S_end (V_seq (V_region (S_go 1 (S_go 1 ?_))))))))))))))))))))))))))
  refine S_go 1 (S_end ?_)
  refine V_seq (V_region (S_go 1 (S_end (V_block 0 ?_))))
  refine V_loopS (fun (n, sh, d) => n = 0 ∧ sh = [0,0,0,1] ∧ d = .box (.agg [I 2, I 1, I 2, I 2, .sl (four.rs.map rndV), .own 1 (fee4.map I)]) ∨ n = 1 ∧ sh = [1,0,0,1] ∧ d = .ref (deskV four fee4)) (fun (n, sh, d) => [(7, d), (9, .box (.own 1 (sh.map I))), (10, I (n : Nat))]) (fun (n, _, _) => 2 - n) ((0 : Nat), ([0,0,0,1] : List Int), PV.box (.agg [I 2, I 1, I 2, I 2, .sl (four.rs.map rndV), .own 1 (fee4.map I)])) (.inl ⟨rfl, rfl, rfl⟩) fun (n, sh, d) h => ?_
  rcases h with ⟨rfl, rfl, rfl⟩ | ⟨rfl, rfl, rfl⟩
  · refine V_seq (V_block 1 (V_scope (V_seq (V_region (S_go 2 (S_end (V_seq (V_label (V_seq (V_seq (V_region (S_go 1 (S_go 1 (S_a [(10, .ret (PV.func 130 [] ((PV.bor 50000000 [(0, 0)] 1 0 4).ref :: (mvCaps four fee4 [27, 3, 0, 0] []).tail)) ([(PV.own 1 [I 0, I 0, I 0, I 1]).box])), (6, .ret (PV.func 130 [] ((PV.bor 50000000 [(0, 0)] 1 0 4).ref :: (mvCaps four fee4 [27, 3, 0, 0] []).tail)) ([(PV.own 1 [I 0, I 0, I 0, I 1]).box]))] (ap (f93x) (ap (f93x) an)) (S_end (V_block 2 ?_))))))))))))))))
    refine V_rangeRg (t := 32) (R := [9]) hx ?_
    simp only [Rg]
    refine Round_mk ?_
    refine V_region (S_go 2 (S_end ?_))
    refine ⟨rfl, by kernel_rfl, ?_⟩
    refine V_block 3 (V_seq (V_region (S_go 1 (S_go 4 (S_go 1 (S_go 2 (S_end (V_exit 2 ?_))))))))
    refine ⟨by kernel_rfl, ?_⟩
    refine V_seq (V_region (S_go 2 (S_end (V_false (V_skip (V_region (S_go 3 (S_end ?_))))))))
    exact ⟨(1, [1,0,0,1], .ref (deskV four fee4)), .inr ⟨rfl, rfl, rfl⟩, by decide, by kernel_rfl, by kernel_rfl⟩
  · refine V_seq (V_block 1 (V_scope (V_seq (V_region (S_go 2 (S_end (V_seq (V_label (V_seq (V_seq (V_region (S_go 1 (S_go 1 (S_a [(5, .ret (PV.func 130 [] ((PV.bor 50000000 [(0, 0)] 1 0 4).ref :: (mvCaps four fee4 [15, 15, 0, 0] []).tail)) ([(PV.own 1 [I 1, I 0, I 0, I 1]).box]))] (ap (f93y) an) (S_end (V_block 2 ?_))))))))))))))))
    refine V_rangeRg (t := 32) (R := [9]) hy ?_
    simp only [Rg]
    refine V_seq (V_region (S_go 2 (S_end (V_true (V_seq (V_region (S_go 1 (S_go 4 (S_end (V_ret (E_a [] an (PV.tup [PV.own 1 [PV.int IntKind.i64 1, PV.int IntKind.i64 0, PV.int IntKind.i64 0, PV.int IntKind.i64 1], PV.int IntKind.i64 (↑1 : Int), PV.int IntKind.i64 0]) ([]) rfl rfl)))))))))))
end
noncomputable instance feeYo : Yo := yo1 Try.prog feeH
theorem four_ok {f share : List Int} (hf : f.length = 4) (hs : share.length = 4) (h1 : share.all (fun x => decide (0 ≤ x ∧ x < 4)) = true) (h2 : f.all (fun x => decide (-1000000 ≤ x ∧ x ≤ 1000000)) = true) : MvOk four fee4 f share := by
  refine ⟨⟨by decide, by decide⟩, by decide, hf, rfl, hs, fun x hx => by simpa using List.all_eq_true.1 h1 x hx, fun i => ?_, fun i => ?_⟩
  · rcases Nat.lt_or_ge i f.length with h | h
    · rw [getD_lt h]; simpa using List.all_eq_true.1 h2 _ (List.getElem_mem h)
    · rw [List.getD_eq_getElem?_getD, List.getElem?_eq_none h]; simp
  · rcases Nat.lt_or_ge i 4 with h | h
    · match i, h with
      | 0, _ => decide
      | 1, _ => decide
      | 2, _ => decide
      | 3, _ => decide
    · rw [List.getD_eq_getElem?_getD, List.getElem?_eq_none h]; simp
theorem f130a {b : Dk} {fee f share : List Int} (h : MvOk b fee f share) : HandsAll 130 [] (mvCaps b fee f share) (mvLog b fee f share share.length) := by
  refine ⟨?_, fun j h1 h2 => ?_⟩
  · have := f130h h (-1) (.inl rfl)
    rwa [if_pos rfl] at this
  · have := f130h h (j : Int) (.inr ⟨by omega, by simpa using h2⟩)
    rw [if_neg (by omega)] at this
    exact this
theorem f36x : Gives Try.prog feeH 36 [boxV four, ints [0,0,0,1]] [] (.tup [.own 1 [I 1, I 0, I 0, I 1], I 1, I 0]) [] := by
  refine f36w ?_ ?_
  · exact f130a (four_ok rfl rfl (by decide) (by decide))
  · exact f130a (four_ok rfl rfl (by decide) (by decide))
end Go.Eng
namespace Go.Eng
open Go Go.Proofs
def bal5 : List Int := [5,-2,-3,4,-4]
abbrev ad (j : Nat) : PV := .addr (50000000 + j) [] 0 0 none
abbrev putB : PV := .box (.func 135 [] [ad 0, ad 1, ad 2, ad 3])
abbrev oints (l : List Int) : PV := .own 1 (l.map I)
abbrev rows (l : List (List Int)) : PV := .own 1 (l.map oints)
abbrev putE (i : Nat) (now out out' : List (List Int)) : Entry := ⟨135, [I (i : Nat), ad 0, ad 1, ad 2, ad 3], [.box (ints bal5), putB, .box (rows now), .box (rows out)], .tup [], [.box (ints bal5), putB, .box (rows now), .box (rows out')]⟩
abbrev puts (i : Nat) (now out out' : List (List Int)) : Prop := ∀ [Yo], AllT Try.prog feeH [putE i now out out']
theorem g3_012x : puts 3 [[0, 1, 2]] [] [[0, 1, 2], [3, 4]] := ⟨Gives.closed 400, trivial⟩
theorem g3_01x2x : puts 3 [[0, 1], [2]] [[0, 1, 2], [3, 4]] [[0, 1, 2], [3, 4]] := ⟨Gives.closed 400, trivial⟩
theorem g3_02x1x : puts 3 [[0, 2], [1]] [[0, 1, 2], [3, 4]] [[0, 1, 2], [3, 4]] := ⟨Gives.closed 400, trivial⟩
theorem g3_0x12x : puts 3 [[0], [1, 2]] [[0, 1, 2], [3, 4]] [[0, 1, 2], [3, 4]] := ⟨Gives.closed 400, trivial⟩
theorem g3_0x1x2x : puts 3 [[0], [1], [2]] [[0, 1, 2], [3, 4]] [[0, 1, 2], [3, 4]] := ⟨Gives.closed 400, trivial⟩
theorem g0_ : puts 0 [] [] [[0, 1, 2], [3, 4]] := ⟨Gives.table ([putE 3 [[0, 1, 2]] [] [[0, 1, 2], [3, 4]], putE 3 [[0, 1], [2]] [[0, 1, 2], [3, 4]] [[0, 1, 2], [3, 4]], putE 3 [[0, 2], [1]] [[0, 1, 2], [3, 4]] [[0, 1, 2], [3, 4]], putE 3 [[0], [1, 2]] [[0, 1, 2], [3, 4]] [[0, 1, 2], [3, 4]], putE 3 [[0], [1], [2]] [[0, 1, 2], [3, 4]] [[0, 1, 2], [3, 4]]]) ⟨g3_012x.1, g3_01x2x.1, g3_02x1x.1, g3_0x12x.1, g3_0x1x2x.1, trivial⟩ 400, trivial⟩
theorem f49x [Yo] : Gives Try.prog feeH 49 [ints bal5] [] (.tup [rows [[0, 1, 2], [3, 4]], I 0]) [] := Gives.table [putE 0 [] [] [[0, 1, 2], [3, 4]]] ⟨g0_.1, trivial⟩ 400
end Go.Eng
set_option maxRecDepth 10000
namespace Go.Eng
open Go Go.Proofs
section
variable [Yo]
theorem f26x : Gives Try.prog feeH 26 [boxV four, ints [1,0,0,1], ints [4,10]] [] (.tup [.own 1 [I 7, I 0], I 23, I 0]) [] := Gives.closed 400
theorem f41x : Gives Try.prog feeH 41 [boxV four] [] (.tup [.own 1 [I 1, I 0, I 0, I 1], I 15, I 0]) [] := Gives.closed 400
theorem f34x : Gives Try.prog feeH 34 [boxV four, ints [0,0,1,1]] [] (.tup [.own 2 [.agg [I 0, I 2]], I 0]) [] := Gives.closed 400
theorem f69x : Gives Try.prog feeH 69 [boxV four, ints [3,0]] [] (.tup [I 8, I 0]) [] := Gives.closed 400
theorem f18x : Gives Try.prog feeH 18 [I 10, ints [5,3,1]] [] (.tup [.own 1 [I 6, I 3, I 1], I 0]) [] := Gives.closed 400
end
abbrev awakeT : List Entry := [
  ⟨36, [boxV four, ints [0,0,0,1]], [], .tup [.own 1 [I 1, I 0, I 0, I 1], I 1, I 0], []⟩,
  ⟨41, [boxV four], [], .tup [.own 1 [I 1, I 0, I 0, I 1], I 15, I 0], []⟩,
  ⟨34, [boxV four, ints [0,0,1,1]], [], .tup [.own 2 [.agg [I 0, I 2]], I 0], []⟩,
  ⟨26, [boxV four, ints [1,0,0,1], ints [4,10]], [], .tup [.own 1 [I 7, I 0], I 23, I 0], []⟩,
  ⟨69, [boxV four, ints [3,0]], [], .tup [I 8, I 0], []⟩,
  ⟨18, [I 10, ints [5,3,1]], [], .tup [.own 1 [I 6, I 3, I 1], I 0], []⟩,
  ⟨49, [ints bal5], [], .tup [rows [[0, 1, 2], [3, 4]], I 0], []⟩]
theorem f16 : Gives Try.prog feeH 16 [] [] (.bool true) [] := Gives.table awakeT ⟨f36x, f41x, f34x, f26x, f69x, f18x, f49x, trivial⟩ 400
end Go.Eng
namespace Go.Eng
open Go Go.Proofs
abbrev u8 (n : Int) : PV := .int .u8 n
abbrev u32 (n : Int) : PV := .int .u32 n
abbrev bellV (l : List Int) (a : Nat) (t : Int) : PV := .box (.agg [.sl (l.map u8), I a, u32 t])
abbrev bellW : PV := .addr 50000000 [] 0 0 (some 3)
def BellOk (l : List Int) (a : Nat) : Prop := a ≤ l.length ∧ l.length < 9223372036854775808
def ringA0 (l : List Int) (a : Nat) : Nat := if a = l.length then 0 else a
def ringT (l : List Int) (a : Nat) (t : Int) : Int := if a = l.length then IntKind.u32.wrap (t + 1) else t
def ringA (l : List Int) (a : Nat) : Nat := if 0 < l.length then ringA0 l a + 1 else ringA0 l a
theorem ringA_ok {l : List Int} {a : Nat} (h : BellOk l a) : BellOk l (ringA l a) := by
  obtain ⟨h1, h2⟩ := h
  refine ⟨?_, h2⟩
  unfold ringA ringA0
  repeat' split
  all_goals omega
def bellN (n : Int) : Int := IntKind.u32.wrap ↑(BitVec.ofInt IntKind.u32.bits (IntKind.u32.wrap ↑(BitVec.ofInt IntKind.u32.bits n ^^^ BitVec.ofInt IntKind.u32.bits (n.fdiv (2 ^ min (Int.toNat 7) IntKind.u32.bits))).toNat) &&& BitVec.ofInt IntKind.u32.bits 65535).toNat
theorem bellN_bd (n : Int) : 0 ≤ bellN n ∧ bellN n ≤ 65535 := by
  unfold bellN
  generalize BitVec.ofInt IntKind.u32.bits (IntKind.u32.wrap ↑(BitVec.ofInt IntKind.u32.bits n ^^^ BitVec.ofInt IntKind.u32.bits (n.fdiv (2 ^ min (Int.toNat 7) IntKind.u32.bits))).toNat) = x
  have h : (x &&& BitVec.ofInt IntKind.u32.bits 65535).toNat ≤ 65535 := by
    rw [BitVec.toNat_and]
    exact Nat.le_trans Nat.and_le_right (by decide)
  generalize (x &&& BitVec.ofInt IntKind.u32.bits 65535).toNat = m at h
  have : IntKind.u32.wrap (m : Int) = m := by
    simp only [IntKind.wrap]
    simp [IntKind.signed, IntKind.bits]
    omega
  rw [this]; omega
def ringN (l : List Int) (a : Nat) (t : Int) : Int := bellN (if 0 < l.length then IntKind.u32.wrap (IntKind.u32.wrap (30011 * ringT l a t) + IntKind.u32.wrap (263 * IntKind.u32.wrap (l.getD (ringA0 l a) 0))) else IntKind.u32.wrap (30011 * ringT l a t))
theorem ringN_bd (l : List Int) (a : Nat) (t : Int) : 0 ≤ ringN l a t ∧ ringN l a t ≤ 65535 := bellN_bd _
def strokeN (l : List Int) (a : Nat) (t : Int) (n : Int) : Int := (ringN l a t).tmod (max 1 (n + 1))
theorem strokeN_bd (l : List Int) (a : Nat) (t : Int) (n : Int) : 0 ≤ strokeN l a t n ∧ strokeN l a t n ≤ max 0 n := by
  have h1 := ringN_bd l a t
  have h2 : 0 < max 1 (n + 1) := by omega
  have h3 := Int.tmod_nonneg (max 1 (n + 1)) h1.1
  have h4 := Int.tmod_lt_of_pos (ringN l a t) h2
  unfold strokeN
  omega
section
variable [Yo]
theorem f22 (l : List Int) : FG 22 [.sl (l.map u8)] (bellV l 0 0) := by
  refine gives_ofX Try.f22 ?_
  refine V_seq (V_region (S_go 1 (S_end (V_seq (V_region (S_go 4 (S_end (V_ret (E_a [] an ((PV.agg [PV.sl (List.map u8 l), PV.int IntKind.i64 0, PV.int IntKind.u32 0]).box) ([]) rfl rfl)))))))))
theorem f86 (l : List Int) (a : Nat) (t : Int) (h : BellOk l a) : Gives Try.prog feeH 86 [bellW] [bellV l a t] (I (ringN l a t)) [bellV l (ringA l a) (ringT l a t)] := by
  refine gives_ofX Try.f86 ?_
  have h1 := h.1
  have h2 := h.2
  have hb : ∀ n, -9223372036854775808 ≤ bellN n ∧ bellN n < 9223372036854775808 := fun n => by have := bellN_bd n; omega
  refine V_seq (V_region (S_go 1 (S_end (V_seq (V_seq (V_region (S_go 8 (S_a [(0, .n (l.length))] (ap ((by simp) : some (List.map u8 l).length = some l.length) an) (S_go 1 (S_end (V_dec ((↑a : Int) = (↑l.length : Int)) (fun k0 => (V_region (S_go 6 (S_go 1 (S_go 6 (S_end (V_seq (V_region (S_go 3 (S_go 1 (S_go 1 (S_go 1 (S_end (V_seq (V_seq (V_region (S_go 4 (S_a [(0, .n (l.length))] (ap ((by simp) : some (List.map u8 l).length = some l.length) an) (S_go 1 (S_end (V_dec ((↑l.length : Int) > 0) (fun k1 => (V_seq (V_region (S_go 9 (S_a [(2, .v (PV.int IntKind.u8 (l.getD 0 0)))] (ap (getm (0) (by omega) : (List.map u8 l)[0]? = some (PV.int IntKind.u8 (l.getD 0 0))) an) (S_go 1 (S_go 1 (S_go 1 (S_go 1 (S_go 1 (S_end (V_region (S_go 8 (S_end (V_seq (V_region (S_go 2 (S_go 1 (S_go 1 (S_go 1 (S_a [(0, .v (PV.int IntKind.i64 (IntKind.u32.wrap (↑(BitVec.ofInt IntKind.u32.bits (IntKind.u32.wrap (↑(BitVec.ofInt IntKind.u32.bits (IntKind.u32.wrap (IntKind.u32.wrap (30011 * IntKind.u32.wrap (t + 1)) + IntKind.u32.wrap (263 * IntKind.u32.wrap (l.getD 0 0)))) ^^^ BitVec.ofInt IntKind.u32.bits ((IntKind.u32.wrap (IntKind.u32.wrap (30011 * IntKind.u32.wrap (t + 1)) + IntKind.u32.wrap (263 * IntKind.u32.wrap (l.getD 0 0)))).fdiv (2 ^ min (Int.toNat 7) IntKind.u32.bits))).toNat : Int)) &&& BitVec.ofInt IntKind.u32.bits 65535).toNat : Int))))] (ap ((wrapE rfl ?_) : PV.int IntKind.i64 (IntKind.i64.wrap (IntKind.u32.wrap (↑(BitVec.ofInt IntKind.u32.bits (IntKind.u32.wrap (↑(BitVec.ofInt IntKind.u32.bits (IntKind.u32.wrap (IntKind.u32.wrap (30011 * IntKind.u32.wrap (t + 1)) + IntKind.u32.wrap (263 * IntKind.u32.wrap (l.getD 0 0)))) ^^^ BitVec.ofInt IntKind.u32.bits ((IntKind.u32.wrap (IntKind.u32.wrap (30011 * IntKind.u32.wrap (t + 1)) + IntKind.u32.wrap (263 * IntKind.u32.wrap (l.getD 0 0)))).fdiv (2 ^ min (Int.toNat 7) IntKind.u32.bits))).toNat : Int)) &&& BitVec.ofInt IntKind.u32.bits 65535).toNat : Int))) = PV.int IntKind.i64 (IntKind.u32.wrap (↑(BitVec.ofInt IntKind.u32.bits (IntKind.u32.wrap (↑(BitVec.ofInt IntKind.u32.bits (IntKind.u32.wrap (IntKind.u32.wrap (30011 * IntKind.u32.wrap (t + 1)) + IntKind.u32.wrap (263 * IntKind.u32.wrap (l.getD 0 0)))) ^^^ BitVec.ofInt IntKind.u32.bits ((IntKind.u32.wrap (IntKind.u32.wrap (30011 * IntKind.u32.wrap (t + 1)) + IntKind.u32.wrap (263 * IntKind.u32.wrap (l.getD 0 0)))).fdiv (2 ^ min (Int.toNat 7) IntKind.u32.bits))).toNat : Int)) &&& BitVec.ofInt IntKind.u32.bits 65535).toNat : Int))) an) (S_go 1 (S_end (V_ret (E_a [] an (PV.int IntKind.i64 (IntKind.u32.wrap (↑(BitVec.ofInt IntKind.u32.bits (IntKind.u32.wrap (↑(BitVec.ofInt IntKind.u32.bits (IntKind.u32.wrap (IntKind.u32.wrap (30011 * IntKind.u32.wrap (t + 1)) + IntKind.u32.wrap (263 * IntKind.u32.wrap (l.getD 0 0)))) ^^^ BitVec.ofInt IntKind.u32.bits ((IntKind.u32.wrap (IntKind.u32.wrap (30011 * IntKind.u32.wrap (t + 1)) + IntKind.u32.wrap (263 * IntKind.u32.wrap (l.getD 0 0)))).fdiv (2 ^ min (Int.toNat 7) IntKind.u32.bits))).toNat : Int)) &&& BitVec.ofInt IntKind.u32.bits 65535).toNat : Int))) ([(PV.agg [PV.sl (List.map u8 l), PV.int IntKind.i64 (IntKind.i64.wrap (0 + 1)), PV.int IntKind.u32 (IntKind.u32.wrap (t + 1))]).box]) ?_ ?_))))))))))))))))))))))))) (fun k1 => (V_skip (V_seq (V_region (S_go 2 (S_go 1 (S_go 1 (S_go 1 (S_a [(0, .v (PV.int IntKind.i64 (IntKind.u32.wrap (↑(BitVec.ofInt IntKind.u32.bits (IntKind.u32.wrap (↑(BitVec.ofInt IntKind.u32.bits (IntKind.u32.wrap (30011 * IntKind.u32.wrap (t + 1))) ^^^ BitVec.ofInt IntKind.u32.bits ((IntKind.u32.wrap (30011 * IntKind.u32.wrap (t + 1))).fdiv (2 ^ min (Int.toNat 7) IntKind.u32.bits))).toNat : Int)) &&& BitVec.ofInt IntKind.u32.bits 65535).toNat : Int))))] (ap ((wrapE rfl ?_) : PV.int IntKind.i64 (IntKind.i64.wrap (IntKind.u32.wrap (↑(BitVec.ofInt IntKind.u32.bits (IntKind.u32.wrap (↑(BitVec.ofInt IntKind.u32.bits (IntKind.u32.wrap (30011 * IntKind.u32.wrap (t + 1))) ^^^ BitVec.ofInt IntKind.u32.bits ((IntKind.u32.wrap (30011 * IntKind.u32.wrap (t + 1))).fdiv (2 ^ min (Int.toNat 7) IntKind.u32.bits))).toNat : Int)) &&& BitVec.ofInt IntKind.u32.bits 65535).toNat : Int))) = PV.int IntKind.i64 (IntKind.u32.wrap (↑(BitVec.ofInt IntKind.u32.bits (IntKind.u32.wrap (↑(BitVec.ofInt IntKind.u32.bits (IntKind.u32.wrap (30011 * IntKind.u32.wrap (t + 1))) ^^^ BitVec.ofInt IntKind.u32.bits ((IntKind.u32.wrap (30011 * IntKind.u32.wrap (t + 1))).fdiv (2 ^ min (Int.toNat 7) IntKind.u32.bits))).toNat : Int)) &&& BitVec.ofInt IntKind.u32.bits 65535).toNat : Int))) an) (S_go 1 (S_end (V_ret (E_a [] an (PV.int IntKind.i64 (IntKind.u32.wrap (↑(BitVec.ofInt IntKind.u32.bits (IntKind.u32.wrap (↑(BitVec.ofInt IntKind.u32.bits (IntKind.u32.wrap (30011 * IntKind.u32.wrap (t + 1))) ^^^ BitVec.ofInt IntKind.u32.bits ((IntKind.u32.wrap (30011 * IntKind.u32.wrap (t + 1))).fdiv (2 ^ min (Int.toNat 7) IntKind.u32.bits))).toNat : Int)) &&& BitVec.ofInt IntKind.u32.bits 65535).toNat : Int))) ([(PV.agg [PV.sl (List.map u8 l), PV.int IntKind.i64 0, PV.int IntKind.u32 (IntKind.u32.wrap (t + 1))]).box]) ?_ ?_)))))))))))))))))))))))))))))))))) (fun k0 => (V_skip (V_seq (V_region (S_go 4 (S_go 1 (S_go 1 (S_end (V_seq (V_seq (V_region (S_go 4 (S_a [(0, .n (l.length))] (ap ((by simp) : some (List.map u8 l).length = some l.length) an) (S_go 1 (S_end (V_decT ((↑l.length : Int) > 0) (by omega) (V_seq (V_region (S_go 9 (S_a [(2, .v (PV.int IntKind.u8 (l.getD a 0)))] (ap (getm (0) (by omega) : (List.map u8 l)[a]? = some (PV.int IntKind.u8 (l.getD a 0))) an) (S_go 1 (S_go 1 (S_go 1 (S_go 1 (S_go 1 (S_end (V_region (S_go 4 (S_a [(1, .v (PV.int IntKind.i64 (↑(a + 1) : Int)))] (ap ((wrapE (by omega) (by omega)) : PV.int IntKind.i64 (IntKind.i64.wrap ((↑a : Int) + 1)) = PV.int IntKind.i64 (↑(a + 1) : Int)) an) (S_go 3 (S_end (V_seq (V_region (S_go 2 (S_go 1 (S_go 1 (S_go 1 (S_a [(0, .v (PV.int IntKind.i64 (IntKind.u32.wrap (↑(BitVec.ofInt IntKind.u32.bits (IntKind.u32.wrap (↑(BitVec.ofInt IntKind.u32.bits (IntKind.u32.wrap (IntKind.u32.wrap (30011 * t) + IntKind.u32.wrap (263 * IntKind.u32.wrap (l.getD a 0)))) ^^^ BitVec.ofInt IntKind.u32.bits ((IntKind.u32.wrap (IntKind.u32.wrap (30011 * t) + IntKind.u32.wrap (263 * IntKind.u32.wrap (l.getD a 0)))).fdiv (2 ^ min (Int.toNat 7) IntKind.u32.bits))).toNat : Int)) &&& BitVec.ofInt IntKind.u32.bits 65535).toNat : Int))))] (ap ((wrapE rfl ?_) : PV.int IntKind.i64 (IntKind.i64.wrap (IntKind.u32.wrap (↑(BitVec.ofInt IntKind.u32.bits (IntKind.u32.wrap (↑(BitVec.ofInt IntKind.u32.bits (IntKind.u32.wrap (IntKind.u32.wrap (30011 * t) + IntKind.u32.wrap (263 * IntKind.u32.wrap (l.getD a 0)))) ^^^ BitVec.ofInt IntKind.u32.bits ((IntKind.u32.wrap (IntKind.u32.wrap (30011 * t) + IntKind.u32.wrap (263 * IntKind.u32.wrap (l.getD a 0)))).fdiv (2 ^ min (Int.toNat 7) IntKind.u32.bits))).toNat : Int)) &&& BitVec.ofInt IntKind.u32.bits 65535).toNat : Int))) = PV.int IntKind.i64 (IntKind.u32.wrap (↑(BitVec.ofInt IntKind.u32.bits (IntKind.u32.wrap (↑(BitVec.ofInt IntKind.u32.bits (IntKind.u32.wrap (IntKind.u32.wrap (30011 * t) + IntKind.u32.wrap (263 * IntKind.u32.wrap (l.getD a 0)))) ^^^ BitVec.ofInt IntKind.u32.bits ((IntKind.u32.wrap (IntKind.u32.wrap (30011 * t) + IntKind.u32.wrap (263 * IntKind.u32.wrap (l.getD a 0)))).fdiv (2 ^ min (Int.toNat 7) IntKind.u32.bits))).toNat : Int)) &&& BitVec.ofInt IntKind.u32.bits 65535).toNat : Int))) an) (S_go 1 (S_end (V_ret (E_a [] an (PV.int IntKind.i64 (IntKind.u32.wrap (↑(BitVec.ofInt IntKind.u32.bits (IntKind.u32.wrap (↑(BitVec.ofInt IntKind.u32.bits (IntKind.u32.wrap (IntKind.u32.wrap (30011 * t) + IntKind.u32.wrap (263 * IntKind.u32.wrap (l.getD a 0)))) ^^^ BitVec.ofInt IntKind.u32.bits ((IntKind.u32.wrap (IntKind.u32.wrap (30011 * t) + IntKind.u32.wrap (263 * IntKind.u32.wrap (l.getD a 0)))).fdiv (2 ^ min (Int.toNat 7) IntKind.u32.bits))).toNat : Int)) &&& BitVec.ofInt IntKind.u32.bits 65535).toNat : Int))) ([(PV.agg [PV.sl (List.map u8 l), PV.int IntKind.i64 (↑(a + 1) : Int), PV.int IntKind.u32 t]).box]) ?_ ?_)))))))))))))))))))))))))))))))))))))))))))))))))))))
  · exact hb _
  · have e1 : a = l.length := by omega
    have e2 : 0 < l.length := by omega
    simp only [ringN, ringA0, ringT, e1, e2, if_true]; rfl
  · have e1 : a = l.length := by omega
    have e2 : 0 < l.length := by omega
    simp only [ringA, ringA0, ringT, e1, e2, if_true]; rfl
  · exact hb _
  · have e1 : a = l.length := by omega
    have e2 : ¬ 0 < l.length := by omega
    simp only [ringN, ringA0, ringT, e1, e2, if_true, if_false]; rfl
  · have e1 : a = l.length := by omega
    have e2 : ¬ 0 < l.length := by omega
    simp only [ringA, ringA0, ringT, e1, e2, if_true, if_false]; rfl
  · exact hb _
  · have e1 : ¬ a = l.length := by omega
    have e2 : 0 < l.length := by omega
    simp only [ringN, ringA0, ringT, e1, e2, if_true, if_false]; rfl
  · have e1 : ¬ a = l.length := by omega
    have e2 : 0 < l.length := by omega
    simp only [ringA, ringA0, ringT, e1, e2, if_true, if_false]
theorem f24 (l : List Int) (a : Nat) (t : Int) (n : Int) (h : BellOk l a) (hn : -9000000000000000000 ≤ n ∧ n ≤ 9000000000000000000) : Gives Try.prog feeH 24 [bellW, I n] [bellV l a t] (I (strokeN l a t n)) [bellV l (ringA l a) (ringT l a t)] := by
  refine gives_ofX Try.f24 ?_
  have e : (if n + 1 > 1 then n + 1 else 1) = max 1 (n + 1) := by split <;> omega
  refine V_seq (V_region (S_go 1 (S_end (V_seq (V_region (S_go 1 (S_a [(4, .ret (I (ringN l a t)) ([bellV l (ringA l a) (ringT l a t)]))] (ap (f86 (l) (a) (t) (by omega)) an) (S_go 1 (S_a [(1, .v (PV.int IntKind.i64 (n + 1)))] (ap ((wrapE rfl (by omega)) : PV.int IntKind.i64 (IntKind.i64.wrap (n + 1)) = PV.int IntKind.i64 (n + 1)) an) (S_go 1 (S_a [(0, .v (PV.int IntKind.i64 ((ringN l a t).tmod (if n + 1 > 1 then n + 1 else 1))))] (ap (bv_rem (by omega) rfl : binV Try.prog BinOp.rem 3 (PV.int IntKind.i64 (ringN l a t)) (PV.int IntKind.i64 (if n + 1 > 1 then n + 1 else 1)) = some (PV.int IntKind.i64 ((ringN l a t).tmod (if n + 1 > 1 then n + 1 else 1)))) an) (S_go 1 (S_end (V_ret (E_a [] an (PV.int IntKind.i64 ((ringN l a t).tmod (if n + 1 > 1 then n + 1 else 1))) ([(PV.agg [PV.sl (List.map u8 l), PV.int IntKind.i64 (↑(ringA l a) : Int), PV.int IntKind.u32 (ringT l a t)]).box]) ?_ rfl)))))))))))))))
  rw [e]; rfl
theorem f27 (l : List Int) (a : Nat) (t : Int) (lo hi : Int) (h : BellOk l a) (hl : 0 ≤ lo ∧ lo ≤ 1000000) (hn : 0 ≤ hi ∧ hi ≤ 1000000) : Gives Try.prog feeH 27 [bellW, I lo, I hi] [bellV l a t] (I (lo + strokeN l a t (hi - lo))) [bellV l (ringA l a) (ringT l a t)] := by
  refine gives_ofX Try.f27 ?_
  have := strokeN_bd l a t (hi - lo)
  refine V_seq (V_region (S_go 1 (S_end (V_seq (V_region (S_go 4 (S_a [(1, .v (PV.int IntKind.i64 (hi - lo)))] (ap ((wrapE rfl (by omega)) : PV.int IntKind.i64 (IntKind.i64.wrap (hi - lo)) = PV.int IntKind.i64 (hi - lo)) an) (S_a [(6, .ret (I (strokeN l a t (hi - lo))) ([bellV l (ringA l a) (ringT l a t)]))] (ap (f24 (l) (a) (t) (hi - lo) (by omega) (by omega)) an) (S_a [(1, .v (PV.int IntKind.i64 (lo + strokeN l a t (hi - lo))))] (ap ((wrapE rfl (by omega)) : PV.int IntKind.i64 (IntKind.i64.wrap (lo + strokeN l a t (hi - lo))) = PV.int IntKind.i64 (lo + strokeN l a t (hi - lo))) an) (S_go 1 (S_end (V_ret (E_a [] an (PV.int IntKind.i64 (lo + strokeN l a t (hi - lo))) ([(PV.agg [PV.sl (List.map u8 l), PV.int IntKind.i64 (↑(ringA l a) : Int), PV.int IntKind.u32 (ringT l a t)]).box]) rfl rfl)))))))))))))
theorem f28 (l : List Int) (a : Nat) (t : Int) (n : Int) (h : BellOk l a) (hn : 0 ≤ n ∧ n ≤ 1000000) : Gives Try.prog feeH 28 [bellW, I n] [bellV l a t] (.bool (decide (strokeN l a t (n - 1) = 0))) [bellV l (ringA l a) (ringT l a t)] := by
  refine gives_ofX Try.f28 ?_
  refine V_seq (V_region (S_go 1 (S_end (V_seq (V_region (S_go 2 (S_a [(1, .v (PV.int IntKind.i64 (n - 1)))] (ap ((wrapE rfl (by omega)) : PV.int IntKind.i64 (IntKind.i64.wrap (n - 1)) = PV.int IntKind.i64 (n - 1)) an) (S_a [(6, .ret (I (strokeN l a t (n - 1))) ([bellV l (ringA l a) (ringT l a t)]))] (ap (f24 (l) (a) (t) (n - 1) (by omega) (by omega)) an) (S_go 2 (S_end (V_ret (E_a [] an (PV.bool (strokeN l a t (n - 1) == 0)) ([(PV.agg [PV.sl (List.map u8 l), PV.int IntKind.i64 (↑(ringA l a) : Int), PV.int IntKind.u32 (ringT l a t)]).box]) rfl rfl))))))))))))
end
end Go.Eng
namespace Go.Eng
theorem getD_set {l : List Int} {i j : Nat} {v : Int} : (l.set i v).getD j 0 = if i = j ∧ j < l.length then v else l.getD j 0 := by
  simp only [List.getD_eq_getElem?_getD, List.getElem?_set]
  by_cases h : i = j
  · subst h
    by_cases h2 : i < l.length
    · simp [h2]
    · simp [h2]
  · simp [h]
theorem incs_get : ∀ (q D : List Int) (i : Nat), i < D.length → (∀ x ∈ q, 0 ≤ x) → (incs q D).getD i 0 = D.getD i 0 + (q.count (i : Int) : Nat)
  | [], D, i, _, _ => by simp [incs]
  | x :: q, D, i, hi, hq => by
    have hx := hq x (by simp)
    have ih := incs_get q (D.set x.toNat (D.getD x.toNat 0 + 1)) i (by simpa using hi) fun y hy => hq y (by simp [hy])
    have e : incs (x :: q) D = incs q (D.set x.toNat (D.getD x.toNat 0 + 1)) := rfl
    rw [e, ih, getD_set, List.count_cons]
    by_cases h : x = (i : Int)
    · subst h; simp [hi]; omega
    · have h1 : ¬ x.toNat = i := by omega
      have h2 : (x == (i : Int)) = false := by simpa using h
      simp [h1, h2]
theorem set_sum : ∀ {l : List Int} {i : Nat}, i < l.length → ∀ v, (l.set i v).sum = l.sum - l.getD i 0 + v
  | [], i, h, v => by simp at h
  | x :: l, 0, h, v => by simp; omega
  | x :: l, i + 1, h, v => by
    have := set_sum (l := l) (i := i) (by simpa using h) v
    simp only [List.set_cons_succ, List.sum_cons, this, List.getD_cons_succ]; omega
theorem incs_sum : ∀ (q D : List Int), (∀ x ∈ q, 0 ≤ x ∧ x < D.length) → (incs q D).sum = D.sum + q.length
  | [], D, _ => by simp [incs]
  | x :: q, D, h => by
    have hx := h x (by simp)
    have ih := incs_sum q (D.set x.toNat (D.getD x.toNat 0 + 1)) fun y hy => by have := h y (by simp [hy]); simpa using this
    have e : incs (x :: q) D = incs q (D.set x.toNat (D.getD x.toNat 0 + 1)) := rfl
    rw [e, ih, set_sum (by omega)]
    simp; omega
theorem bef_irr {R : List Int} {x : Int} : ¬ bef R x x := by unfold bef; omega
theorem bef_asymm {R : List Int} {x y : Int} (h : bef R x y) : ¬ bef R y x := by unfold bef at *; omega
theorem pw_nodup {R O : List Int} (h : O.Pairwise (bef R)) : O.Nodup := h.imp fun {a b} hab e => by subst e; exact bef_irr hab
theorem take_closed {R O : List Int} (h : O.Pairwise (bef R)) {m : Nat} {x y : Int} (hy : y ∈ O.take m) (hx : x ∈ O) (hb : bef R x y) : x ∈ O.take m := by
  obtain ⟨j, hj, rfl⟩ := List.getElem_of_mem hy
  obtain ⟨k, hk, rfl⟩ := List.getElem_of_mem hx
  rw [List.getElem_take] at hb
  have hjm : j < m := by simp at hj; omega
  rcases Nat.lt_or_ge k m with hkm | hkm
  · exact List.mem_take_iff_getElem.2 ⟨k, by omega, rfl⟩
  · exact (bef_asymm hb (List.pairwise_iff_getElem.1 h j k (by simp at hj; omega) hk (by omega))).elim
theorem sum_map_take {R : List Int} {S : Int} (hb : ∀ i, rk R i ≤ S) : ∀ l : List Int, (l.map (rk R)).sum ≤ l.length * S
  | [] => by simp
  | x :: l => by
    have := sum_map_take hb l
    have := hb x
    simp only [List.map_cons, List.sum_cons, List.length_cons, Int.natCast_add, Int.add_mul]
    omega
theorem upto_map (R : List Int) : (upto R.length).map (rk R) = R := by
  apply List.ext_getElem?
  intro i
  simp only [upto, List.map_map, List.getElem?_map]
  by_cases h : i < R.length
  · simp [h, rk]
  · simp [h]
theorem perm_sum {l m : List Int} (h : l.Perm m) : l.sum = m.sum := by
  induction h with
  | nil => rfl
  | cons x _ ih => simp [ih]
  | swap x y l => simp; omega
  | trans _ _ ih1 ih2 => rw [ih1, ih2]
theorem extra_pos {R O : List Int} {S : Int} {m : Nat} (hp : O.Perm (upto R.length)) (h : O.Pairwise (bef R)) (hR : ∀ x ∈ R, 0 ≤ x ∧ x < S) (hS : R.sum = m * S) (hS0 : 0 < S) {y : Int} (hy : y ∈ O.take m) : 0 < rk R y := by
  obtain ⟨j, hj, rfl⟩ := List.getElem_of_mem hy
  rw [List.getElem_take]
  have hjm : j < m ∧ j < O.length := by simp at hj; omega
  have hrk : ∀ i, 0 ≤ rk R i ∧ rk R i ≤ S - 1 := by
    intro i
    unfold rk
    rcases Nat.lt_or_ge i.toNat R.length with h | h
    · rw [getD_lt h]; have := hR _ (List.getElem_mem h); omega
    · rw [List.getD_eq_getElem?_getD, List.getElem?_eq_none h]; simp; omega
  refine Int.lt_of_not_ge fun hle => ?_
  have h0 := (hrk O[j]).1
  have hz : ∀ x ∈ O.drop j, rk R x ≤ 0 := by
    intro x hx
    obtain ⟨k, hk, rfl⟩ := List.getElem_of_mem hx
    rw [List.getElem_drop]
    rcases Nat.eq_zero_or_pos k with rfl | hk0
    · simpa using hle
    · have := List.pairwise_iff_getElem.1 h j (j + k) hjm.2 (by simp at hk; omega) (by omega)
      unfold bef at this; omega
  have hz2 : ((O.drop j).map (rk R)).sum ≤ 0 := by
    have key : ∀ l : List Int, (∀ x ∈ l, rk R x ≤ 0) → (l.map (rk R)).sum ≤ 0 := by
      intro l
      induction l with
      | nil => simp
      | cons x l ih =>
        intro hl
        have h1 := hl x (by simp)
        have h2 := ih fun y hy => hl y (by simp [hy])
        simp only [List.map_cons, List.sum_cons]; omega
    exact key _ hz
  have ht := sum_map_take (R := R) (S := S - 1) (fun i => (hrk i).2) (O.take j)
  have hsum : (O.map (rk R)).sum = R.sum := by rw [perm_sum (hp.map _), upto_map]
  rw [← List.take_append_drop j O, List.map_append, List.sum_append, hS] at hsum
  have hl : (O.take j).length = j := by simp; omega
  rw [hl] at ht
  have h1 : (j : Int) * (S - 1) ≤ (m - 1) * (S - 1) := Int.mul_le_mul_of_nonneg_right (by omega) (by omega)
  have h2 : ((m : Int) - 1) * (S - 1) = m * S - m - S + 1 := by rw [Int.sub_mul, Int.mul_sub]; omega
  omega
structure Fair (c : Int) (p L : List Int) : Prop where
  len : L.length = p.length
  sum : L.sum = c
  bd : ∀ i, i < p.length → 0 ≤ L.getD i 0 ∧ L.getD i 0 ≤ c
  near : ∀ i, i < p.length → L.getD i 0 * p.sum < c * p.getD i 0 + p.sum ∧ c * p.getD i 0 - p.sum < L.getD i 0 * p.sum
  ord : ∀ i k, i < p.length → k < i → (p.getD i 0 ≤ p.getD k 0 → L.getD i 0 ≤ L.getD k 0) ∧ (p.getD k 0 < p.getD i 0 → L.getD k 0 ≤ L.getD i 0)
theorem le_sum {l : List Int} (h : ∀ i, i < l.length → 0 ≤ l.getD i 0) {i : Nat} (hi : i < l.length) : l.getD i 0 ≤ l.sum :=
  sum_get (fun x hx => by obtain ⟨k, hk, rfl⟩ := List.getElem_of_mem hx; have := h k hk; rwa [getD_lt hk] at this) i hi
theorem divide_fair {c : Int} {p : List Int} (hc : 0 ≤ c) (hp : ∀ x ∈ p, 0 ≤ x) (hS : 0 < p.sum) : Fair c p (incs ((isort (ltD c p p.sum) (upto p.length)).take (c - (divs c p.sum p).sum).toNat) (divs c p.sum p)) := by
  obtain ⟨S, hSe⟩ : ∃ S, S = p.sum := ⟨_, rfl⟩
  rw [← hSe] at hS ⊢
  have hlb := left_bd hS hc hp hSe.symm
  have hD := divs_rems c S p
  have hRb := rems_bd (c := c) hS hc hp
  obtain ⟨m, hm⟩ : ∃ m, m = (c - (divs c S p).sum).toNat := ⟨_, rfl⟩
  rw [← hm]
  have hmc : (m : Int) = c - (divs c S p).sum := by omega
  have hO : (isort (ltD c p S) (upto p.length)).Pairwise (bef (rems c S p)) := isort_sorted (fun x y => ltD_eq) _
  have hperm : (isort (ltD c p S) (upto p.length)).Perm (upto (rems c S p).length) := by
    have := isort_perm (lt := ltD c p S) (upto p.length) []
    rw [rems_len]; simpa [isort] using this
  have hmem : ∀ x, x ∈ isort (ltD c p S) (upto p.length) ↔ 0 ≤ x ∧ x < p.length := fun x => by rw [isort_mem]; exact upto_mem
  generalize hOe : isort (ltD c p S) (upto p.length) = O at *
  have hOl : O.length = p.length := by rw [hperm.length_eq]; simp [upto, rems_len]
  have hRS : (rems c S p).sum = m * S := by rw [hmc, Int.sub_mul, hSe, ← hSe]; rw [← hSe] at hD; omega
  have hRx : ∀ x ∈ rems c S p, 0 ≤ x ∧ x < S := by
    intro x hx
    obtain ⟨y, hy, rfl⟩ := List.mem_map.1 hx
    exact tmod_bd hS (Int.mul_nonneg hc (hp y hy))
  have hT : ∀ x ∈ O.take m, 0 ≤ x ∧ x < p.length := fun x hx => (hmem x).1 (List.mem_of_mem_take hx)
  have hnd : (O.take m).Nodup := (pw_nodup hO).sublist (List.take_sublist _ _)
  have hcount : ∀ i : Nat, (O.take m).count (i : Int) = if (i : Int) ∈ O.take m then 1 else 0 := by
    intro i
    split
    · have h1 : (O.take m).count (i : Int) ≤ 1 := List.nodup_iff_count.1 hnd _
      have h2 := List.count_pos_iff.2 (by assumption : (i : Int) ∈ O.take m)
      omega
    · exact List.count_eq_zero.2 (by assumption)
  have hL : ∀ i, i < p.length → (incs (O.take m) (divs c S p)).getD i 0 = (c * p.getD i 0).tdiv S + if (i : Int) ∈ O.take m then 1 else 0 := by
    intro i hi
    rw [incs_get _ _ _ (by simpa [divs] using hi) (fun x hx => (hT x hx).1), hcount]
    have : (divs c S p).getD i 0 = (c * p.getD i 0).tdiv S := by rw [getD_lt (by simpa [divs] using hi), getD_lt hi]; simp [divs]
    rw [this]; split <;> rfl
  have hR : ∀ i, i < p.length → rk (rems c S p) i = (c * p.getD i 0).tmod S := by
    intro i hi
    unfold rk
    rw [Int.toNat_natCast, getD_lt (by simpa [rems] using hi), getD_lt hi]; simp [rems]
  have hp0 : ∀ i, i < p.length → 0 ≤ p.getD i 0 := fun i hi => by rw [getD_lt hi]; exact hp _ (List.getElem_mem hi)
  have hq : ∀ i, i < p.length → (c * p.getD i 0).tdiv S * S + (c * p.getD i 0).tmod S = c * p.getD i 0 ∧ 0 ≤ (c * p.getD i 0).tmod S ∧ (c * p.getD i 0).tmod S < S ∧ 0 ≤ (c * p.getD i 0).tdiv S := by
    intro i hi
    have h0 := Int.mul_nonneg hc (hp0 i hi)
    refine ⟨Int.tdiv_mul_add_tmod _ _, Int.tmod_nonneg _ h0, Int.tmod_lt_of_pos _ hS, ?_⟩
    rw [Int.tdiv_eq_ediv_of_nonneg h0]; exact Int.ediv_nonneg h0 (by omega)
  have hlen : (incs (O.take m) (divs c S p)).length = p.length := by rw [incs_len]; simp [divs]
  have hsum : (incs (O.take m) (divs c S p)).sum = c := by
    rw [incs_sum _ _ (fun x hx => by have := hT x hx; simpa [divs] using this)]
    have : (O.take m).length = m := by simp; omega
    rw [this]; omega
  have hnn : ∀ i, i < p.length → 0 ≤ (incs (O.take m) (divs c S p)).getD i 0 := by
    intro i hi
    have := hq i hi
    rw [hL i hi]; split <;> omega
  have hpos : ∀ i : Nat, i < p.length → (i : Int) ∈ O.take m → 0 < (c * p.getD i 0).tmod S := by
    intro i hi hy
    have := extra_pos hperm hO hRx hRS hS hy
    rwa [hR i hi] at this
  refine ⟨hlen, hsum, fun i hi => ⟨hnn i hi, ?_⟩, fun i hi => ?_, fun i k hi hk => ?_⟩
  · have := le_sum (l := incs (O.take m) (divs c S p)) (fun i hi => hnn i (by omega)) (i := i) (by omega)
    omega
  · rw [← hSe]
    have h1 := hq i hi
    rw [hL i hi]
    split
    · have h2 := hpos i hi (by assumption)
      rw [Int.add_mul]; omega
    · rw [Int.add_mul]; omega
  · have hk' : k < p.length := by omega
    have h1 := hq i hi
    have h2 := hq k hk'
    rw [hL i hi, hL k hk']
    have closed : ∀ {x y : Nat}, x < p.length → y < p.length → bef (rems c S p) x y → (y : Int) ∈ O.take m → (x : Int) ∈ O.take m := fun {x y} hx hy hb hm => take_closed hO hm ((hmem _).2 ⟨by omega, by omega⟩) hb
    have step : ∀ {a b : Int}, a < b → a * S + S ≤ b * S := by
      intro a b hab
      have : (a + 1) * S ≤ b * S := Int.mul_le_mul_of_nonneg_right (by omega) (by omega)
      rw [Int.add_mul] at this; omega
    constructor
    · intro hle
      have hcp : c * p.getD i 0 ≤ c * p.getD k 0 := Int.mul_le_mul_of_nonneg_left hle hc
      rcases Int.lt_trichotomy ((c * p.getD k 0).tdiv S) ((c * p.getD i 0).tdiv S) with h | h | h
      · have := step h; omega
      · by_cases hi' : (i : Int) ∈ O.take m
        · have hb : bef (rems c S p) (k : Int) (i : Int) := by
            unfold bef; rw [hR i hi, hR k hk']; rw [h] at h2; omega
          rw [if_pos hi', if_pos (closed hk' hi hb hi')]; omega
        · rw [if_neg hi']; split <;> omega
      · split <;> split <;> omega
    · intro hlt
      have hcp : c * p.getD k 0 ≤ c * p.getD i 0 := Int.mul_le_mul_of_nonneg_left (by omega) hc
      rcases Int.lt_trichotomy ((c * p.getD i 0).tdiv S) ((c * p.getD k 0).tdiv S) with h | h | h
      · have := step h; omega
      · by_cases hk2 : (k : Int) ∈ O.take m
        · by_cases he : (c * p.getD i 0).tmod S = (c * p.getD k 0).tmod S
          · have hz : c * p.getD i 0 = c * p.getD k 0 := by rw [h] at h1; omega
            have h3 := hpos k hk' hk2
            have hcz : c = 0 := by
              rcases Int.lt_trichotomy c 0 with h | h | h
              · omega
              · exact h
              · have := Int.mul_lt_mul_of_pos_left hlt h; omega
            rw [hcz] at h3; simp at h3
          · have hb : bef (rems c S p) (i : Int) (k : Int) := by
              unfold bef; rw [hR i hi, hR k hk']; rw [h] at h1; omega
            rw [if_pos hk2, if_pos (closed hi hk' hb hk2)]; omega
        · rw [if_neg hk2]; split <;> omega
      · split <;> split <;> omega
end Go.Eng
set_option maxRecDepth 10000
set_option maxHeartbeats 2000000
namespace Go.Eng
open Go Go.Proofs
theorem divide_small {c : Int} {p : List Int} (hl : 1 ≤ p.length ∧ p.length ≤ 8) (hc : 0 ≤ c ∧ c ≤ 100000) (hp : ∀ x ∈ p, 0 ≤ x ∧ x ≤ 10000) : divide c p = if p.sum = 0 then ([], 6) else (incs ((isort (ltD c p p.sum) (upto p.length)).take (c - (divs c p.sum p).sum).toNat) (divs c p.sum p), 0) := by
  have h0 : (!(decide (1 ≤ (p.length : Int)) && decide ((p.length : Int) ≤ 8))) = false := by simp; omega
  have h1 : (!(decide (0 ≤ c) && decide (c ≤ 100000))) = false := by simp; omega
  have h2 : (!p.all (fun x => decide (0 ≤ x) && decide (x ≤ 100000))) = false := by
    simp only [Bool.not_eq_false', List.all_eq_true]
    intro x hx; have := hp x hx; simp; omega
  simp only [divide, h0, h1, h2]; rfl
theorem f5 (nums : List Int) (coins : Int) (hl : nums.length < 9223372036854775808) (hc : 0 ≤ coins ∧ coins ≤ 65535) : FG 5 [.sl (nums.map u8), .int .u16 coins] (.bool true) := by
  refine gives_ofX Try.f5 ?_
  have hb0 : BellOk nums 0 := ⟨Nat.zero_le _, hl⟩
  have hs0 := strokeN_bd nums 0 0 (8 - 1)
  have hb1 := ringA_ok hb0
  refine V_seq (V_region (S_go 1 (S_end (V_seq (V_region (S_go 1 (S_a [(6, .ret (bellV nums 0 0) ([]))] (ap (f22 (nums)) an) (S_go 1 (S_end (V_seq (V_region (S_go 1 (S_end (V_seq (V_region (S_go 1 (S_end (V_seq (V_seq (V_region (S_go 1 (S_a [(8, .ret (I (1 + strokeN nums 0 0 (8 - 1))) ([bellV nums (ringA nums 0) (ringT nums 0 0)]))] (ap (f27 (nums) (0) (0) (1) (8) (by omega) (by omega) (by omega)) an) (S_go 1 (S_end (V_block 0 ?_)))))))))))))))))))))))))
  generalize hm : 1 + strokeN nums 0 0 (8 - 1) = m
  refine V_loopS (fun (k, b, t, p, a) => (k : Int) ≤ m ∧ BellOk nums b ∧ p.length = k ∧ (∀ x ∈ p, 0 ≤ x ∧ x ≤ 10000) ∧ a = p.sum) (fun (k, b, t, p, a) => [(5, bellV nums b t), (6, .own 1 (p.map I)), (7, I a), (20, I (k : Nat))]) (fun (k, _, _, _, _) => m.toNat - k) ((0 : Nat), ringA nums 0, ringT nums 0 0, ([] : List Int), (0 : Int)) ⟨by omega, hb1, rfl, by simp, rfl⟩ fun (k, b, t, p, a) ⟨hk, hb, hpl, hp, ha⟩ => ?_
  have hs1 := strokeN_bd nums b t 40
  have hr1 := ringA_ok hb
  have hs2 := strokeN_bd nums (ringA nums b) (ringT nums b t) (200 - 1)
  have hr2 := ringA_ok hr1
  have hr3 := ringA_ok hr2
  have hmul := Int.mul_nonneg hs1.1 (show 0 ≤ 1 + strokeN nums (ringA nums b) (ringT nums b t) (200 - 1) by omega)
  have hmul2 : strokeN nums b t 40 * (1 + strokeN nums (ringA nums b) (ringT nums b t) (200 - 1)) ≤ 40 * 200 := Int.mul_le_mul (by omega) (by omega) (by omega) (by omega)
  have hsum := sum_bd (B := 10000) (l := p) fun x hx => by have := hp x hx; omega
  have hp0 : 0 < p.length → 0 ≤ p.getD 0 0 ∧ p.getD 0 0 ≤ 10000 := fun h => getD_all hp 0 h
  refine V_seq (V_region (S_go 1 (S_end (V_seq (V_dec ((↑k : Int) < m) (fun k1 => (V_skip (V_seq (V_block 1 (V_seq (V_region (S_go 1 (S_a [(6, .ret (I (strokeN nums b t 40)) ([bellV nums (ringA nums b) (ringT nums b t)]))] (ap (f24 (nums) (b) (t) (40) (by omega) (by omega)) an) (S_go 1 (S_a [(8, .ret (I (1 + strokeN nums (ringA nums b) (ringT nums b t) (200 - 1))) ([bellV nums (ringA nums (ringA nums b)) (ringT nums (ringA nums b) (ringT nums b t))]))] (ap (f27 (nums) (ringA nums b) (ringT nums b t) (1) (200) (by omega) (by omega) (by omega)) an) (S_a [(1, .v (PV.int IntKind.i64 (strokeN nums b t 40 * (1 + strokeN nums (ringA nums b) (ringT nums b t) (200 - 1)))))] (ap ((wrapE rfl (by omega)) : PV.int IntKind.i64 (IntKind.i64.wrap (strokeN nums b t 40 * (1 + strokeN nums (ringA nums b) (ringT nums b t) (200 - 1)))) = PV.int IntKind.i64 (strokeN nums b t 40 * (1 + strokeN nums (ringA nums b) (ringT nums b t) (200 - 1)))) an) (S_go 1 (S_end (V_seq (V_seq (V_region (S_go 1 (S_a [(6, .ret (PV.bool (decide (strokeN nums (ringA nums (ringA nums b)) (ringT nums (ringA nums b) (ringT nums b t)) (4 - 1) = 0))) ([bellV nums (ringA nums (ringA nums (ringA nums b))) (ringT nums (ringA nums (ringA nums b)) (ringT nums (ringA nums b) (ringT nums b t)))]))] (ap (f28 (nums) (ringA nums (ringA nums b)) (ringT nums (ringA nums b) (ringT nums b t)) (4) (by omega) (by omega)) an) (S_go 1 (S_dec 29 (strokeN nums (ringA nums (ringA nums b)) (ringT nums (ringA nums b) (ringT nums b t)) (4 - 1) = 0) (fun k2 => (S_go 1 (S_a [(0, .n (p.length))] (ap ((by simp) : some (List.map I p).length = some p.length) an) (S_go 2 (S_end (V_dec ((↑p.length : Int) > 0) (fun k3 => (V_region (S_go 1 (S_a [(2, .ob)] (ap ((by exact dec_of (by simp only [List.length_map, List.length_set, List.length_append, List.length_cons, List.length_nil] <;> omega)) : decide (0 < (List.map I p).length) = true) an) (S_a [(0, .cs false ([PV.int IntKind.i64 (p.getD 0 0)]))] (ap (rc_at (q := PV.own 1 (List.map I p)) (xs := List.map I p) (x := PV.int IntKind.i64 (p.getD 0 0)) rfl (getm (0) (by omega)) : readCells 6 (PV.own 1 (List.map I p)) [] 0 0 1 = some (false, [PV.int IntKind.i64 (p.getD 0 0)])) an) (S_go 1 (S_end (V_seq (V_region (S_go 3 (S_a [(4, .ob), (0, .ob), (0, .ob), (2, .v (PV.own 1 (List.map I (p ++ [p.getD 0 0]))))] (ap ((by exact ble_of (by simp only [List.length_map, List.length_set, List.length_append, List.length_cons, List.length_nil, limit] <;> omega)) : (0 + (List.map I p).length).ble (List.map I p).length = true) (ap ((by exact ble_of (by simp only [List.length_map, List.length_set, List.length_append, List.length_cons, List.length_nil, limit] <;> omega)) : ((List.map I p).length + [PV.int IntKind.i64 (p.getD 0 0)].length).ble limit = true) (ap ((by exact beq_of (by simp <;> omega)) : (0 + (List.map I p).length).beq (List.map I p).length = true) (ap ((by simp) : PV.own 1 (List.map I p ++ [PV.int IntKind.i64 (p.getD 0 0)]) = PV.own 1 (List.map I (p ++ [p.getD 0 0]))) an)))) (S_go 1 (S_end (V_region (S_go 2 (S_a [(1, .v (PV.int IntKind.i64 (a + p.getD 0 0)))] (ap ((wrapE rfl (by omega)) : PV.int IntKind.i64 (IntKind.i64.wrap (a + p.getD 0 0)) = PV.int IntKind.i64 (a + p.getD 0 0)) an) (S_go 1 (S_end (V_region (S_a [(1, .v (PV.int IntKind.i64 (↑(k + 1) : Int)))] (ap ((wrapE (by omega) (by omega)) : PV.int IntKind.i64 (IntKind.i64.wrap ((↑k : Int) + 1)) = PV.int IntKind.i64 (↑(k + 1) : Int)) an) (S_go 1 (S_end ?_)))))))))))))))))))))) (fun k3 => (V_skip (V_seq (V_region (S_go 3 (S_a [(4, .ob), (0, .ob), (0, .ob), (2, .v (PV.own 1 (List.map I (p ++ [strokeN nums b t 40 * (1 + strokeN nums (ringA nums b) (ringT nums b t) (200 - 1))]))))] (ap ((by exact ble_of (by simp only [List.length_map, List.length_set, List.length_append, List.length_cons, List.length_nil, limit] <;> omega)) : (0 + (List.map I p).length).ble (List.map I p).length = true) (ap ((by exact ble_of (by simp only [List.length_map, List.length_set, List.length_append, List.length_cons, List.length_nil, limit] <;> omega)) : ((List.map I p).length + [PV.int IntKind.i64 (strokeN nums b t 40 * (1 + strokeN nums (ringA nums b) (ringT nums b t) (200 - 1)))].length).ble limit = true) (ap ((by exact beq_of (by simp <;> omega)) : (0 + (List.map I p).length).beq (List.map I p).length = true) (ap ((by simp) : PV.own 1 (List.map I p ++ [PV.int IntKind.i64 (strokeN nums b t 40 * (1 + strokeN nums (ringA nums b) (ringT nums b t) (200 - 1)))]) = PV.own 1 (List.map I (p ++ [strokeN nums b t 40 * (1 + strokeN nums (ringA nums b) (ringT nums b t) (200 - 1))]))) an)))) (S_go 1 (S_end (V_region (S_go 2 (S_a [(1, .v (PV.int IntKind.i64 (a + strokeN nums b t 40 * (1 + strokeN nums (ringA nums b) (ringT nums b t) (200 - 1)))))] (ap ((wrapE rfl (by omega)) : PV.int IntKind.i64 (IntKind.i64.wrap (a + strokeN nums b t 40 * (1 + strokeN nums (ringA nums b) (ringT nums b t) (200 - 1)))) = PV.int IntKind.i64 (a + strokeN nums b t 40 * (1 + strokeN nums (ringA nums b) (ringT nums b t) (200 - 1)))) an) (S_go 1 (S_end (V_region (S_a [(1, .v (PV.int IntKind.i64 (↑(k + 1) : Int)))] (ap ((wrapE (by omega) (by omega)) : PV.int IntKind.i64 (IntKind.i64.wrap ((↑k : Int) + 1)) = PV.int IntKind.i64 (↑(k + 1) : Int)) an) (S_go 1 (S_end ?_))))))))))))))))))))))) (fun k2 => (S_go 4 (S_end (V_false (V_skip (V_seq (V_region (S_go 3 (S_a [(4, .ob), (0, .ob), (0, .ob), (2, .v (PV.own 1 (List.map I (p ++ [strokeN nums b t 40 * (1 + strokeN nums (ringA nums b) (ringT nums b t) (200 - 1))]))))] (ap ((by exact ble_of (by simp only [List.length_map, List.length_set, List.length_append, List.length_cons, List.length_nil, limit] <;> omega)) : (0 + (List.map I p).length).ble (List.map I p).length = true) (ap ((by exact ble_of (by simp only [List.length_map, List.length_set, List.length_append, List.length_cons, List.length_nil, limit] <;> omega)) : ((List.map I p).length + [PV.int IntKind.i64 (strokeN nums b t 40 * (1 + strokeN nums (ringA nums b) (ringT nums b t) (200 - 1)))].length).ble limit = true) (ap ((by exact beq_of (by simp <;> omega)) : (0 + (List.map I p).length).beq (List.map I p).length = true) (ap ((by simp) : PV.own 1 (List.map I p ++ [PV.int IntKind.i64 (strokeN nums b t 40 * (1 + strokeN nums (ringA nums b) (ringT nums b t) (200 - 1)))]) = PV.own 1 (List.map I (p ++ [strokeN nums b t 40 * (1 + strokeN nums (ringA nums b) (ringT nums b t) (200 - 1))]))) an)))) (S_go 1 (S_end (V_region (S_go 2 (S_a [(1, .v (PV.int IntKind.i64 (a + strokeN nums b t 40 * (1 + strokeN nums (ringA nums b) (ringT nums b t) (200 - 1)))))] (ap ((wrapE rfl (by omega)) : PV.int IntKind.i64 (IntKind.i64.wrap (a + strokeN nums b t 40 * (1 + strokeN nums (ringA nums b) (ringT nums b t) (200 - 1)))) = PV.int IntKind.i64 (a + strokeN nums b t 40 * (1 + strokeN nums (ringA nums b) (ringT nums b t) (200 - 1)))) an) (S_go 1 (S_end (V_region (S_a [(1, .v (PV.int IntKind.i64 (↑(k + 1) : Int)))] (ap ((wrapE (by omega) (by omega)) : PV.int IntKind.i64 (IntKind.i64.wrap ((↑k : Int) + 1)) = PV.int IntKind.i64 (↑(k + 1) : Int)) an) (S_go 1 (S_end ?_)))))))))))))))))))))))))))))))))))))))) (fun k1 => (V_exit 0 (V_seq (V_region (S_go 1 (S_a [(0, .v (PV.int IntKind.i64 coins))] (ap ((wrapE rfl (by omega)) : PV.int IntKind.i64 (IntKind.i64.wrap coins) = PV.int IntKind.i64 coins) an) (S_go 1 (S_a [(5, .ob), (0, .v (PV.sl (List.map I p))), (2, .ret (PV.tup [PV.own 1 (List.map I (divide coins p).fst), I (divide coins p).snd]) ([])), (1, .yes)] (ap ((by exact ble_of (by simp only [List.length_map, List.length_set, List.length_append, List.length_cons, List.length_nil, limit] <;> omega)) : (0 + (List.map I p).length).ble (List.map I p).length = true) (ap ((sl_ext (freezes_to (by simp [take_mapL]) (freezes_mapI _))) : PV.sl (freezes (List.take (List.map I p).length (List.drop 0 (List.map I p)))) = PV.sl (List.map I p)) (ap (f18 (coins) (p) (by omega)) (ap ((by exact ob_and (frees_map _) rfl) : (PV.tup [PV.own 1 (List.map I (divide coins p).fst), I (divide coins p).snd]).free = true) an)))) (S_go 5 (S_end (V_seq (V_seq (V_region (S_go 2 (S_end (V_dec (a = 0) (fun k4 => (V_seq (V_region (S_go 3 (S_dec 56 ((divide coins p).snd = 6) (fun k5 => (S_a [(4, .ret (PV.bool true) ([]))] (ap (f16) an) (S_go 2 (S_end (V_ret (E_a [] an (PV.bool true) ([]) rfl rfl)))))) (fun k5 => (S_go 3 (S_end (V_ret (E_a [] an (PV.bool false) ([]) ?_ rfl)))))))))) (fun k4 => (V_skip (V_seq (V_seq (V_region (S_go 3 (S_ndec 61 ((divide coins p).snd = 0) (fun k6 => (S_go 6 (S_end (V_true (V_seq (V_region (S_go 1 (S_end (V_ret (E_a [] an (PV.bool false) ([]) ?_ rfl)))))))))) (fun k6 => (S_go 1 (S_a [(0, .n ((divide coins p).fst.length))] (ap ((by simp) : some (List.map I (divide coins p).fst).length = some (divide coins p).fst.length) an) (S_go 1 (S_a [(0, .n (p.length))] (ap ((by simp) : some (List.map I p).length = some p.length) an) (S_go 2 (S_end (V_ndec ((↑(divide coins p).fst.length : Int) = (↑p.length : Int)) (fun k7 => (V_seq (V_region (S_go 1 (S_end (V_ret (E_a [] an (PV.bool false) ([]) ?_ rfl))))))) (fun k7 => (V_skip (V_seq (V_region (S_go 1 (S_end (V_seq (V_seq (V_region (S_go 1 (S_a [(0, .n ((divide coins p).fst.length))] (ap ((by simp) : some (List.map I (divide coins p).fst).length = some (divide coins p).fst.length) an) (S_go 1 (S_end (V_block 2 ?_))))))))))))))))))))))))))))))))))))))))))))))))))
  · refine ⟨(k + 1, ringA nums (ringA nums (ringA nums b)), ringT nums (ringA nums (ringA nums b)) (ringT nums (ringA nums b) (ringT nums b t)), p ++ [p.getD 0 0], a + p.getD 0 0), ⟨by omega, hr3, by simp; omega, ?_, by rw [ha]; simp⟩, by simp only; omega, by kernel_rfl, by kernel_rfl⟩
    intro x hx
    rcases List.mem_append.1 hx with hx | hx
    · exact hp x hx
    · simp at hx; subst hx; have := hp0 (by omega); simpa using this
  · refine ⟨(k + 1, ringA nums (ringA nums (ringA nums b)), ringT nums (ringA nums (ringA nums b)) (ringT nums (ringA nums b) (ringT nums b t)), p ++ [strokeN nums b t 40 * (1 + strokeN nums (ringA nums b) (ringT nums b t) (200 - 1))], a + strokeN nums b t 40 * (1 + strokeN nums (ringA nums b) (ringT nums b t) (200 - 1))), ⟨by omega, hr3, by simp; omega, ?_, by rw [ha]; simp⟩, by simp only; omega, by kernel_rfl, by kernel_rfl⟩
    intro x hx
    rcases List.mem_append.1 hx with hx | hx
    · exact hp x hx
    · rw [List.mem_singleton] at hx; subst hx; omega
  · refine ⟨(k + 1, ringA nums (ringA nums (ringA nums b)), ringT nums (ringA nums (ringA nums b)) (ringT nums (ringA nums b) (ringT nums b t)), p ++ [strokeN nums b t 40 * (1 + strokeN nums (ringA nums b) (ringT nums b t) (200 - 1))], a + strokeN nums b t 40 * (1 + strokeN nums (ringA nums b) (ringT nums b t) (200 - 1))), ⟨by omega, hr3, by simp; omega, ?_, by rw [ha]; simp⟩, by simp only; omega, by kernel_rfl, by kernel_rfl⟩
    intro x hx
    rcases List.mem_append.1 hx with hx | hx
    · exact hp x hx
    · rw [List.mem_singleton] at hx; subst hx; omega
  all_goals
    have hdv := divide_small (c := coins) (p := p) (by omega) (by omega) hp
    rw [ha] at *
  · rw [if_pos k4] at hdv; rw [hdv] at k5; simp at k5
  · rw [if_neg k4] at hdv; rw [hdv] at k6; simp at k6
  all_goals
    have hpos : 0 < p.sum := by have := sum_nn fun x hx => (hp x hx).1; omega
    obtain ⟨f1, f2, f3, f4, f5⟩ := divide_fair (c := coins) (p := p) hc.1 (fun x hx => (hp x hx).1) hpos
    rw [if_neg k4] at hdv
    have hd1 := congrArg Prod.fst hdv
    have hd2 := congrArg Prod.snd hdv
    simp only at hd1 hd2
    clear hdv
    rw [hd1] at k7
  · exact absurd (by omega) k7
  rw [hd1, hd2]
  generalize incs ((isort (ltD coins p p.sum) (upto p.length)).take (coins - (divs coins p.sum p).sum).toNat) (divs coins p.sum p) = L at *
  refine V_loopS (fun (i, s) => i ≤ L.length ∧ s = (L.take i).sum) (fun (i, s) => [(11, I s), (70, I (i : Nat))]) (fun (i, _) => L.length - i) ((0 : Nat), (0 : Int)) ⟨Nat.zero_le _, rfl⟩ fun (i, s) ⟨hi, hs⟩ => ?_
  have g3 : i < L.length → 0 ≤ L.getD i 0 ∧ L.getD i 0 ≤ coins := fun h => f3 i (by omega)
  have g4 : i < L.length → L.getD i 0 * p.sum < coins * p.getD i 0 + p.sum ∧ coins * p.getD i 0 - p.sum < L.getD i 0 * p.sum := fun h => f4 i (by omega)
  have hsb := sum_bd (B := 100000) (l := L.take i) fun x hx => by
    obtain ⟨j, hj, rfl⟩ := List.getElem_of_mem (List.mem_of_mem_take hx)
    have := f3 j (by omega); rw [getD_lt hj] at this; omega
  have hli : (L.take i).length = i := by simp; omega
  rw [hli, ← hs] at hsb
  have hpi : i < p.length → 0 ≤ p.getD i 0 ∧ p.getD i 0 ≤ 10000 := fun h => getD_all hp i h
  have hm1 : i < L.length → 0 ≤ coins * p.getD i 0 ∧ coins * p.getD i 0 ≤ 65535 * 10000 := fun h => ⟨Int.mul_nonneg hc.1 (hpi (by omega)).1, Int.mul_le_mul (by omega) (hpi (by omega)).2 (hpi (by omega)).1 (by omega)⟩
  refine V_seq (V_region (S_go 1 (S_end (V_seq (V_dec ((↑i : Int) < (↑L.length : Int)) (fun k5 => (V_skip (V_seq (V_block 3 (V_seq (V_region (S_go 1 (S_a [(2, .ob), (1, .n (i))] (ap ((by exact dec_of (by simp only [List.length_map, List.length_set, List.length_append, List.length_cons, List.length_nil] <;> omega)) : decide (i < (List.map I L).length) = true) (ap ((by simp) : some (0 + i) = some i) an)) (S_a [(0, .cs false ([PV.int IntKind.i64 (L.getD i 0)]))] (ap (rc_at (q := PV.own 1 (List.map I L)) (xs := List.map I L) (x := PV.int IntKind.i64 (L.getD i 0)) rfl (getm (0) (by omega)) : readCells 9 (PV.own 1 (List.map I L)) [] i 0 1 = some (false, [PV.int IntKind.i64 (L.getD i 0)])) an) (S_go 2 (S_end (V_seq (V_seq (V_region (S_go 3 (S_decF 77 (L.getD i 0 < 0) (by omega) (S_go 2 (S_a [(0, .v (PV.int IntKind.i64 coins))] (ap ((wrapE rfl (by omega)) : PV.int IntKind.i64 (IntKind.i64.wrap coins) = PV.int IntKind.i64 coins) an) (S_go 2 (S_end (V_decF (L.getD i 0 > coins) (by omega) (V_skip (V_seq (V_region (S_go 2 (S_a [(1, .v (PV.int IntKind.i64 (s + L.getD i 0)))] (ap ((wrapE rfl (by omega)) : PV.int IntKind.i64 (IntKind.i64.wrap (s + L.getD i 0)) = PV.int IntKind.i64 (s + L.getD i 0)) an) (S_go 1 (S_end (V_seq (V_region (S_go 1 (S_a [(0, .v (PV.int IntKind.i64 coins))] (ap ((wrapE rfl (by omega)) : PV.int IntKind.i64 (IntKind.i64.wrap coins) = PV.int IntKind.i64 coins) an) (S_go 2 (S_a [(2, .ob), (1, .n (i))] (ap ((by exact dec_of (by simp only [List.length_map, List.length_set, List.length_append, List.length_cons, List.length_nil] <;> omega)) : decide (i < (List.map I p).length) = true) (ap ((by simp) : some (0 + i) = some i) an)) (S_a [(0, .cs false ([PV.int IntKind.i64 (p.getD i 0)]))] (ap (rc_at (q := PV.own 1 (List.map I p)) (xs := List.map I p) (x := PV.int IntKind.i64 (p.getD i 0)) rfl (getm (0) (by omega)) : readCells 6 (PV.own 1 (List.map I p)) [] i 0 1 = some (false, [PV.int IntKind.i64 (p.getD i 0)])) an) (S_a [(1, .v (PV.int IntKind.i64 (coins * p.getD i 0)))] (ap ((wrapE rfl (by omega)) : PV.int IntKind.i64 (IntKind.i64.wrap (coins * p.getD i 0)) = PV.int IntKind.i64 (coins * p.getD i 0)) an) (S_go 1 (S_end (V_seq (V_seq (V_region (S_go 2 (S_a [(1, .v (PV.int IntKind.i64 (L.getD i 0 * p.sum)))] (ap ((wrapE rfl (by omega)) : PV.int IntKind.i64 (IntKind.i64.wrap (L.getD i 0 * p.sum)) = PV.int IntKind.i64 (L.getD i 0 * p.sum)) an) (S_go 2 (S_a [(1, .v (PV.int IntKind.i64 (coins * p.getD i 0 + p.sum)))] (ap ((wrapE rfl (by omega)) : PV.int IntKind.i64 (IntKind.i64.wrap (coins * p.getD i 0 + p.sum)) = PV.int IntKind.i64 (coins * p.getD i 0 + p.sum)) an) (S_go 2 (S_decF 100 (L.getD i 0 * p.sum ≥ coins * p.getD i 0 + p.sum) (by omega) (S_go 2 (S_a [(1, .v (PV.int IntKind.i64 (L.getD i 0 * p.sum)))] (ap ((wrapE rfl (by omega)) : PV.int IntKind.i64 (IntKind.i64.wrap (L.getD i 0 * p.sum)) = PV.int IntKind.i64 (L.getD i 0 * p.sum)) an) (S_go 2 (S_a [(1, .v (PV.int IntKind.i64 (coins * p.getD i 0 - p.sum)))] (ap ((wrapE rfl (by omega)) : PV.int IntKind.i64 (IntKind.i64.wrap (coins * p.getD i 0 - p.sum)) = PV.int IntKind.i64 (coins * p.getD i 0 - p.sum)) an) (S_go 2 (S_end (V_decF (L.getD i 0 * p.sum ≤ coins * p.getD i 0 - p.sum) (by omega) (V_skip (V_seq (V_region (S_go 2 (S_end (V_block 4 ?_)))))))))))))))))))))))))))))))))))))))))))))))))))))))))))) (fun k5 => (V_exit 2 (V_seq (V_region (S_go 2 (S_a [(0, .v (PV.int IntKind.i64 coins))] (ap ((wrapE rfl (by omega)) : PV.int IntKind.i64 (IntKind.i64.wrap coins) = PV.int IntKind.i64 coins) an) (S_go 2 (S_dec 155 (s = coins) (fun k6 => (S_a [(4, .ret (PV.bool true) ([]))] (ap (f16) an) (S_go 2 (S_end (V_ret (E_a [] an (PV.bool true) ([]) rfl rfl)))))) (fun k6 => (S_go 3 (S_end (V_ret (E_a [] an (PV.bool false) ([]) ?_ rfl))))))))))))))))))
  · refine V_loopS (fun j => j ≤ i) (fun j => [(110, I (j : Nat))]) (fun j => i - j) (0 : Nat) (Nat.zero_le _) fun j hj => ?_
    have g5 : j < i → (p.getD i 0 ≤ p.getD j 0 → L.getD i 0 ≤ L.getD j 0) ∧ (p.getD j 0 < p.getD i 0 → L.getD j 0 ≤ L.getD i 0) := fun h => f5 i j (by omega) h
    refine V_seq (V_region (S_go 1 (S_end (V_seq (V_dec ((↑j : Int) < (↑i : Int)) (fun k6 => (V_skip (V_seq (V_block 5 (V_seq (V_region (S_go 2 (S_end (V_seq (V_region (S_go 2 (S_a [(2, .ob), (1, .n (j))] (ap ((by exact dec_of (by simp only [List.length_map, List.length_set, List.length_append, List.length_cons, List.length_nil] <;> omega)) : decide (j < (List.map I p).length) = true) (ap ((by simp) : some (0 + j) = some j) an)) (S_a [(0, .cs false ([PV.int IntKind.i64 (p.getD j 0)]))] (ap (rc_at (q := PV.own 1 (List.map I p)) (xs := List.map I p) (x := PV.int IntKind.i64 (p.getD j 0)) rfl (getm (0) (by omega)) : readCells 6 (PV.own 1 (List.map I p)) [] j 0 1 = some (false, [PV.int IntKind.i64 (p.getD j 0)])) an) (S_go 2 (S_a [(2, .ob), (1, .n (i))] (ap ((by exact dec_of (by simp only [List.length_map, List.length_set, List.length_append, List.length_cons, List.length_nil] <;> omega)) : decide (i < (List.map I p).length) = true) (ap ((by simp) : some (0 + i) = some i) an)) (S_a [(0, .cs false ([PV.int IntKind.i64 (p.getD i 0)]))] (ap (rc_at (q := PV.own 1 (List.map I p)) (xs := List.map I p) (x := PV.int IntKind.i64 (p.getD i 0)) rfl (getm (0) (by omega)) : readCells 6 (PV.own 1 (List.map I p)) [] i 0 1 = some (false, [PV.int IntKind.i64 (p.getD i 0)])) an) (S_go 2 (S_dec 122 (p.getD j 0 ≥ p.getD i 0) (fun k7 => (S_go 2 (S_a [(2, .ob), (1, .n (j))] (ap ((by exact dec_of (by simp only [List.length_map, List.length_set, List.length_append, List.length_cons, List.length_nil] <;> omega)) : decide (j < (List.map I L).length) = true) (ap ((by simp) : some (0 + j) = some j) an)) (S_a [(0, .cs false ([PV.int IntKind.i64 (L.getD j 0)]))] (ap (rc_at (q := PV.own 1 (List.map I L)) (xs := List.map I L) (x := PV.int IntKind.i64 (L.getD j 0)) rfl (getm (0) (by omega)) : readCells 9 (PV.own 1 (List.map I L)) [] j 0 1 = some (false, [PV.int IntKind.i64 (L.getD j 0)])) an) (S_go 4 (S_decF 130 (L.getD j 0 < L.getD i 0) (by omega) (S_go 2 (S_a [(2, .ob), (1, .n (i))] (ap ((by exact dec_of (by simp only [List.length_map, List.length_set, List.length_append, List.length_cons, List.length_nil] <;> omega)) : decide (i < (List.map I p).length) = true) (ap ((by simp) : some (0 + i) = some i) an)) (S_a [(0, .cs false ([PV.int IntKind.i64 (p.getD i 0)]))] (ap (rc_at (q := PV.own 1 (List.map I p)) (xs := List.map I p) (x := PV.int IntKind.i64 (p.getD i 0)) rfl (getm (0) (by omega)) : readCells 6 (PV.own 1 (List.map I p)) [] i 0 1 = some (false, [PV.int IntKind.i64 (p.getD i 0)])) an) (S_go 2 (S_a [(2, .ob), (1, .n (j))] (ap ((by exact dec_of (by simp only [List.length_map, List.length_set, List.length_append, List.length_cons, List.length_nil] <;> omega)) : decide (j < (List.map I p).length) = true) (ap ((by simp) : some (0 + j) = some j) an)) (S_a [(0, .cs false ([PV.int IntKind.i64 (p.getD j 0)]))] (ap (rc_at (q := PV.own 1 (List.map I p)) (xs := List.map I p) (x := PV.int IntKind.i64 (p.getD j 0)) rfl (getm (0) (by omega)) : readCells 6 (PV.own 1 (List.map I p)) [] j 0 1 = some (false, [PV.int IntKind.i64 (p.getD j 0)])) an) (S_go 2 (S_decF 140 (p.getD i 0 > p.getD j 0) (by omega) (S_go 8 (S_end (V_false (V_skip (V_region (S_a [(1, .v (PV.int IntKind.i64 (↑(j + 1) : Int)))] (ap ((wrapE (by omega) (by omega)) : PV.int IntKind.i64 (IntKind.i64.wrap ((↑j : Int) + 1)) = PV.int IntKind.i64 (↑(j + 1) : Int)) an) (S_go 1 (S_end ?_)))))))))))))))))))))) (fun k7 => (S_go 10 (S_a [(2, .ob), (1, .n (i))] (ap ((by exact dec_of (by simp only [List.length_map, List.length_set, List.length_append, List.length_cons, List.length_nil] <;> omega)) : decide (i < (List.map I p).length) = true) (ap ((by simp) : some (0 + i) = some i) an)) (S_a [(0, .cs false ([PV.int IntKind.i64 (p.getD i 0)]))] (ap (rc_at (q := PV.own 1 (List.map I p)) (xs := List.map I p) (x := PV.int IntKind.i64 (p.getD i 0)) rfl (getm (0) (by omega)) : readCells 6 (PV.own 1 (List.map I p)) [] i 0 1 = some (false, [PV.int IntKind.i64 (p.getD i 0)])) an) (S_go 2 (S_a [(2, .ob), (1, .n (j))] (ap ((by exact dec_of (by simp only [List.length_map, List.length_set, List.length_append, List.length_cons, List.length_nil] <;> omega)) : decide (j < (List.map I p).length) = true) (ap ((by simp) : some (0 + j) = some j) an)) (S_a [(0, .cs false ([PV.int IntKind.i64 (p.getD j 0)]))] (ap (rc_at (q := PV.own 1 (List.map I p)) (xs := List.map I p) (x := PV.int IntKind.i64 (p.getD j 0)) rfl (getm (0) (by omega)) : readCells 6 (PV.own 1 (List.map I p)) [] j 0 1 = some (false, [PV.int IntKind.i64 (p.getD j 0)])) an) (S_go 2 (S_decT 140 (p.getD i 0 > p.getD j 0) (by omega) (S_go 3 (S_a [(2, .ob), (1, .n (j))] (ap ((by exact dec_of (by simp only [List.length_map, List.length_set, List.length_append, List.length_cons, List.length_nil] <;> omega)) : decide (j < (List.map I L).length) = true) (ap ((by simp) : some (0 + j) = some j) an)) (S_a [(0, .cs false ([PV.int IntKind.i64 (L.getD j 0)]))] (ap (rc_at (q := PV.own 1 (List.map I L)) (xs := List.map I L) (x := PV.int IntKind.i64 (L.getD j 0)) rfl (getm (0) (by omega)) : readCells 9 (PV.own 1 (List.map I L)) [] j 0 1 = some (false, [PV.int IntKind.i64 (L.getD j 0)])) an) (S_go 3 (S_end (V_decF (L.getD i 0 < L.getD j 0) (by omega) (V_skip (V_region (S_a [(1, .v (PV.int IntKind.i64 (↑(j + 1) : Int)))] (ap ((wrapE (by omega) (by omega)) : PV.int IntKind.i64 (IntKind.i64.wrap ((↑j : Int) + 1)) = PV.int IntKind.i64 (↑(j + 1) : Int)) an) (S_go 1 (S_end ?_)))))))))))))))))))))))))))))))))))))) (fun k6 => (V_exit 4 (V_region (S_a [(1, .v (PV.int IntKind.i64 (↑(i + 1) : Int)))] (ap ((wrapE (by omega) (by omega)) : PV.int IntKind.i64 (IntKind.i64.wrap ((↑i : Int) + 1)) = PV.int IntKind.i64 (↑(i + 1) : Int)) an) (S_go 1 (S_end ?_)))))))))))
    · exact ⟨j + 1, by omega, by omega, by kernel_rfl, by kernel_rfl⟩
    · exact ⟨j + 1, by omega, by omega, by kernel_rfl, by kernel_rfl⟩
    · exact ⟨(i + 1, s + L.getD i 0), ⟨by omega, by rw [hs, sum_take (by omega)]⟩, by simp only; omega, by kernel_rfl, by kernel_rfl⟩
  · rw [List.take_of_length_le (by omega)] at hs; omega
end Go.Eng
