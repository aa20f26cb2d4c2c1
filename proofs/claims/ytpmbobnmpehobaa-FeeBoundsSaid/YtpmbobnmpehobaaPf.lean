/- The bound of some rounds, and the rounds with the greatest one, are as specified, for every box and every list of rounds. -/
import Derived.Test.YtpmbobnmpehobaaProg
import Derived.Test.YtpmbobnmpehobaaPa
import Derived.Test.YtpmbobnmpehobaaPe
set_option linter.unusedVariables false
set_option linter.unusedSimpArgs false
set_option linter.unusedSectionVars false
namespace Go.Eng
open Go Go.Proofs
theorem getD_lt {α : Type} {l : List α} {i : Nat} {d : α} (h : i < l.length) : l.getD i d = l[i] := by simp [List.getD, List.getElem?_eq_getElem h]
theorem foldl_take' {α β : Type} {f : β → α → β} {b : β} {l : List α} {i : Nat} {d : α} (h : i < l.length) : (l.take (i + 1)).foldl f b = f ((l.take i).foldl f b) (l.getD i d) := by
  rw [getD_lt h]; exact foldl_take h
theorem take_next {α : Type} {l m : List α} {i : Nat} {d : α} (h : i < l.length) (h' : i < m.length) (ha : l.take i = m.take i) (he : l.getD i d = m.getD i d) : l.take (i + 1) = m.take (i + 1) := by
  rw [getD_lt h, getD_lt h'] at he
  rw [List.take_add_one, List.take_add_one, ha, List.getElem?_eq_getElem h, List.getElem?_eq_getElem h', he]
theorem sum_take {l : List Int} {i : Nat} (h : i < l.length) : (l.take (i + 1)).sum = (l.take i).sum + l.getD i 0 := by
  rw [List.take_add_one, List.getElem?_eq_getElem h, getD_lt h, List.sum_append]; simp
theorem sum_bd {B : Int} {l : List Int} (hb : ∀ x ∈ l, -B ≤ x ∧ x ≤ B) : -(B * l.length) ≤ l.sum ∧ l.sum ≤ B * l.length := by
  induction l with
  | nil => simp
  | cons x l ih =>
    have h1 := hb x (by simp)
    have h2 := ih fun y hy => hb y (by simp [hy])
    simp only [List.sum_cons, List.length_cons, Int.natCast_add, Int.mul_add]
    omega
theorem sum_nn {l : List Int} (h : ∀ x ∈ l, 0 ≤ x) : 0 ≤ l.sum := by
  induction l with
  | nil => simp
  | cons x l ih =>
    have h1 := h x (by simp)
    have h2 := ih fun y hy => h y (by simp [hy])
    simp only [List.sum_cons]; omega
theorem all_in {l : List Int} {lo hi : Int} (h : (!l.all fun x => decide (lo ≤ x) && decide (x ≤ hi)) = false) : ∀ x ∈ l, lo ≤ x ∧ x ≤ hi := by
  simpa [List.all_eq_true] using h
theorem in_and {n lo hi : Int} (h : (!(decide (lo ≤ n) && decide (n ≤ hi))) = false) : lo ≤ n ∧ n ≤ hi := by simpa using h
theorem getD_all {l : List Int} {p : Int → Prop} (h : ∀ x ∈ l, p x) (i : Nat) (hi : i < l.length) : p (l.getD i 0) := by
  rw [getD_lt hi]; exact h _ (List.getElem_mem hi)
theorem off_f {n lo hi : Int} (h : (decide (n < lo) || decide (hi < n)) = false) : lo ≤ n ∧ n ≤ hi := by simpa using h
theorem off_t {n lo hi : Int} (h : (decide (n < lo) || decide (hi < n)) = true) : n < lo ∨ hi < n := by simpa using h
def wsum (l : List Int) : Int := l.foldl (fun a x => IntKind.i64.wrap (a + x)) 0
section
variable [Yo]
abbrev FG (f : FuncId) (args : List PV) (v : PV) : Prop := Gives Try.prog feeH f args [] v []
theorem f78 (n lo hi : Int) : FG 78 [I n, I lo, I hi] (.bool (decide (lo ≤ n) && decide (n ≤ hi))) := by
  refine gives_ofX Try.f78 ?_
  refine V_seq (V_region (S_go 1 (S_end (V_seq (V_region (S_go 4 (S_dec 10 (n ≥ lo) (fun k0 => (S_go 5 (S_end (V_ret (E_a [] an (PV.bool (decide (n ≤ hi))) ([]) (by simp [*]) rfl))))) (fun k0 => (S_go 5 (S_end (V_ret (E_a [] an (PV.bool false) ([]) (by simp [*]) rfl))))))))))))
theorem f84 (n lo hi : Int) : FG 84 [I n, I lo, I hi] (.bool (decide (n < lo) || decide (hi < n))) := by
  refine gives_ofX Try.f84 ?_
  refine V_seq (V_region (S_go 1 (S_end (V_seq (V_region (S_go 4 (S_dec 10 (n < lo) (fun k0 => (S_go 5 (S_end (V_ret (E_a [] an (PV.bool true) ([]) (by simp [*]) rfl))))) (fun k0 => (S_go 5 (S_end (V_ret (E_a [] an (PV.bool (decide (n > hi))) ([]) (by simp [*]) rfl))))))))))))
theorem f81 (l : List Int) (hl : l.length < 4294967296) : FG 81 [ints l] (I (wsum l)) := by
  refine gives_ofX Try.f81 ?_
  refine V_seq (V_region (S_go 1 (S_end (V_seq (V_region (S_go 1 (S_end (V_seq (V_seq (V_region (S_go 1 (S_a [(0, .n (l.length))] (ap ((by simp) : some (List.map I l).length = some l.length) an) (S_go 1 (S_end (V_block 0 ?_)))))))))))))))
  refine V_loopS (fun (i, a) => i ≤ l.length ∧ a = wsum (l.take i)) (fun (i, a) => [(3, I a), (8, I (i : Nat))]) (fun (i, _) => l.length - i) ((0 : Nat), (0 : Int)) (by simp [wsum]) fun (i, a) ⟨hi, ha⟩ => ?_
  refine V_seq (V_region (S_go 1 (S_end (V_seq (V_dec ((↑i : Int) < (↑l.length : Int)) (fun k0 => (V_skip (V_seq (V_block 1 (V_seq (V_region (S_a [(2, .v (PV.int IntKind.i64 (l.getD i 0)))] (ap (getm (0) (by omega) : (List.map I l)[i]? = some (PV.int IntKind.i64 (l.getD i 0))) an) (S_go 2 (S_end (V_region (S_go 2 (S_go 1 (S_go 1 (S_end (V_region (S_a [(1, .v (PV.int IntKind.i64 (↑(i + 1) : Int)))] (ap ((wrapE (by omega) (by omega)) : PV.int IntKind.i64 (IntKind.i64.wrap ((↑i : Int) + 1)) = PV.int IntKind.i64 (↑(i + 1) : Int)) an) (S_go 1 (S_end ?_)))))))))))))))))) (fun k0 => (V_exit 0 (V_seq (V_region (S_go 2 (S_end (V_ret (E_a [] an (PV.int IntKind.i64 a) ([]) ?_ rfl)))))))))))))
  · exact ⟨(i + 1, IntKind.i64.wrap (a + l.getD i 0)), ⟨by omega, by rw [ha]; exact (foldl_take' (f := fun a x => IntKind.i64.wrap (a + x)) (by omega)).symm⟩, by simp only; omega, by kernel_rfl, by kernel_rfl⟩
  · rw [ha, List.take_of_length_le (by omega)]
theorem f85 (l m : List Int) (hl : l.length < 4294967296) : FG 85 [ints l, ints m] (.bool (decide (l = m))) := by
  refine gives_ofX Try.f85 ?_
  refine V_seq (V_region (S_go 1 (S_end (V_seq (V_seq (V_region (S_go 1 (S_a [(0, .n (l.length))] (ap ((by simp) : some (List.map I l).length = some l.length) an) (S_go 1 (S_a [(0, .n (m.length))] (ap ((by simp) : some (List.map I m).length = some m.length) an) (S_go 1 (S_end (V_ndec ((↑l.length : Int) = (↑m.length : Int)) (fun k0 => (V_seq (V_region (S_go 1 (S_end (V_ret (E_a [] an (PV.bool false) ([]) ?_ rfl))))))) (fun k0 => (V_skip (V_seq (V_seq (V_region (S_go 1 (S_a [(0, .n (l.length))] (ap ((by simp) : some (List.map I l).length = some l.length) an) (S_go 1 (S_end (V_block 0 ?_)))))))))))))))))))))))
  · simp; intro h; subst h; simp at *
  refine V_loopS (fun i => i ≤ l.length ∧ l.take i = m.take i) (fun i => [(13, I (i : Nat))]) (fun i => l.length - i) (0 : Nat) (by simp) fun i ⟨hi, ha⟩ => ?_
  refine V_seq (V_region (S_go 1 (S_end (V_seq (V_dec ((↑i : Int) < (↑l.length : Int)) (fun k1 => (V_skip (V_seq (V_block 1 (V_seq (V_region (S_go 2 (S_end (V_seq (V_region (S_go 2 (S_a [(2, .v (PV.int IntKind.i64 (l.getD i 0)))] (ap (getm (0) (by omega) : (List.map I l)[i]? = some (PV.int IntKind.i64 (l.getD i 0))) an) (S_go 3 (S_a [(2, .v (PV.int IntKind.i64 (m.getD i 0)))] (ap (getm (0) (by omega) : (List.map I m)[i]? = some (PV.int IntKind.i64 (m.getD i 0))) an) (S_go 2 (S_end (V_ndec (l.getD i 0 = m.getD i 0) (fun k2 => (V_seq (V_region (S_go 1 (S_end (V_ret (E_a [] an (PV.bool false) ([]) ?_ rfl))))))) (fun k2 => (V_skip (V_region (S_a [(1, .v (PV.int IntKind.i64 (↑(i + 1) : Int)))] (ap ((wrapE (by omega) (by omega)) : PV.int IntKind.i64 (IntKind.i64.wrap ((↑i : Int) + 1)) = PV.int IntKind.i64 (↑(i + 1) : Int)) an) (S_go 1 (S_end ?_))))))))))))))))))))))) (fun k1 => (V_exit 0 (V_seq (V_region (S_go 1 (S_end (V_ret (E_a [] an (PV.bool true) ([]) ?_ rfl)))))))))))))
  · simp; intro h; subst h; omega
  · refine ⟨i + 1, ⟨by omega, ?_⟩, by omega, by kernel_rfl, by kernel_rfl⟩
    exact take_next (d := 0) (by omega) (by omega) ha (by assumption)
  · rw [List.take_of_length_le (by omega), List.take_of_length_le (by omega)] at ha
    simp [ha]
theorem f20 (l m : List Int) (hl : l.length < 4294967296) : FG 20 [ints l, ints m] (.bool (decide (l = m))) := by
  refine gives_ofX Try.f20 ?_
  refine V_seq (V_region (S_go 1 (S_end (V_seq (V_region (S_go 2 (S_a [(8, .ret (PV.bool (decide (l = m))) ([]))] (ap (f85 (l) (m) (by omega)) an) (S_go 1 (S_end (V_ret (E_a [] an (PV.bool (decide (l = m))) ([]) rfl rfl)))))))))))
end
end Go.Eng
namespace Go.Eng
open Go Go.Proofs
def idxF {α : Type} (φ : α → Bool) (l : List α) : Int := if l.findIdx φ < l.length then (l.findIdx φ : Int) else -1
theorem idxF_found {α : Type} {φ : α → Bool} {l : List α} {i : Nat} (h : i < l.length) (h0 : ∀ j (hj : j < i), φ (l[j]'(by omega)) = false) (hi : φ l[i] = true) : idxF φ l = i := by
  have : l.findIdx φ = i := by
    rw [List.findIdx_eq h]
    exact ⟨hi, fun j hj => by simpa using h0 j hj⟩
  simp [idxF, this, h]
theorem idxF_none {α : Type} {φ : α → Bool} {l : List α} (h0 : ∀ j (hj : j < l.length), φ (l[j]'hj) = false) : idxF φ l = -1 := by
  have : ¬ l.findIdx φ < l.length := by
    intro h
    have := List.findIdx_getElem (w := h)
    rw [h0 _ h] at this; cases this
  simp [idxF, this]
theorem idxF_ge {α : Type} (φ : α → Bool) (l : List α) : decide (idxF φ l ≥ 0) = l.any φ := by
  unfold idxF
  split
  · rename_i h
    have := List.findIdx_getElem (w := h)
    have h2 : l.any φ = true := List.any_eq_true.2 ⟨_, List.getElem_mem h, this⟩
    rw [h2]; simp
  · rename_i h
    have h2 : l.any φ = false := by
      rw [List.any_eq_false]
      intro x hx hp
      exact h (List.findIdx_lt_length_of_exists ⟨x, hx, hp⟩)
    rw [h2]; simp
section
variable [Yo]
end
end Go.Eng
namespace Go.Eng
open Go Go.Proofs
structure Rnd where
  w : Int
  s : Int
  may : List Int
  deriving Inhabited
abbrev rndV (r : Rnd) : PV := .agg [I r.w, I r.s, ints r.may]
structure Dk where
  cr : Int
  wd : Int
  st : Int
  fn : Int
  rs : List Rnd
abbrev boxV (b : Dk) : PV := .agg [I b.cr, I b.wd, I b.st, I b.fn, .sl (b.rs.map rndV)]
abbrev deskV (b : Dk) (fee : List Int) : PV := .agg [I b.cr, I b.wd, I b.st, I b.fn, .sl (b.rs.map rndV), ints fee]
def has (l : List Int) (v : Int) : Bool := l.any fun x => decide (v = x)
def rnd (b : Dk) (r : Nat) : Rnd := b.rs.getD r default
def Small (b : Dk) : Prop := b.rs.length < 4294967296 ∧ ∀ r ∈ b.rs, r.may.length < 4294967296
section
variable [Yo]
theorem f128 (l : List Int) (v : Int) (hl : l.length < 4294967296) : FG 128 [ints l, I v] (I (idxF (fun x => decide (v = x)) l)) := by
  refine gives_ofX Try.f128 ?_
  refine V_seq (V_region (S_go 1 (S_end (V_seq (V_seq (V_region (S_go 1 (S_a [(0, .n (l.length))] (ap ((by simp) : some (List.map I l).length = some l.length) an) (S_go 1 (S_end (V_block 0 ?_)))))))))))
  refine V_loopS (fun i => i ≤ l.length ∧ ∀ j, j < i → (fun x => decide (v = x)) (l.getD j 0) = false) (fun i => [(8, I (i : Nat))]) (fun i => l.length - i) (0 : Nat) (by simp) fun i ⟨hi, ha⟩ => ?_
  refine V_seq (V_region (S_go 1 (S_end (V_seq (V_dec ((↑i : Int) < (↑l.length : Int)) (fun k0 => (V_skip (V_seq (V_block 1 (V_seq (V_region (S_go 2 (S_end (V_seq (V_region (S_go 3 (S_a [(2, .v (PV.int IntKind.i64 (l.getD i 0)))] (ap (getm (0) (by omega) : (List.map I l)[i]? = some (PV.int IntKind.i64 (l.getD i 0))) an) (S_go 2 (S_end (V_dec (v = l.getD i 0) (fun k1 => (V_seq (V_region (S_go 2 (S_end (V_ret (E_a [] an (PV.int IntKind.i64 (↑i : Int)) ([]) ?_ rfl))))))) (fun k1 => (V_skip (V_region (S_a [(1, .v (PV.int IntKind.i64 (↑(i + 1) : Int)))] (ap ((wrapE (by omega) (by omega)) : PV.int IntKind.i64 (IntKind.i64.wrap ((↑i : Int) + 1)) = PV.int IntKind.i64 (↑(i + 1) : Int)) an) (S_go 1 (S_end ?_))))))))))))))))))))) (fun k0 => (V_exit 0 (V_seq (V_region (S_go 1 (S_end (V_ret (E_a [] an (PV.int IntKind.i64 (-1)) ([]) ?_ rfl)))))))))))))
  · rw [idxF_found (i := i) (by omega) (fun j hj => by rw [← getD_lt (d := 0)]; exact ha j hj) (by rw [← getD_lt (d := 0)]; exact decide_eq_true (by assumption))]
  · refine ⟨i + 1, ⟨by omega, fun j hj => ?_⟩, by omega, by kernel_rfl, by kernel_rfl⟩
    rcases Nat.lt_succ_iff_lt_or_eq.1 hj with h | rfl
    · exact ha j h
    · exact decide_eq_false (by assumption)
  · rw [idxF_none fun j hj => by rw [← getD_lt (d := 0)]; exact ha j (by omega)]
theorem f87 (l : List Int) (v : Int) (hl : l.length < 4294967296) : FG 87 [ints l, I v] (.bool (has l v)) := by
  refine gives_ofX Try.f87 ?_
  refine V_seq (V_region (S_go 1 (S_end (V_seq (V_region (S_go 2 (S_a [(8, .ret (I (idxF (fun x => decide (v = x)) l)) ([]))] (ap (f128 (l) (v) (by omega)) an) (S_go 2 (S_end (V_ret (E_a [] an (PV.bool (decide (idxF (fun x => decide (v = x)) l ≥ 0))) ([]) ?_ rfl)))))))))))
  rw [idxF_ge]; rfl
theorem f98 (b : Dk) (fee : List Int) (c : Int) (r : Nat) (hr : r < b.rs.length) (hb : Small b) : FG 98 [.ref (deskV b fee), I c, I r] (.bool (has (rnd b r).may c)) := by
  refine gives_ofX Try.f98 ?_
  have hm : (b.rs.getD r default).may.length < 4294967296 := hb.2 _ (by rw [getD_lt hr]; exact List.getElem_mem _)
  refine V_seq (V_region (S_go 1 (S_end (V_seq (V_region (S_go 6 (S_a [(2, .v (PV.agg [PV.int IntKind.i64 (b.rs.getD r default).w, PV.int IntKind.i64 (b.rs.getD r default).s, PV.sl (List.map I (b.rs.getD r default).may)]))] (ap (getm (default) (by omega) : (List.map rndV b.rs)[r]? = some (PV.agg [PV.int IntKind.i64 (b.rs.getD r default).w, PV.int IntKind.i64 (b.rs.getD r default).s, PV.sl (List.map I (b.rs.getD r default).may)])) an) (S_go 3 (S_a [(8, .ret (PV.bool (has (b.rs.getD r default).may c)) ([]))] (ap (f87 ((b.rs.getD r default).may) (c) (by omega)) an) (S_go 1 (S_end (V_ret (E_a [] an (PV.bool (has (b.rs.getD r default).may c)) ([]) rfl rfl)))))))))))))
end
def mvOk (b : Dk) (fee f share : List Int) (r t : Nat) : Bool := decide ((t : Int) ≠ share.getD r 0) && (has (rnd b r).may t && decide (f.getD t 0 + fee.getD r 0 < f.getD (share.getD r 0).toNat 0))
def mvRow (b : Dk) (fee f share : List Int) (r n : Nat) : List (Nat × Nat) := ((List.range n).filter (mvOk b fee f share r)).map fun t => (r, t)
def mvs (b : Dk) (fee f share : List Int) (n : Nat) : List (Nat × Nat) := (List.range n).flatMap fun r => mvRow b fee f share r b.cr.toNat
abbrev mvV (m : Nat × Nat) : PV := .agg [I m.1, I m.2]
abbrev mvCaps (b : Dk) (fee f share : List Int) : List PV := [.ref (ints share), .ref (.ref (deskV b fee)), .ref (.func 98 [.ref (deskV b fee)] []), .ref (.agg (f.map I))]
structure MvOk (b : Dk) (fee f share : List Int) : Prop where
  hsm : Small b
  hcr : 0 ≤ b.cr ∧ b.cr ≤ 4
  hf : f.length = 4
  hfee : fee.length = b.rs.length
  hshare : share.length = b.rs.length
  hsh : ∀ x ∈ share, 0 ≤ x ∧ x < 4
  hfb : ∀ i, -1000000 ≤ f.getD i 0 ∧ f.getD i 0 ≤ 1000000
  hfeeb : ∀ i, -1000000 ≤ fee.getD i 0 ∧ fee.getD i 0 ≤ 1000000
abbrev mvLog (b : Dk) (fee f share : List Int) (n : Nat) : List (List PV) := (mvs b fee f share n).map fun m => [mvV m]
theorem mvRow_succ {b : Dk} {fee f share : List Int} {r t : Nat} : mvRow b fee f share r (t + 1) = mvRow b fee f share r t ++ if mvOk b fee f share r t then [(r, t)] else [] := by
  simp only [mvRow, List.range_succ, List.filter_append, List.map_append]
  congr 1
  cases h : mvOk b fee f share r t <;> simp [h]
theorem mvs_succ {b : Dk} {fee f share : List Int} {r : Nat} : mvs b fee f share (r + 1) = mvs b fee f share r ++ mvRow b fee f share r b.cr.toNat := by
  simp only [mvs, List.range_succ, List.flatMap_append]; simp
theorem mvRow_pre {b : Dk} {fee f share : List Int} {r t n : Nat} (h : t ≤ n) : mvRow b fee f share r t <+: mvRow b fee f share r n := by
  induction h with
  | refl => exact List.prefix_refl _
  | step _ ih => rw [mvRow_succ]; exact ih.trans (List.prefix_append _ _)
theorem mvs_pre {b : Dk} {fee f share : List Int} {t n : Nat} (h : t ≤ n) : mvs b fee f share t <+: mvs b fee f share n := by
  induction h with
  | refl => exact List.prefix_refl _
  | step _ ih => rw [mvs_succ]; exact ih.trans (List.prefix_append _ _)
theorem mv_pre {b : Dk} {fee f share : List Int} {r t n : Nat} (hr : r < n) (ht : t ≤ b.cr.toNat) : mvs b fee f share r ++ mvRow b fee f share r t <+: mvs b fee f share n := by
  refine List.IsPrefix.trans ?_ (mvs_pre (Nat.succ_le_of_lt hr))
  rw [Nat.succ_eq_add_one, mvs_succ]
  exact (List.prefix_append_right_inj _).2 (mvRow_pre ht)
theorem pre_take {α : Type} {x y : List α} (h : x <+: y) {k : Int} (hk : k = x.length) : x = y.take k.toNat := by
  rw [hk, Int.toNat_natCast]; exact List.prefix_iff_eq_take.1 h
set_option maxRecDepth 10000 in
set_option maxHeartbeats 4000000 in
theorem f130w [Yo] {b : Dk} {fee f share : List Int} (h : MvOk b fee f share) (k : Int) (hk : k = -1 ∨ 1 ≤ k ∧ k ≤ (mvs b fee f share share.length).length) (i : Nat) : W Try.prog feeH 130 Try.f130.ntmps (Try.f130.body.getD .ret) (enterEnv ([] ++ PV.yld i :: mvCaps b fee f share) []) (some ⟨[], k, i⟩) fun x _ lg => (x = .norm ∨ x = .ret) ∧ lg.map (·.xs) = some (if k = -1 then mvLog b fee f share share.length else (mvLog b fee f share share.length).take k.toNat) := by
  obtain ⟨h1, h2, h3, h4, h5, h6, h7, h8⟩ := h
  have h1a := h1.1
  refine V_seq (V_region (S_go 1 (S_a [(0, .n (share.length))] (ap ((by simp) : some (List.map I share).length = some share.length) an) (S_go 1 (S_end (V_block 0 ?_))))))
  refine V_loopL (fun (r, xs, kc) => r ≤ share.length ∧ xs = mvLog b fee f share r ∧ kc = k - xs.length ∧ (k = -1 ∨ 1 ≤ kc)) (fun (r, _, _) => [(11, I (r : Nat))]) (fun (_, xs, kc) => some ⟨xs, kc, i⟩) (fun (r, _, _) => share.length - r) ((0 : Nat), ([] : List (List PV)), k) ⟨Nat.zero_le _, rfl, by simp, by omega⟩ fun (r, xs, kc) ⟨hr, hxs, hkc, hk1⟩ => ?_
  refine V_seq (V_region (S_go 1 (S_end (V_seq (V_dec ((↑r : Int) < (↑share.length : Int)) (fun k2 => (V_skip (V_seq (V_block 1 (V_seq (V_region (S_go 1 (S_a [(2, .v (PV.int IntKind.i64 (share.getD r 0)))] (ap (getm (0) (by omega) : (List.map I share)[r]? = some (PV.int IntKind.i64 (share.getD r 0))) an) (S_go 3 (S_end (V_seq (V_region (S_go 6 (S_end (V_block 2 ?_))))))))))))))) (fun k2 => (V_exit 0 ?_)))))))
  · refine V_loopL (fun (t, ys, kd) => t ≤ b.cr.toNat ∧ ys = xs ++ (mvRow b fee f share r t).map (fun m => [mvV m]) ∧ kd = k - ys.length ∧ (k = -1 ∨ 1 ≤ kd)) (fun (t, _, _) => [(21, I (t : Nat))]) (fun (_, ys, kd) => some ⟨ys, kd, i⟩) (fun (t, _, _) => b.cr.toNat - t) ((0 : Nat), xs, kc) ⟨Nat.zero_le _, by simp [mvRow], hkc, hk1⟩ fun (t, ys, kd) ⟨ht, hys, hkd, hk2⟩ => ?_
    have hshr := h6 (share.getD r 0) (by rw [getD_lt (by omega)]; exact List.getElem_mem _)
    have hf1 := h7 t
    have hf2 := h8 r
    have hpre := mv_pre (b := b) (fee := fee) (f := f) (share := share) (r := r) (t := t + 1) (n := share.length)
    have hno : mvOk b fee f share r t = false → ys = xs ++ (mvRow b fee f share r (t + 1)).map (fun m => [mvV m]) := fun h => by rw [mvRow_succ, h, hys]; simp
    refine V_seq (V_region (S_go 1 (S_end (V_seq (V_dec ((↑t : Int) < b.cr) (fun k4 => (V_skip (V_seq (V_block 3 (V_seq (V_region (S_go 2 (S_end (V_seq (V_region (S_go 4 (S_ndec 27 ((↑t : Int) = share.getD r 0) (fun k5 => (S_go 3 (S_a [(9, .ret (PV.bool (has (rnd b r).may (↑t : Int))) ([]))] (ap (f98 (b) (fee) ((↑t : Int)) (r) (by first | omega | (simp <;> omega)) (by omega)) an) (S_go 2 (S_case 33 (has (rnd b r).may (↑t : Int)) (fun k6 => (S_go 1 (S_a [(2, .ob), (0, .v ((PV.int IntKind.i64 (f.getD t 0)).ref))] (ap ((by exact dec_of (by omega)) : decide (t < 4) = true) (ap (sa_arrM (i := t) (by omega) (0) : stepAddr (PV.agg (List.map I f)).ref (t * (fun x => x.size) Try.prog.types[3]) none = some (PV.int IntKind.i64 (f.getD t 0)).ref) an)) (S_go 6 (S_a [(2, .v (PV.int IntKind.i64 (fee.getD r 0)))] (ap (getm (0) (by omega) : (List.map I fee)[r]? = some (PV.int IntKind.i64 (fee.getD r 0))) an) (S_go 1 (S_a [(1, .v (PV.int IntKind.i64 (f.getD t 0 + fee.getD r 0)))] (ap ((wrapE rfl (by omega)) : PV.int IntKind.i64 (IntKind.i64.wrap (f.getD t 0 + fee.getD r 0)) = PV.int IntKind.i64 (f.getD t 0 + fee.getD r 0)) an) (S_go 1 (S_a [(0, .ob), (1, .ob), (0, .v ((PV.int IntKind.i64 (f.getD (share.getD r 0).toNat 0)).ref))] (ap ((by exact dec_of (by omega)) : decide (0 ≤ share.getD r 0) = true) (ap ((by exact dec_of (by omega)) : decide ((share.getD r 0).toNat < 4) = true) (ap (sa_arrM (i := (share.getD r 0).toNat) (by omega) (0) : stepAddr (PV.agg (List.map I f)).ref ((share.getD r 0).toNat * (fun x => x.size) Try.prog.types[3]) none = some (PV.int IntKind.i64 (f.getD (share.getD r 0).toNat 0)).ref) an))) (S_go 4 (S_dec 50 (f.getD t 0 + fee.getD r 0 < f.getD (share.getD r 0).toNat 0) (fun k7 => (S_go 4 ?_)) (fun k7 => (S_go 7 (S_end (V_false (V_skip (V_region (S_a [(1, .v (PV.int IntKind.i64 (↑(t + 1) : Int)))] (ap ((wrapE (by omega) (by omega)) : PV.int IntKind.i64 (IntKind.i64.wrap ((↑t : Int) + 1)) = PV.int IntKind.i64 (↑(t + 1) : Int)) an) (S_go 1 (S_end ?_)))))))))))))))))))) (fun k6 => (S_go 24 (S_end (V_false (V_skip (V_region (S_a [(1, .v (PV.int IntKind.i64 (↑(t + 1) : Int)))] (ap ((wrapE (by omega) (by omega)) : PV.int IntKind.i64 (IntKind.i64.wrap ((↑t : Int) + 1)) = PV.int IntKind.i64 (↑(t + 1) : Int)) an) (S_go 1 (S_end ?_)))))))))))))) (fun k5 => (S_go 30 (S_end (V_false (V_skip (V_region (S_a [(1, .v (PV.int IntKind.i64 (↑(t + 1) : Int)))] (ap ((wrapE (by omega) (by omega)) : PV.int IntKind.i64 (IntKind.i64.wrap ((↑t : Int) + 1)) = PV.int IntKind.i64 (↑(t + 1) : Int)) an) (S_go 1 (S_end ?_))))))))))))))))))))) (fun k4 => (V_exit 2 (V_region (S_a [(1, .v (PV.int IntKind.i64 (↑(r + 1) : Int)))] (ap ((wrapE (by omega) (by omega)) : PV.int IntKind.i64 (IntKind.i64.wrap ((↑r : Int) + 1)) = PV.int IntKind.i64 (↑(r + 1) : Int)) an) (S_go 1 (S_end ?_)))))))))))
    · have hok : mvOk b fee f share r t = true := by simp only [mvOk, k6, decide_eq_true k5, decide_eq_true k7]; rfl
      have hys' : ys ++ [[mvV (r, t)]] = xs ++ (mvRow b fee f share r (t + 1)).map (fun m => [mvV m]) := by rw [mvRow_succ, hok, hys]; simp
      have hpre' : ys ++ [[mvV (r, t)]] <+: mvLog b fee f share share.length := by
        have := (hpre (by omega) (by omega)).map (fun m => [mvV m])
        rw [List.map_append] at this
        rw [hys', hxs]; exact this
      refine S_yield kd ys [mvV (r, t)] i (fun hk3 => ?_) (fun hk3 => ?_) (by omega)
      · refine S_go 2 (S_end (V_true (V_ret ?_)))
        refine ⟨.inr rfl, ?_⟩
        have hkk : k = (ys ++ [[mvV (r, t)]]).length := by simp; omega
        have hk1 : ¬ k = -1 := by omega
        rw [if_neg hk1, ← pre_take hpre' hkk]; show Option.map _ _ = _; kernel_rfl
      · refine S_go 2 (S_end (V_false (V_skip (V_region (S_a [(1, .v (PV.int IntKind.i64 (↑(t + 1) : Int)))] (ap ((wrapE (by omega) (by omega)) : PV.int IntKind.i64 (IntKind.i64.wrap ((↑t : Int) + 1)) = PV.int IntKind.i64 (↑(t + 1) : Int)) an) (S_go 1 (S_end ?_)))))))
        exact ⟨(t + 1, ys ++ [[mvV (r, t)]], kd - 1), ⟨by omega, hys', by simp; omega, by omega⟩, by simp only; omega, by kernel_rfl, by kernel_rfl⟩
    · refine ⟨(t + 1, ys, kd), ⟨by omega, hno (by simp only [mvOk, k6, decide_eq_false k7]; simp), hkd, hk2⟩, by simp only; omega, by kernel_rfl, by kernel_rfl⟩
    · refine ⟨(t + 1, ys, kd), ⟨by omega, hno (by simp only [mvOk, k6]; simp), hkd, hk2⟩, by simp only; omega, by kernel_rfl, by kernel_rfl⟩
    · refine ⟨(t + 1, ys, kd), ⟨by omega, hno (by simp only [mvOk, k5]; simp), hkd, hk2⟩, by simp only; omega, by kernel_rfl, by kernel_rfl⟩
    · have htc : t = b.cr.toNat := by omega
      refine ⟨(r + 1, ys, kd), ⟨by omega, ?_, hkd, hk2⟩, by simp only; omega, by kernel_rfl, by kernel_rfl⟩
      rw [hys, hxs, mvLog, mvLog, mvs_succ, htc, List.map_append]
  have hrl : r = share.length := by omega
  refine ⟨.inl rfl, ?_⟩
  subst hrl
  have hlen : xs.length = (mvs b fee f share share.length).length := by rw [hxs]; simp
  have hk1 : k = -1 := by omega
  rw [if_pos hk1, ← hxs]; show Option.map _ _ = _; kernel_rfl
theorem f130h {b : Dk} {fee f share : List Int} (h : MvOk b fee f share) (k : Int) (hk : k = -1 ∨ 1 ≤ k ∧ k ≤ (mvs b fee f share share.length).length) : @Hands (yo1 Try.prog feeH) 130 [] (mvCaps b fee f share) k (if k = -1 then mvLog b fee f share share.length else (mvLog b fee f share share.length).take k.toNat) :=
  hands_of Try.f130 (fun i => @f130w yo0 _ _ _ _ h k hk i) (by omega)
end Go.Eng
set_option maxRecDepth 10000
set_option maxHeartbeats 2000000
namespace Go.Eng
open Go Go.Proofs
def inB (n lo hi : Int) : Bool := decide (lo ≤ n) && decide (n ≤ hi)
def incr (l : List Int) : Bool := (List.range (l.length - 1)).all fun j => decide (l.getD j 0 < l.getD (j + 1) 0)
theorem incr_t {l : List Int} (h : ∀ j, j + 1 < l.length → l.getD j 0 < l.getD (j + 1) 0) : incr l = true := by
  simp only [incr, List.all_eq_true, List.mem_range, decide_eq_true_eq]
  exact fun j hj => h j (by omega)
theorem incr_f {l : List Int} {j : Nat} (hj : j + 1 < l.length) (h : l.getD j 0 ≥ l.getD (j + 1) 0) : incr l = false := by
  simp only [incr, List.all_eq_false]
  exact ⟨j, List.mem_range.2 (by omega), by simp only [decide_eq_true_eq]; omega⟩
theorem incr_get {l : List Int} (h : incr l = true) {j : Nat} (hj : j + 1 < l.length) : l.getD j 0 < l.getD (j + 1) 0 := by
  simp only [incr, List.all_eq_true, List.mem_range, decide_eq_true_eq] at h
  exact h j (by omega)
def rndErr (cr : Int) (r : Rnd) : Int := if r.may.length = 0 then 6 else if !r.may.all (fun x => decide (0 ≤ x) && decide (x ≤ cr - 1)) then 1 else if !incr r.may then 4 else 0
def rndsErr (cr : Int) : List Rnd → Int
  | [] => 0
  | r :: rs => if rndErr cr r = 0 then rndsErr cr rs else rndErr cr r
def rndNum (r : Rnd) : Bool := (decide (1 ≤ r.w) && decide (r.w ≤ 9)) && (decide (1 ≤ r.s) && decide (r.s ≤ 5))
def boxErr (b : Dk) : Int :=
  if !(decide (1 ≤ b.cr) && decide (b.cr ≤ 4)) then 2
  else if (b.rs.length : Int) > 7 then 2
  else if !(decide (0 ≤ b.wd) && decide (b.wd ≤ 20)) then 3
  else if !(decide (0 ≤ b.st) && decide (b.st ≤ 20)) then 3
  else if !(decide (0 ≤ b.fn) && decide (b.fn ≤ 20)) then 3
  else if !b.rs.all rndNum then 3
  else rndsErr b.cr b.rs
abbrev rnds (l : List Rnd) : PV := .sl (l.map rndV)
theorem rndsErr_at {cr : Int} {l : List Rnd} {i : Nat} (h : i < l.length) : rndsErr cr (l.drop i) = if rndErr cr (l.getD i default) = 0 then rndsErr cr (l.drop (i + 1)) else rndErr cr (l.getD i default) := by
  rw [List.drop_eq_getElem_cons h, getD_lt h]; rfl
section
variable [Yo]
theorem f114 (r : Rnd) : FG 114 [rndV r] (.bool (rndNum r)) := by
  refine gives_ofX Try.f114 ?_
  refine V_seq (V_region (S_go 2 (S_end (V_seq (V_region (S_go 2 (S_a [(10, .ret (PV.bool (decide (1 ≤ r.w) && decide (r.w ≤ 9))) ([]))] (ap (f78 (r.w) (1) (9)) an) (S_go 1 (S_case 6 (decide (1 ≤ r.w) && decide (r.w ≤ 9)) (fun k0 => (S_go 2 (S_a [(10, .ret (PV.bool (decide (1 ≤ r.s) && decide (r.s ≤ 5))) ([]))] (ap (f78 (r.s) (1) (5)) an) (S_go 2 (S_end (V_ret (E_a [] an (PV.bool (decide (1 ≤ r.s) && decide (r.s ≤ 5))) ([]) ?_ rfl))))))) (fun k0 => (S_go 5 (S_end (V_ret (E_a [] an (PV.bool false) ([]) ?_ rfl))))))))))))))
  · simp only [rndNum, k0, Bool.true_and]
  · simp only [rndNum, k0, Bool.false_and]
theorem f115 (b : Dk) (n : Int) (hb : 1 ≤ b.cr ∧ b.cr ≤ 4) : FG 115 [boxV b, I n] (.bool (decide (0 ≤ n) && decide (n ≤ b.cr - 1))) := by
  refine gives_ofX Try.f115 ?_
  refine V_seq (V_region (S_go 2 (S_end (V_seq (V_region (S_go 3 (S_a [(1, .v (PV.int IntKind.i64 (b.cr - 1)))] (ap ((wrapE rfl (by omega)) : PV.int IntKind.i64 (IntKind.i64.wrap (b.cr - 1)) = PV.int IntKind.i64 (b.cr - 1)) an) (S_a [(10, .ret (PV.bool (decide (0 ≤ n) && decide (n ≤ b.cr - 1))) ([]))] (ap (f78 (n) (0) (b.cr - 1)) an) (S_go 1 (S_end (V_ret (E_a [] an (PV.bool (decide (0 ≤ n) && decide (n ≤ b.cr - 1))) ([]) rfl rfl))))))))))))
theorem f139_3  (x : Rnd) : FG 139 [rndV x, .ref (.func 114 [] [])] (.bool (!(rndNum x))) := by
  refine gives_ofX Try.f139 ?_
  refine V_seq (V_region (S_go 2 (S_end (V_seq (V_region (S_go 2 (S_a [(6, .ret (PV.bool (rndNum x)) ([]))] (ap (f114 (x)) an) (S_go 2 (S_end (V_ret (E_a [] an (PV.bool !rndNum x) ([]) rfl rfl)))))))))))
theorem f146_3n  (l : List Rnd) (hl : l.length < 4294967296) : FG 146 [rnds l, .func 139 [] [.ref (.func 114 [] [])]] (I (idxF (fun x => !(rndNum x)) l)) := by
  refine gives_ofX Try.f146 ?_
  refine V_seq (V_region (S_go 1 (S_end (V_seq (V_seq (V_region (S_go 1 (S_a [(0, .n (l.length))] (ap ((by simp) : some (List.map rndV l).length = some l.length) an) (S_go 1 (S_end (V_block 0 ?_)))))))))))
  refine V_loopS (fun i => i ≤ l.length ∧ ∀ j, j < i → (fun x => !(rndNum x)) (l.getD j default) = false) (fun i => [(8, I (i : Nat))]) (fun i => l.length - i) (0 : Nat) (by simp) fun i ⟨hi, ha⟩ => ?_
  refine V_seq (V_region (S_go 1 (S_end (V_seq (V_dec ((↑i : Int) < (↑l.length : Int)) (fun k0 => (V_skip (V_seq (V_block 1 (V_seq (V_region (S_go 2 (S_end (V_seq (V_region (S_go 3 (S_a [(2, .v (PV.agg [PV.int IntKind.i64 (l.getD i default).w, PV.int IntKind.i64 (l.getD i default).s, PV.sl (List.map I (l.getD i default).may)]))] (ap (getm (default) (by omega) : (List.map rndV l)[i]? = some (PV.agg [PV.int IntKind.i64 (l.getD i default).w, PV.int IntKind.i64 (l.getD i default).s, PV.sl (List.map I (l.getD i default).may)])) an) (S_go 1 (S_a [(7, .ret (PV.bool !rndNum (l.getD i default)) ([]))] (ap (f139_3 (l.getD i default)) an) (S_end (V_if (!rndNum (l.getD i default)) (fun k1 => (V_seq (V_region (S_go 2 (S_end (V_ret (E_a [] an (PV.int IntKind.i64 (↑i : Int)) ([]) ?_ rfl))))))) (fun k1 => (V_skip (V_region (S_a [(1, .v (PV.int IntKind.i64 (↑(i + 1) : Int)))] (ap ((wrapE (by omega) (by omega)) : PV.int IntKind.i64 (IntKind.i64.wrap ((↑i : Int) + 1)) = PV.int IntKind.i64 (↑(i + 1) : Int)) an) (S_go 1 (S_end ?_)))))))))))))))))))))) (fun k0 => (V_exit 0 (V_seq (V_region (S_go 1 (S_end (V_ret (E_a [] an (PV.int IntKind.i64 (-1)) ([]) ?_ rfl)))))))))))))
  · rw [idxF_found (i := i) (by omega) (fun j hj => by rw [← getD_lt (d := default)]; exact ha j hj) (by rw [← getD_lt (d := default)]; assumption)]
  · refine ⟨i + 1, ⟨by omega, fun j hj => ?_⟩, by omega, by kernel_rfl, by kernel_rfl⟩
    rcases Nat.lt_succ_iff_lt_or_eq.1 hj with h | rfl
    · exact ha j h
    · assumption
  · rw [idxF_none fun j hj => by rw [← getD_lt (d := default)]; exact ha j (by omega)]
theorem f138_3n  (l : List Rnd) (hl : l.length < 4294967296) : FG 138 [rnds l, .func 139 [] [.ref (.func 114 [] [])]] (.bool (l.any (fun x => !(rndNum x)))) := by
  refine gives_ofX Try.f138 ?_
  refine V_seq (V_region (S_go 1 (S_end (V_seq (V_region (S_go 2 (S_a [(7, .ret (I (idxF (fun x => !rndNum x) l)) ([]))] (ap (f146_3n (l) (by omega)) an) (S_go 2 (S_end (V_ret (E_a [] an (PV.bool (decide (idxF (fun x => !rndNum x) l ≥ 0))) ([]) ?_ rfl)))))))))))
  rw [idxF_ge]
theorem f113_3  (l : List Rnd) (hl : l.length < 4294967296) : FG 113 [rnds l, .func 114 [] []] (.bool (l.all (fun x => rndNum x))) := by
  refine gives_ofX Try.f113 ?_
  refine V_seq (V_region (S_go 2 (S_end (V_seq (V_region (S_go 2 (S_a [(12, .ret (PV.bool (l.any fun x => !rndNum x)) ([]))] (ap (f138_3n (l) (by omega)) an) (S_go 2 (S_end (V_ret (E_a [] an (PV.bool !l.any fun x => !rndNum x) ([]) ?_ rfl)))))))))))
  simp [List.not_any_eq_all_not]
theorem f126_2 (b : Dk) (hb : 1 ≤ b.cr ∧ b.cr ≤ 4) (x : Int) : FG 126 [I x, .ref (.func 115 [boxV b] [])] (.bool (!(decide (0 ≤ x) && decide (x ≤ b.cr - 1)))) := by
  refine gives_ofX Try.f126 ?_
  refine V_seq (V_region (S_go 1 (S_end (V_seq (V_region (S_go 2 (S_a [(8, .ret (PV.bool (decide (0 ≤ x) && decide (x ≤ b.cr - 1))) ([]))] (ap (f115 (b) (x) (by omega)) an) (S_go 2 (S_end (V_ret (E_a [] an (PV.bool !(decide (0 ≤ x) && decide (x ≤ b.cr - 1))) ([]) rfl rfl)))))))))))
theorem f118_2n (b : Dk) (hb : 1 ≤ b.cr ∧ b.cr ≤ 4) (l : List Int) (hl : l.length < 4294967296) : FG 118 [ints l, .func 126 [] [.ref (.func 115 [boxV b] [])]] (I (idxF (fun x => !(decide (0 ≤ x) && decide (x ≤ b.cr - 1))) l)) := by
  refine gives_ofX Try.f118 ?_
  refine V_seq (V_region (S_go 1 (S_end (V_seq (V_seq (V_region (S_go 1 (S_a [(0, .n (l.length))] (ap ((by simp) : some (List.map I l).length = some l.length) an) (S_go 1 (S_end (V_block 0 ?_)))))))))))
  refine V_loopS (fun i => i ≤ l.length ∧ ∀ j, j < i → (fun x => !(decide (0 ≤ x) && decide (x ≤ b.cr - 1))) (l.getD j 0) = false) (fun i => [(8, I (i : Nat))]) (fun i => l.length - i) (0 : Nat) (by simp) fun i ⟨hi, ha⟩ => ?_
  refine V_seq (V_region (S_go 1 (S_end (V_seq (V_dec ((↑i : Int) < (↑l.length : Int)) (fun k0 => (V_skip (V_seq (V_block 1 (V_seq (V_region (S_go 2 (S_end (V_seq (V_region (S_go 3 (S_a [(2, .v (PV.int IntKind.i64 (l.getD i 0)))] (ap (getm (0) (by omega) : (List.map I l)[i]? = some (PV.int IntKind.i64 (l.getD i 0))) an) (S_go 1 (S_a [(7, .ret (PV.bool !(decide (0 ≤ l.getD i 0) && decide (l.getD i 0 ≤ b.cr - 1))) ([]))] (ap (f126_2 (b) (by omega) (l.getD i 0)) an) (S_end (V_if (!(decide (0 ≤ l.getD i 0) && decide (l.getD i 0 ≤ b.cr - 1))) (fun k1 => (V_seq (V_region (S_go 2 (S_end (V_ret (E_a [] an (PV.int IntKind.i64 (↑i : Int)) ([]) ?_ rfl))))))) (fun k1 => (V_skip (V_region (S_a [(1, .v (PV.int IntKind.i64 (↑(i + 1) : Int)))] (ap ((wrapE (by omega) (by omega)) : PV.int IntKind.i64 (IntKind.i64.wrap ((↑i : Int) + 1)) = PV.int IntKind.i64 (↑(i + 1) : Int)) an) (S_go 1 (S_end ?_)))))))))))))))))))))) (fun k0 => (V_exit 0 (V_seq (V_region (S_go 1 (S_end (V_ret (E_a [] an (PV.int IntKind.i64 (-1)) ([]) ?_ rfl)))))))))))))
  · rw [idxF_found (i := i) (by omega) (fun j hj => by rw [← getD_lt (d := 0)]; exact ha j hj) (by rw [← getD_lt (d := 0)]; assumption)]
  · refine ⟨i + 1, ⟨by omega, fun j hj => ?_⟩, by omega, by kernel_rfl, by kernel_rfl⟩
    rcases Nat.lt_succ_iff_lt_or_eq.1 hj with h | rfl
    · exact ha j h
    · assumption
  · rw [idxF_none fun j hj => by rw [← getD_lt (d := 0)]; exact ha j (by omega)]
theorem f65_2n (b : Dk) (hb : 1 ≤ b.cr ∧ b.cr ≤ 4) (l : List Int) (hl : l.length < 4294967296) : FG 65 [ints l, .func 126 [] [.ref (.func 115 [boxV b] [])]] (.bool (l.any (fun x => !(decide (0 ≤ x) && decide (x ≤ b.cr - 1))))) := by
  refine gives_ofX Try.f65 ?_
  refine V_seq (V_region (S_go 1 (S_end (V_seq (V_region (S_go 2 (S_a [(6, .ret (I (idxF (fun x => !(decide (0 ≤ x) && decide (x ≤ b.cr - 1))) l)) ([]))] (ap (f118_2n (b) (by omega) (l) (by omega)) an) (S_go 2 (S_end (V_ret (E_a [] an (PV.bool (decide (idxF (fun x => !(decide (0 ≤ x) && decide (x ≤ b.cr - 1))) l ≥ 0))) ([]) ?_ rfl)))))))))))
  rw [idxF_ge]
theorem f79_2 (b : Dk) (hb : 1 ≤ b.cr ∧ b.cr ≤ 4) (l : List Int) (hl : l.length < 4294967296) : FG 79 [ints l, .func 115 [boxV b] []] (.bool (l.all (fun x => decide (0 ≤ x) && decide (x ≤ b.cr - 1)))) := by
  refine gives_ofX Try.f79 ?_
  refine V_seq (V_region (S_go 2 (S_end (V_seq (V_region (S_go 2 (S_a [(12, .ret (PV.bool (l.any fun x => !(decide (0 ≤ x) && decide (x ≤ b.cr - 1)))) ([]))] (ap (f65_2n (b) (by omega) (l) (by omega)) an) (S_go 2 (S_end (V_ret (E_a [] an (PV.bool !l.any fun x => !(decide (0 ≤ x) && decide (x ≤ b.cr - 1))) ([]) ?_ rfl)))))))))))
  simp [List.not_any_eq_all_not]
theorem f58 (b : Dk) (hb : Small b) : FG 58 [boxV b] (I (boxErr b)) := by
  refine gives_ofX Try.f58 ?_
  have hb1 := hb.1
  refine V_seq (V_region (S_go 2 (S_end (V_seq (V_block 0 (V_seq (V_region (S_go 2 (S_a [(10, .ret (PV.bool (decide (1 ≤ b.cr) && decide (b.cr ≤ 4))) ([]))] (ap (f78 (b.cr) (1) (4)) an) (S_go 2 (S_case 11 (!(decide (1 ≤ b.cr) && decide (b.cr ≤ 4))) (fun k0 => (S_go 6 (S_end (V_true (V_seq (V_region (S_go 1 (S_end (V_ret (E_a [] an (PV.int IntKind.i64 2) ([]) ?_ rfl)))))))))) (fun k0 => (S_go 2 (S_a [(0, .n (b.rs.length))] (ap ((by simp) : some (List.map rndV b.rs).length = some b.rs.length) an) (S_go 3 (S_end (V_dec ((↑b.rs.length : Int) > 7) (fun k1 => (V_seq (V_region (S_go 1 (S_end (V_ret (E_a [] an (PV.int IntKind.i64 2) ([]) ?_ rfl))))))) (fun k1 => (V_seq (V_region (S_go 2 (S_a [(10, .ret (PV.bool (decide (0 ≤ b.wd) && decide (b.wd ≤ 20))) ([]))] (ap (f78 (b.wd) (0) (20)) an) (S_go 2 (S_case 22 (!(decide (0 ≤ b.wd) && decide (b.wd ≤ 20))) (fun k2 => (S_go 12 (S_end (V_true (V_seq (V_region (S_go 1 (S_end (V_ret (E_a [] an (PV.int IntKind.i64 3) ([]) ?_ rfl)))))))))) (fun k2 => (S_go 2 (S_a [(10, .ret (PV.bool (decide (0 ≤ b.st) && decide (b.st ≤ 20))) ([]))] (ap (f78 (b.st) (0) (20)) an) (S_go 3 (S_case 28 (!(decide (0 ≤ b.st) && decide (b.st ≤ 20))) (fun k3 => (S_go 6 (S_end (V_true (V_seq (V_region (S_go 1 (S_end (V_ret (E_a [] an (PV.int IntKind.i64 3) ([]) ?_ rfl)))))))))) (fun k3 => (S_go 2 (S_a [(10, .ret (PV.bool (decide (0 ≤ b.fn) && decide (b.fn ≤ 20))) ([]))] (ap (f78 (b.fn) (0) (20)) an) (S_go 3 (S_end (V_if (!(decide (0 ≤ b.fn) && decide (b.fn ≤ 20))) (fun k4 => (V_seq (V_region (S_go 1 (S_end (V_ret (E_a [] an (PV.int IntKind.i64 3) ([]) ?_ rfl))))))) (fun k4 => (V_seq (V_region (S_go 2 (S_a [(7, .ret (PV.bool (b.rs.all fun x => rndNum x)) ([]))] (ap (f113_3 (b.rs) (by omega)) an) (S_go 2 (S_end (V_if (!b.rs.all fun x => rndNum x) (fun k5 => (V_seq (V_region (S_go 1 (S_end (V_ret (E_a [] an (PV.int IntKind.i64 3) ([]) ?_ rfl))))))) (fun k5 => (V_skip (V_seq (V_seq (V_region (S_go 2 (S_a [(0, .n (b.rs.length))] (ap ((by simp) : some (List.map rndV b.rs).length = some b.rs.length) an) (S_go 1 (S_end (V_block 1 ?_)))))))))))))))))))))))))))))))))))))))))))))))))))))
  · simp only [boxErr, k0, if_true]
  · simp only [boxErr, k0, k1, if_true]; rfl
  · simp only [boxErr, k0, k1, k2, if_true, if_false]; rfl
  · simp only [boxErr, k0, k1, k2, k3, if_true, if_false]; rfl
  · simp only [boxErr, k0, k1, k2, k3, k4, if_true, if_false]; rfl
  · simp only [boxErr, k0, k1, k2, k3, k4, k5, if_true, if_false]; rfl
  have e : boxErr b = rndsErr b.cr b.rs := by simp only [boxErr, k0, k1, k2, k3, k4, k5, if_false]; rfl
  have hcr := in_and k0
  rw [e]
  refine V_loopS (fun i => i ≤ b.rs.length ∧ rndsErr b.cr b.rs = rndsErr b.cr (b.rs.drop i)) (fun i => [(42, I (i : Nat))]) (fun i => b.rs.length - i) (0 : Nat) ⟨Nat.zero_le _, rfl⟩ fun i ⟨hi, hr⟩ => ?_
  have hm : i < b.rs.length → (b.rs.getD i default).may.length < 4294967296 := fun h => hb.2 _ (by rw [getD_lt h]; exact List.getElem_mem _)
  have hra : i < b.rs.length → rndsErr b.cr b.rs = if rndErr b.cr (b.rs.getD i default) = 0 then rndsErr b.cr (b.rs.drop (i + 1)) else rndErr b.cr (b.rs.getD i default) := fun h => by rw [hr, rndsErr_at h]
  refine V_seq (V_region (S_go 1 (S_end (V_seq (V_dec ((↑i : Int) < (↑b.rs.length : Int)) (fun k6 => (V_skip (V_seq (V_block 2 (V_seq (V_region (S_a [(2, .v (PV.agg [PV.int IntKind.i64 (b.rs.getD i default).w, PV.int IntKind.i64 (b.rs.getD i default).s, PV.sl (List.map I (b.rs.getD i default).may)]))] (ap (getm (default) (by omega) : (List.map rndV b.rs)[i]? = some (PV.agg [PV.int IntKind.i64 (b.rs.getD i default).w, PV.int IntKind.i64 (b.rs.getD i default).s, PV.sl (List.map I (b.rs.getD i default).may)])) an) (S_go 3 (S_end (V_seq (V_block 3 (V_seq (V_region (S_go 2 (S_a [(0, .n ((b.rs.getD i default).may.length))] (ap ((by simp) : some (List.map I (b.rs.getD i default).may).length = some (b.rs.getD i default).may.length) an) (S_go 2 (S_end (V_dec ((↑(b.rs.getD i default).may.length : Int) = 0) (fun k7 => (V_seq (V_region (S_go 1 (S_end (V_ret (E_a [] an (PV.int IntKind.i64 6) ([]) ?_ rfl))))))) (fun k7 => (V_seq (V_region (S_go 4 (S_a [(7, .ret (PV.bool ((b.rs.getD i default).may.all fun x => decide (0 ≤ x) && decide (x ≤ b.cr - 1))) ([]))] (ap (f79_2 (b) (by omega) ((b.rs.getD i default).may) (by omega)) an) (S_go 2 (S_end (V_if (!(b.rs.getD i default).may.all fun x => decide (0 ≤ x) && decide (x ≤ b.cr - 1)) (fun k8 => (V_seq (V_region (S_go 1 (S_end (V_ret (E_a [] an (PV.int IntKind.i64 1) ([]) ?_ rfl))))))) (fun k8 => (V_skip (V_seq (V_region (S_go 2 (S_a [(2, .ob), (0, .ob), (0, .ob), (0, .v (PV.sl (List.map I (List.take ((b.rs.getD i default).may.length - 1) (List.drop 1 (b.rs.getD i default).may)))))] (ap ((by exact ble_of (by simp only [List.length_map, List.length_set, List.length_append, List.length_cons, List.length_nil, limit] <;> omega)) : Nat.ble 1 (List.map I (b.rs.getD i default).may).length = true) (ap ((by exact ble_of (by simp only [List.length_map, List.length_set, List.length_append, List.length_cons, List.length_nil, limit] <;> omega)) : (List.map I (b.rs.getD i default).may).length.ble (List.map I (b.rs.getD i default).may).length = true) (ap (?_ : ((List.map I (b.rs.getD i default).may).all fun x => x.cells.length.beq ((fun x => x.size) Try.prog.types[3])) = true) (ap ((by simp) : PV.sl (List.take ((List.map I (b.rs.getD i default).may).length - 1) (List.drop 1 (List.map I (b.rs.getD i default).may))) = PV.sl (List.map I (List.take ((b.rs.getD i default).may.length - 1) (List.drop 1 (b.rs.getD i default).may)))) an)))) (S_a [(0, .n ((List.take ((b.rs.getD i default).may.length - 1) (List.drop 1 (b.rs.getD i default).may)).length))] (ap ((by simp) : some (List.map I (List.take ((b.rs.getD i default).may.length - 1) (List.drop 1 (b.rs.getD i default).may))).length = some (List.take ((b.rs.getD i default).may.length - 1) (List.drop 1 (b.rs.getD i default).may)).length) an) (S_go 1 (S_end (V_block 4 ?_)))))))))))))))))))))))))))))))))))) (fun k6 => (V_exit 1 (V_seq (V_region (S_go 1 (S_end (V_ret (E_a [] an (PV.int IntKind.i64 0) ([]) ?_ rfl)))))))))))))
  · have e1 : (b.rs.getD i default).may.length = 0 := by omega
    have e2 : rndErr b.cr (b.rs.getD i default) = 6 := by simp only [rndErr, e1, if_true]
    rw [hra (by omega), e2]; rfl
  · have e1 : ¬ (b.rs.getD i default).may.length = 0 := by omega
    have e2 : rndErr b.cr (b.rs.getD i default) = 1 := by simp only [rndErr, e1, k8, if_true, if_false]
    rw [hra (by omega), e2]; rfl
  · exact all_map _ (fun _ => by kernel_rfl)
  · refine V_loopS (fun j => j + 1 ≤ (b.rs.getD i default).may.length ∧ ∀ t, t < j → (b.rs.getD i default).may.getD t 0 < (b.rs.getD i default).may.getD (t + 1) 0) (fun j => [(62, I (j : Nat))]) (fun j => (b.rs.getD i default).may.length - j) (0 : Nat) ⟨by omega, by simp⟩ fun j ⟨hj, hja⟩ => ?_
    have e1 : ¬ (b.rs.getD i default).may.length = 0 := by omega
    have e2 : (List.take ((b.rs.getD i default).may.length - 1) (List.drop 1 (b.rs.getD i default).may)).length = (b.rs.getD i default).may.length - 1 := by simp
    refine V_seq (V_region (S_go 1 (S_end (V_seq (V_dec ((↑j : Int) < (↑(List.take ((b.rs.getD i default).may.length - 1) (List.drop 1 (b.rs.getD i default).may)).length : Int)) (fun k9 => (V_skip (V_seq (V_block 5 (V_seq (V_region (S_go 2 (S_end (V_seq (V_region (S_go 3 (S_a [(2, .v (PV.int IntKind.i64 ((b.rs.getD i default).may.getD j 0)))] (ap (getm (0) (by omega) : (List.map I (b.rs.getD i default).may)[j]? = some (PV.int IntKind.i64 ((b.rs.getD i default).may.getD j 0))) an) (S_go 4 (S_a [(1, .v (PV.int IntKind.i64 (↑(j + 1) : Int)))] (ap ((wrapE (by omega) (by omega)) : PV.int IntKind.i64 (IntKind.i64.wrap ((↑j : Int) + 1)) = PV.int IntKind.i64 (↑(j + 1) : Int)) an) (S_a [(2, .v (PV.int IntKind.i64 ((b.rs.getD i default).may.getD (j + 1) 0)))] (ap (getm (0) (by omega) : (List.map I (b.rs.getD i default).may)[j + 1]? = some (PV.int IntKind.i64 ((b.rs.getD i default).may.getD (j + 1) 0))) an) (S_go 2 (S_end (V_dec ((b.rs.getD i default).may.getD j 0 ≥ (b.rs.getD i default).may.getD (j + 1) 0) (fun k10 => (V_seq (V_region (S_go 1 (S_end (V_ret (E_a [] an (PV.int IntKind.i64 4) ([]) ?_ rfl))))))) (fun k10 => (V_skip (V_region (S_a [(1, .v (PV.int IntKind.i64 (↑(j + 1) : Int)))] (ap ((wrapE (by omega) (by omega)) : PV.int IntKind.i64 (IntKind.i64.wrap ((↑j : Int) + 1)) = PV.int IntKind.i64 (↑(j + 1) : Int)) an) (S_go 1 (S_end ?_)))))))))))))))))))))))) (fun k9 => (V_exit 4 (V_region (S_a [(1, .v (PV.int IntKind.i64 (↑(i + 1) : Int)))] (ap ((wrapE (by omega) (by omega)) : PV.int IntKind.i64 (IntKind.i64.wrap ((↑i : Int) + 1)) = PV.int IntKind.i64 (↑(i + 1) : Int)) an) (S_go 1 (S_end ?_)))))))))))
    · have e3 : rndErr b.cr (b.rs.getD i default) = 4 := by
        simp only [rndErr, e1, k8, incr_f (l := (b.rs.getD i default).may) (j := j) (by omega) k10]; rfl
      rw [hra (by omega), e3]; rfl
    · refine ⟨j + 1, ⟨by omega, fun t ht => ?_⟩, by omega, by kernel_rfl, by kernel_rfl⟩
      rcases Nat.lt_succ_iff_lt_or_eq.1 ht with h | rfl
      · exact hja t h
      · omega
    · have e3 : rndErr b.cr (b.rs.getD i default) = 0 := by
        simp only [rndErr, e1, k8, incr_t (l := (b.rs.getD i default).may) fun t ht => hja t (by omega)]; rfl
      refine ⟨i + 1, ⟨by omega, ?_⟩, by omega, by kernel_rfl, by kernel_rfl⟩
      rw [hra (by omega), e3]; rfl
  · have : i = b.rs.length := by omega
    rw [hr, this]; simp [rndsErr]
end
end Go.Eng
set_option maxRecDepth 10000
set_option maxHeartbeats 2000000
namespace Go.Eng
open Go Go.Proofs
structure Good (b : Dk) : Prop where
  cr : 1 ≤ b.cr ∧ b.cr ≤ 4
  len : b.rs.length ≤ 7
  wd : 0 ≤ b.wd ∧ b.wd ≤ 20
  st : 0 ≤ b.st ∧ b.st ≤ 20
  fn : 0 ≤ b.fn ∧ b.fn ≤ 20
  num : ∀ r ∈ b.rs, (1 ≤ r.w ∧ r.w ≤ 9) ∧ 1 ≤ r.s ∧ r.s ≤ 5
  may : ∀ r ∈ b.rs, r.may.length ≠ 0 ∧ (∀ x ∈ r.may, 0 ≤ x ∧ x ≤ b.cr - 1) ∧ incr r.may = true
theorem rnds_ok {cr : Int} : ∀ {l : List Rnd}, rndsErr cr l = 0 → ∀ r ∈ l, r.may.length ≠ 0 ∧ (∀ x ∈ r.may, 0 ≤ x ∧ x ≤ cr - 1) ∧ incr r.may = true
  | [], _, r, hr => by cases hr
  | q :: l, h, r, hr => by
    simp only [rndsErr] at h
    by_cases h0 : rndErr cr q = 0
    · rw [if_pos h0] at h
      rcases List.mem_cons.1 hr with rfl | hr
      · simp only [rndErr] at h0
        split at h0
        · cases h0
        · rename_i h1
          split at h0
          · cases h0
          · rename_i h2
            split at h0
            · cases h0
            · rename_i h3
              exact ⟨h1, all_in (by simpa using h2), by simpa using h3⟩
      · exact rnds_ok h r hr
    · rw [if_neg h0] at h; exact absurd h h0
theorem box_good {b : Dk} (h : boxErr b = 0) : Good b := by
  simp only [boxErr] at h
  split at h
  · cases h
  rename_i h1
  split at h
  · cases h
  rename_i h2
  split at h
  · cases h
  rename_i h3
  split at h
  · cases h
  rename_i h4
  split at h
  · cases h
  rename_i h5
  split at h
  · cases h
  rename_i h6
  refine ⟨in_and (by simpa using h1), by omega, in_and (by simpa using h3), in_and (by simpa using h4), in_and (by simpa using h5), fun r hr => ?_, rnds_ok h⟩
  have : b.rs.all rndNum = true := by simpa using h6
  have := List.all_eq_true.1 this r hr
  simp only [rndNum, Bool.and_eq_true, decide_eq_true_eq] at this
  exact this
def feeOf (b : Dk) (r : Rnd) : Int := r.s * (b.st + r.w * b.wd)
def feesOf (b : Dk) : List Int := b.rs.map (feeOf b)
theorem feeOf_bd {b : Dk} {r : Rnd} (h : Good b) (hr : (1 ≤ r.w ∧ r.w ≤ 9) ∧ 1 ≤ r.s ∧ r.s ≤ 5) : 0 ≤ feeOf b r ∧ feeOf b r ≤ 1000 := by
  have h1 := h.wd
  have h2 := h.st
  have h3 : 0 ≤ r.w * b.wd := Int.mul_nonneg (by omega) (by omega)
  have h4 : r.w * b.wd ≤ 9 * 20 := Int.mul_le_mul (by omega) (by omega) (by omega) (by omega)
  refine ⟨Int.mul_nonneg (by omega) (by omega), ?_⟩
  have h5 : r.s * (b.st + r.w * b.wd) ≤ 5 * (20 + 9 * 20) := Int.mul_le_mul (by omega) (by omega) (by omega) (by omega)
  unfold feeOf; omega
theorem feesOf_at {b : Dk} {i : Nat} (h : i < b.rs.length) : (feesOf b).getD i 0 = feeOf b (b.rs.getD i default) := by
  rw [getD_lt (by simpa [feesOf] using h), getD_lt h]; simp [feesOf]
theorem feesOf_len {b : Dk} : (feesOf b).length = b.rs.length := by simp [feesOf]
theorem rnd_num {b : Dk} (h : Good b) {i : Nat} (hi : i < b.rs.length) : (1 ≤ (b.rs.getD i default).w ∧ (b.rs.getD i default).w ≤ 9) ∧ 1 ≤ (b.rs.getD i default).s ∧ (b.rs.getD i default).s ≤ 5 := by
  rw [getD_lt hi]; exact h.num _ (List.getElem_mem hi)
theorem feesOf_bd {b : Dk} (h : Good b) (i : Nat) : 0 ≤ (feesOf b).getD i 0 ∧ (feesOf b).getD i 0 ≤ 1000 := by
  rcases Nat.lt_or_ge i b.rs.length with hi | hi
  · rw [feesOf_at hi]; exact feeOf_bd h (rnd_num h hi)
  · rw [List.getD_eq_getElem?_getD, List.getElem?_eq_none (by rw [feesOf_len]; exact hi)]; simp
theorem good_may {b : Dk} (h : Good b) {i : Nat} (hi : i < b.rs.length) : (b.rs.getD i default).may.length ≠ 0 ∧ (∀ x ∈ (b.rs.getD i default).may, 0 ≤ x ∧ x ≤ b.cr - 1) ∧ incr (b.rs.getD i default).may = true := by
  rw [getD_lt hi]; exact h.may _ (List.getElem_mem hi)
section
variable [Yo]
theorem f101_1 (b : Dk) (hb : Small b) (h : boxErr b = 0) : FG 101 [boxV b] (.tup [.ref (deskV b (feesOf b)), I 0]) := by
  refine gives_ofX Try.f101 ?_
  have hg := box_good h
  have hlen := hg.len
  refine V_seq (V_region (S_go 3 (S_end (V_seq (V_seq (V_region (S_go 1 (S_a [(6, .ret (I (boxErr b)) ([]))] (ap (f58 (b) (by omega)) an) (S_go 1 (S_end (V_seq (V_region (S_go 2 (S_end (V_ndecF (boxErr b = 0) (by omega) (V_skip (V_seq (V_region (S_go 4 (S_end (V_seq (V_seq (V_region (S_go 2 (S_a [(0, .n (b.rs.length))] (ap ((by simp) : some (List.map rndV b.rs).length = some b.rs.length) an) (S_go 1 (S_end (V_block 0 ?_))))))))))))))))))))))))))))
  refine V_loopS (fun (i, f) => i ≤ b.rs.length ∧ f = (feesOf b).take i) (fun (i, f) => [(5, .box (.agg [I b.cr, I b.wd, I b.st, I b.fn, .sl (b.rs.map rndV), .own 1 (f.map I)])), (19, I (i : Nat))]) (fun (i, _) => b.rs.length - i) ((0 : Nat), ([] : List Int)) ⟨Nat.zero_le _, rfl⟩ fun (i, f) ⟨hi, hf⟩ => ?_
  have h1 := hg.wd
  have h2 := hg.st
  have h3 : i < b.rs.length → _ := fun h => rnd_num hg h
  have h4 : i < b.rs.length → 0 ≤ (b.rs.getD i default).w * b.wd ∧ (b.rs.getD i default).w * b.wd ≤ 9 * 20 := fun h => ⟨Int.mul_nonneg (by have := h3 h; omega) (by omega), Int.mul_le_mul (by have := h3 h; omega) (by omega) (by omega) (by omega)⟩
  have h5 : i < b.rs.length → 0 ≤ (b.rs.getD i default).s * (b.st + (b.rs.getD i default).w * b.wd) ∧ (b.rs.getD i default).s * (b.st + (b.rs.getD i default).w * b.wd) ≤ 1000 := fun h => feeOf_bd hg (h3 h)
  have hl : f.length = i := by rw [hf]; simp [feesOf]; omega
  refine V_seq (V_region (S_go 1 (S_end (V_seq (V_dec ((↑i : Int) < (↑b.rs.length : Int)) (fun k0 => (V_skip (V_seq (V_block 1 (V_seq (V_region (S_a [(2, .v (PV.agg [PV.int IntKind.i64 (b.rs.getD i default).w, PV.int IntKind.i64 (b.rs.getD i default).s, PV.sl (List.map I (b.rs.getD i default).may)]))] (ap (getm (default) (by omega) : (List.map rndV b.rs)[i]? = some (PV.agg [PV.int IntKind.i64 (b.rs.getD i default).w, PV.int IntKind.i64 (b.rs.getD i default).s, PV.sl (List.map I (b.rs.getD i default).may)])) an) (S_go 3 (S_end (V_region (S_go 4 (S_a [(1, .v (PV.bor 5 [(0, 5)] 1 0 f.length))] (ap ((by simp) : PV.bor 5 [(0, 5)] 1 0 (List.map I f).length = PV.bor 5 [(0, 5)] 1 0 f.length) an) (S_go 8 (S_a [(1, .v (PV.int IntKind.i64 ((b.rs.getD i default).w * b.wd)))] (ap ((wrapE rfl (by omega)) : PV.int IntKind.i64 (IntKind.i64.wrap ((b.rs.getD i default).w * b.wd)) = PV.int IntKind.i64 ((b.rs.getD i default).w * b.wd)) an) (S_a [(1, .v (PV.int IntKind.i64 (b.st + (b.rs.getD i default).w * b.wd)))] (ap ((wrapE rfl (by omega)) : PV.int IntKind.i64 (IntKind.i64.wrap (b.st + (b.rs.getD i default).w * b.wd)) = PV.int IntKind.i64 (b.st + (b.rs.getD i default).w * b.wd)) an) (S_a [(1, .v (PV.int IntKind.i64 ((b.rs.getD i default).s * (b.st + (b.rs.getD i default).w * b.wd))))] (ap ((wrapE rfl (by omega)) : PV.int IntKind.i64 (IntKind.i64.wrap ((b.rs.getD i default).s * (b.st + (b.rs.getD i default).w * b.wd))) = PV.int IntKind.i64 ((b.rs.getD i default).s * (b.st + (b.rs.getD i default).w * b.wd))) an) (S_go 1 (S_a [(4, .ob), (0, .ob), (0, .ob), (2, .v (PV.own 1 (List.map I (f ++ [(b.rs.getD i default).s * (b.st + (b.rs.getD i default).w * b.wd)]))))] (ap ((by exact ble_of (by simp only [List.length_map, List.length_set, List.length_append, List.length_cons, List.length_nil, limit] <;> omega)) : (0 + f.length).ble (List.map I f).length = true) (ap ((by exact ble_of (by simp only [List.length_map, List.length_set, List.length_append, List.length_cons, List.length_nil, limit] <;> omega)) : ((List.map I f).length + [PV.int IntKind.i64 ((b.rs.getD i default).s * (b.st + (b.rs.getD i default).w * b.wd))].length).ble limit = true) (ap ((by exact beq_of (by simp <;> omega)) : (0 + f.length).beq (List.map I f).length = true) (ap ((by simp) : PV.own 1 (List.map I f ++ [PV.int IntKind.i64 ((b.rs.getD i default).s * (b.st + (b.rs.getD i default).w * b.wd))]) = PV.own 1 (List.map I (f ++ [(b.rs.getD i default).s * (b.st + (b.rs.getD i default).w * b.wd)]))) an)))) (S_go 3 (S_end (V_region (S_a [(1, .v (PV.int IntKind.i64 (↑(i + 1) : Int)))] (ap ((wrapE (by omega) (by omega)) : PV.int IntKind.i64 (IntKind.i64.wrap ((↑i : Int) + 1)) = PV.int IntKind.i64 (↑(i + 1) : Int)) an) (S_go 1 (S_end ?_)))))))))))))))))))))))) (fun k0 => (V_exit 0 (V_seq (V_region (S_go 1 (S_go 1 (S_go 1 (S_end (V_ret (E_a [(1, .env ([(1, (PV.agg [PV.int IntKind.i64 b.cr, PV.int IntKind.i64 b.wd, PV.int IntKind.i64 b.st, PV.int IntKind.i64 b.fn, PV.sl (List.map rndV b.rs)]).box), (2, (PV.agg [PV.int IntKind.i64 b.cr, PV.int IntKind.i64 b.wd, PV.int IntKind.i64 b.st, PV.int IntKind.i64 b.fn, PV.sl (List.map rndV b.rs), PV.sl (List.map I f)]).ref), (3, PV.int IntKind.i64 0), (4, PV.int IntKind.i64 (boxErr b)), (5, (PV.agg [PV.int IntKind.i64 b.cr, PV.int IntKind.i64 b.wd, PV.int IntKind.i64 b.st, PV.int IntKind.i64 b.fn, PV.sl (List.map rndV b.rs), PV.sl (List.map I f)]).ref), (11, PV.bool (boxErr b != 0)), (16, PV.addr 1 [] 0 4 none), (17, PV.sl (List.map rndV b.rs)), (18, PV.int IntKind.i64 (↑b.rs.length : Int)), (19, PV.int IntKind.i64 (↑i : Int)), (20, PV.bool (decide ((↑i : Int) < (↑b.rs.length : Int)))), (44, (PV.agg [PV.int IntKind.i64 b.cr, PV.int IntKind.i64 b.wd, PV.int IntKind.i64 b.st, PV.int IntKind.i64 b.fn, PV.sl (List.map rndV b.rs), PV.sl (List.map I f)]).ref)])), (0, .v ((PV.agg [PV.int IntKind.i64 b.cr, PV.int IntKind.i64 b.wd, PV.int IntKind.i64 b.st, PV.int IntKind.i64 b.fn, PV.sl (List.map rndV b.rs), PV.sl (List.map I f)]).ref))] (ap (Eq.trans (by kernel_rfl : Env.frz [(1, (PV.agg [PV.int IntKind.i64 b.cr, PV.int IntKind.i64 b.wd, PV.int IntKind.i64 b.st, PV.int IntKind.i64 b.fn, PV.sl (List.map rndV b.rs)]).box), (2, PV.addr 5 [] 0 0 (some 6)), (3, PV.int IntKind.i64 0), (4, PV.int IntKind.i64 (boxErr b)), (5, (PV.agg [PV.int IntKind.i64 b.cr, PV.int IntKind.i64 b.wd, PV.int IntKind.i64 b.st, PV.int IntKind.i64 b.fn, PV.sl (List.map rndV b.rs), PV.own 1 (List.map I f)]).box), (11, PV.bool (boxErr b != 0)), (16, PV.addr 1 [] 0 4 none), (17, PV.sl (List.map rndV b.rs)), (18, PV.int IntKind.i64 (↑b.rs.length : Int)), (19, PV.int IntKind.i64 (↑i : Int)), (20, PV.bool (decide ((↑i : Int) < (↑b.rs.length : Int)))), (44, PV.addr 5 [] 0 0 (some 6))] 5 [] = some [(1, (PV.agg [PV.int IntKind.i64 b.cr, PV.int IntKind.i64 b.wd, PV.int IntKind.i64 b.st, PV.int IntKind.i64 b.fn, PV.sl (List.map rndV b.rs)]).box), (2, (PV.agg [PV.int IntKind.i64 b.cr, PV.int IntKind.i64 b.wd, PV.int IntKind.i64 b.st, PV.int IntKind.i64 b.fn, PV.sl (List.map rndV b.rs), PV.sl (freezes (List.map I f))]).ref), (3, PV.int IntKind.i64 0), (4, PV.int IntKind.i64 (boxErr b)), (5, (PV.agg [PV.int IntKind.i64 b.cr, PV.int IntKind.i64 b.wd, PV.int IntKind.i64 b.st, PV.int IntKind.i64 b.fn, PV.sl (List.map rndV b.rs), PV.sl (freezes (List.map I f))]).ref), (11, PV.bool (boxErr b != 0)), (16, PV.addr 1 [] 0 4 none), (17, PV.sl (List.map rndV b.rs)), (18, PV.int IntKind.i64 (↑b.rs.length : Int)), (19, PV.int IntKind.i64 (↑i : Int)), (20, PV.bool (decide ((↑i : Int) < (↑b.rs.length : Int)))), (44, (PV.agg [PV.int IntKind.i64 b.cr, PV.int IntKind.i64 b.wd, PV.int IntKind.i64 b.st, PV.int IntKind.i64 b.fn, PV.sl (List.map rndV b.rs), PV.sl (freezes (List.map I f))]).ref)]) ((by simp only [show freezes (List.map I f) = List.map I f from (by first | exact freezes_mapI _ | exact freezes_mapG _ | exact freezes_to (by simp [take_mapL]) (freezes_mapI _))]) : some [(1, (PV.agg [PV.int IntKind.i64 b.cr, PV.int IntKind.i64 b.wd, PV.int IntKind.i64 b.st, PV.int IntKind.i64 b.fn, PV.sl (List.map rndV b.rs)]).box), (2, (PV.agg [PV.int IntKind.i64 b.cr, PV.int IntKind.i64 b.wd, PV.int IntKind.i64 b.st, PV.int IntKind.i64 b.fn, PV.sl (List.map rndV b.rs), PV.sl (freezes (List.map I f))]).ref), (3, PV.int IntKind.i64 0), (4, PV.int IntKind.i64 (boxErr b)), (5, (PV.agg [PV.int IntKind.i64 b.cr, PV.int IntKind.i64 b.wd, PV.int IntKind.i64 b.st, PV.int IntKind.i64 b.fn, PV.sl (List.map rndV b.rs), PV.sl (freezes (List.map I f))]).ref), (11, PV.bool (boxErr b != 0)), (16, PV.addr 1 [] 0 4 none), (17, PV.sl (List.map rndV b.rs)), (18, PV.int IntKind.i64 (↑b.rs.length : Int)), (19, PV.int IntKind.i64 (↑i : Int)), (20, PV.bool (decide ((↑i : Int) < (↑b.rs.length : Int)))), (44, (PV.agg [PV.int IntKind.i64 b.cr, PV.int IntKind.i64 b.wd, PV.int IntKind.i64 b.st, PV.int IntKind.i64 b.fn, PV.sl (List.map rndV b.rs), PV.sl (freezes (List.map I f))]).ref)] = some [(1, (PV.agg [PV.int IntKind.i64 b.cr, PV.int IntKind.i64 b.wd, PV.int IntKind.i64 b.st, PV.int IntKind.i64 b.fn, PV.sl (List.map rndV b.rs)]).box), (2, (PV.agg [PV.int IntKind.i64 b.cr, PV.int IntKind.i64 b.wd, PV.int IntKind.i64 b.st, PV.int IntKind.i64 b.fn, PV.sl (List.map rndV b.rs), PV.sl (List.map I f)]).ref), (3, PV.int IntKind.i64 0), (4, PV.int IntKind.i64 (boxErr b)), (5, (PV.agg [PV.int IntKind.i64 b.cr, PV.int IntKind.i64 b.wd, PV.int IntKind.i64 b.st, PV.int IntKind.i64 b.fn, PV.sl (List.map rndV b.rs), PV.sl (List.map I f)]).ref), (11, PV.bool (boxErr b != 0)), (16, PV.addr 1 [] 0 4 none), (17, PV.sl (List.map rndV b.rs)), (18, PV.int IntKind.i64 (↑b.rs.length : Int)), (19, PV.int IntKind.i64 (↑i : Int)), (20, PV.bool (decide ((↑i : Int) < (↑b.rs.length : Int)))), (44, (PV.agg [PV.int IntKind.i64 b.cr, PV.int IntKind.i64 b.wd, PV.int IntKind.i64 b.st, PV.int IntKind.i64 b.fn, PV.sl (List.map rndV b.rs), PV.sl (List.map I f)]).ref)])) (ap ((by simp only [show freezes (List.map I f) = List.map I f from (by first | exact freezes_mapI _ | exact freezes_mapG _ | exact freezes_to (by simp [take_mapL]) (freezes_mapI _))]) : (PV.agg [PV.int IntKind.i64 b.cr, PV.int IntKind.i64 b.wd, PV.int IntKind.i64 b.st, PV.int IntKind.i64 b.fn, PV.sl (List.map rndV b.rs), PV.sl (freezes (List.map I f))]).ref = (PV.agg [PV.int IntKind.i64 b.cr, PV.int IntKind.i64 b.wd, PV.int IntKind.i64 b.st, PV.int IntKind.i64 b.fn, PV.sl (List.map rndV b.rs), PV.sl (List.map I f)]).ref) an)) (PV.tup [(PV.agg [PV.int IntKind.i64 b.cr, PV.int IntKind.i64 b.wd, PV.int IntKind.i64 b.st, PV.int IntKind.i64 b.fn, PV.sl (List.map rndV b.rs), PV.sl (List.map I f)]).ref, PV.int IntKind.i64 0]) ([]) ?_ rfl)))))))))))))))
  · refine ⟨(i + 1, f ++ [(b.rs.getD i default).s * (b.st + (b.rs.getD i default).w * b.wd)]), ⟨by omega, ?_⟩, by simp only; omega, by kernel_rfl, by kernel_rfl⟩
    rw [hf, List.take_add_one, List.getElem?_eq_getElem (by rw [feesOf_len]; omega)]
    have := feesOf_at (b := b) (i := i) (by omega)
    rw [getD_lt (by rw [feesOf_len]; omega)] at this
    rw [this]; rfl
  · rw [hf, List.take_of_length_le (by rw [feesOf_len]; omega)]
theorem f101_2 (b : Dk) (hb : Small b) (h : ¬ boxErr b = 0) : FG 101 [boxV b] (.tup [.nilp, I (boxErr b)]) := by
  refine gives_ofX Try.f101 ?_
  refine V_seq (V_region (S_go 3 (S_end (V_seq (V_seq (V_region (S_go 1 (S_a [(6, .ret (I (boxErr b)) ([]))] (ap (f58 (b) (by omega)) an) (S_go 1 (S_end (V_seq (V_region (S_go 2 (S_end (V_ndecT (boxErr b = 0) (by omega) (V_seq (V_region (S_go 3 (S_end (V_ret (E_a [] an (PV.tup [PV.nilp, PV.int IntKind.i64 (boxErr b)]) ([]) rfl rfl)))))))))))))))))))))
theorem f116 (b : Dk) (fee : List Int) (n : Int) (hl : b.rs.length < 4294967296) : FG 116 [.ref (deskV b fee), I n] (.bool (decide (0 ≤ n) && decide (n ≤ (b.rs.length : Int) - 1))) := by
  refine gives_ofX Try.f116 ?_
  refine V_seq (V_region (S_go 1 (S_end (V_seq (V_region (S_go 6 (S_a [(0, .n (b.rs.length))] (ap ((by simp) : some (List.map rndV b.rs).length = some b.rs.length) an) (S_a [(1, .v (PV.int IntKind.i64 ((↑b.rs.length : Int) - 1)))] (ap ((wrapE rfl (by omega)) : PV.int IntKind.i64 (IntKind.i64.wrap ((↑b.rs.length : Int) - 1)) = PV.int IntKind.i64 ((↑b.rs.length : Int) - 1)) an) (S_a [(10, .ret (PV.bool (decide (0 ≤ n) && decide (n ≤ (↑b.rs.length : Int) - 1))) ([]))] (ap (f78 (n) (0) ((↑b.rs.length : Int) - 1)) an) (S_go 1 (S_end (V_ret (E_a [] an (PV.bool (decide (0 ≤ n) && decide (n ≤ (↑b.rs.length : Int) - 1))) ([]) rfl rfl)))))))))))))
def feeErr (b : Dk) (n : Int) : Int := if boxErr b = 0 then if !(decide (0 ≤ n) && decide (n ≤ (b.rs.length : Int) - 1)) then 1 else 0 else boxErr b
def feeVal (b : Dk) (n : Int) : Int := if feeErr b n = 0 then (feesOf b).getD n.toNat 0 else 0
def mayAll (b : Dk) (l : List Int) : Bool := (List.range l.length).all fun r => has (rnd b r).may (l.getD r 0)
def shareErr (b : Dk) (l : List Int) : Int :=
  if boxErr b = 0 then if l.length = b.rs.length then if !l.all (fun x => decide (0 ≤ x) && decide (x ≤ b.cr - 1)) then 1 else if mayAll b l then 0 else 8 else 2 else boxErr b
structure ShareOk (b : Dk) (l : List Int) : Prop where
  box : boxErr b = 0
  len : l.length = b.rs.length
  rng : ∀ x ∈ l, 0 ≤ x ∧ x ≤ b.cr - 1
  may : mayAll b l = true
def addF (fee share : List Int) : Nat → List Int
  | 0 => [0, 0, 0, 0]
  | n + 1 => (addF fee share n).set (share.getD n 0).toNat ((addF fee share n).getD (share.getD n 0).toNat 0 + fee.getD n 0)
end
end Go.Eng
namespace Go.Eng
open Go
def ltL : List Int → List Int → Bool
  | [], [] => false
  | [], _ :: _ => true
  | _ :: _, [] => false
  | x :: xs, y :: ys => decide (x < y) || decide (x = y) && ltL xs ys
theorem ltL_irrefl : ∀ l, ltL l l = false
  | [] => rfl
  | x :: l => by simp [ltL, ltL_irrefl l]
theorem ltL_trans : ∀ {a b c : List Int}, ltL a b = true → ltL b c = true → ltL a c = true
  | [], [], _, h, _ => by cases h
  | [], _ :: _, [], _, h => by cases h
  | [], _ :: _, _ :: _, _, _ => rfl
  | _ :: _, [], _, h, _ => by cases h
  | _ :: _, _ :: _, [], _, h => by cases h
  | x :: a, y :: b, z :: c, h1, h2 => by
    simp only [ltL, Bool.or_eq_true, Bool.and_eq_true, decide_eq_true_eq] at h1 h2 ⊢
    rcases h1 with h1 | ⟨h1, h3⟩
    · rcases h2 with h2 | ⟨h2, h4⟩
      · exact .inl (by omega)
      · exact .inl (by omega)
    · rcases h2 with h2 | ⟨h2, h4⟩
      · exact .inl (by omega)
      · exact .inr ⟨by omega, ltL_trans h3 h4⟩
theorem ltL_total : ∀ {a b : List Int}, ltL a b = false → a = b ∨ ltL b a = true
  | [], [], _ => .inl rfl
  | [], _ :: _, h => by cases h
  | _ :: _, [], _ => .inr rfl
  | x :: a, y :: b, h => by
    simp only [ltL, Bool.or_eq_false_iff, Bool.and_eq_false_iff, decide_eq_false_iff_not] at h
    obtain ⟨h1, h2⟩ := h
    by_cases e : x = y
    · subst e
      rcases ltL_total (h2.resolve_left fun h => h rfl) with rfl | h3
      · exact .inl rfl
      · exact .inr (by simp [ltL, h3])
    · refine .inr ?_
      simp only [ltL, Bool.or_eq_true, decide_eq_true_eq]
      exact .inl (by omega)
def worse (w : List Int → Int) (m l : List Int) : Prop := w l < w m ∨ w l = w m ∧ (m.length < l.length ∨ m.length = l.length ∧ ltL m l = true)
theorem worse_trans {w : List Int → Int} {a b c : List Int} (h1 : worse w a b) (h2 : worse w b c) : worse w a c := by
  unfold worse at *
  rcases h1 with h1 | ⟨h1, h3⟩
  · rcases h2 with h2 | ⟨h2, _⟩
    · exact .inl (by omega)
    · exact .inl (by omega)
  · rcases h2 with h2 | ⟨h2, h4⟩
    · exact .inl (by omega)
    · refine .inr ⟨by omega, ?_⟩
      rcases h3 with h3 | ⟨h3, h5⟩
      · rcases h4 with h4 | ⟨h4, _⟩
        · exact .inl (by omega)
        · exact .inl (by omega)
      · rcases h4 with h4 | ⟨h4, h6⟩
        · exact .inl (by omega)
        · exact .inr ⟨by omega, ltL_trans h5 h6⟩
theorem worse_irrefl {w : List Int → Int} {a : List Int} (h : worse w a a) : False := by
  rcases h with h | ⟨_, h | ⟨_, h⟩⟩
  · omega
  · omega
  · rw [ltL_irrefl] at h; cases h
structure BestOf (w : List Int → Int) (L : List (List Int)) (m : List Int × Int) : Prop where
  mem : m.1 ∈ L
  val : m.2 = w m.1
  all : ∀ l ∈ L, l = m.1 ∨ worse w m.1 l
theorem best_unique {w : List Int → Int} {L L' : List (List Int)} {m m' : List Int × Int} (h : BestOf w L m) (h' : BestOf w L' m') (hL : ∀ l, l ∈ L ↔ l ∈ L') : m = m' := by
  have e : m.1 = m'.1 := by
    rcases h.all m'.1 ((hL _).2 h'.mem) with e | h1
    · exact e.symm
    · rcases h'.all m.1 ((hL _).1 h.mem) with e | h2
      · exact e
      · exact (worse_irrefl (worse_trans h1 h2)).elim
  have h1 := h.val
  have h2 := h'.val
  rw [e, ← h2] at h1
  exact Prod.ext e h1
def bstG (w : List Int → Int) (m : List Int × Int) (l : List Int) : List Int × Int :=
  if decide (w l > m.2) || decide (w l = m.2) && (decide (l.length < m.1.length) || decide (l.length = m.1.length) && ltL l m.1) then (l, w l) else m
def bstR (w : List Int → Int) (m : List Int × Int) (l : List Int) : List Int × Int :=
  if decide (w l > m.2) || decide (w l = m.2) && decide (l.length < m.1.length) then (l, w l) else m
theorem stepG_best {w : List Int → Int} {L : List (List Int)} {m : List Int × Int} (h : BestOf w L m) (l : List Int) : BestOf w (L ++ [l]) (bstG w m l) := by
  have hv := h.val
  unfold bstG
  split
  · rename_i hc
    simp only [Bool.or_eq_true, Bool.and_eq_true, decide_eq_true_eq] at hc
    have hw : worse w l m.1 := by
      unfold worse
      rcases hc with hc | ⟨hc, hc2 | ⟨hc2, hc3⟩⟩
      · exact .inl (by omega)
      · exact .inr ⟨by omega, .inl hc2⟩
      · exact .inr ⟨by omega, .inr ⟨hc2, hc3⟩⟩
    refine ⟨by simp, rfl, fun q hq => ?_⟩
    rcases List.mem_append.1 hq with hq | hq
    · rcases h.all q hq with rfl | h2
      · exact .inr hw
      · exact .inr (worse_trans hw h2)
    · rw [List.mem_singleton] at hq; exact .inl hq
  · rename_i hc
    refine ⟨List.mem_append_left _ h.mem, hv, fun q hq => ?_⟩
    rcases List.mem_append.1 hq with hq | hq
    · exact h.all q hq
    · rw [List.mem_singleton] at hq; subst hq
      simp only [Bool.or_eq_true, Bool.and_eq_true, decide_eq_true_eq, not_or, not_and] at hc
      obtain ⟨h1, h2⟩ := hc
      by_cases e : w q = m.2
      · obtain ⟨h3, h4⟩ := h2 e
        by_cases e2 : q.length = m.1.length
        · have h5 : ltL q m.1 = false := by simpa using h4 e2
          rcases ltL_total h5 with e3 | h6
          · exact .inl e3
          · exact .inr (.inr ⟨by omega, .inr ⟨e2.symm, h6⟩⟩)
        · exact .inr (.inr ⟨by omega, .inl (by omega)⟩)
      · exact .inr (.inl (by omega))
theorem stepR_best {w : List Int → Int} {L : List (List Int)} {m : List Int × Int} (h : BestOf w L m) (l : List Int) (hl : ∀ q ∈ L, ltL q l = true) : BestOf w (L ++ [l]) (bstR w m l) := by
  have hv := h.val
  unfold bstR
  split
  · rename_i hc
    simp only [Bool.or_eq_true, Bool.and_eq_true, decide_eq_true_eq] at hc
    have hw : worse w l m.1 := by
      unfold worse
      rcases hc with hc | ⟨hc, hc2⟩
      · exact .inl (by omega)
      · exact .inr ⟨by omega, .inl hc2⟩
    refine ⟨by simp, rfl, fun q hq => ?_⟩
    rcases List.mem_append.1 hq with hq | hq
    · rcases h.all q hq with rfl | h2
      · exact .inr hw
      · exact .inr (worse_trans hw h2)
    · rw [List.mem_singleton] at hq; exact .inl hq
  · rename_i hc
    refine ⟨List.mem_append_left _ h.mem, hv, fun q hq => ?_⟩
    rcases List.mem_append.1 hq with hq | hq
    · exact h.all q hq
    · rw [List.mem_singleton] at hq; subst hq
      simp only [Bool.or_eq_true, Bool.and_eq_true, decide_eq_true_eq, not_or, not_and] at hc
      obtain ⟨h1, h2⟩ := hc
      by_cases e : w q = m.2
      · have h3 := h2 e
        by_cases e2 : q.length = m.1.length
        · exact .inr (.inr ⟨by omega, .inr ⟨e2.symm, hl _ h.mem⟩⟩)
        · exact .inr (.inr ⟨by omega, .inl (by omega)⟩)
      · exact .inr (.inl (by omega))
def goG (w : List Int → Int) (L : List (List Int)) : List Int × Int := L.foldl (bstG w) ([], 0)
def goR (w : List Int → Int) (L : List (List Int)) : List Int × Int := L.foldl (bstR w) ([], 0)
theorem goG_best {w : List Int → Int} (h0 : w [] = 0) {T : List (List Int)} : BestOf w ([] :: T) (goG w ([] :: T)) := by
  have key : ∀ (T L : List (List Int)) m, BestOf w L m → BestOf w (L ++ T) (T.foldl (bstG w) m) := by
    intro T
    induction T with
    | nil => intro L m h; simpa using h
    | cons l T ih =>
      intro L m h
      have := ih _ _ (stepG_best h l)
      rwa [List.append_assoc] at this
  have e : bstG w ([], 0) [] = ([], 0) := by simp [bstG, h0, ltL]
  unfold goG
  rw [List.foldl_cons, e]
  exact key T [[]] _ ⟨by simp, by simp [h0], fun l hl => .inl (by simpa using hl)⟩
theorem goR_best {w : List Int → Int} (h0 : w [] = 0) {T : List (List Int)} (hs : ([] :: T).Pairwise fun a b => ltL a b = true) : BestOf w ([] :: T) (goR w ([] :: T)) := by
  have key : ∀ (T L : List (List Int)) m, BestOf w L m → (L ++ T).Pairwise (fun a b => ltL a b = true) → BestOf w (L ++ T) (T.foldl (bstR w) m) := by
    intro T
    induction T with
    | nil => intro L m h _; simpa using h
    | cons l T ih =>
      intro L m h hp
      have h1 := (List.pairwise_append.1 hp).2.2
      have := ih _ _ (stepR_best h l fun q hq => h1 q hq l (by simp)) (by rw [List.append_assoc]; exact hp)
      rwa [List.append_assoc] at this
  have e : bstR w ([], 0) [] = ([], 0) := by simp [bstR, h0]
  unfold goR
  rw [List.foldl_cons, e]
  exact key T [[]] _ ⟨by simp, by simp [h0], fun l hl => .inl (by simpa using hl)⟩ hs
def bitsL (n s : Nat) : List Int := ((List.range n).filter fun r => Nat.beq ((s >>> r) % 2) 1).map Int.ofNat
def bitsAll (n : Nat) : List (List Int) := (List.range (2 ^ n)).map (bitsL n)
def subsF : Nat → Nat → List (List Int)
  | 0, _ => [[]]
  | k + 1, f => [] :: ((subsF k (f + 1)).map ((f : Int) :: ·) ++ (subsF k (f + 1)).tail)
def subsP (k f j : Nat) : List (List Int) := [] :: (List.range j).flatMap fun i => (subsF (k - i - 1) (f + i + 1)).map (((f + i : Nat) : Int) :: ·)
theorem subs_all : ∀ k f, subsP k f k = subsF k f
  | 0, _ => rfl
  | k + 1, f => by
    have ih := subs_all k (f + 1)
    rw [subsF, ← ih]
    unfold subsP
    rw [List.range_succ_eq_map, List.flatMap_cons, List.flatMap_map]
    have e : subsF (k + 1 - 0 - 1) (f + 0 + 1) = subsF k (f + 1) := rfl
    have e2 : (fun i => (subsF (k + 1 - i.succ - 1) (f + i.succ + 1)).map (((f + i.succ : Nat) : Int) :: ·)) = fun i => (subsF (k - i - 1) (f + 1 + i + 1)).map (((f + 1 + i : Nat) : Int) :: ·) := by
      funext i
      rw [show k + 1 - i.succ - 1 = k - i - 1 by omega, show f + i.succ = f + 1 + i by omega]
    rw [e, e2, ← ih]
    simp only [subsP, List.tail_cons, Nat.add_zero]
theorem subs_next {k f j : Nat} : subsP k f (j + 1) = subsP k f j ++ (subsF (k - j - 1) (f + j + 1)).map (((f + j : Nat) : Int) :: ·) := by
  simp only [subsP, List.range_succ, List.flatMap_append, List.flatMap_cons, List.flatMap_nil, List.append_nil, List.cons_append]
def sortedB : List (List Int) → Bool
  | [] => true
  | l :: L => L.all (ltL l) && sortedB L
theorem sorted_of : ∀ {L : List (List Int)}, sortedB L = true → L.Pairwise fun a b => ltL a b = true
  | [], _ => List.Pairwise.nil
  | l :: L, h => by
    simp only [sortedB, Bool.and_eq_true, List.all_eq_true] at h
    exact List.Pairwise.cons h.1 (sorted_of h.2)
theorem subs_sorted : ∀ n, n ≤ 7 → sortedB (subsF n 0) = true
  | 0, _ | 1, _ | 2, _ | 3, _ | 4, _ | 5, _ | 6, _ | 7, _ => by kernel_rfl
def sameB (n : Nat) : Bool := (bitsAll n).all (fun l => (subsF n 0).any fun q => decide (l = q)) && (subsF n 0).all fun l => (bitsAll n).any fun q => decide (l = q)
theorem same_all : ∀ n, n ≤ 7 → sameB n = true
  | 0, _ | 1, _ | 2, _ | 3, _ | 4, _ | 5, _ | 6, _ | 7, _ => by kernel_rfl
theorem bits_subs {n : Nat} (hn : n ≤ 7) (l : List Int) : l ∈ bitsAll n ↔ l ∈ subsF n 0 := by
  have h := same_all n hn
  simp only [sameB, Bool.and_eq_true, List.all_eq_true, List.any_eq_true, decide_eq_true_eq] at h
  exact ⟨fun h1 => by obtain ⟨q, h2, rfl⟩ := h.1 l h1; exact h2, fun h1 => by obtain ⟨q, h2, rfl⟩ := h.2 l h1; exact h2⟩
theorem bits_head {n : Nat} : ∃ T, bitsAll n = [] :: T := by
  refine ⟨((List.range (2 ^ n - 1)).map Nat.succ).map (bitsL n), ?_⟩
  have e : 2 ^ n = 2 ^ n - 1 + 1 := by have := Nat.one_le_two_pow (n := n); omega
  unfold bitsAll
  rw [e, List.range_succ_eq_map, List.map_cons, ← e]
  congr 1
  simp [bitsL]
theorem subs_head {n f : Nat} : ∃ T, subsF n f = [] :: T := by
  cases n with
  | zero => exact ⟨[], rfl⟩
  | succ n => exact ⟨_, rfl⟩
theorem go_same {w : List Int → Int} (h0 : w [] = 0) {n : Nat} (hn : n ≤ 7) : goG w (bitsAll n) = goR w (subsF n 0) := by
  have h1 := sorted_of (subs_sorted n hn)
  have hs := bits_subs hn
  obtain ⟨T, hT⟩ := bits_head (n := n)
  obtain ⟨U, hU⟩ := subs_head (n := n) (f := 0)
  rw [hT, hU] at hs
  rw [hU] at h1
  rw [hT, hU]
  exact best_unique (goG_best h0) (goR_best h0 h1) hs
def costs (b : Dk) (l : List Int) : Int := (l.map fun r => (feesOf b).getD r.toNat 0).sum
def manB (b : Dk) (l : List Int) (c : Nat) : Bool := l.any fun r => has (rnd b r.toNat).may (c : Int)
def menN (b : Dk) (l : List Int) : Nat := ((List.range 4).filter (manB b l)).length
def bndS (b : Dk) (l : List Int) : Int := if menN b l = 0 then 0 else (costs b l + (menN b l : Nat) - 1).tdiv (menN b l : Nat)
theorem bnd_nil (b : Dk) : bndS b [] = 0 := by
  have : menN b [] = 0 := rfl
  simp [bndS, this]
theorem menN_le (b : Dk) (l : List Int) : menN b l ≤ 4 := by
  have := List.length_filter_le (manB b l) (List.range 4)
  simpa [menN] using this
theorem bnd_ceil {b : Dk} {l : List Int} {n : Int} (hm : menN b l ≠ 0) (hc : 0 ≤ costs b l) (hn : 0 ≤ n) (h1 : ¬ n * (menN b l : Nat) < costs b l) (h2 : n = 0 ∨ (n - 1) * (menN b l : Nat) < costs b l) : bndS b l = n := by
  have h4 := menN_le b l
  unfold bndS
  rw [if_neg hm]
  generalize menN b l = m at *
  generalize costs b l = s at *
  rw [Int.tdiv_eq_ediv_of_nonneg (by omega)]
  have : m = 1 ∨ m = 2 ∨ m = 3 ∨ m = 4 := by omega
  rcases this with rfl | rfl | rfl | rfl <;> omega
end Go.Eng
set_option maxRecDepth 10000
set_option maxHeartbeats 2000000
namespace Go.Eng
open Go Go.Proofs
def maxL (l : List Int) : Int := l.tail.foldl (fun m x => if x > m then x else m) (l.getD 0 0)
def minL (l : List Int) : Int := l.tail.foldl (fun m x => if x < m then x else m) (l.getD 0 0)
section
variable [Yo]
def feesL (b : Dk) (l : List Int) : List Int := if shareErr b l = 0 then (addF (feesOf b) l l.length).take b.cr.toNat else []
def spreadV (b : Dk) (l : List Int) : Int := if shareErr b l = 0 then maxL (feesL b l) - minL (feesL b l) else 0
end
end Go.Eng
namespace Go.Eng
open Go Go.Proofs
section
variable [Yo]
theorem f81a (l : List Int) (hl : l.length < 1000) (hb : ∀ x ∈ l, -1000000000000 ≤ x ∧ x ≤ 1000000000000) : FG 81 [ints l] (I l.sum) := by
  refine gives_ofX Try.f81 ?_
  refine V_seq (V_region (S_go 1 (S_end (V_seq (V_region (S_go 1 (S_end (V_seq (V_seq (V_region (S_go 1 (S_a [(0, .n (l.length))] (ap ((by simp) : some (List.map I l).length = some l.length) an) (S_go 1 (S_end (V_block 0 ?_)))))))))))))))
  refine V_loopS (fun (i, a) => i ≤ l.length ∧ a = (l.take i).sum) (fun (i, a) => [(3, I a), (8, I (i : Nat))]) (fun (i, _) => l.length - i) ((0 : Nat), (0 : Int)) (by simp) fun (i, a) ⟨hi, ha⟩ => ?_
  have h1 := sum_bd (l := l.take i) (B := 1000000000000) fun x hx => hb x (List.mem_of_mem_take hx)
  have h2 : (l.take i).length = i := by simp; omega
  rw [h2] at h1
  have h3 : i < l.length → -1000000000000 ≤ l.getD i 0 ∧ l.getD i 0 ≤ 1000000000000 := fun h => by rw [getD_lt h]; exact hb _ (List.getElem_mem _)
  refine V_seq (V_region (S_go 1 (S_end (V_seq (V_dec ((↑i : Int) < (↑l.length : Int)) (fun k0 => (V_skip (V_seq (V_block 1 (V_seq (V_region (S_a [(2, .v (PV.int IntKind.i64 (l.getD i 0)))] (ap (getm (0) (by omega) : (List.map I l)[i]? = some (PV.int IntKind.i64 (l.getD i 0))) an) (S_go 2 (S_end (V_region (S_go 2 (S_a [(1, .v (PV.int IntKind.i64 (a + l.getD i 0)))] (ap ((wrapE rfl (by omega)) : PV.int IntKind.i64 (IntKind.i64.wrap (a + l.getD i 0)) = PV.int IntKind.i64 (a + l.getD i 0)) an) (S_go 1 (S_end (V_region (S_a [(1, .v (PV.int IntKind.i64 (↑(i + 1) : Int)))] (ap ((wrapE (by omega) (by omega)) : PV.int IntKind.i64 (IntKind.i64.wrap ((↑i : Int) + 1)) = PV.int IntKind.i64 (↑(i + 1) : Int)) an) (S_go 1 (S_end ?_)))))))))))))))))) (fun k0 => (V_exit 0 (V_seq (V_region (S_go 2 (S_end (V_ret (E_a [] an (PV.int IntKind.i64 a) ([]) ?_ rfl)))))))))))))
  · exact ⟨(i + 1, a + l.getD i 0), ⟨by omega, by rw [ha, sum_take (by omega)]⟩, by simp only; omega, by kernel_rfl, by kernel_rfl⟩
  · rw [ha, List.take_of_length_le (by omega)]
end
end Go.Eng
set_option maxRecDepth 10000
set_option maxHeartbeats 4000000
namespace Go.Eng
open Go Go.Proofs
def minI (a b : Int) : Int := if b < a then b else a
def fineC (b : Dk) (f late : List Int) (c : Nat) : Int := minI (f.getD c 0) (b.fn * late.getD c 0)
def gotL (b : Dk) (f late : List Int) (n : Nat) : List Int := (List.range n).map fun c => f.getD c 0 - fineC b f late c
def lessL (b : Dk) (f late : List Int) (n : Nat) : List Int := (List.range n).map (fineC b f late)
def fineErr (b : Dk) (l late : List Int) : Int := if shareErr b l = 0 then if (late.length : Int) = b.cr then if !late.all (fun x => decide (0 ≤ x) && decide (x ≤ 60)) then 3 else 0 else 2 else shareErr b l
def fineGot (b : Dk) (l late : List Int) : List Int := if fineErr b l late = 0 then gotL b (addF (feesOf b) l l.length) late b.cr.toNat else []
def fineLess (b : Dk) (l late : List Int) : Int := if fineErr b l late = 0 then (lessL b (addF (feesOf b) l l.length) late b.cr.toNat).sum else 0
section
variable [Yo]
end
end Go.Eng
set_option maxRecDepth 10000
set_option maxHeartbeats 4000000
namespace Go.Eng
open Go Go.Proofs
theorem has_t {l : List Int} {c : Int} {i : Nat} (h : i < l.length) (hc : l.getD i 0 = c) : has l c = true := by
  rw [getD_lt h] at hc
  exact List.any_eq_true.2 ⟨l[i], List.getElem_mem h, by simp [hc]⟩
theorem has_f {l : List Int} {c : Int} (h : ∀ i, i < l.length → ¬ l.getD i 0 = c) : has l c = false := by
  refine List.any_eq_false.2 fun x hx => ?_
  obtain ⟨i, hi, rfl⟩ := List.getElem_of_mem hx
  have := h i hi
  rw [getD_lt hi] at this
  simp only [decide_eq_true_eq]; exact fun hc => this hc.symm
def earnN (b : Dk) (l : List Int) (c : Int) : Nat → Int
  | 0 => 0
  | n + 1 => if l.getD n 0 = c then earnN b l c n + feeOf b (rnd b n) else earnN b l c n
section
variable [Yo]
theorem f117 (b : Dk) (r : Nat) (hr : r < b.rs.length) (hg : Good b) : FG 117 [boxV b, I r] (I (feeOf b (rnd b r))) := by
  refine gives_ofX Try.f117 ?_
  have h1 := hg.wd
  have h2 := hg.st
  have h3 := rnd_num hg hr
  have h4 : 0 ≤ (b.rs.getD r default).s * b.st ∧ (b.rs.getD r default).s * b.st ≤ 5 * 20 := ⟨Int.mul_nonneg (by omega) (by omega), Int.mul_le_mul (by omega) (by omega) (by omega) (by omega)⟩
  have h5 : 0 ≤ (b.rs.getD r default).s * (b.rs.getD r default).w ∧ (b.rs.getD r default).s * (b.rs.getD r default).w ≤ 5 * 9 := ⟨Int.mul_nonneg (by omega) (by omega), Int.mul_le_mul (by omega) (by omega) (by omega) (by omega)⟩
  have h6 : 0 ≤ (b.rs.getD r default).s * (b.rs.getD r default).w * b.wd ∧ (b.rs.getD r default).s * (b.rs.getD r default).w * b.wd ≤ 5 * 9 * 20 := ⟨Int.mul_nonneg (by omega) (by omega), Int.mul_le_mul (by omega) (by omega) (by omega) (by omega)⟩
  refine V_seq (V_region (S_go 2 (S_end (V_seq (V_region (S_go 3 (S_a [(2, .v (PV.agg [PV.int IntKind.i64 (b.rs.getD r default).w, PV.int IntKind.i64 (b.rs.getD r default).s, PV.sl (List.map I (b.rs.getD r default).may)]))] (ap (getm (default) (by omega) : (List.map rndV b.rs)[r]? = some (PV.agg [PV.int IntKind.i64 (b.rs.getD r default).w, PV.int IntKind.i64 (b.rs.getD r default).s, PV.sl (List.map I (b.rs.getD r default).may)])) an) (S_go 3 (S_end (V_seq (V_region (S_go 4 (S_a [(1, .v (PV.int IntKind.i64 ((b.rs.getD r default).s * b.st)))] (ap ((wrapE rfl (by omega)) : PV.int IntKind.i64 (IntKind.i64.wrap ((b.rs.getD r default).s * b.st)) = PV.int IntKind.i64 ((b.rs.getD r default).s * b.st)) an) (S_go 4 (S_a [(1, .v (PV.int IntKind.i64 ((b.rs.getD r default).s * (b.rs.getD r default).w)))] (ap ((wrapE rfl (by omega)) : PV.int IntKind.i64 (IntKind.i64.wrap ((b.rs.getD r default).s * (b.rs.getD r default).w)) = PV.int IntKind.i64 ((b.rs.getD r default).s * (b.rs.getD r default).w)) an) (S_go 2 (S_a [(1, .v (PV.int IntKind.i64 ((b.rs.getD r default).s * (b.rs.getD r default).w * b.wd)))] (ap ((wrapE rfl (by omega)) : PV.int IntKind.i64 (IntKind.i64.wrap ((b.rs.getD r default).s * (b.rs.getD r default).w * b.wd)) = PV.int IntKind.i64 ((b.rs.getD r default).s * (b.rs.getD r default).w * b.wd)) an) (S_a [(1, .v (PV.int IntKind.i64 ((b.rs.getD r default).s * b.st + (b.rs.getD r default).s * (b.rs.getD r default).w * b.wd)))] (ap ((wrapE rfl (by omega)) : PV.int IntKind.i64 (IntKind.i64.wrap ((b.rs.getD r default).s * b.st + (b.rs.getD r default).s * (b.rs.getD r default).w * b.wd)) = PV.int IntKind.i64 ((b.rs.getD r default).s * b.st + (b.rs.getD r default).s * (b.rs.getD r default).w * b.wd)) an) (S_go 1 (S_end (V_ret (E_a [] an (PV.int IntKind.i64 ((b.rs.getD r default).s * b.st + (b.rs.getD r default).s * (b.rs.getD r default).w * b.wd)) ([]) ?_ rfl))))))))))))))))))))))
  show I _ = I _
  congr 1
  simp only [feeOf, rnd, Int.mul_add, Int.mul_assoc]
theorem f95 (b : Dk) (c : Int) (r : Nat) (hr : r < b.rs.length) (hb : Small b) : FG 95 [boxV b, I c, I r] (.bool (has (rnd b r).may c)) := by
  refine gives_ofX Try.f95 ?_
  have hm : (b.rs.getD r default).may.length < 4294967296 := hb.2 _ (by rw [getD_lt hr]; exact List.getElem_mem _)
  refine V_seq (V_region (S_go 2 (S_end (V_seq (V_region (S_go 3 (S_a [(2, .v (PV.agg [PV.int IntKind.i64 (b.rs.getD r default).w, PV.int IntKind.i64 (b.rs.getD r default).s, PV.sl (List.map I (b.rs.getD r default).may)]))] (ap (getm (default) (by omega) : (List.map rndV b.rs)[r]? = some (PV.agg [PV.int IntKind.i64 (b.rs.getD r default).w, PV.int IntKind.i64 (b.rs.getD r default).s, PV.sl (List.map I (b.rs.getD r default).may)])) an) (S_go 3 (S_end (V_seq (V_seq (V_region (S_go 1 (S_end (V_block 0 ?_)))))))))))))))
  show W _ _ _ _ _ _ _ _
  refine V_loopS (fun i => i ≤ (b.rs.getD r default).may.length ∧ ∀ t, t < i → ¬ (b.rs.getD r default).may.getD t 0 = c) (fun i => [(8, I (i : Nat))]) (fun i => (b.rs.getD r default).may.length - i) (0 : Nat) ⟨Nat.zero_le _, by simp⟩ fun i ⟨hi, ha⟩ => ?_
  refine V_seq (V_seq (V_region (S_go 2 (S_a [(0, .n ((b.rs.getD r default).may.length))] (ap ((by simp) : some (List.map I (b.rs.getD r default).may).length = some (b.rs.getD r default).may.length) an) (S_go 1 (S_end (V_dec ((↑i : Int) < (↑(b.rs.getD r default).may.length : Int)) (fun k0 => (V_skip (V_seq (V_block 1 (V_seq (V_region (S_go 2 (S_a [(2, .v (PV.int IntKind.i64 ((b.rs.getD r default).may.getD i 0)))] (ap (getm (0) (by omega) : (List.map I (b.rs.getD r default).may)[i]? = some (PV.int IntKind.i64 ((b.rs.getD r default).may.getD i 0))) an) (S_go 3 (S_end (V_dec ((b.rs.getD r default).may.getD i 0 = c) (fun k1 => (V_seq (V_region (S_go 1 (S_end (V_ret (E_a [] an (PV.bool true) ([]) ?_ rfl))))))) (fun k1 => (V_skip (V_region (S_go 1 (S_a [(1, .v (PV.int IntKind.i64 (↑(i + 1) : Int)))] (ap ((wrapE (by omega) (by omega)) : PV.int IntKind.i64 (IntKind.i64.wrap ((↑i : Int) + 1)) = PV.int IntKind.i64 (↑(i + 1) : Int)) an) (S_go 1 (S_end ?_)))))))))))))))))) (fun k0 => (V_exit 0 (V_seq (V_region (S_go 1 (S_end (V_ret (E_a [] an (PV.bool false) ([]) ?_ rfl)))))))))))))))
  · rw [rnd, has_t (i := i) (by omega) (by assumption)]
  · refine ⟨i + 1, ⟨by omega, fun t ht => ?_⟩, by omega, by kernel_rfl, by kernel_rfl⟩
    rcases Nat.lt_succ_iff_lt_or_eq.1 ht with h | rfl
    · exact ha t h
    · assumption
  · rw [rnd, has_f fun t ht => ha t (by omega)]
end
end Go.Eng
set_option maxRecDepth 10000
set_option maxHeartbeats 4000000
namespace Go.Eng
open Go Go.Proofs
theorem off_not {n lo hi : Int} : (decide (n < lo) || decide (hi < n)) = !(decide (lo ≤ n) && decide (n ≤ hi)) := by
  by_cases h1 : lo ≤ n <;> by_cases h2 : n ≤ hi <;> simp [h1, h2] <;> omega
theorem all_f {α : Type} {p : α → Bool} {l : List α} {i : Nat} {d : α} (h : i < l.length) (hx : p (l.getD i d) = false) : (!l.all p) = true := by
  rw [getD_lt h] at hx
  simp only [Bool.not_eq_true', List.all_eq_false]
  exact ⟨_, List.getElem_mem h, by simp [hx]⟩
theorem all_t {α : Type} {p : α → Bool} {l : List α} {d : α} (h : ∀ i, i < l.length → p (l.getD i d) = true) : (!l.all p) = false := by
  simp only [Bool.not_eq_false', List.all_eq_true]
  intro x hx
  obtain ⟨i, hi, rfl⟩ := List.getElem_of_mem hx
  have := h i hi
  rwa [getD_lt hi] at this
theorem not_t {a : Bool} (h : (!a) = true) : a = false := by simpa using h
theorem not_f {a : Bool} (h : (!a) = false) : a = true := by simpa using h
section
variable [Yo]
theorem f59 (b : Dk) (hb : Small b) : FG 59 [boxV b] (I (boxErr b)) := by
  refine gives_ofX Try.f59 ?_
  have hb1 := hb.1
  refine V_seq (V_region (S_go 2 (S_end (V_seq (V_seq (V_region (S_go 2 (S_a [(10, .ret (PV.bool (decide (b.cr < 1) || decide (4 < b.cr))) ([]))] (ap (f84 (b.cr) (1) (4)) an) (S_go 1 (S_case 11 (decide (b.cr < 1) || decide (4 < b.cr)) (fun k0 => (S_go 5 (S_end (V_true (V_seq (V_region (S_go 1 (S_end (V_ret (E_a [] an (PV.int IntKind.i64 2) ([]) ?_ rfl)))))))))) (fun k0 => (S_go 2 (S_a [(0, .n (b.rs.length))] (ap ((by simp) : some (List.map rndV b.rs).length = some b.rs.length) an) (S_go 2 (S_end (V_dec ((↑b.rs.length : Int) > 7) (fun k1 => (V_seq (V_region (S_go 1 (S_end (V_ret (E_a [] an (PV.int IntKind.i64 2) ([]) ?_ rfl))))))) (fun k1 => (V_skip (V_seq (V_seq (V_region (S_go 2 (S_a [(10, .ret (PV.bool (decide (b.wd < 0) || decide (20 < b.wd))) ([]))] (ap (f84 (b.wd) (0) (20)) an) (S_go 1 (S_case 20 (decide (b.wd < 0) || decide (20 < b.wd)) (fun k2 => (S_go 9 (S_end (V_true (V_seq (V_region (S_go 1 (S_end (V_ret (E_a [] an (PV.int IntKind.i64 3) ([]) ?_ rfl)))))))))) (fun k2 => (S_go 2 (S_a [(10, .ret (PV.bool (decide (b.st < 0) || decide (20 < b.st))) ([]))] (ap (f84 (b.st) (0) (20)) an) (S_go 2 (S_case 25 (decide (b.st < 0) || decide (20 < b.st)) (fun k3 => (S_go 4 (S_end (V_true (V_seq (V_region (S_go 1 (S_end (V_ret (E_a [] an (PV.int IntKind.i64 3) ([]) ?_ rfl)))))))))) (fun k3 => (S_go 2 (S_a [(10, .ret (PV.bool (decide (b.fn < 0) || decide (20 < b.fn))) ([]))] (ap (f84 (b.fn) (0) (20)) an) (S_go 1 (S_end (V_if (decide (b.fn < 0) || decide (20 < b.fn)) (fun k4 => (V_seq (V_region (S_go 1 (S_end (V_ret (E_a [] an (PV.int IntKind.i64 3) ([]) ?_ rfl))))))) (fun k4 => (V_skip (V_seq (V_seq (V_region (S_go 1 (S_end (V_block 0 ?_))))))))))))))))))))))))))))))))))))))))))))
  all_goals rw [off_not] at k0
  · simp only [boxErr, k0, if_true]
  · simp only [boxErr, k0, k1, if_true]; rfl
  all_goals rw [off_not] at k2
  · simp only [boxErr, k0, k1, k2, if_true, if_false]; rfl
  all_goals rw [off_not] at k3
  · simp only [boxErr, k0, k1, k2, k3, if_true, if_false]; rfl
  all_goals rw [off_not] at k4
  · simp only [boxErr, k0, k1, k2, k3, k4, if_true, if_false]; rfl
  have hcr := in_and k0
  refine V_loopS (fun i => i ≤ b.rs.length ∧ ∀ t, t < i → rndNum (b.rs.getD t default) = true) (fun i => [(3, I (i : Nat))]) (fun i => b.rs.length - i) (0 : Nat) ⟨Nat.zero_le _, by simp⟩ fun i ⟨hi, ha⟩ => ?_
  refine V_seq (V_seq (V_region (S_go 3 (S_a [(0, .n (b.rs.length))] (ap ((by simp) : some (List.map rndV b.rs).length = some b.rs.length) an) (S_go 1 (S_end (V_dec ((↑i : Int) < (↑b.rs.length : Int)) (fun k5 => (V_skip (V_seq (V_block 1 (V_seq (V_region (S_go 3 (S_a [(2, .v (PV.agg [PV.int IntKind.i64 (b.rs.getD i default).w, PV.int IntKind.i64 (b.rs.getD i default).s, PV.sl (List.map I (b.rs.getD i default).may)]))] (ap (getm (default) (by omega) : (List.map rndV b.rs)[i]? = some (PV.agg [PV.int IntKind.i64 (b.rs.getD i default).w, PV.int IntKind.i64 (b.rs.getD i default).s, PV.sl (List.map I (b.rs.getD i default).may)])) an) (S_go 2 (S_a [(10, .ret (PV.bool (decide ((b.rs.getD i default).w < 1) || decide (9 < (b.rs.getD i default).w))) ([]))] (ap (f84 ((b.rs.getD i default).w) (1) (9)) an) (S_go 1 (S_case 44 (decide ((b.rs.getD i default).w < 1) || decide (9 < (b.rs.getD i default).w)) (fun k6 => (S_go 8 (S_end (V_true (V_seq (V_region (S_go 1 (S_end (V_ret (E_a [] an (PV.int IntKind.i64 3) ([]) ?_ rfl)))))))))) (fun k6 => (S_go 3 (S_a [(2, .v (PV.agg [PV.int IntKind.i64 (b.rs.getD i default).w, PV.int IntKind.i64 (b.rs.getD i default).s, PV.sl (List.map I (b.rs.getD i default).may)]))] (ap (getm (default) (by omega) : (List.map rndV b.rs)[i]? = some (PV.agg [PV.int IntKind.i64 (b.rs.getD i default).w, PV.int IntKind.i64 (b.rs.getD i default).s, PV.sl (List.map I (b.rs.getD i default).may)])) an) (S_go 2 (S_a [(10, .ret (PV.bool (decide ((b.rs.getD i default).s < 1) || decide (5 < (b.rs.getD i default).s))) ([]))] (ap (f84 ((b.rs.getD i default).s) (1) (5)) an) (S_go 1 (S_end (V_if (decide ((b.rs.getD i default).s < 1) || decide (5 < (b.rs.getD i default).s)) (fun k7 => (V_seq (V_region (S_go 1 (S_end (V_ret (E_a [] an (PV.int IntKind.i64 3) ([]) ?_ rfl))))))) (fun k7 => (V_skip (V_region (S_go 1 (S_a [(1, .v (PV.int IntKind.i64 (↑(i + 1) : Int)))] (ap ((wrapE (by omega) (by omega)) : PV.int IntKind.i64 (IntKind.i64.wrap ((↑i : Int) + 1)) = PV.int IntKind.i64 (↑(i + 1) : Int)) an) (S_go 1 (S_end ?_))))))))))))))))))))))))))) (fun k5 => (V_exit 0 (V_seq (V_seq (V_region (S_go 1 (S_end (V_block 2 ?_)))))))))))))))
  · rw [off_not] at k6
    have hx : rndNum (b.rs.getD i default) = false := by simp only [rndNum, not_t k6, Bool.false_and]
    simp only [boxErr, k0, k1, k2, k3, k4, all_f (by omega) hx, if_true, if_false]; rfl
  · rw [off_not] at k6 k7
    have hx : rndNum (b.rs.getD i default) = false := by simp only [rndNum, not_t k7, Bool.and_false]
    simp only [boxErr, k0, k1, k2, k3, k4, all_f (by omega) hx, if_true, if_false]; rfl
  · rw [off_not] at k6 k7
    have hx : rndNum (b.rs.getD i default) = true := by simp only [rndNum, not_f k6, not_f k7, Bool.true_and]
    refine ⟨i + 1, ⟨by omega, fun t ht => ?_⟩, by omega, by kernel_rfl, by kernel_rfl⟩
    rcases Nat.lt_succ_iff_lt_or_eq.1 ht with h | rfl
    · exact ha t h
    · exact hx
  have k9 := all_t (p := rndNum) (l := b.rs) (d := default) fun t ht => ha t (by omega)
  have e : boxErr b = rndsErr b.cr b.rs := by simp only [boxErr, k0, k1, k2, k3, k4, k9, if_false]; rfl
  rw [e]
  refine V_loopS (fun i => i ≤ b.rs.length ∧ rndsErr b.cr b.rs = rndsErr b.cr (b.rs.drop i)) (fun i => [(4, I (i : Nat))]) (fun i => b.rs.length - i) (0 : Nat) ⟨Nat.zero_le _, rfl⟩ fun i ⟨hi, hr⟩ => ?_
  have hm : i < b.rs.length → (b.rs.getD i default).may.length < 4294967296 := fun h => hb.2 _ (by rw [getD_lt h]; exact List.getElem_mem _)
  have hra : i < b.rs.length → rndsErr b.cr b.rs = if rndErr b.cr (b.rs.getD i default) = 0 then rndsErr b.cr (b.rs.drop (i + 1)) else rndErr b.cr (b.rs.getD i default) := fun h => by rw [hr, rndsErr_at h]
  refine V_seq (V_seq (V_region (S_go 3 (S_a [(0, .n (b.rs.length))] (ap ((by simp) : some (List.map rndV b.rs).length = some b.rs.length) an) (S_go 1 (S_end (V_dec ((↑i : Int) < (↑b.rs.length : Int)) (fun k7 => (V_skip (V_seq (V_block 3 (V_seq (V_region (S_go 3 (S_a [(2, .v (PV.agg [PV.int IntKind.i64 (b.rs.getD i default).w, PV.int IntKind.i64 (b.rs.getD i default).s, PV.sl (List.map I (b.rs.getD i default).may)]))] (ap (getm (default) (by omega) : (List.map rndV b.rs)[i]? = some (PV.agg [PV.int IntKind.i64 (b.rs.getD i default).w, PV.int IntKind.i64 (b.rs.getD i default).s, PV.sl (List.map I (b.rs.getD i default).may)])) an) (S_go 3 (S_end (V_seq (V_seq (V_region (S_go 1 (S_a [(0, .n ((b.rs.getD i default).may.length))] (ap ((by simp) : some (List.map I (b.rs.getD i default).may).length = some (b.rs.getD i default).may.length) an) (S_go 1 (S_end (V_dec ((↑(b.rs.getD i default).may.length : Int) = 0) (fun k8 => (V_seq (V_region (S_go 1 (S_end (V_ret (E_a [] an (PV.int IntKind.i64 6) ([]) ?_ rfl))))))) (fun k8 => (V_skip (V_seq (V_seq (V_region (S_go 1 (S_end (V_block 4 ?_)))))))))))))))))))))))))) (fun k7 => (V_exit 2 (V_seq (V_region (S_go 1 (S_end (V_ret (E_a [] an (PV.int IntKind.i64 0) ([]) ?_ rfl)))))))))))))))
  · have e1 : (b.rs.getD i default).may.length = 0 := by omega
    have e2 : rndErr b.cr (b.rs.getD i default) = 6 := by simp only [rndErr, e1, if_true]
    rw [hra (by omega), e2]; rfl
  · have e1 : ¬ (b.rs.getD i default).may.length = 0 := by omega
    refine V_loopS (fun j => j ≤ (b.rs.getD i default).may.length ∧ ∀ t, t < j → 0 ≤ (b.rs.getD i default).may.getD t 0 ∧ (b.rs.getD i default).may.getD t 0 ≤ b.cr - 1) (fun j => [(6, I (j : Nat))]) (fun j => (b.rs.getD i default).may.length - j) (0 : Nat) ⟨Nat.zero_le _, by simp⟩ fun j ⟨hj, hja⟩ => ?_
    refine V_seq (V_seq (V_region (S_go 2 (S_a [(0, .n ((b.rs.getD i default).may.length))] (ap ((by simp) : some (List.map I (b.rs.getD i default).may).length = some (b.rs.getD i default).may.length) an) (S_go 1 (S_end (V_dec ((↑j : Int) < (↑(b.rs.getD i default).may.length : Int)) (fun k9 => (V_skip (V_seq (V_block 5 (V_seq (V_region (S_go 2 (S_a [(2, .v (PV.int IntKind.i64 ((b.rs.getD i default).may.getD j 0)))] (ap (getm (0) (by omega) : (List.map I (b.rs.getD i default).may)[j]? = some (PV.int IntKind.i64 ((b.rs.getD i default).may.getD j 0))) an) (S_go 3 (S_a [(1, .v (PV.int IntKind.i64 (b.cr - 1)))] (ap ((wrapE rfl (by omega)) : PV.int IntKind.i64 (IntKind.i64.wrap (b.cr - 1)) = PV.int IntKind.i64 (b.cr - 1)) an) (S_a [(10, .ret (PV.bool (decide ((b.rs.getD i default).may.getD j 0 < 0) || decide (b.cr - 1 < (b.rs.getD i default).may.getD j 0))) ([]))] (ap (f84 ((b.rs.getD i default).may.getD j 0) (0) (b.cr - 1)) an) (S_end (V_if (decide ((b.rs.getD i default).may.getD j 0 < 0) || decide (b.cr - 1 < (b.rs.getD i default).may.getD j 0)) (fun k10 => (V_seq (V_region (S_go 1 (S_end (V_ret (E_a [] an (PV.int IntKind.i64 1) ([]) ?_ rfl))))))) (fun k10 => (V_skip (V_region (S_go 1 (S_a [(1, .v (PV.int IntKind.i64 (↑(j + 1) : Int)))] (ap ((wrapE (by omega) (by omega)) : PV.int IntKind.i64 (IntKind.i64.wrap ((↑j : Int) + 1)) = PV.int IntKind.i64 (↑(j + 1) : Int)) an) (S_go 1 (S_end ?_)))))))))))))))))))) (fun k9 => (V_exit 4 (V_seq (V_region (S_go 1 (S_end (V_block 6 ?_))))))))))))))
    · rw [off_not] at k10
      have hx := all_f (p := fun x => decide (0 ≤ x) && decide (x ≤ b.cr - 1)) (l := (b.rs.getD i default).may) (i := j) (d := 0) (by omega) (not_t k10)
      have e2 : rndErr b.cr (b.rs.getD i default) = 1 := by simp only [rndErr, e1, hx, if_true, if_false]
      rw [hra (by omega), e2]; rfl
    · rw [off_not] at k10
      refine ⟨j + 1, ⟨by omega, fun t ht => ?_⟩, by omega, by kernel_rfl, by kernel_rfl⟩
      rcases Nat.lt_succ_iff_lt_or_eq.1 ht with h | rfl
      · exact hja t h
      · have := not_f k10; simpa using this
    have hx := all_t (p := fun x => decide (0 ≤ x) && decide (x ≤ b.cr - 1)) (l := (b.rs.getD i default).may) (d := 0) fun t ht => by have := hja t (by omega); simp only [Bool.and_eq_true, decide_eq_true_eq]; exact this
    refine V_loopS (fun j => 1 ≤ j ∧ j ≤ (b.rs.getD i default).may.length ∧ ∀ t, t + 1 < j → (b.rs.getD i default).may.getD t 0 < (b.rs.getD i default).may.getD (t + 1) 0) (fun j => [(7, I (j : Nat))]) (fun j => (b.rs.getD i default).may.length - j) (1 : Nat) ⟨by omega, by omega, fun t ht => by omega⟩ fun j ⟨hj1, hj, hjb⟩ => ?_
    refine V_seq (V_seq (V_region (S_go 2 (S_a [(0, .n ((b.rs.getD i default).may.length))] (ap ((by simp) : some (List.map I (b.rs.getD i default).may).length = some (b.rs.getD i default).may.length) an) (S_go 1 (S_end (V_dec ((↑j : Int) < (↑(b.rs.getD i default).may.length : Int)) (fun k10 => (V_skip (V_seq (V_block 7 (V_seq (V_region (S_go 2 (S_a [(1, .v (PV.int IntKind.i64 (↑(j - 1) : Int)))] (ap ((wrapE (by omega) (by omega)) : PV.int IntKind.i64 (IntKind.i64.wrap ((↑j : Int) - 1)) = PV.int IntKind.i64 (↑(j - 1) : Int)) an) (S_a [(2, .v (PV.int IntKind.i64 ((b.rs.getD i default).may.getD (j - 1) 0)))] (ap (getm (0) (by omega) : (List.map I (b.rs.getD i default).may)[j - 1]? = some (PV.int IntKind.i64 ((b.rs.getD i default).may.getD (j - 1) 0))) an) (S_go 3 (S_a [(2, .v (PV.int IntKind.i64 ((b.rs.getD i default).may.getD j 0)))] (ap (getm (0) (by omega) : (List.map I (b.rs.getD i default).may)[j]? = some (PV.int IntKind.i64 ((b.rs.getD i default).may.getD j 0))) an) (S_go 2 (S_end (V_dec ((b.rs.getD i default).may.getD (j - 1) 0 ≥ (b.rs.getD i default).may.getD j 0) (fun k11 => (V_seq (V_region (S_go 1 (S_end (V_ret (E_a [] an (PV.int IntKind.i64 4) ([]) ?_ rfl))))))) (fun k11 => (V_skip (V_region (S_go 1 (S_a [(1, .v (PV.int IntKind.i64 (↑(j + 1) : Int)))] (ap ((wrapE (by omega) (by omega)) : PV.int IntKind.i64 (IntKind.i64.wrap ((↑j : Int) + 1)) = PV.int IntKind.i64 (↑(j + 1) : Int)) an) (S_go 1 (S_end ?_))))))))))))))))))))) (fun k10 => (V_exit 6 (V_region (S_go 1 (S_a [(1, .v (PV.int IntKind.i64 (↑(i + 1) : Int)))] (ap ((wrapE (by omega) (by omega)) : PV.int IntKind.i64 (IntKind.i64.wrap ((↑i : Int) + 1)) = PV.int IntKind.i64 (↑(i + 1) : Int)) an) (S_go 1 (S_end ?_))))))))))))))
    · obtain ⟨j', rfl⟩ : ∃ j', j = j' + 1 := ⟨j - 1, by omega⟩
      have e2 : rndErr b.cr (b.rs.getD i default) = 4 := by simp only [rndErr, e1, hx, incr_f (l := (b.rs.getD i default).may) (j := j') (by omega) k11]; rfl
      rw [hra (by omega), e2]; rfl
    · refine ⟨j + 1, ⟨by omega, by omega, fun t ht => ?_⟩, by omega, by kernel_rfl, by kernel_rfl⟩
      rcases Nat.lt_succ_iff_lt_or_eq.1 ht with h | h
      · exact hjb t h
      · obtain ⟨j', rfl⟩ : ∃ j', j = j' + 1 := ⟨j - 1, by omega⟩
        obtain rfl : t = j' := by omega
        have : (b.rs.getD i default).may.getD (t + 1 - 1) 0 = (b.rs.getD i default).may.getD t 0 := rfl
        rw [this] at k11; omega
    · have e2 : rndErr b.cr (b.rs.getD i default) = 0 := by simp only [rndErr, e1, hx, incr_t (l := (b.rs.getD i default).may) fun t ht => hjb t (by omega)]; rfl
      refine ⟨i + 1, ⟨by omega, ?_⟩, by omega, by kernel_rfl, by kernel_rfl⟩
      rw [hra (by omega), e2]; rfl
  · have : i = b.rs.length := by omega
    rw [hr, this]; simp [rndsErr]
end
end Go.Eng
set_option maxRecDepth 10000
set_option maxHeartbeats 4000000
namespace Go.Eng
open Go Go.Proofs
section
variable [Yo]
end
end Go.Eng
set_option maxRecDepth 10000
set_option maxHeartbeats 4000000
namespace Go.Eng
open Go Go.Proofs
section
variable [Yo]
end
end Go.Eng
set_option maxRecDepth 10000
set_option maxHeartbeats 4000000
namespace Go.Eng
open Go Go.Proofs
def greatB (b : Dk) : Bool := decide ((b.rs.length : Int) > 12) || b.rs.any fun r => decide ((r.may.length : Int) > 10)
section
variable [Yo]
theorem f29 (b : Dk) : FG 29 [boxV b] (.bool (greatB b)) := by
  refine gives_ofX Try.f29 ?_
  refine V_seq (V_region (S_go 2 (S_end (V_seq (V_seq (V_region (S_go 2 (S_a [(0, .n (b.rs.length))] (ap ((by simp) : some (List.map rndV b.rs).length = some b.rs.length) an) (S_go 1 (S_end (V_dec ((↑b.rs.length : Int) > 12) (fun k0 => (V_seq (V_region (S_go 1 (S_end (V_ret (E_a [] an (PV.bool true) ([]) ?_ rfl))))))) (fun k0 => (V_skip (V_seq (V_seq (V_region (S_go 2 (S_a [(0, .n (b.rs.length))] (ap ((by simp) : some (List.map rndV b.rs).length = some b.rs.length) an) (S_go 1 (S_end (V_block 0 ?_)))))))))))))))))))))
  · simp only [greatB, k0]; rfl
  refine V_loopS (fun i => i ≤ b.rs.length ∧ ∀ t, t < i → ¬ ((b.rs.getD t default).may.length : Int) > 10) (fun i => [(12, I (i : Nat))]) (fun i => b.rs.length - i) (0 : Nat) ⟨Nat.zero_le _, by simp⟩ fun i ⟨hi, ha⟩ => ?_
  refine V_seq (V_region (S_go 1 (S_end (V_seq (V_dec ((↑i : Int) < (↑b.rs.length : Int)) (fun k1 => (V_skip (V_seq (V_block 1 (V_seq (V_region (S_a [(2, .v (PV.agg [PV.int IntKind.i64 (b.rs.getD i default).w, PV.int IntKind.i64 (b.rs.getD i default).s, PV.sl (List.map I (b.rs.getD i default).may)]))] (ap (getm (default) (by omega) : (List.map rndV b.rs)[i]? = some (PV.agg [PV.int IntKind.i64 (b.rs.getD i default).w, PV.int IntKind.i64 (b.rs.getD i default).s, PV.sl (List.map I (b.rs.getD i default).may)])) an) (S_go 3 (S_end (V_seq (V_region (S_go 2 (S_a [(0, .n ((b.rs.getD i default).may.length))] (ap ((by simp) : some (List.map I (b.rs.getD i default).may).length = some (b.rs.getD i default).may.length) an) (S_go 1 (S_end (V_dec ((↑(b.rs.getD i default).may.length : Int) > 10) (fun k2 => (V_seq (V_region (S_go 1 (S_end (V_ret (E_a [] an (PV.bool true) ([]) ?_ rfl))))))) (fun k2 => (V_skip (V_region (S_a [(1, .v (PV.int IntKind.i64 (↑(i + 1) : Int)))] (ap ((wrapE (by omega) (by omega)) : PV.int IntKind.i64 (IntKind.i64.wrap ((↑i : Int) + 1)) = PV.int IntKind.i64 (↑(i + 1) : Int)) an) (S_go 1 (S_end ?_)))))))))))))))))))))) (fun k1 => (V_exit 0 (V_seq (V_region (S_go 1 (S_end (V_ret (E_a [] an (PV.bool false) ([]) ?_ rfl)))))))))))))
  · have h1 : b.rs.any (fun r => decide ((r.may.length : Int) > 10)) = true := by
      have hi' : i < b.rs.length := by omega
      rw [getD_lt hi'] at k2
      exact List.any_eq_true.2 ⟨_, List.getElem_mem hi', decide_eq_true k2⟩
    simp only [greatB, h1, Bool.or_true]
  · refine ⟨i + 1, ⟨by omega, fun t ht => ?_⟩, by omega, by kernel_rfl, by kernel_rfl⟩
    rcases Nat.lt_succ_iff_lt_or_eq.1 ht with h | rfl
    · exact ha t h
    · exact k2
  · have h1 : b.rs.any (fun r => decide ((r.may.length : Int) > 10)) = false := by
      refine List.any_eq_false.2 fun r hr => ?_
      obtain ⟨j, hj, rfl⟩ := List.getElem_of_mem hr
      have := ha j (by omega)
      rw [getD_lt hj] at this
      simpa using this
    simp only [greatB, h1, decide_eq_false k0, Bool.or_self]
end
end Go.Eng
namespace Go.Eng
open Go Go.Proofs
section
variable [Yo]
theorem f17 (l : List Int) (hl : l.length < 1000000) : FG 17 [ints l] (.own 1 (l.map I)) := by
  refine gives_ofX Try.f17 ?_
  refine V_seq (V_region (S_go 1 (S_end (V_seq (V_region (S_go 1 (S_a [(0, .n (l.length))] (ap ((by simp) : some (List.map I l).length = some l.length) an) (S_a [(4, .ob), (0, .ob), (1, .v (PV.own 1 (List.map I (List.replicate l.length 0))))] (ap ((by exact dec_of (by omega)) : decide (l.length ≤ l.length) = true) (ap ((by exact dec_of (by simp [limit] <;> omega)) : decide (l.length ≤ limit) = true) (ap ((by simp) : PV.own 1 (List.replicate l.length (PV.int IntKind.i64 0)) = PV.own 1 (List.map I (List.replicate l.length 0))) an))) (S_go 1 (S_end (V_seq (V_region (S_go 2 (S_copyL (fun q => q) 3 1 (List.map I (List.replicate l.length 0)) (List.map I l) (List.map I l) (fits_map fun _ _ => (by first | exact fits_one | exact ⟨rfl, rfl, rfl, rfl, Nat.le_refl _, rfl⟩)) (by simp <;> omega) (map_all (by simp <;> omega)) Lens.nil (S_end (V_seq (V_region (S_go 1 (S_a [(2, .yes)] (ap ((by exact beq_of (by simp <;> omega)) : (Nat.beq 0 0 && (List.map I l).length.beq (List.map I l).length) = true) an) (S_end (V_ret (E_a [(1, .yes), (1, .v (PV.own 1 (List.map I l)))] (ap ((by exact ble_of (by simp only [List.length_map, List.length_set, List.length_append, List.length_cons, List.length_nil, limit] <;> omega)) : (0 + (List.map I l).length).ble (List.map I l).length = true) (ap ((by simp [take_mapL]) : PV.own 1 (List.take (List.map I l).length (List.drop 0 (List.map I l))) = PV.own 1 (List.map I l)) an)) (PV.own 1 (List.map I l)) ([]) rfl rfl))))))))))))))))))))))
end
def cmpD (coins : Int) (parts : List Int) (all : Int) (i k : Int) : Int := (coins * parts.getD k.toNat 0).tmod all - (coins * parts.getD i.toNat 0).tmod all
section
variable [Yo]
end
def posB (lt : Int → Int → Bool) (s : List Int) (x : Int) : Nat → Nat
  | 0 => 0
  | j + 1 => if lt x (s.getD j 0) then posB lt s x j else j + 1
def insB (lt : Int → Int → Bool) (s : List Int) (x : Int) : List Int := s.take (posB lt s x s.length) ++ x :: s.drop (posB lt s x s.length)
def isort (lt : Int → Int → Bool) (l : List Int) : List Int := l.foldl (insB lt) []
def ltD (coins : Int) (parts : List Int) (all : Int) (x y : Int) : Bool := decide (cmpD coins parts all x y < 0)
section
variable [Yo]
end
end Go.Eng
