/- Whatever the box and the share: FeeMoves returns true, and what it read reads as it did; no conditions. -/
import Derived.Test.YtpmbobnmpehobaaPf
import Derived.Test.YtpmbobnmpehobaaPe
set_option linter.unusedVariables false
set_option linter.unusedSimpArgs false
set_option linter.unusedSectionVars false
set_option maxRecDepth 10000
set_option maxHeartbeats 4000000
namespace Go.Eng
open Go Go.Proofs
theorem set_same {α : Type} {l : List α} {i : Nat} {d : α} (h : i < l.length) : l.set i (l.getD i d) = l := by
  rw [getD_lt h]; exact List.set_getElem_self h
abbrev rndO (r : Rnd) : PV := .agg [I r.w, I r.s, .own 1 (r.may.map I)]
section
variable [Yo]
theorem f91 (l : List Rnd) (hl : l.length < 4294967296) : FG 91 [rnds l] (.own 3 (l.map rndV)) := by
  refine gives_ofX Try.f91 ?_
  refine V_seq (V_region (S_go 1 (S_end (V_seq (V_region (S_go 1 (S_a [(0, .n (l.length))] (ap ((by simp) : some (List.map rndV l).length = some l.length) an) (S_a [(4, .ob), (0, .ob), (1, .v (PV.own 3 (List.map (fun x => PV.agg [PV.int IntKind.i64 0, PV.int IntKind.i64 0, PV.own 1 []]) (List.replicate l.length ()))))] (ap ((by exact dec_of (by omega)) : decide (l.length ≤ l.length) = true) (ap ((by exact dec_of (by simp [limit] <;> omega)) : decide (l.length ≤ limit) = true) (ap ((by simp) : PV.own 3 (List.replicate l.length (PV.agg [PV.int IntKind.i64 0, PV.int IntKind.i64 0, PV.own 1 []])) = PV.own 3 (List.map (fun x => PV.agg [PV.int IntKind.i64 0, PV.int IntKind.i64 0, PV.own 1 []]) (List.replicate l.length ()))) an))) (S_go 1 (S_end (V_seq (V_region (S_go 2 (S_copyL (fun q => q) 3 3 (List.map (fun x => PV.agg [PV.int IntKind.i64 0, PV.int IntKind.i64 0, PV.own 1 []]) (List.replicate l.length ())) (List.map rndV l) (List.map rndV l) (fits_map fun _ _ => (by first | exact fits_one | exact ⟨rfl, rfl, rfl, rfl, Nat.le_refl _, rfl⟩)) (by simp <;> omega) (map_all (by simp <;> omega)) Lens.nil (S_end (V_seq (V_region (S_go 1 (S_a [(2, .yes)] (ap ((by exact beq_of (by simp <;> omega)) : (Nat.beq 0 0 && (List.map rndV l).length.beq (List.map rndV l).length) = true) an) (S_end (V_ret (E_a [(1, .yes), (1, .v (PV.own 3 (List.map rndV l)))] (ap ((by exact ble_of (by simp only [List.length_map, List.length_set, List.length_append, List.length_cons, List.length_nil, limit] <;> omega)) : (0 + (List.map rndV l).length).ble (List.map rndV l).length = true) (ap ((by simp [take_mapL]) : PV.own 3 (List.take (List.map rndV l).length (List.drop 0 (List.map rndV l))) = PV.own 3 (List.map rndV l)) an)) (PV.own 3 (List.map rndV l)) ([]) rfl rfl))))))))))))))))))))))
theorem f30 (b : Dk) (hb : b.rs.length ≤ 12) (hb2 : ∀ r ∈ b.rs, r.may.length ≤ 10) : FG 30 [boxV b] (.agg [I b.cr, I b.wd, I b.st, I b.fn, .own 3 (b.rs.map rndV)]) := by
  refine gives_ofX Try.f30 ?_
  refine V_seq (V_region (S_go 2 (S_end (V_seq (V_region (S_go 2 (S_a [(6, .ret (PV.own 3 (List.map rndV b.rs)) ([]))] (ap (f91 (b.rs) (by omega)) an) (S_go 2 (S_end (V_seq (V_seq (V_region (S_go 1 (S_a [(1, .v (PV.bor 1 [(0, 4)] 3 0 b.rs.length))] (ap ((by simp) : PV.bor 1 [(0, 4)] 3 0 (List.map rndV b.rs).length = PV.bor 1 [(0, 4)] 3 0 b.rs.length) an) (S_go 2 (S_end (V_block 0 ?_)))))))))))))))))
  refine V_loopS (fun (i, q) => i ≤ b.rs.length ∧ q = b.rs) (fun (i, q) => [(1, .box (.agg [I b.cr, I b.wd, I b.st, I b.fn, .own 3 (q.map rndV)])), (12, I (i : Nat))]) (fun (i, _) => b.rs.length - i) ((0 : Nat), b.rs) ⟨Nat.zero_le _, rfl⟩ fun (i, q) ⟨hi, hq⟩ => ?_
  have hql : q.length = b.rs.length := by rw [hq]
  have hm : i < b.rs.length → (b.rs.getD i default).may.length ≤ 10 := fun h => hb2 _ (by rw [getD_lt h]; exact List.getElem_mem _)
  have hm2 : i < b.rs.length → (q.getD i default).may.length ≤ 10 := fun h => by rw [hq]; exact hm h
  refine V_seq (V_region (S_go 1 (S_end (V_seq (V_dec ((↑i : Int) < (↑b.rs.length : Int)) (fun k0 => (V_skip (V_seq (V_block 1 (V_seq (V_region (S_go 1 (S_a [(2, .ob), (1, .n (i))] (ap ((by exact dec_of (by omega)) : decide (i < b.rs.length) = true) (ap ((by simp) : some (0 + i) = some i) an)) (S_a [(0, .cs true ([PV.int IntKind.i64 (q.getD i default).w, PV.int IntKind.i64 (q.getD i default).s, PV.sl (List.map I (q.getD i default).may)]))] (ap (rc_at (q := PV.own 3 (List.map rndV q)) (xs := List.map rndV q) (x := PV.agg [PV.int IntKind.i64 (q.getD i default).w, PV.int IntKind.i64 (q.getD i default).s, PV.sl (List.map I (q.getD i default).may)]) (gn_at (xs := [PV.agg [PV.int IntKind.i64 b.cr, PV.int IntKind.i64 b.wd, PV.int IntKind.i64 b.st, PV.int IntKind.i64 b.fn, PV.own 3 (List.map rndV q)]]) (x := PV.agg [PV.int IntKind.i64 b.cr, PV.int IntKind.i64 b.wd, PV.int IntKind.i64 b.st, PV.int IntKind.i64 b.fn, PV.own 3 (List.map rndV q)]) (y := PV.own 3 (List.map rndV q)) rfl rfl) (getm (default) (by omega)) : readCells 1 (PV.agg [PV.int IntKind.i64 b.cr, PV.int IntKind.i64 b.wd, PV.int IntKind.i64 b.st, PV.int IntKind.i64 b.fn, PV.own 3 (List.map rndV q)]).box [(0, 4)] i 0 Try.prog.types[104].size = some (true, [PV.int IntKind.i64 (q.getD i default).w, PV.int IntKind.i64 (q.getD i default).s, PV.sl (List.map I (q.getD i default).may)])) an) (S_go 3 (S_end (V_region (S_go 1 (S_a [(1, .v (PV.bor 1 [(0, 4)] 3 0 q.length))] (ap ((by simp) : PV.bor 1 [(0, 4)] 3 0 (List.map rndV q).length = PV.bor 1 [(0, 4)] 3 0 q.length) an) (S_go 3 (S_a [(6, .ret (PV.own 1 (List.map I (q.getD i default).may)) ([]))] (ap (f17 ((q.getD i default).may) (by omega)) an) (S_a [(2, .ob), (1, .n (i))] (ap ((by exact dec_of (by omega)) : decide (i < q.length) = true) (ap ((by simp) : some (0 + i) = some i) an)) (S_go 1 (S_a [(3, .v (PV.sl (List.map I (q.getD i default).may))), (4, .root ((PV.agg [PV.int IntKind.i64 b.cr, PV.int IntKind.i64 b.wd, PV.int IntKind.i64 b.st, PV.int IntKind.i64 b.fn, PV.own 3 (List.map rndV (q.set i (q.getD i default)))]).box) true)] (ap ((sl_ext (freezes_mapG _)) : PV.sl (freezes (List.map I (q.getD i default).may)) = PV.sl (List.map I (q.getD i default).may)) (ap (wr_at (wr_in (p := (PV.agg [PV.int IntKind.i64 b.cr, PV.int IntKind.i64 b.wd, PV.int IntKind.i64 b.st, PV.int IntKind.i64 b.fn, PV.own 3 (List.map rndV q)]).box) (xs := [PV.agg [PV.int IntKind.i64 b.cr, PV.int IntKind.i64 b.wd, PV.int IntKind.i64 b.st, PV.int IntKind.i64 b.fn, PV.own 3 (List.map rndV q)]]) (x := PV.agg [PV.int IntKind.i64 b.cr, PV.int IntKind.i64 b.wd, PV.int IntKind.i64 b.st, PV.int IntKind.i64 b.fn, PV.own 3 (List.map rndV q)]) (q := PV.own 3 (List.map rndV q)) (q' := PV.own 3 (List.map rndV (q.set i (q.getD i default)))) (y := PV.agg [PV.int IntKind.i64 b.cr, PV.int IntKind.i64 b.wd, PV.int IntKind.i64 b.st, PV.int IntKind.i64 b.fn, PV.own 3 (List.map rndV (q.set i (q.getD i default)))]) (p' := (PV.agg [PV.int IntKind.i64 b.cr, PV.int IntKind.i64 b.wd, PV.int IntKind.i64 b.st, PV.int IntKind.i64 b.fn, PV.own 3 (List.map rndV (q.set i (q.getD i default)))]).box) rfl (wr_end (q := PV.own 3 (List.map rndV q)) (xs := List.map rndV q) (x := PV.agg [PV.int IntKind.i64 (q.getD i default).w, PV.int IntKind.i64 (q.getD i default).s, PV.sl (List.map I (q.getD i default).may)]) (y := PV.agg [PV.int IntKind.i64 (q.getD i default).w, PV.int IntKind.i64 (q.getD i default).s, PV.sl (List.map I (q.getD i default).may)]) (q' := PV.own 3 (List.map rndV (q.set i (q.getD i default)))) (getm (default) (by omega)) rfl (we_own (u := q.getD i default))) rfl rfl) rfl : writeAt (PV.agg [PV.int IntKind.i64 b.cr, PV.int IntKind.i64 b.wd, PV.int IntKind.i64 b.st, PV.int IntKind.i64 b.fn, PV.own 3 (List.map rndV q)]).box [(0, 4)] i 2 (PV.sl (List.map I (q.getD i default).may)).cells = some (PV.agg [PV.int IntKind.i64 b.cr, PV.int IntKind.i64 b.wd, PV.int IntKind.i64 b.st, PV.int IntKind.i64 b.fn, PV.own 3 (List.map rndV (q.set i (q.getD i default)))]).box ∧ keptView (PV.agg [PV.int IntKind.i64 b.cr, PV.int IntKind.i64 b.wd, PV.int IntKind.i64 b.st, PV.int IntKind.i64 b.fn, PV.own 3 (List.map rndV q)]).box (PV.agg [PV.int IntKind.i64 b.cr, PV.int IntKind.i64 b.wd, PV.int IntKind.i64 b.st, PV.int IntKind.i64 b.fn, PV.own 3 (List.map rndV (q.set i (q.getD i default)))]).box [(0, 4)] = true) an)) (S_end (V_region (S_a [(1, .v (PV.int IntKind.i64 (↑(i + 1) : Int)))] (ap ((wrapE (by omega) (by omega)) : PV.int IntKind.i64 (IntKind.i64.wrap ((↑i : Int) + 1)) = PV.int IntKind.i64 (↑(i + 1) : Int)) an) (S_go 1 (S_end ?_)))))))))))))))))))))))) (fun k0 => (V_exit 0 (V_seq (V_region (S_go 1 (S_a [(4, .yes)] (ap ((by exact beq_of (by simp <;> omega)) : (Nat.beq 0 0 && (List.map rndV q).length.beq (List.map rndV q).length) = true) an) (S_end (V_ret (E_a [(7, .yes), (1, .v (PV.own 3 (List.map rndV q)))] (ap ((by exact ble_of (by simp only [List.length_map, List.length_set, List.length_append, List.length_cons, List.length_nil, limit] <;> omega)) : (0 + (List.map rndV q).length).ble (List.map rndV q).length = true) (ap ((by simp [take_mapL]) : PV.own 3 (List.take (List.map rndV q).length (List.drop 0 (List.map rndV q))) = PV.own 3 (List.map rndV q)) an)) (PV.agg [PV.int IntKind.i64 b.cr, PV.int IntKind.i64 b.wd, PV.int IntKind.i64 b.st, PV.int IntKind.i64 b.fn, PV.own 3 (List.map rndV q)]) ([]) (by simp [*]) rfl))))))))))))))
  · exact ⟨(i + 1, q.set i (q.getD i default)), ⟨by omega, by rw [set_same (by omega), hq]⟩, by simp only; omega, by kernel_rfl, by kernel_rfl⟩
theorem f31 (b : Dk) (hb : b.rs.length ≤ 12) (hb2 : ∀ r ∈ b.rs, r.may.length ≤ 10) : FG 31 [boxV b] (.agg [I b.cr, I b.wd, I b.st, I b.fn, .own 3 (b.rs.map rndO)]) := by
  refine gives_ofX Try.f31 ?_
  refine V_seq (V_region (S_go 2 (S_end (V_seq (V_region (S_go 11 (S_end (V_seq (V_seq (V_region (S_go 2 (S_a [(0, .n (b.rs.length))] (ap ((by simp) : some (List.map rndV b.rs).length = some b.rs.length) an) (S_go 1 (S_end (V_block 0 ?_)))))))))))))))
  refine V_loopS (fun (i, q) => i ≤ b.rs.length ∧ q = b.rs.take i) (fun (i, q) => [(3, .box (.agg [I b.cr, I b.wd, I b.st, I b.fn, .own 3 (q.map rndO)])), (18, I (i : Nat))]) (fun (i, _) => b.rs.length - i) ((0 : Nat), ([] : List Rnd)) ⟨Nat.zero_le _, rfl⟩ fun (i, q) ⟨hi, hq⟩ => ?_
  have hm : i < b.rs.length → (b.rs.getD i default).may.length ≤ 10 := fun h => hb2 _ (by rw [getD_lt h]; exact List.getElem_mem _)
  have hql : q.length ≤ 12 := by rw [hq]; simp; omega
  refine V_seq (V_region (S_go 1 (S_end (V_seq (V_dec ((↑i : Int) < (↑b.rs.length : Int)) (fun k0 => (V_skip (V_seq (V_block 1 (V_seq (V_region (S_a [(2, .v (PV.agg [PV.int IntKind.i64 (b.rs.getD i default).w, PV.int IntKind.i64 (b.rs.getD i default).s, PV.sl (List.map I (b.rs.getD i default).may)]))] (ap (getm (default) (by omega) : (List.map rndV b.rs)[i]? = some (PV.agg [PV.int IntKind.i64 (b.rs.getD i default).w, PV.int IntKind.i64 (b.rs.getD i default).s, PV.sl (List.map I (b.rs.getD i default).may)])) an) (S_go 3 (S_end (V_region (S_go 1 (S_a [(1, .v (PV.bor 3 [(0, 4)] 3 0 q.length))] (ap ((by simp) : PV.bor 3 [(0, 4)] 3 0 (List.map rndO q).length = PV.bor 3 [(0, 4)] 3 0 q.length) an) (S_go 6 (S_a [(6, .ret (PV.own 1 (List.map I (b.rs.getD i default).may)) ([]))] (ap (f17 ((b.rs.getD i default).may) (by omega)) an) (S_go 2 (S_a [(4, .ob), (0, .ob), (0, .ob), (2, .v (PV.own 3 (List.map rndO (q ++ [b.rs.getD i default]))))] (ap ((by exact ble_of (by simp only [List.length_map, List.length_set, List.length_append, List.length_cons, List.length_nil, limit] <;> omega)) : (0 + q.length).ble (List.map rndO q).length = true) (ap ((by exact ble_of (by simp only [List.length_map, List.length_set, List.length_append, List.length_cons, List.length_nil, limit] <;> omega)) : ((List.map rndO q).length + [PV.agg [PV.int IntKind.i64 (b.rs.getD i default).w, PV.int IntKind.i64 (b.rs.getD i default).s, PV.own 1 (List.map I (b.rs.getD i default).may)]].length).ble limit = true) (ap ((by exact beq_of (by simp <;> omega)) : (0 + q.length).beq (List.map rndO q).length = true) (ap ((by simp) : PV.own 3 (List.map rndO q ++ [PV.agg [PV.int IntKind.i64 (b.rs.getD i default).w, PV.int IntKind.i64 (b.rs.getD i default).s, PV.own 1 (List.map I (b.rs.getD i default).may)]]) = PV.own 3 (List.map rndO (q ++ [b.rs.getD i default]))) an)))) (S_go 2 (S_end (V_region (S_a [(1, .v (PV.int IntKind.i64 (↑(i + 1) : Int)))] (ap ((wrapE (by omega) (by omega)) : PV.int IntKind.i64 (IntKind.i64.wrap ((↑i : Int) + 1)) = PV.int IntKind.i64 (↑(i + 1) : Int)) an) (S_go 1 (S_end ?_)))))))))))))))))))))) (fun k0 => (V_exit 0 (V_seq (V_region (S_go 1 (S_a [(4, .yes)] (ap ((by exact beq_of (by simp <;> omega)) : (Nat.beq 0 0 && (List.map rndO q).length.beq (List.map rndO q).length) = true) an) (S_end (V_ret (E_a [(7, .yes), (1, .v (PV.own 3 (List.map rndO q)))] (ap ((by exact ble_of (by simp only [List.length_map, List.length_set, List.length_append, List.length_cons, List.length_nil, limit] <;> omega)) : (0 + (List.map rndO q).length).ble (List.map rndO q).length = true) (ap ((by simp [take_mapL]) : PV.own 3 (List.take (List.map rndO q).length (List.drop 0 (List.map rndO q))) = PV.own 3 (List.map rndO q)) an)) (PV.agg [PV.int IntKind.i64 b.cr, PV.int IntKind.i64 b.wd, PV.int IntKind.i64 b.st, PV.int IntKind.i64 b.fn, PV.own 3 (List.map rndO q)]) ([]) ?_ rfl))))))))))))))
  · exact ⟨(i + 1, q ++ [b.rs.getD i default]), ⟨by omega, by rw [hq, List.take_add_one, List.getElem?_eq_getElem (by omega), getD_lt (by omega)]; rfl⟩, by simp only; omega, by kernel_rfl, by kernel_rfl⟩
  · rw [hq, List.take_of_length_le (by omega)]
theorem f38 (a b : Dk) (hb : a.rs.length ≤ 12) (hb2 : ∀ r ∈ a.rs, r.may.length ≤ 10) (hab : a = b) : FG 38 [boxV a, boxV b] (.bool true) := by
  subst hab
  refine gives_ofX Try.f38 ?_
  refine V_seq (V_region (S_go 3 (S_end (V_seq (V_seq (V_region (S_go 6 (S_ndecF 12 (a.cr = a.cr) (by omega) (S_go 7 (S_ndecF 19 (a.wd = a.wd) (by omega) (S_go 7 (S_ndecF 26 (a.st = a.st) (by omega) (S_go 7 (S_ndecF 33 (a.fn = a.fn) (by omega) (S_go 2 (S_a [(0, .n (a.rs.length))] (ap ((by simp) : some (List.map rndV a.rs).length = some a.rs.length) an) (S_go 2 (S_a [(0, .n (a.rs.length))] (ap ((by simp) : some (List.map rndV a.rs).length = some a.rs.length) an) (S_go 2 (S_end (V_ndecF ((↑a.rs.length : Int) = (↑a.rs.length : Int)) (by omega) (V_skip (V_seq (V_seq (V_region (S_go 2 (S_a [(0, .n (a.rs.length))] (ap ((by simp) : some (List.map rndV a.rs).length = some a.rs.length) an) (S_go 1 (S_end (V_block 0 ?_))))))))))))))))))))))))))))))
  refine V_loopS (fun i => i ≤ a.rs.length) (fun i => [(45, I (i : Nat))]) (fun i => a.rs.length - i) (0 : Nat) (Nat.zero_le _) fun i hi => ?_
  have hm : i < a.rs.length → (a.rs.getD i default).may.length ≤ 10 := fun h => hb2 _ (by rw [getD_lt h]; exact List.getElem_mem _)
  refine V_seq (V_region (S_go 1 (S_end (V_seq (V_dec ((↑i : Int) < (↑a.rs.length : Int)) (fun k0 => (V_skip (V_seq (V_block 1 (V_seq (V_region (S_go 1 (S_a [(2, .v (PV.agg [PV.int IntKind.i64 (a.rs.getD i default).w, PV.int IntKind.i64 (a.rs.getD i default).s, PV.sl (List.map I (a.rs.getD i default).may)]))] (ap (getm (default) (by omega) : (List.map rndV a.rs)[i]? = some (PV.agg [PV.int IntKind.i64 (a.rs.getD i default).w, PV.int IntKind.i64 (a.rs.getD i default).s, PV.sl (List.map I (a.rs.getD i default).may)])) an) (S_go 4 (S_end (V_seq (V_region (S_go 5 (S_a [(2, .v (PV.agg [PV.int IntKind.i64 (a.rs.getD i default).w, PV.int IntKind.i64 (a.rs.getD i default).s, PV.sl (List.map I (a.rs.getD i default).may)]))] (ap (getm (default) (by omega) : (List.map rndV a.rs)[i]? = some (PV.agg [PV.int IntKind.i64 (a.rs.getD i default).w, PV.int IntKind.i64 (a.rs.getD i default).s, PV.sl (List.map I (a.rs.getD i default).may)])) an) (S_go 4 (S_ndecF 59 ((a.rs.getD i default).w = (a.rs.getD i default).w) (by omega) (S_go 5 (S_a [(2, .v (PV.agg [PV.int IntKind.i64 (a.rs.getD i default).w, PV.int IntKind.i64 (a.rs.getD i default).s, PV.sl (List.map I (a.rs.getD i default).may)]))] (ap (getm (default) (by omega) : (List.map rndV a.rs)[i]? = some (PV.agg [PV.int IntKind.i64 (a.rs.getD i default).w, PV.int IntKind.i64 (a.rs.getD i default).s, PV.sl (List.map I (a.rs.getD i default).may)])) an) (S_go 5 (S_ndecF 70 ((a.rs.getD i default).s = (a.rs.getD i default).s) (by omega) (S_go 5 (S_a [(2, .v (PV.agg [PV.int IntKind.i64 (a.rs.getD i default).w, PV.int IntKind.i64 (a.rs.getD i default).s, PV.sl (List.map I (a.rs.getD i default).may)]))] (ap (getm (default) (by omega) : (List.map rndV a.rs)[i]? = some (PV.agg [PV.int IntKind.i64 (a.rs.getD i default).w, PV.int IntKind.i64 (a.rs.getD i default).s, PV.sl (List.map I (a.rs.getD i default).may)])) an) (S_go 2 (S_a [(8, .ret (PV.bool (decide ((a.rs.getD i default).may = (a.rs.getD i default).may))) ([]))] (ap (f20 ((a.rs.getD i default).may) ((a.rs.getD i default).may) (by omega)) an) (S_go 2 (S_end (V_ndecF ((a.rs.getD i default).may = (a.rs.getD i default).may) (by (simp; done)) (V_skip (V_region (S_a [(1, .v (PV.int IntKind.i64 (↑(i + 1) : Int)))] (ap ((wrapE (by omega) (by omega)) : PV.int IntKind.i64 (IntKind.i64.wrap ((↑i : Int) + 1)) = PV.int IntKind.i64 (↑(i + 1) : Int)) an) (S_go 1 (S_end ?_)))))))))))))))))))))))))))))))) (fun k0 => (V_exit 0 (V_seq (V_region (S_go 1 (S_end (V_ret (E_a [] an (PV.bool true) ([]) rfl rfl)))))))))))))
  · exact ⟨i + 1, by omega, by omega, by kernel_rfl, by kernel_rfl⟩
end
end Go.Eng
set_option maxRecDepth 10000
namespace Go.Eng
open Go Go.Proofs
abbrev four : Dk := ⟨2, 1, 2, 2, [⟨4, 2, [0, 1]⟩, ⟨3, 1, [0, 1]⟩, ⟨8, 1, [0, 1]⟩, ⟨1, 1, [1]⟩]⟩
abbrev fee4 : List Int := [12, 5, 10, 3]
section
variable [Yo]
theorem f88x : Gives Try.prog feeH 88 [boxV four, ints [0,0,0,1]] [] (.tup [.ref (deskV four fee4), I 0]) [] := Gives.closed 400
theorem f93x : Gives Try.prog feeH 93 [.ref (deskV four fee4), .bor 50000000 [(0, 0)] 1 0 4] [.box (.own 1 [I 0, I 0, I 0, I 1])] (.func 130 [] (.ref (.bor 50000000 [(0, 0)] 1 0 4) :: (mvCaps four fee4 [27, 3, 0, 0] []).tail)) [.box (.own 1 [I 0, I 0, I 0, I 1])] := Gives.closed 400
theorem f93y : Gives Try.prog feeH 93 [.ref (deskV four fee4), .bor 50000000 [(0, 0)] 1 0 4] [.box (.own 1 [I 1, I 0, I 0, I 1])] (.func 130 [] (.ref (.bor 50000000 [(0, 0)] 1 0 4) :: (mvCaps four fee4 [15, 15, 0, 0] []).tail)) [.box (.own 1 [I 1, I 0, I 0, I 1])] := Gives.closed 400
theorem f36w (hx : HandsAll 130 [] (mvCaps four fee4 [27, 3, 0, 0] [0,0,0,1]) [[mvV (0, 1)], [mvV (1, 1)], [mvV (2, 1)]]) (hy : HandsAll 130 [] (mvCaps four fee4 [15, 15, 0, 0] [1,0,0,1]) []) : Gives Try.prog feeH 36 [boxV four, ints [0,0,0,1]] [] (.tup [.own 1 [I 1, I 0, I 0, I 1], I 1, I 0]) [] := by
  refine gives_ofX Try.f36 ?_
  refine V_seq (V_region (S_go 4 (S_end (V_seq (V_region (S_go 2 (S_a [(8, .ret (PV.tup [(deskV four fee4).ref, I 0]) ([]))] (ap (f88x) an) (S_go 5 (S_end (V_seq (V_seq (V_region (S_go 2 (S_end (V_false (V_skip (V_seq (V_region (S_go 1 (S_go 1 (S_go 3 (S_end (V_seq (V_region (S_go 1 (S_go 1 ?_))))))))))))))))))))))))))
  refine S_go 1 (S_end ?_)
  refine V_seq (V_region (S_go 1 (S_end (V_block 0 ?_))))
  refine V_loopS (fun (n, sh) => n = 0 ∧ sh = [0,0,0,1] ∨ n = 1 ∧ sh = [1,0,0,1]) (fun (n, sh) => [(9, .box (.own 1 (sh.map I))), (10, I (n : Nat))]) (fun (n, _) => 2 - n) ((0 : Nat), ([0,0,0,1] : List Int)) (.inl ⟨rfl, rfl⟩) fun (n, sh) h => ?_
  rcases h with ⟨rfl, rfl⟩ | ⟨rfl, rfl⟩
  · refine V_seq (V_block 1 (V_scope (V_seq (V_region (S_go 2 (S_end (V_seq (V_label (V_seq (V_seq (V_region (S_go 1 (S_go 1 (S_a [(5, .ret (PV.func 130 [] ((PV.bor 50000000 [(0, 0)] 1 0 4).ref :: (mvCaps four fee4 [27, 3, 0, 0] []).tail)) ([(PV.own 1 [I 0, I 0, I 0, I 1]).box]))] (ap (f93x) an) (S_end (V_block 2 ?_))))))))))))))))
    refine V_rangeRg (t := 32) (R := [9]) hx ?_
    simp only [Rg]
    refine Round_mk ?_
    refine V_region (S_go 2 (S_end ?_))
    refine ⟨rfl, by kernel_rfl, ?_⟩
    refine V_block 3 (V_seq (V_region (S_go 1 (S_go 4 (S_go 1 (S_go 2 (S_end (V_exit 2 ?_))))))))
    refine ⟨by kernel_rfl, ?_⟩
    refine V_seq (V_region (S_go 2 (S_end (V_false (V_skip (V_region (S_go 3 (S_end ?_))))))))
    exact ⟨(1, [1,0,0,1]), .inr ⟨rfl, rfl⟩, by decide, by kernel_rfl, by kernel_rfl⟩
  · refine V_seq (V_block 1 (V_scope (V_seq (V_region (S_go 2 (S_end (V_seq (V_label (V_seq (V_seq (V_region (S_go 1 (S_go 1 (S_a [(5, .ret (PV.func 130 [] ((PV.bor 50000000 [(0, 0)] 1 0 4).ref :: (mvCaps four fee4 [15, 15, 0, 0] []).tail)) ([(PV.own 1 [I 1, I 0, I 0, I 1]).box]))] (ap (f93y) an) (S_end (V_block 2 ?_))))))))))))))))
    refine V_rangeRg (t := 32) (R := [9]) hy ?_
    simp only [Rg]
    refine V_seq (V_region (S_go 2 (S_end (V_true (V_seq (V_region (S_go 1 (S_go 4 (S_end (V_ret (E_a [] an (PV.tup [PV.own 1 [PV.int IntKind.i64 1, PV.int IntKind.i64 0, PV.int IntKind.i64 0, PV.int IntKind.i64 1], PV.int IntKind.i64 (↑1 : Int), PV.int IntKind.i64 0]) ([]) rfl rfl)))))))))))
end
noncomputable instance feeYo : Yo := yo1 Try.prog feeH
theorem four_ok {f share : List Int} (hf : f.length = 4) (hs : share.length = 4) (h1 : share.all (fun x => decide (0 ≤ x ∧ x < 4)) = true) (h2 : f.all (fun x => decide (-1000000 ≤ x ∧ x ≤ 1000000)) = true) : MvOk four fee4 f share := by
  refine ⟨⟨by decide, by decide⟩, by decide, hf, rfl, hs, fun x hx => by simpa using List.all_eq_true.1 h1 x hx, fun i => ?_, fun i => ?_⟩
  · rcases Nat.lt_or_ge i f.length with h | h
    · rw [getD_lt h]; simpa using List.all_eq_true.1 h2 _ (List.getElem_mem h)
    · rw [List.getD_eq_getElem?_getD, List.getElem?_eq_none h]; simp
  · rcases Nat.lt_or_ge i 4 with h | h
    · match i, h with
      | 0, _ => decide
      | 1, _ => decide
      | 2, _ => decide
      | 3, _ => decide
    · rw [List.getD_eq_getElem?_getD, List.getElem?_eq_none h]; simp
theorem f130a {b : Dk} {fee f share : List Int} (h : MvOk b fee f share) : HandsAll 130 [] (mvCaps b fee f share) (mvLog b fee f share share.length) := by
  refine ⟨?_, fun j h1 h2 => ?_⟩
  · have := f130h h (-1) (.inl rfl)
    rwa [if_pos rfl] at this
  · have := f130h h (j : Int) (.inr ⟨by omega, by simpa using h2⟩)
    rw [if_neg (by omega)] at this
    exact this
theorem f36x : Gives Try.prog feeH 36 [boxV four, ints [0,0,0,1]] [] (.tup [.own 1 [I 1, I 0, I 0, I 1], I 1, I 0]) [] := by
  refine f36w ?_ ?_
  · exact f130a (four_ok rfl rfl (by decide) (by decide))
  · exact f130a (four_ok rfl rfl (by decide) (by decide))
end Go.Eng
namespace Go.Eng
def earnG (g : Nat → Int) (l : List Int) (c : Int) : Nat → Int
  | 0 => 0
  | n + 1 => if l.getD n 0 = c then earnG g l c n + g n else earnG g l c n
theorem earnG_set {g : Nat → Int} {l : List Int} {r : Nat} (hr : r < l.length) (v c : Int) : ∀ n, earnG g (l.set r v) c n = earnG g l c n - (if r < n ∧ l.getD r 0 = c then g r else 0) + (if r < n ∧ v = c then g r else 0)
  | 0 => by simp [earnG]
  | n + 1 => by
    have ih := earnG_set (g := g) hr v c n
    simp only [earnG, getD_set]
    by_cases h : r = n
    · subst h
      have e1 : (r = r ∧ r < l.length) := ⟨rfl, hr⟩
      rw [if_pos e1]
      simp only [Nat.lt_irrefl, false_and, if_false, Nat.lt_succ_self, true_and] at ih ⊢
      repeat' split
      all_goals omega
    · have e1 : ¬ (r = n ∧ n < l.length) := fun h' => h h'.1
      rw [if_neg e1]
      have e2 : r < n + 1 ↔ r < n := by omega
      simp only [e2]
      repeat' split
      all_goals omega
theorem earnG_bd {g : Nat → Int} {l : List Int} {c B : Int} (hg : ∀ r, 0 ≤ g r ∧ g r ≤ B) : ∀ n : Nat, 0 ≤ earnG g l c n ∧ earnG g l c n ≤ B * n
  | 0 => by simp [earnG]
  | n + 1 => by
    have ih := earnG_bd (l := l) (c := c) hg n
    have h1 := hg n
    have h2 : B * ((n + 1 : Nat) : Int) = B * n + B := by rw [Int.natCast_add, Int.mul_add]; simp
    simp only [earnG]; split <;> omega
theorem earnG_lin {g : Nat → Int} {l : List Int} {c : Int} : ∀ n : Nat, earnG (fun r => 16 * g r + 1) l c n = 16 * earnG g l c n + earnG (fun _ => 1) l c n
  | 0 => by simp [earnG]
  | n + 1 => by
    have ih := earnG_lin (g := g) (l := l) (c := c) n
    simp only [earnG]; split <;> omega
theorem earn_G {b : Dk} {l : List Int} {c : Int} : ∀ n, earnN b l c n = earnG (fun r => feeOf b (rnd b r)) l c n
  | 0 => rfl
  | n + 1 => by simp only [earnN, earnG, earn_G n]
theorem sq_dec {a b x : Int} (hx : 1 ≤ x) (h : a + x < b) : (a + x) * (a + x) + (b - x) * (b - x) < a * a + b * b := by
  have h1 : 0 < x * (b - a - x) := Int.mul_pos (by omega) (by omega)
  have e1 : x * (b - a - x) = x * b - x * a - x * x := by rw [Int.mul_sub, Int.mul_sub]
  have e2 : (a + x) * (a + x) = a * a + 2 * (x * a) + x * x := by rw [Int.add_mul, Int.mul_add, Int.mul_add, Int.mul_comm a x]; omega
  have e3 : (b - x) * (b - x) = b * b - 2 * (x * b) + x * x := by rw [Int.sub_mul, Int.mul_sub, Int.mul_sub, Int.mul_comm b x]; omega
  omega
def sq (x : Int) : Int := x * x
def sumSq (E : Int → Int) : Int := sq (E 0) + sq (E 1) + sq (E 2) + sq (E 3)
theorem sumSq_dec {E E' : Int → Int} {f t x : Int} (hf : 0 ≤ f ∧ f < 4) (ht : 0 ≤ t ∧ t < 4) (hft : f ≠ t) (hx : 1 ≤ x) (h : E t + x < E f) (h1 : E' t = E t + x) (h2 : E' f = E f - x) (h3 : ∀ c, c ≠ t → c ≠ f → E' c = E c) : sumSq E' < sumSq E := by
  have hd := sq_dec hx h
  rw [← h1, ← h2] at hd
  have h0' := h3 0
  have h1' := h3 1
  have h2' := h3 2
  have h3' := h3 3
  clear h3 h1 h2 h
  obtain rfl | rfl | rfl | rfl : f = 0 ∨ f = 1 ∨ f = 2 ∨ f = 3 := by omega
  all_goals obtain rfl | rfl | rfl | rfl : t = 0 ∨ t = 1 ∨ t = 2 ∨ t = 3 := by omega
  all_goals first | exact absurd rfl hft | skip
  all_goals unfold sumSq sq
  all_goals simp at h0' h1' h2' h3'
  all_goals simp only [*] at *
  all_goals omega
def potI (b : Dk) (l : List Int) : Int := sumSq fun c => earnG (fun r => 16 * feeOf b (rnd b r) + 1) l c l.length
theorem potI_dec {b : Dk} {l : List Int} {r : Nat} {t : Int} (hg : ∀ r, 0 ≤ feeOf b (rnd b r)) (hl : l.length ≤ 7) (hr : r < l.length) (hx : ∀ x ∈ l, 0 ≤ x ∧ x < 4) (ht : 0 ≤ t ∧ t < 4) (hne : t ≠ l.getD r 0) (h : earnN b l t l.length + feeOf b (rnd b r) < earnN b l (l.getD r 0) l.length) : potI b (l.set r t) < potI b l := by
  have hf := getD_all hx r hr
  rw [earn_G, earn_G] at h
  have hone : ∀ c, 0 ≤ earnG (fun _ => 1) l c l.length ∧ earnG (fun _ => 1) l c l.length ≤ 1 * (l.length : Int) := fun c => earnG_bd (fun _ => by omega) _
  unfold potI
  rw [List.length_set]
  refine sumSq_dec (f := l.getD r 0) (t := t) (x := 16 * feeOf b (rnd b r) + 1) hf ht (fun h => hne h.symm) (by have := hg r; omega) ?_ ?_ ?_ ?_
  · show earnG _ l t _ + _ < earnG _ l (l.getD r 0) _
    rw [earnG_lin, earnG_lin]
    have h1 := hone t
    have h2 := hone (l.getD r 0)
    omega
  · show earnG _ (l.set r t) t _ = _
    rw [earnG_set hr, if_neg (fun h => hne h.2.symm), if_pos ⟨hr, rfl⟩]; omega
  · show earnG _ (l.set r t) (l.getD r 0) _ = _
    rw [earnG_set hr, if_pos ⟨hr, rfl⟩, if_neg (fun h => hne h.2)]; omega
  · intro c h1 h2
    show earnG _ (l.set r t) c _ = _
    rw [earnG_set hr, if_neg (fun h => h2 h.2.symm), if_neg (fun h => h1 h.2.symm)]; omega
theorem sumSq_bd {E : Int → Int} (h : ∀ c, 0 ≤ E c ∧ E c ≤ 1000000) : 0 ≤ sumSq E ∧ sumSq E ≤ 4000000000000 := by
  have h1 : ∀ c, 0 ≤ E c * E c ∧ E c * E c ≤ 1000000 * 1000000 := fun c => ⟨Int.mul_nonneg (h c).1 (h c).1, Int.mul_le_mul (h c).2 (h c).2 (h c).1 (by omega)⟩
  have a0 := h1 0
  have a1 := h1 1
  have a2 := h1 2
  have a3 := h1 3
  unfold sumSq sq; omega
theorem potI_bd {b : Dk} {l : List Int} (hg : ∀ r, 0 ≤ feeOf b (rnd b r) ∧ feeOf b (rnd b r) ≤ 1000) (hl : l.length ≤ 7) : 0 ≤ potI b l ∧ potI b l ≤ 4000000000000 := by
  refine sumSq_bd fun c => ?_
  have := earnG_bd (l := l) (c := c) (g := fun r => 16 * feeOf b (rnd b r) + 1) (B := 16001) (fun r => by have := hg r; omega) l.length
  omega
def pot (b : Dk) (l : List Int) : Nat := (potI b l).toNat
end Go.Eng
set_option maxRecDepth 10000
set_option maxHeartbeats 4000000
namespace Go.Eng
open Go Go.Proofs
theorem share_err {b : Dk} {s : List Int} (h : ShareOk b s) : shareErr b s = 0 := by
  have h2 : (!s.all (fun x => decide (0 ≤ x) && decide (x ≤ b.cr - 1))) = false := by
    simp only [Bool.not_eq_false', List.all_eq_true]
    intro x hx; have := h.rng x hx; simp; omega
  simp only [shareErr, h.box, h.len, h2, h.may, if_true]; rfl
theorem mvRow_len {b : Dk} {fee f s : List Int} {r n : Nat} : (mvRow b fee f s r n).length ≤ n := by
  simp only [mvRow, List.length_map]
  exact Nat.le_trans (List.length_filter_le _ _) (by simp)
theorem mvs_len {b : Dk} {fee f s : List Int} : ∀ n, (mvs b fee f s n).length ≤ n * b.cr.toNat
  | 0 => by simp [mvs]
  | n + 1 => by
    have ih := mvs_len (b := b) (fee := fee) (f := f) (s := s) n
    have h := mvRow_len (b := b) (fee := fee) (f := f) (s := s) (r := n) (n := b.cr.toNat)
    rw [mvs_succ, List.length_append, Nat.succ_mul]; omega
def feeS (b : Dk) (s : List Int) : List Int := addF (feesOf b) s s.length
theorem share_lt {b : Dk} {s : List Int} (hs : ShareOk b s) : ∀ x ∈ s, 0 ≤ x ∧ x < 4 := fun x hx => by
  have := (box_good hs.box).cr
  have := hs.rng x hx
  omega
theorem feeS_earn {b : Dk} {s : List Int} (hs : ShareOk b s) {c : Nat} (hc : c < 4) : (feeS b s).getD c 0 = earnN b s c s.length := addF_earn (share_lt hs) s.length (Nat.le_refl _) (by rw [hs.len]; exact Nat.le_refl _) c hc
theorem mv_ok {b : Dk} {s : List Int} (hs : ShareOk b s) (hsm : Small b) : MvOk b (feesOf b) (feeS b s) s := by
  have hg := box_good hs.box
  have hcr := hg.cr
  have hlen := hg.len
  have hsl := hs.len
  refine ⟨hsm, by omega, addF_len _, feesOf_len, hs.len, share_lt hs, fun i => ?_, fun i => ?_⟩
  · have := addF_bd (share := s) (feesOf_bd hg) s.length i
    unfold feeS; omega
  · have := feesOf_bd hg i; omega
def movesL (b : Dk) (l : List Int) : List (Nat × Nat) := if shareErr b l = 0 then mvs b (feesOf b) (feeS b l) l l.length else []
theorem earnN_set {b : Dk} {l : List Int} {r : Nat} (hr : r < l.length) {c : Int} (hc : c ≠ l.getD r 0) : earnN b (l.set r c) c l.length = earnN b l c l.length + feeOf b (rnd b r) := by
  rw [earn_G, earn_G, earnG_set hr, if_neg (fun h => hc h.2.symm), if_pos ⟨hr, rfl⟩]; omega
theorem mvOk_ref {b : Dk} {s : List Int} (hs : ShareOk b s) {r t : Nat} (hr : r < s.length) (ht : (t : Int) < b.cr) : mvOk b (feesOf b) (feeS b s) s r t = (decide ((t : Int) ≠ s.getD r 0) && (has (rnd b r).may t && decide (earnN b (s.set r t) t s.length < earnN b s (s.getD r 0) s.length))) := by
  have hcr := (box_good hs.box).cr
  have hx := getD_all (share_lt hs) r hr
  have hsl := hs.len
  unfold mvOk
  by_cases hne : (t : Int) ≠ s.getD r 0
  · rw [earnN_set hr hne, feeS_earn hs (by omega), feeS_earn hs (by omega), feesOf_at (by omega), Int.toNat_of_nonneg hx.1]; rfl
  · simp only [hne, decide_false, Bool.false_and]
section
variable [Yo]
abbrev movesF (b : Dk) (fee f share : List Int) : PV := .func 130 [] (mvCaps b fee f share)
theorem f93_1 (b : Dk) (fee share : List Int) (h1 : ∀ x ∈ share, 0 ≤ x ∧ x < 4) (h2 : ∀ i, 0 ≤ fee.getD i 0 ∧ fee.getD i 0 ≤ 1000) (h3 : share.length ≤ 1000) (h4 : share.length = fee.length) : FG 93 [.ref (deskV b fee), ints share] (movesF b fee (addF fee share share.length) share) := by
  have h90 := f90 b fee share h1 h2 h3 h4
  obtain ⟨x0, x1, x2, x3, hx⟩ := four_of (addF_len (fee := fee) (share := share) share.length)
  rw [hx] at h90 ⊢
  have h90 : FG 90 [.ref (deskV b fee), ints share] (.agg [I x0, I x1, I x2, I x3]) := h90
  refine gives_ofX Try.f93 ?_
  refine V_seq (V_region (S_go 3 (S_end (V_seq (V_region (S_go 4 (S_a [(7, .ret (PV.agg (List.map I [x0, x1, x2, x3])) ([]))] (ap (h90) an) (S_go 4 (S_end (V_seq (V_region (S_go 2 (S_end (V_ret (E_a [] an (PV.func 130 [] [(PV.sl (List.map I share)).ref, (PV.agg [PV.int IntKind.i64 b.cr, PV.int IntKind.i64 b.wd, PV.int IntKind.i64 b.st, PV.int IntKind.i64 b.fn, PV.sl (List.map rndV b.rs), PV.sl (List.map I fee)]).ref.ref, (PV.func 98 [(PV.agg [PV.int IntKind.i64 b.cr, PV.int IntKind.i64 b.wd, PV.int IntKind.i64 b.st, PV.int IntKind.i64 b.fn, PV.sl (List.map rndV b.rs), PV.sl (List.map I fee)]).ref] []).ref, (PV.agg [PV.int IntKind.i64 x0, PV.int IntKind.i64 x1, PV.int IntKind.i64 x2, PV.int IntKind.i64 x3]).ref]) ([]) rfl rfl)))))))))))))))
theorem f93_2 (b : Dk) (fee share : List Int) (h1 : ∀ x ∈ share, 0 ≤ x ∧ x < 4) (h2 : ∀ i, 0 ≤ fee.getD i 0 ∧ fee.getD i 0 ≤ 1000) (h3 : share.length ≤ 1000) (h4 : share.length = fee.length) : Gives Try.prog feeH 93 [.ref (deskV b fee), .bor 50000000 [(0, 0)] 1 0 share.length] [.box (.own 1 (share.map I))] (.func 130 [] (.ref (.bor 50000000 [(0, 0)] 1 0 share.length) :: (mvCaps b fee (addF fee share share.length) []).tail)) [.box (.own 1 (share.map I))] := by
  have h90 := f90 b fee share h1 h2 h3 h4
  obtain ⟨x0, x1, x2, x3, hx⟩ := four_of (addF_len (fee := fee) (share := share) share.length)
  rw [hx] at h90 ⊢
  have h90 : FG 90 [.ref (deskV b fee), ints share] (.agg [I x0, I x1, I x2, I x3]) := h90
  refine gives_ofX Try.f93 ?_
  refine V_seq (V_region (S_go 3 (S_end (V_seq (V_region (S_go 3 (S_go 1 (S_a [(4, .ob), (0, .v (PV.sl (List.map I share))), (2, .ret (PV.agg (List.map I [x0, x1, x2, x3])) ([]))] (ap ((by exact ble_of (by simp only [List.length_map, List.length_set, List.length_append, List.length_cons, List.length_nil, limit] <;> omega)) : (0 + share.length).ble (List.map I share).length = true) (ap ((sl_ext (freezes_to (by simp [take_mapL]) (freezes_mapI _))) : PV.sl (freezes (List.take share.length (List.drop 0 (List.map I share)))) = PV.sl (List.map I share)) (ap (h90) an))) (S_go 4 (S_end (V_seq (V_region (S_go 2 (S_end (V_ret (E_a [] an (PV.func 130 [] [(PV.bor 50000000 [(0, 0)] 1 0 share.length).ref, (PV.agg [PV.int IntKind.i64 b.cr, PV.int IntKind.i64 b.wd, PV.int IntKind.i64 b.st, PV.int IntKind.i64 b.fn, PV.sl (List.map rndV b.rs), PV.sl (List.map I fee)]).ref.ref, (PV.func 98 [(PV.agg [PV.int IntKind.i64 b.cr, PV.int IntKind.i64 b.wd, PV.int IntKind.i64 b.st, PV.int IntKind.i64 b.fn, PV.sl (List.map rndV b.rs), PV.sl (List.map I fee)]).ref] []).ref, (PV.agg [PV.int IntKind.i64 x0, PV.int IntKind.i64 x1, PV.int IntKind.i64 x2, PV.int IntKind.i64 x3]).ref]) ([(PV.own 1 (List.map I share)).box]) rfl rfl))))))))))))))))
theorem f97 (l : List Int) (r : Nat) (c : Int) (hr : r < l.length) (hl : l.length ≤ 1000) : FG 97 [ints l, I r, I c] (.own 1 ((l.set r c).map I)) := by
  refine gives_ofX Try.f97 ?_
  refine V_seq (V_region (S_go 1 (S_end (V_seq (V_region (S_go 2 (S_a [(0, .ob), (0, .ob), (0, .ob), (3, .ob)] (ap ((by exact all_map _) : ((List.map I l).all fun x => x.plain) = true) (ap ((by exact all_map _) : ((List.map I l).all fun y => y.cells.length.beq ((fun x => x.size) Try.prog.types[3]) && y.cells.all fun q => q.oneCell) = true) (ap ((by exact List.isEmpty_iff.2 (wayss_map _)) : (wayss (List.map I l)).isEmpty = true) (ap ((by exact ble_of (by simp only [List.length_map, List.length_set, List.length_append, List.length_cons, List.length_nil, limit] <;> omega)) : (0 + (List.map I l).length).ble limit = true) an)))) (S_go 1 (S_end (V_seq (V_region (S_go 3 (S_a [(2, .ob), (1, .n (r))] (ap ((by exact dec_of (by simp only [List.length_map, List.length_set, List.length_append, List.length_cons, List.length_nil] <;> omega)) : decide (r < ([] ++ List.map I l).length) = true) (ap ((by simp) : some (0 + r) = some r) an)) (S_a [(8, .root (PV.own 1 (List.map I (l.set r c))) true)] (ap (wa_at (getm (0) (by omega)) map_set' : writeAt (PV.own 1 ([] ++ List.map I l)) [] r 0 (PV.int IntKind.i64 c).cells = some (PV.own 1 (List.map I (l.set r c))) ∧ keptView (PV.own 1 ([] ++ List.map I l)) (PV.own 1 (List.map I (l.set r c))) [] = true) an) (S_end (V_seq (V_region (S_go 1 (S_a [(2, .yes)] (ap ((by exact beq_of (by simp <;> omega)) : (Nat.beq 0 0 && (List.map I (l.set r c)).length.beq (List.map I (l.set r c)).length) = true) an) (S_end (V_ret (E_a [(1, .yes), (1, .v (PV.own 1 (List.map I (l.set r c))))] (ap ((by exact ble_of (by simp only [List.length_map, List.length_set, List.length_append, List.length_cons, List.length_nil, limit] <;> omega)) : (0 + (List.map I (l.set r c)).length).ble (List.map I (l.set r c)).length = true) (ap ((own_ext take_allL) : PV.own 1 (List.take (List.map I (l.set r c)).length (List.drop 0 (List.map I (l.set r c)))) = PV.own 1 (List.map I (l.set r c))) an)) (PV.own 1 (List.map I (l.set r c))) ([]) rfl rfl))))))))))))))))))))))
theorem f33 (b : Dk) (l : List Int) (hb : Small b) (hl : l.length < 4294967296) : FG 33 [boxV b, ints l] (.tup [.own 2 ((movesL b l).map mvV), I (shareErr b l)]) := by
  by_cases h : shareErr b l = 0
  · have hs := shr_ok h
    have hg := box_good hs.box
    have hcr := hg.cr
    have hbl := hg.len
    have hsl := hs.len
    have h94 := f94 b l hb hl
    have hv : movesL b l = mvs b (feesOf b) (feeS b l) l l.length := by simp only [movesL, h, if_true]
    rw [h] at h94
    rw [h, hv]
    refine gives_ofX Try.f33 ?_
    refine V_seq (V_region (S_go 3 (S_end (V_seq (V_seq (V_region (S_go 2 (S_a [(8, .ret (I 0) ([]))] (ap (h94) an) (S_go 1 (S_end (V_seq (V_region (S_go 2 (S_end (V_false (V_skip (V_seq (V_region (S_go 1 (S_end (V_seq (V_seq (V_region (S_go 1 (S_end (V_block 0 ?_))))))))))))))))))))))))))
    refine V_loopS (fun (r, q) => r ≤ l.length ∧ q = mvs b (feesOf b) (feeS b l) l r) (fun (r, q) => [(7, .own 2 (q.map mvV)), (8, I (r : Nat))]) (fun (r, _) => l.length - r) ((0 : Nat), ([] : List (Nat × Nat))) ⟨Nat.zero_le _, rfl⟩ fun (r, q) ⟨hr, hq⟩ => ?_
    have hql : q.length ≤ 28 := by
      have := mvs_len (b := b) (fee := feesOf b) (f := feeS b l) (s := l) r
      have h2 : r * b.cr.toNat ≤ 7 * 4 := Nat.mul_le_mul (by omega) (by omega)
      rw [hq]; omega
    by_cases hrl : r < l.length
    · refine V_seq (V_seq (V_region (S_go 2 (S_a [(0, .n (l.length))] (ap ((by simp) : some (List.map I l).length = some l.length) an) (S_go 1 (S_end (V_decT ((↑r : Int) < (↑l.length : Int)) (by omega) (V_skip (V_seq (V_block 1 (V_seq (V_region (S_go 1 (S_end (V_block 2 ?_)))))))))))))))
      refine V_loopS (fun (t, p) => t ≤ b.cr.toNat ∧ p = q ++ mvRow b (feesOf b) (feeS b l) l r t) (fun (t, p) => [(7, .own 2 (p.map mvV)), (9, I (t : Nat))]) (fun (t, _) => b.cr.toNat - t) ((0 : Nat), q) ⟨Nat.zero_le _, by simp [mvRow]⟩ fun (t, p) ⟨ht, hp⟩ => ?_
      have hpl : p.length ≤ 32 := by
        have := mvRow_len (b := b) (fee := feesOf b) (f := feeS b l) (s := l) (r := r) (n := t)
        rw [hp, List.length_append]; omega
      by_cases htc : (t : Int) < b.cr
      · have hok := mvOk_ref hs hrl htc
        have hsl2 : (l.set r (t : Int)).length = l.length := by simp
        have h96 := f96 b (l.set r (t : Int)) (t : Int) hg (by omega)
        rw [hsl2] at h96
        have hsm3 : mvOk b (feesOf b) (feeS b l) l r t = false → p = q ++ mvRow b (feesOf b) (feeS b l) l r (t + 1) := fun h1 => by rw [mvRow_succ, h1, hp]; simp
        refine V_seq (V_seq (V_region (S_go 4 (S_end (V_decT ((↑t : Int) < b.cr) (by omega) (V_skip (V_seq (V_block 3 (V_seq (V_region (S_go 3 (S_a [(2, .v (PV.int IntKind.i64 (l.getD r 0)))] (ap (getm (0) (by omega) : (List.map I l)[r]? = some (PV.int IntKind.i64 (l.getD r 0))) an) (S_go 3 (S_ndec 34 ((↑t : Int) = l.getD r 0) (fun k0 => (S_go 3 (S_a [(10, .ret (PV.bool (has (rnd b r).may (↑t : Int))) ([]))] (ap (f95 (b) ((↑t : Int)) (r) (by first | omega | (simp <;> omega)) (by omega)) an) (S_go 2 (S_case 40 (has (rnd b r).may (↑t : Int)) (fun k1 => (S_go 4 (S_a [(10, .ret (PV.own 1 (List.map I (l.set r (↑t : Int)))) ([]))] (ap (f97 (l) (r) ((↑t : Int)) (by omega) (by omega)) an) (S_go 1 (S_a [(5, .ob), (0, .v (PV.sl (List.map I (l.set r (↑t : Int))))), (4, .ret (I (earnN b (l.set r (↑t : Int)) (↑t : Int) l.length)) ([]))] (ap ((by exact ble_of (by simp only [List.length_map, List.length_set, List.length_append, List.length_cons, List.length_nil, limit] <;> omega)) : (0 + (List.map I (l.set r (↑t : Int))).length).ble (List.map I (l.set r (↑t : Int))).length = true) (ap ((sl_ext (freezes_all (freezes_mapH _))) : PV.sl (freezes (List.take (List.map I (l.set r (↑t : Int))).length (List.drop 0 (List.map I (l.set r (↑t : Int)))))) = PV.sl (List.map I (l.set r (↑t : Int)))) (ap (h96) an))) (S_go 4 (S_a [(2, .v (PV.int IntKind.i64 (l.getD r 0)))] (ap (getm (0) (by omega) : (List.map I l)[r]? = some (PV.int IntKind.i64 (l.getD r 0))) an) (S_go 1 (S_a [(10, .ret (I (earnN b l (l.getD r 0) l.length)) ([]))] (ap (f96 (b) (l) (l.getD r 0) (by omega) (by first | omega | (simp <;> omega))) an) (S_go 2 (S_end (V_dec (earnN b (l.set r (↑t : Int)) (↑t : Int) l.length < earnN b l (l.getD r 0) l.length) (fun k2 => (V_region (S_go 5 (S_a [(4, .ob), (0, .ob), (0, .ob), (2, .v (PV.own 2 (List.map mvV (p ++ [(r, t)]))))] (ap ((by exact ble_of (by simp only [List.length_map, List.length_set, List.length_append, List.length_cons, List.length_nil, limit] <;> omega)) : (0 + (List.map mvV p).length).ble (List.map mvV p).length = true) (ap ((by exact ble_of (by simp only [List.length_map, List.length_set, List.length_append, List.length_cons, List.length_nil, limit] <;> omega)) : ((List.map mvV p).length + [PV.agg [PV.int IntKind.i64 (↑r : Int), PV.int IntKind.i64 (↑t : Int)]].length).ble limit = true) (ap ((by exact beq_of (by simp <;> omega)) : (0 + (List.map mvV p).length).beq (List.map mvV p).length = true) (ap ((by simp) : PV.own 2 (List.map mvV p ++ [PV.agg [PV.int IntKind.i64 (↑r : Int), PV.int IntKind.i64 (↑t : Int)]]) = PV.own 2 (List.map mvV (p ++ [(r, t)]))) an)))) (S_go 1 (S_end (V_region (S_go 1 (S_a [(1, .v (PV.int IntKind.i64 (↑(t + 1) : Int)))] (ap ((wrapE (by omega) (by omega)) : PV.int IntKind.i64 (IntKind.i64.wrap ((↑t : Int) + 1)) = PV.int IntKind.i64 (↑(t + 1) : Int)) an) (S_go 1 (S_end ?_))))))))))) (fun k2 => (V_skip (V_region (S_go 1 (S_a [(1, .v (PV.int IntKind.i64 (↑(t + 1) : Int)))] (ap ((wrapE (by omega) (by omega)) : PV.int IntKind.i64 (IntKind.i64.wrap ((↑t : Int) + 1)) = PV.int IntKind.i64 (↑(t + 1) : Int)) an) (S_go 1 (S_end ?_))))))))))))))))))) (fun k1 => (S_go 16 (S_end (V_false (V_skip (V_region (S_go 1 (S_a [(1, .v (PV.int IntKind.i64 (↑(t + 1) : Int)))] (ap ((wrapE (by omega) (by omega)) : PV.int IntKind.i64 (IntKind.i64.wrap ((↑t : Int) + 1)) = PV.int IntKind.i64 (↑(t + 1) : Int)) an) (S_go 1 (S_end ?_))))))))))))))) (fun k0 => (S_go 22 (S_end (V_false (V_skip (V_region (S_go 1 (S_a [(1, .v (PV.int IntKind.i64 (↑(t + 1) : Int)))] (ap ((wrapE (by omega) (by omega)) : PV.int IntKind.i64 (IntKind.i64.wrap ((↑t : Int) + 1)) = PV.int IntKind.i64 (↑(t + 1) : Int)) an) (S_go 1 (S_end ?_))))))))))))))))))))))))
        · have hok2 : mvOk b (feesOf b) (feeS b l) l r t = true := by rw [hok, k1, decide_eq_true k2, decide_eq_true k0]; rfl
          exact ⟨(t + 1, p ++ [(r, t)]), ⟨by omega, by rw [mvRow_succ, hok2, hp]; simp⟩, by simp only; omega, by kernel_rfl, by kernel_rfl⟩
        · exact ⟨(t + 1, p), ⟨by omega, hsm3 (by rw [hok, k1, decide_eq_false k2]; simp)⟩, by simp only; omega, by kernel_rfl, by kernel_rfl⟩
        · exact ⟨(t + 1, p), ⟨by omega, hsm3 (by rw [hok, k1]; simp)⟩, by simp only; omega, by kernel_rfl, by kernel_rfl⟩
        · exact ⟨(t + 1, p), ⟨by omega, hsm3 (by rw [hok, decide_eq_false (by omega)]; simp)⟩, by simp only; omega, by kernel_rfl, by kernel_rfl⟩
      · refine V_seq (V_seq (V_region (S_go 4 (S_end (V_decF ((↑t : Int) < b.cr) (by omega) (V_exit 2 (V_region (S_go 1 (S_a [(1, .v (PV.int IntKind.i64 (↑(r + 1) : Int)))] (ap ((wrapE (by omega) (by omega)) : PV.int IntKind.i64 (IntKind.i64.wrap ((↑r : Int) + 1)) = PV.int IntKind.i64 (↑(r + 1) : Int)) an) (S_go 1 (S_end ?_)))))))))))
        · exact ⟨(r + 1, p), ⟨by omega, by rw [hp, hq, mvs_succ, show t = b.cr.toNat by omega]⟩, by simp only; omega, by kernel_rfl, by kernel_rfl⟩
    · refine V_seq (V_seq (V_region (S_go 2 (S_a [(0, .n (l.length))] (ap ((by simp) : some (List.map I l).length = some l.length) an) (S_go 1 (S_end (V_decF ((↑r : Int) < (↑l.length : Int)) (by omega) (V_exit 0 (V_seq (V_region (S_go 1 (S_a [(2, .yes)] (ap ((by exact beq_of (by simp <;> omega)) : (Nat.beq 0 0 && (List.map mvV q).length.beq (List.map mvV q).length) = true) an) (S_go 1 (S_end (V_ret (E_a [(1, .yes), (1, .v (PV.own 2 (List.map mvV q)))] (ap ((by exact ble_of (by simp only [List.length_map, List.length_set, List.length_append, List.length_cons, List.length_nil, limit] <;> omega)) : (0 + (List.map mvV q).length).ble (List.map mvV q).length = true) (ap ((own_ext take_allL) : PV.own 2 (List.take (List.map mvV q).length (List.drop 0 (List.map mvV q))) = PV.own 2 (List.map mvV q)) an)) (PV.tup [PV.own 2 (List.map mvV q), PV.int IntKind.i64 0]) ([]) ?_ rfl))))))))))))))))
      rw [hq, show r = l.length by omega]
  · refine gives_ofX Try.f33 ?_
    refine V_seq (V_region (S_go 3 (S_end (V_seq (V_seq (V_region (S_go 2 (S_a [(8, .ret (I (shareErr b l)) ([]))] (ap (f94 (b) (l) (by omega) (by omega)) an) (S_go 1 (S_end (V_seq (V_region (S_go 2 (S_end (V_ndecT (shareErr b l = 0) (by omega) (V_seq (V_region (S_go 3 (S_end (V_ret (E_a [] an (PV.tup [PV.own 2 [], PV.int IntKind.i64 (shareErr b l)]) ([]) ?_ rfl)))))))))))))))))))))
    simp only [movesL, h, if_false]; rfl
end
theorem f129_1 {b : Dk} {fee f s : List Int} (h : MvOk b fee f s) (hl : (mvs b fee f s s.length).length ≤ 1000) (hne : mvs b fee f s s.length ≠ []) : FG 129 [.nils 0, movesF b fee f s] (.own 2 ((mvs b fee f s s.length).map mvV)) := by
  have ha := f130a h
  have hf := h.hf
  generalize hL : mvs b fee f s s.length = L at *
  unfold mvLog at ha
  rw [hL] at ha
  clear h hL
  obtain ⟨x0, x1, x2, x3, rfl⟩ := four_of hf
  refine gives_ofX Try.f129 ?_
  refine V_seq (V_region (S_go 2 (S_end (V_seq (V_seq (V_region (S_go 1 (S_end (V_block 0 ?_)))))))))
  refine V_range (t := 6) ha (fun j s => match s with | none => j = 0 | some q => q = L.take j ∧ 1 ≤ j) (fun q' => match q' with | none => [(1, .func 130 [] (mvCaps b fee [x0, x1, x2, x3] s)), (2, .box (.nils 0)), (6, .func 130 [] (mvCaps b fee [x0, x1, x2, x3] s))] | some q => [(1, .func 130 [] (mvCaps b fee [x0, x1, x2, x3] s)), (2, .box (.own 2 (q.map mvV))), (6, .func 130 [] (mvCaps b fee [x0, x1, x2, x3] s))]) (none : Option (List (Nat × Nat))) rfl (fun j x q hx hq => ?_) (fun q hq => ?_)
  · rw [List.getElem?_map] at hx
    obtain ⟨m, hm, rfl⟩ := Option.map_eq_some_iff.1 hx
    have hj : j < L.length := (List.getElem?_eq_some_iff.1 hm).1
    cases q with
    | none =>
      simp only at hq
      subst hq
      refine Round_mk ?_
      refine V_region (S_go 2 (S_end ?_))
      refine ⟨rfl, by kernel_rfl, ?_⟩
      refine V_block 1 (V_region (S_go 5 (S_end ?_)))
      refine ⟨by kernel_rfl, some [m], ⟨?_, by omega⟩, by kernel_rfl⟩
      rw [List.take_add_one, hm]; rfl
    | some q =>
      obtain ⟨hq, hj1⟩ := hq
      have hql : q.length ≤ 1000 := by rw [hq, List.length_take]; omega
      refine Round_mk ?_
      refine V_region (S_go 2 (S_end ?_))
      refine ⟨rfl, by kernel_rfl, ?_⟩
      refine V_block 1 (V_region (S_a [(1, .v (PV.bor 2 [(0, 0)] 2 0 q.length))] (ap ((by simp) : PV.bor 2 [(0, 0)] 2 0 (List.map mvV q).length = PV.bor 2 [(0, 0)] 2 0 q.length) an) (S_go 2 (S_a [(4, .ob), (0, .ob), (0, .ob), (2, .v (PV.own 2 (List.map mvV (q ++ [m]))))] (ap ((by exact ble_of (by simp only [List.length_map, List.length_set, List.length_append, List.length_cons, List.length_nil, limit] <;> omega)) : (0 + q.length).ble (List.map mvV q).length = true) (ap ((by exact ble_of (by simp only [List.length_map, List.length_set, List.length_append, List.length_cons, List.length_nil, limit] <;> omega)) : ((List.map mvV q).length + [PV.agg [PV.int IntKind.i64 (↑m.fst : Int), PV.int IntKind.i64 (↑m.snd : Int)]].length).ble limit = true) (ap ((by exact beq_of (by simp <;> omega)) : (0 + q.length).beq (List.map mvV q).length = true) (ap ((by simp) : PV.own 2 (List.map mvV q ++ [PV.agg [PV.int IntKind.i64 (↑m.fst : Int), PV.int IntKind.i64 (↑m.snd : Int)]]) = PV.own 2 (List.map mvV (q ++ [m]))) an)))) (S_go 1 (S_end ?_))))))
      refine ⟨by kernel_rfl, some (q ++ [m]), ⟨?_, by omega⟩, by kernel_rfl⟩
      rw [hq, List.take_add_one, hm]; rfl
  · cases q with
    | none =>
      simp only [List.length_map] at hq
      exact absurd (List.eq_nil_of_length_eq_zero hq) hne
    | some q =>
      obtain ⟨hq, hj1⟩ := hq
      rw [List.length_map, List.take_length] at hq
      subst hq
      show W _ _ _ _ _ _ _ _
      refine V_seq (V_region (S_a [(1, .v (PV.bor 2 [(0, 0)] 2 0 q.length))] (ap ((by simp) : PV.bor 2 [(0, 0)] 2 0 (List.map mvV q).length = PV.bor 2 [(0, 0)] 2 0 q.length) an) (S_a [(2, .yes)] (ap ((by exact beq_of (by simp <;> omega)) : (Nat.beq 0 0 && q.length.beq (List.map mvV q).length) = true) an) (S_end (V_ret (E_a [(1, .yes), (1, .v (PV.own 2 (List.map mvV q)))] (ap ((by exact ble_of (by simp only [List.length_map, List.length_set, List.length_append, List.length_cons, List.length_nil, limit] <;> omega)) : (0 + (List.map mvV q).length).ble (List.map mvV q).length = true) (ap ((own_ext take_allL) : PV.own 2 (List.take (List.map mvV q).length (List.drop 0 (List.map mvV q))) = PV.own 2 (List.map mvV q)) an)) (PV.own 2 (List.map mvV q)) ([]) rfl rfl))))))
theorem f129_2 {b : Dk} {fee f s : List Int} (h : MvOk b fee f s) (hne : mvs b fee f s s.length = []) : FG 129 [.nils 0, movesF b fee f s] (.nils 0) := by
  have ha := f130a h
  have hf := h.hf
  unfold mvLog at ha
  rw [hne] at ha
  clear h hne
  obtain ⟨x0, x1, x2, x3, rfl⟩ := four_of hf
  refine gives_ofX Try.f129 ?_
  refine V_seq (V_region (S_go 2 (S_end (V_seq (V_seq (V_region (S_go 1 (S_end (V_block 0 ?_)))))))))
  refine V_rangeRg (t := 6) (R := []) ha ?_
  simp only [List.map_nil, Rg]
  refine V_seq (V_region (S_go 2 (S_end (V_ret (E_a [] an (PV.nils 0) ([]) rfl rfl)))))
theorem f92_1 {b : Dk} {fee f s : List Int} (h : MvOk b fee f s) (hl : (mvs b fee f s s.length).length ≤ 1000) (hne : mvs b fee f s s.length ≠ []) : FG 92 [movesF b fee f s] (.own 2 ((mvs b fee f s s.length).map mvV)) := by
  have h129 := f129_1 h hl hne
  have hf := h.hf
  generalize mvs b fee f s s.length = L at *
  clear h
  obtain ⟨x0, x1, x2, x3, rfl⟩ := four_of hf
  refine gives_ofX Try.f92 ?_
  refine V_seq (V_region (S_go 1 (S_end (V_seq (V_region (S_go 1 (S_a [(7, .ret (PV.own 2 (List.map mvV L)) ([]))] (ap (h129) an) (S_go 1 (S_end (V_ret (E_a [(1, .yes), (1, .v (PV.own 2 (List.map mvV L)))] (ap ((by exact ble_of (by simp only [List.length_map, List.length_set, List.length_append, List.length_cons, List.length_nil, limit] <;> omega)) : (0 + (List.map mvV L).length).ble (List.map mvV L).length = true) (ap ((own_ext take_allL) : PV.own 2 (List.take (List.map mvV L).length (List.drop 0 (List.map mvV L))) = PV.own 2 (List.map mvV L)) an)) (PV.own 2 (List.map mvV L)) ([]) rfl rfl)))))))))))
theorem f92_2 {b : Dk} {fee f s : List Int} (h : MvOk b fee f s) (hne : mvs b fee f s s.length = []) : FG 92 [movesF b fee f s] (.nils 0) := by
  have h129 := f129_2 h hne
  have hf := h.hf
  clear h hne
  obtain ⟨x0, x1, x2, x3, rfl⟩ := four_of hf
  refine gives_ofX Try.f92 ?_
  refine V_seq (V_region (S_go 1 (S_end (V_seq (V_region (S_go 1 (S_a [(7, .ret (PV.nils 0) ([]))] (ap (h129) an) (S_go 1 (S_end (V_ret (E_a [] an (PV.nils 0) ([]) rfl rfl)))))))))))
theorem f32_1 (b : Dk) (l : List Int) (hb : Small b) (hs : ShareOk b l) (hne : movesL b l ≠ []) : FG 32 [boxV b, ints l] (.tup [.own 2 ((movesL b l).map mvV), I 0]) := by
  have h := share_err hs
  have hg := box_good hs.box
  have hbl := hg.len
  have hsl := hs.len
  have hcr := hg.cr
  have h88 := f88_1 b l hb h
  have hv : movesL b l = mvs b (feesOf b) (feeS b l) l l.length := by simp only [movesL, h, if_true]
  have hml : (mvs b (feesOf b) (feeS b l) l l.length).length ≤ 1000 := by
    have := mvs_len (b := b) (fee := feesOf b) (f := feeS b l) (s := l) l.length
    have h2 : l.length * b.cr.toNat ≤ 7 * 4 := Nat.mul_le_mul (by omega) (by omega)
    omega
  rw [hv] at hne ⊢
  have h92 := f92_1 (mv_ok hs hb) hml hne
  have h93 := f93_1 b (feesOf b) l (share_lt hs) (feesOf_bd hg) (by omega) (by rw [feesOf_len]; exact hsl)
  unfold feeS at h92 ⊢
  obtain ⟨x0, x1, x2, x3, hx⟩ := four_of (addF_len (fee := feesOf b) (share := l) l.length)
  rw [hx] at h92 h93 ⊢
  refine gives_ofX Try.f32 ?_
  refine V_seq (V_region (S_go 3 (S_end (V_seq (V_region (S_go 2 (S_a [(8, .ret (PV.tup [(deskV b (feesOf b)).ref, I 0]) ([]))] (ap (h88) an) (S_go 5 (S_end (V_seq (V_seq (V_region (S_go 2 (S_end (V_false (V_skip (V_seq (V_region (S_go 2 (S_a [(5, .ret (movesF b (feesOf b) [x0, x1, x2, x3] l) ([]))] (ap (h93) an) (S_a [(5, .ret (PV.own 2 (List.map mvV (mvs b (feesOf b) [x0, x1, x2, x3] l l.length))) ([]))] (ap (h92) an) (S_go 2 (S_end (V_ret (E_a [(1, .yes), (1, .v (PV.own 2 (List.map mvV (mvs b (feesOf b) [x0, x1, x2, x3] l l.length))))] (ap ((by exact ble_of (by simp only [List.length_map, List.length_set, List.length_append, List.length_cons, List.length_nil, limit] <;> omega)) : (0 + (List.map mvV (mvs b (feesOf b) [x0, x1, x2, x3] l l.length)).length).ble (List.map mvV (mvs b (feesOf b) [x0, x1, x2, x3] l l.length)).length = true) (ap ((own_ext take_allL) : PV.own 2 (List.take (List.map mvV (mvs b (feesOf b) [x0, x1, x2, x3] l l.length)).length (List.drop 0 (List.map mvV (mvs b (feesOf b) [x0, x1, x2, x3] l l.length)))) = PV.own 2 (List.map mvV (mvs b (feesOf b) [x0, x1, x2, x3] l l.length))) an)) (PV.tup [PV.own 2 (List.map mvV (mvs b (feesOf b) [x0, x1, x2, x3] l l.length)), PV.int IntKind.i64 0]) ([]) rfl rfl)))))))))))))))))))))))))
theorem f32_2 (b : Dk) (l : List Int) (hb : Small b) (hs : ShareOk b l) (hne : movesL b l = []) : FG 32 [boxV b, ints l] (.tup [.nils 0, I 0]) := by
  have h := share_err hs
  have hg := box_good hs.box
  have hbl := hg.len
  have hsl := hs.len
  have h88 := f88_1 b l hb h
  have hv : movesL b l = mvs b (feesOf b) (feeS b l) l l.length := by simp only [movesL, h, if_true]
  rw [hv] at hne
  have h92 := f92_2 (mv_ok hs hb) hne
  have h93 := f93_1 b (feesOf b) l (share_lt hs) (feesOf_bd hg) (by omega) (by rw [feesOf_len]; exact hsl)
  unfold feeS at h92
  obtain ⟨x0, x1, x2, x3, hx⟩ := four_of (addF_len (fee := feesOf b) (share := l) l.length)
  rw [hx] at h92 h93
  refine gives_ofX Try.f32 ?_
  refine V_seq (V_region (S_go 3 (S_end (V_seq (V_region (S_go 2 (S_a [(8, .ret (PV.tup [(deskV b (feesOf b)).ref, I 0]) ([]))] (ap (h88) an) (S_go 5 (S_end (V_seq (V_seq (V_region (S_go 2 (S_end (V_false (V_skip (V_seq (V_region (S_go 2 (S_a [(5, .ret (movesF b (feesOf b) [x0, x1, x2, x3] l) ([]))] (ap (h93) an) (S_a [(5, .ret (PV.nils 0) ([]))] (ap (h92) an) (S_go 2 (S_end (V_ret (E_a [] an (PV.tup [PV.nils 0, PV.int IntKind.i64 0]) ([]) rfl rfl)))))))))))))))))))))))))
theorem f32_3 (b : Dk) (l : List Int) (hb : Small b) (hl : l.length < 4294967296) (h : ¬ shareErr b l = 0) : FG 32 [boxV b, ints l] (.tup [.own 2 [], I (shareErr b l)]) := by
  refine gives_ofX Try.f32 ?_
  refine V_seq (V_region (S_go 3 (S_end (V_seq (V_region (S_go 2 (S_a [(8, .ret (PV.tup [PV.nilp, I (shareErr b l)]) ([]))] (ap (f88_2 (b) (l) (by omega) (by omega) (by omega)) an) (S_go 5 (S_end (V_seq (V_seq (V_region (S_go 2 (S_end (V_ndecT (shareErr b l = 0) (by omega) (V_seq (V_region (S_go 3 (S_end (V_ret (E_a [] an (PV.tup [PV.own 2 [], PV.int IntKind.i64 (shareErr b l)]) ([]) rfl rfl)))))))))))))))))))))
end Go.Eng
set_option maxRecDepth 10000
set_option maxHeartbeats 4000000
namespace Go.Eng
open Go Go.Proofs
theorem mvRow_mem {b : Dk} {fee f s : List Int} {r n : Nat} {m : Nat × Nat} (h : m ∈ mvRow b fee f s r n) : m.1 = r ∧ m.2 < n ∧ mvOk b fee f s m.1 m.2 = true := by
  simp only [mvRow, List.mem_map, List.mem_filter, List.mem_range] at h
  obtain ⟨t, ⟨h1, h2⟩, rfl⟩ := h
  exact ⟨rfl, h1, h2⟩
theorem mvs_mem {b : Dk} {fee f s : List Int} {n : Nat} {m : Nat × Nat} (h : m ∈ mvs b fee f s n) : m.1 < n ∧ m.2 < b.cr.toNat ∧ mvOk b fee f s m.1 m.2 = true := by
  simp only [mvs, List.mem_flatMap, List.mem_range] at h
  obtain ⟨r, h1, h2⟩ := h
  obtain ⟨rfl, h3, h4⟩ := mvRow_mem h2
  exact ⟨h1, h3, h4⟩
def mvStep (b : Dk) (s : List Int) : Option (List Int) := match mvs b (feesOf b) (feeS b s) s s.length with
  | [] => none
  | m :: _ => some (s.set m.1 (m.2 : Int))
def settleN (b : Dk) : Nat → List Int → List Int × Nat
  | 0, s => (s, 0)
  | k + 1, s => match mvStep b s with
    | none => (s, 0)
    | some s' => ((settleN b k s').1, (settleN b k s').2 + 1)
def settle (b : Dk) (s : List Int) : List Int × Nat := settleN b (pot b s + 1) s
theorem fee_bd {b : Dk} (hg : Good b) (r : Nat) : 0 ≤ feeOf b (rnd b r) ∧ feeOf b (rnd b r) ≤ 1000 := by
  rcases Nat.lt_or_ge r b.rs.length with h | h
  · exact feeOf_bd hg (rnd_num hg h)
  · have e : rnd b r = default := by unfold rnd; rw [List.getD_eq_getElem?_getD, List.getElem?_eq_none h]; rfl
    rw [e]; show 0 ≤ (0 : Int) * _ ∧ (0 : Int) * _ ≤ _; simp
theorem mvStep_ok {b : Dk} {s s' : List Int} (hs : ShareOk b s) (h : mvStep b s = some s') : ShareOk b s' ∧ pot b s' < pot b s := by
  have hg := box_good hs.box
  have hcr := hg.cr
  have hbl := hg.len
  have hsl := hs.len
  unfold mvStep at h
  split at h
  · cases h
  · rename_i m ms hm
    obtain ⟨r, t⟩ := m
    simp only [Option.some.injEq] at h
    subst h
    obtain ⟨h1, h2, h3⟩ := mvs_mem (m := (r, t)) (by rw [hm]; simp : (r, t) ∈ mvs b (feesOf b) (feeS b s) s s.length)
    simp only at h1 h2 h3
    rw [mvOk_ref hs h1 (by omega)] at h3
    simp only [Bool.and_eq_true, decide_eq_true_eq] at h3
    obtain ⟨h4, h5, h6⟩ := h3
    rw [earnN_set h1 h4] at h6
    refine ⟨⟨hs.box, by simpa using hs.len, fun x hx => ?_, mayAll_t fun q hq => ?_⟩, ?_⟩
    · rcases List.mem_or_eq_of_mem_set hx with hx | rfl
      · exact hs.rng x hx
      · omega
    · rw [getD_set]
      rw [List.length_set] at hq
      split
      · rename_i hq'; rw [← hq'.1]; exact h5
      · exact mayAll_get hs.may hq
    · have hb := potI_bd (l := s.set r (t : Int)) (fun r => fee_bd hg r) (by simp; omega)
      have hd := potI_dec (fun r => (fee_bd hg r).1) (by omega) h1 (share_lt hs) (by omega : 0 ≤ (t : Int) ∧ (t : Int) < 4) h4 h6
      unfold pot; omega
theorem settleN_fuel {b : Dk} : ∀ (k k' : Nat) (s : List Int), ShareOk b s → pot b s < k → pot b s < k' → settleN b k s = settleN b k' s
  | 0, _, _, _, h, _ => absurd h (Nat.not_lt_zero _)
  | _ + 1, 0, _, _, _, h => absurd h (Nat.not_lt_zero _)
  | k + 1, k' + 1, s, hs, h1, h2 => by
    simp only [settleN]
    cases h : mvStep b s with
    | none => rfl
    | some s' =>
      obtain ⟨h3, h4⟩ := mvStep_ok hs h
      simp only [settleN_fuel k k' s' h3 (by omega) (by omega)]
theorem settle_step {b : Dk} {s s' : List Int} (hs : ShareOk b s) (h : mvStep b s = some s') : settle b s = ((settle b s').1, (settle b s').2 + 1) := by
  obtain ⟨h3, h4⟩ := mvStep_ok hs h
  have e : settle b s = ((settleN b (pot b s) s').1, (settleN b (pot b s) s').2 + 1) := by
    unfold settle; rw [settleN, h]
  rw [e, settleN_fuel (pot b s) (pot b s' + 1) s' h3 (by omega) (by omega)]; rfl
theorem settle_end {b : Dk} {s : List Int} (h : mvStep b s = none) : settle b s = (s, 0) := by
  unfold settle; rw [settleN, h]
def settleL (b : Dk) (l : List Int) : List Int := if shareErr b l = 0 then (settle b l).1 else []
def settleK (b : Dk) (l : List Int) : Int := if shareErr b l = 0 then ((settle b l).2 : Int) else 0
theorem pot_bd {b : Dk} {s : List Int} (hs : ShareOk b s) : pot b s ≤ 4000000000000 := by
  have hg := box_good hs.box
  have := potI_bd (b := b) (l := s) (fun r => fee_bd hg r) (by rw [hs.len]; exact hg.len)
  unfold pot; omega
theorem f36 (b : Dk) (l : List Int) (hb : Small b) (hl : l.length < 4294967296) : FG 36 [boxV b, ints l] (.tup [.own 1 ((settleL b l).map I), I (settleK b l), I (shareErr b l)]) := by
  by_cases h : shareErr b l = 0
  · have hs := shr_ok h
    have hg := box_good hs.box
    have hcr := hg.cr
    have hbl := hg.len
    have hsl := hs.len
    have h88 := f88_1 b l hb h
    have e1 : settleL b l = (settle b l).1 := by simp only [settleL, h, if_true]
    have e2 : settleK b l = ((settle b l).2 : Int) := by simp only [settleK, h, if_true]
    rw [h, e1, e2]
    refine gives_ofX Try.f36 ?_
    refine V_seq (V_region (S_go 4 (S_end (V_seq (V_region (S_go 2 (S_a [(8, .ret (PV.tup [(deskV b (feesOf b)).ref, I 0]) ([]))] (ap (h88) an) (S_go 5 (S_end (V_seq (V_seq (V_region (S_go 2 (S_end (V_false (V_skip (V_seq (V_region (S_go 1 (S_a [(0, .n (l.length))] (ap ((by simp) : some (List.map I l).length = some l.length) an) (S_a [(4, .ob), (0, .ob), (1, .v (PV.own 1 (List.map I (List.replicate l.length 0))))] (ap ((by exact dec_of (by omega)) : decide (l.length ≤ l.length) = true) (ap ((by exact dec_of (by simp [limit] <;> omega)) : decide (l.length ≤ limit) = true) (ap ((by simp) : PV.own 1 (List.replicate l.length (PV.int IntKind.i64 0)) = PV.own 1 (List.map I (List.replicate l.length 0))) an))) (S_go 2 (S_end (V_seq (V_region (S_a [(1, .v (PV.bor 9 [(0, 0)] 1 0 (List.replicate l.length 0).length))] (ap ((by simp) : PV.bor 9 [(0, 0)] 1 0 (List.map I (List.replicate l.length 0)).length = PV.bor 9 [(0, 0)] 1 0 (List.replicate l.length 0).length) an) (S_go 1 (S_copyN (fun q => .box q) 9 1 ((List.replicate l.length 0).length) (List.map I (List.replicate l.length 0)) (List.map I l) (List.map I l) (by first | rfl | (simp; done) | omega) (fits_map fun _ _ => (by first | exact fits_one | exact ⟨rfl, rfl, rfl, rfl, Nat.le_refl _, rfl⟩)) (by simp <;> omega) (map_all (by simp <;> omega)) Lens.box (S_end (V_seq (V_region (S_go 1 (S_end (V_block 0 ?_))))))))))))))))))))))))))))))))))
    refine V_loopS (fun (n, s) => ShareOk b s ∧ settle b l = ((settle b s).1, (settle b s).2 + n) ∧ n + pot b s ≤ pot b l) (fun (n, s) => [(9, .box (.own 1 (s.map I))), (10, I (n : Nat))]) (fun (_, s) => pot b s) ((0 : Nat), l) ⟨hs, rfl, by omega⟩ fun (n, s) ⟨hss, hse, hsp⟩ => ?_
    have hpb := pot_bd hs
    have hsl2 := hss.len
    have h93 := f93_2 b (feesOf b) s (share_lt hss) (feesOf_bd hg) (by omega) (by rw [feesOf_len]; exact hsl2)
    have hmv := mv_ok hss hb
    have hY := f130a hmv
    have hst : mvStep b s = match mvs b (feesOf b) (feeS b s) s s.length with | [] => none | m :: _ => some (s.set m.1 (m.2 : Int)) := rfl
    unfold mvLog at hY
    have hmem := fun m => mvs_mem (b := b) (fee := feesOf b) (f := feeS b s) (s := s) (n := s.length) (m := m)
    generalize mvs b (feesOf b) (feeS b s) s s.length = L at *
    unfold feeS at hY
    obtain ⟨x0, x1, x2, x3, hx⟩ := four_of (addF_len (fee := feesOf b) (share := s) s.length)
    rw [hx] at hY h93
    clear hmv
    cases L with
    | nil =>
      have hend : mvStep b s = none := hst
      have hse2 := settle_end hend
      rw [hse, hse2]
      refine V_seq (V_block 1 (V_scope (V_seq (V_region (S_go 2 (S_end (V_seq (V_label (V_seq (V_seq (V_region (S_go 1 (S_a [(1, .v (PV.bor 9 [(0, 0)] 1 0 s.length))] (ap ((by simp) : PV.bor 9 [(0, 0)] 1 0 (List.map I s).length = PV.bor 9 [(0, 0)] 1 0 s.length) an) (S_a [(5, .ret (PV.func 130 [] ((PV.bor 50000000 [(0, 0)] 1 0 s.length).ref :: (mvCaps b (feesOf b) [x0, x1, x2, x3] []).tail)) ([(PV.own 1 (List.map I s)).box]))] (ap (h93) an) (S_end (V_block 2 ?_))))))))))))))))
      refine V_rangeRg (t := 32) (R := [9]) hY ?_ (hcl := ?_)
      · simp only [List.map_nil, Rg]
        refine V_seq (V_region (S_go 2 (S_end (V_true (V_seq (V_region (S_a [(1, .v (PV.bor 9 [(0, 0)] 1 0 s.length))] (ap ((by simp) : PV.bor 9 [(0, 0)] 1 0 (List.map I s).length = PV.bor 9 [(0, 0)] 1 0 s.length) an) (S_go 1 (S_a [(2, .yes)] (ap ((by exact beq_of (by simp <;> omega)) : (Nat.beq 0 0 && s.length.beq (List.map I s).length) = true) an) (S_go 2 (S_end (V_ret (E_a [(1, .yes), (1, .v (PV.own 1 (List.map I s)))] (ap ((by exact ble_of (by simp only [List.length_map, List.length_set, List.length_append, List.length_cons, List.length_nil, limit] <;> omega)) : (0 + (List.map I s).length).ble (List.map I s).length = true) (ap ((own_ext take_allL) : PV.own 1 (List.take (List.map I s).length (List.drop 0 (List.map I s))) = PV.own 1 (List.map I s)) an)) (PV.tup [PV.own 1 (List.map I s), PV.int IntKind.i64 (↑n : Int), PV.int IntKind.i64 0]) ([]) (by simp [*]) rfl)))))))))))))
      · have hlen7 : s.length ≤ 7 := by omega
        clear hsl2 hbl hsl
        clear hst hse hse2 hsp hss hY h93 hx hend
        rcases s with _ | ⟨y0, _ | ⟨y1, _ | ⟨y2, _ | ⟨y3, _ | ⟨y4, _ | ⟨y5, _ | ⟨y6, _ | ⟨y7, tl⟩⟩⟩⟩⟩⟩⟩⟩
        · show _ = _
          kernel_rfl
        · show _ = _
          kernel_rfl
        · show _ = _
          kernel_rfl
        · show _ = _
          kernel_rfl
        · show _ = _
          kernel_rfl
        · show _ = _
          kernel_rfl
        · show _ = _
          kernel_rfl
        · show _ = _
          kernel_rfl
        · exfalso; simp at hlen7
    | cons m ms =>
      have hstep : mvStep b s = some (s.set m.1 (m.2 : Int)) := hst
      obtain ⟨g1, g2⟩ := mvStep_ok hss hstep
      have g3 := settle_step hss hstep
      obtain ⟨g4, g5, _⟩ := hmem m (by simp)
      clear hmem
      refine V_seq (V_block 1 (V_scope (V_seq (V_region (S_go 2 (S_end (V_seq (V_label (V_seq (V_seq (V_region (S_go 1 (S_a [(1, .v (PV.bor 9 [(0, 0)] 1 0 s.length))] (ap ((by simp) : PV.bor 9 [(0, 0)] 1 0 (List.map I s).length = PV.bor 9 [(0, 0)] 1 0 s.length) an) (S_a [(5, .ret (PV.func 130 [] ((PV.bor 50000000 [(0, 0)] 1 0 s.length).ref :: (mvCaps b (feesOf b) [x0, x1, x2, x3] []).tail)) ([(PV.own 1 (List.map I s)).box]))] (ap (h93) an) (S_end (V_block 2 ?_))))))))))))))))
      refine V_rangeRg (t := 32) (R := [9]) hY ?_ (hcl := ?_)
      rotate_left
      · have hlen7 : s.length ≤ 7 := by omega
        clear hsl2 hbl hsl g1 g2 g3 g4 g5
        clear hst hse hsp hss hY h93 hx hstep
        rcases s with _ | ⟨y0, _ | ⟨y1, _ | ⟨y2, _ | ⟨y3, _ | ⟨y4, _ | ⟨y5, _ | ⟨y6, _ | ⟨y7, tl⟩⟩⟩⟩⟩⟩⟩⟩
        · show _ = _
          kernel_rfl
        · show _ = _
          kernel_rfl
        · show _ = _
          kernel_rfl
        · show _ = _
          kernel_rfl
        · show _ = _
          kernel_rfl
        · show _ = _
          kernel_rfl
        · show _ = _
          kernel_rfl
        · show _ = _
          kernel_rfl
        · exfalso; simp at hlen7
      simp only [List.map_cons, Rg]
      refine Round_mk ?_
      refine V_region (S_go 2 (S_end ?_))
      refine ⟨rfl, by kernel_rfl, ?_⟩
      refine V_block 3 (V_seq (V_region (S_a [(1, .v (PV.bor 9 [(0, 0)] 1 0 s.length))] (ap ((by simp) : PV.bor 9 [(0, 0)] 1 0 (List.map I s).length = PV.bor 9 [(0, 0)] 1 0 s.length) an) (S_go 4 (S_a [(2, .ob), (1, .n (m.fst))] (ap ((by exact dec_of (by omega)) : decide (m.fst < s.length) = true) (ap ((by simp) : some (0 + m.fst) = some m.fst) an)) (S_a [(8, .root ((PV.own 1 (List.map I (s.set m.fst (↑m.snd : Int)))).box) true)] (ap (wr_at (wr_in (p := (PV.own 1 (List.map I s)).box) (xs := [PV.own 1 (List.map I s)]) (x := PV.own 1 (List.map I s)) (q := PV.own 1 (List.map I s)) (q' := PV.own 1 (List.map I (s.set m.fst (↑m.snd : Int)))) (y := PV.own 1 (List.map I (s.set m.fst (↑m.snd : Int)))) (p' := (PV.own 1 (List.map I (s.set m.fst (↑m.snd : Int)))).box) rfl (wr_end (q := PV.own 1 (List.map I s)) (xs := List.map I s) (x := PV.int IntKind.i64 (s.getD m.fst 0)) (y := PV.int IntKind.i64 (↑m.snd : Int)) (q' := PV.own 1 (List.map I (s.set m.fst (↑m.snd : Int)))) (getm (0) (by omega)) rfl (we_own (u := (↑m.snd : Int)))) rfl rfl) rfl : writeAt (PV.own 1 (List.map I s)).box [(0, 0)] m.fst 0 (PV.int IntKind.i64 (↑m.snd : Int)).cells = some (PV.own 1 (List.map I (s.set m.fst (↑m.snd : Int)))).box ∧ keptView (PV.own 1 (List.map I s)).box (PV.own 1 (List.map I (s.set m.fst (↑m.snd : Int)))).box [(0, 0)] = true) an) (S_go 1 (S_end (V_exit 2 ?_)))))))))
      refine ⟨by kernel_rfl, ?_⟩
      refine V_seq (V_region (S_go 2 (S_end (V_false (V_skip (V_region (S_go 1 (S_a [(1, .v (PV.int IntKind.i64 (↑(n + 1) : Int)))] (ap ((wrapE (by omega) (by omega)) : PV.int IntKind.i64 (IntKind.i64.wrap ((↑n : Int) + 1)) = PV.int IntKind.i64 (↑(n + 1) : Int)) an) (S_go 1 (S_end ?_))))))))))
      exact ⟨(n + 1, s.set m.1 (m.2 : Int)), ⟨g1, by rw [hse, g3]; simp only; congr 1; omega, by show n + 1 + pot b (s.set m.1 (m.2 : Int)) ≤ pot b l; omega⟩, g2, by kernel_rfl, by kernel_rfl⟩
  · refine gives_ofX Try.f36 ?_
    refine V_seq (V_region (S_go 4 (S_end (V_seq (V_region (S_go 2 (S_a [(8, .ret (PV.tup [PV.nilp, I (shareErr b l)]) ([]))] (ap (f88_2 (b) (l) (by omega) (by omega) (by omega)) an) (S_go 5 (S_end (V_seq (V_seq (V_region (S_go 2 (S_end (V_ndecT (shareErr b l = 0) (by omega) (V_seq (V_region (S_go 4 (S_end (V_ret (E_a [] an (PV.tup [PV.own 1 [], PV.int IntKind.i64 0, PV.int IntKind.i64 (shareErr b l)]) ([]) ?_ rfl)))))))))))))))))))))
    simp only [settleL, settleK, h, if_false]; rfl
end Go.Eng
set_option maxRecDepth 10000
set_option maxHeartbeats 4000000
namespace Go.Eng
open Go Go.Proofs
theorem movesL_ok {b : Dk} {l : List Int} (hs : ShareOk b l) : movesL b l = mvs b (feesOf b) (feeS b l) l l.length := by simp only [movesL, share_err hs, if_true]
theorem movesL_len {b : Dk} {l : List Int} (hs : ShareOk b l) : (movesL b l).length ≤ 28 := by
  have hg := box_good hs.box
  have hbl := hg.len
  have hcr := hg.cr
  have hsl := hs.len
  have := mvs_len (b := b) (fee := feesOf b) (f := feeS b l) (s := l) l.length
  have h2 : l.length * b.cr.toNat ≤ 7 * 4 := Nat.mul_le_mul (by omega) (by omega)
  rw [movesL_ok hs]; omega
theorem f37 (b : Dk) (l : List Int) (hb : Small b) (hl : l.length < 4294967296) : FG 37 [boxV b, ints l] (.tup [.own 1 ((settleL b l).map I), I (settleK b l), I (shareErr b l)]) := by
  have h33 := f33 b l hb hl
  by_cases h : shareErr b l = 0
  · have hs := shr_ok h
    have hg := box_good hs.box
    have hcr := hg.cr
    have hbl := hg.len
    have hsl := hs.len
    have e1 : settleL b l = (settle b l).1 := by simp only [settleL, h, if_true]
    have e2 : settleK b l = ((settle b l).2 : Int) := by simp only [settleK, h, if_true]
    have hpb := pot_bd hs
    have hml := movesL_len hs
    rw [h] at h33
    rw [h, e1, e2]
    refine gives_ofX Try.f37 ?_
    refine V_seq (V_region (S_go 4 (S_end (V_seq (V_region (S_go 2 (S_a [(8, .ret (PV.tup [PV.own 2 (List.map mvV (movesL b l)), I 0]) ([]))] (ap (h33) an) (S_go 5 (S_end (V_seq (V_seq (V_region (S_go 2 (S_end (V_false (V_skip (V_seq (V_region (S_go 1 (S_end (V_seq (V_region (S_go 2 (S_a [(0, .ob), (0, .ob), (0, .ob), (3, .ob)] (ap ((by exact all_map _) : ((List.map I l).all fun x => x.plain) = true) (ap ((by exact all_map _) : ((List.map I l).all fun y => y.cells.length.beq ((fun x => x.size) Try.prog.types[3]) && y.cells.all fun q => q.oneCell) = true) (ap ((by exact List.isEmpty_iff.2 (wayss_map _)) : (wayss (List.map I l)).isEmpty = true) (ap ((by exact ble_of (by simp only [List.length_map, List.length_set, List.length_append, List.length_cons, List.length_nil, limit] <;> omega)) : (0 + (List.map I l).length).ble limit = true) an)))) (S_go 1 (S_end (V_seq (V_block 0 ?_))))))))))))))))))))))))))))
    refine V_loopS (fun (n, s, L) => ShareOk b s ∧ settle b l = ((settle b s).1, (settle b s).2 + n) ∧ n + pot b s ≤ pot b l ∧ movesL b s = L) (fun (n, s, L) => [(1, .own 1 (s.map I)), (7, .own 2 (L.map mvV)), (9, I (n : Nat))]) (fun (_, s, _) => pot b s) ((0 : Nat), l, movesL b l) ⟨hs, rfl, by omega, rfl⟩ fun (n, s, L) ⟨hss, hse, hsp, hL⟩ => ?_
    have hsl2 := hss.len
    have hml2 := movesL_len hss
    have hst : mvStep b s = match movesL b s with | [] => none | m :: _ => some (s.set m.1 (m.2 : Int)) := by rw [movesL_ok hss]; rfl
    have hmem : ∀ m ∈ movesL b s, m.1 < s.length := fun m hm => by rw [movesL_ok hss] at hm; exact (mvs_mem hm).1
    have h33e : ∀ s', ShareOk b s' → FG 33 [boxV b, ints s'] (.tup [.own 2 ((movesL b s').map mvV), I 0]) := fun s' hs' => by
      have := f33 b s' hb (by have := hs'.len; omega)
      rwa [share_err hs'] at this
    rw [hL] at hml2 hst
    have hst0 : L.length = 0 → mvStep b s = none := fun h0 => by
      rw [hst, List.eq_nil_of_length_eq_zero h0]
    have hst1 : 0 < L.length → mvStep b s = some (s.set (L.getD 0 default).1 ((L.getD 0 default).2 : Int)) := fun h0 => by
      rw [hst]
      match L, h0 with
      | m :: ms, _ => rfl
    have hmem : 0 < L.length → (L.getD 0 default).1 < s.length := fun h0 => by
      have hm : L.getD 0 default ∈ movesL b s := by rw [hL, getD_lt h0]; exact List.getElem_mem h0
      rw [movesL_ok hss] at hm; exact (mvs_mem hm).1
    clear hst
    by_cases h0 : 0 < L.length
    · have hst := hst1 h0
      obtain ⟨g1, g2⟩ := mvStep_ok hss hst
      have g3 := settle_step hss hst
      have g4 := hmem h0
      have h33s := f33 b _ hb (by have := g1.len; omega : (s.set (L.getD 0 default).1 ((L.getD 0 default).2 : Int)).length < 4294967296)
      rw [share_err g1] at h33s
      clear hmem hst0 hst1
      refine V_seq (V_seq (V_region (S_go 1 (S_a [(0, .n (L.length))] (ap ((by simp) : some (List.map mvV L).length = some L.length) an) (S_go 1 (S_end (V_decT ((↑L.length : Int) > 0) (by omega) (V_skip (V_block 1 (V_seq (V_region (S_go 2 (S_a [(2, .ob)] (ap ((by exact dec_of (by simp only [List.length_map, List.length_set, List.length_append, List.length_cons, List.length_nil] <;> omega)) : decide (0 < (List.map mvV L).length) = true) an) (S_go 1 (S_a [(0, .cs true ([PV.int IntKind.i64 (↑(L.getD 0 default).fst : Int)]))] (ap (rc_at (q := PV.own 2 (List.map mvV L)) (xs := List.map mvV L) (x := PV.agg [PV.int IntKind.i64 (↑(L.getD 0 default).fst : Int), PV.int IntKind.i64 (↑(L.getD 0 default).snd : Int)]) rfl (getm (default) (by omega)) : readCells 7 (PV.own 2 (List.map mvV L)) [] 0 0 1 = some (true, [PV.int IntKind.i64 (↑(L.getD 0 default).fst : Int)])) an) (S_go 1 (S_a [(2, .ob)] (ap ((by exact dec_of (by simp only [List.length_map, List.length_set, List.length_append, List.length_cons, List.length_nil] <;> omega)) : decide (0 < (List.map mvV L).length) = true) an) (S_go 1 (S_a [(0, .cs true ([PV.int IntKind.i64 (↑(L.getD 0 default).snd : Int)]))] (ap (rc_at (q := PV.own 2 (List.map mvV L)) (xs := List.map mvV L) (x := PV.agg [PV.int IntKind.i64 (↑(L.getD 0 default).fst : Int), PV.int IntKind.i64 (↑(L.getD 0 default).snd : Int)]) rfl (getm (default) (by omega)) : readCells 7 (PV.own 2 (List.map mvV L)) [] 0 1 1 = some (true, [PV.int IntKind.i64 (↑(L.getD 0 default).snd : Int)])) an) (S_a [(3, .ob), (0, .v (PV.sl (List.map I s))), (6, .ret (PV.own 1 (List.map I (s.set (L.getD 0 default).fst (↑(L.getD 0 default).snd : Int)))) ([])), (1, .yes)] (ap ((by exact ble_of (by simp only [List.length_map, List.length_set, List.length_append, List.length_cons, List.length_nil, limit] <;> omega)) : (0 + (List.map I s).length).ble (List.map I s).length = true) (ap ((sl_ext (freezes_all (freezes_mapH _))) : PV.sl (freezes (List.take (List.map I s).length (List.drop 0 (List.map I s)))) = PV.sl (List.map I s)) (ap (f97 (s) ((L.getD 0 default).fst) ((↑(L.getD 0 default).snd : Int)) (by omega) (by omega)) (ap ((by exact frees_map _) : (PV.own 1 (List.map I (s.set (L.getD 0 default).fst (↑(L.getD 0 default).snd : Int)))).free = true) an)))) (S_go 1 (S_end (V_seq (V_region (S_go 1 (S_a [(1, .v (PV.int IntKind.i64 (↑(n + 1) : Int)))] (ap ((wrapE (by omega) (by omega)) : PV.int IntKind.i64 (IntKind.i64.wrap ((↑n : Int) + 1)) = PV.int IntKind.i64 (↑(n + 1) : Int)) an) (S_go 1 (S_end (V_region (S_go 2 (S_a [(5, .ob), (0, .v (PV.sl (List.map I (s.set (L.getD 0 default).fst (↑(L.getD 0 default).snd : Int))))), (2, .ret (PV.tup [PV.own 2 (List.map mvV (movesL b (s.set (L.getD 0 default).fst (↑(L.getD 0 default).snd : Int)))), I 0]) ([])), (1, .yes)] (ap ((by exact ble_of (by simp only [List.length_map, List.length_set, List.length_append, List.length_cons, List.length_nil, limit] <;> omega)) : (0 + (List.map I (s.set (L.getD 0 default).fst (↑(L.getD 0 default).snd : Int))).length).ble (List.map I (s.set (L.getD 0 default).fst (↑(L.getD 0 default).snd : Int))).length = true) (ap ((sl_ext (freezes_all (freezes_mapH _))) : PV.sl (freezes (List.take (List.map I (s.set (L.getD 0 default).fst (↑(L.getD 0 default).snd : Int))).length (List.drop 0 (List.map I (s.set (L.getD 0 default).fst (↑(L.getD 0 default).snd : Int)))))) = PV.sl (List.map I (s.set (L.getD 0 default).fst (↑(L.getD 0 default).snd : Int)))) (ap (h33e (s.set (L.getD 0 default).fst (↑(L.getD 0 default).snd : Int)) (by omega)) (ap ((by exact ob_and (frees_map _) rfl) : (PV.tup [PV.own 2 (List.map mvV (movesL b (s.set (L.getD 0 default).fst (↑(L.getD 0 default).snd : Int)))), I 0]).free = true) an)))) (S_go 4 (S_end ?_)))))))))))))))))))))))))))))))))
      exact ⟨(n + 1, s.set (L.getD 0 default).1 ((L.getD 0 default).2 : Int), movesL b (s.set (L.getD 0 default).1 ((L.getD 0 default).2 : Int))), ⟨g1, by rw [hse, g3]; simp only; congr 1; omega, by show n + 1 + pot b (s.set (L.getD 0 default).1 ((L.getD 0 default).2 : Int)) ≤ pot b l; omega, rfl⟩, g2, by kernel_rfl, by kernel_rfl⟩
    · have hse2 := settle_end (hst0 (by omega))
      rw [hse, hse2]
      refine V_seq (V_seq (V_region (S_go 1 (S_a [(0, .n (L.length))] (ap ((by simp) : some (List.map mvV L).length = some L.length) an) (S_go 1 (S_end (V_decF ((↑L.length : Int) > 0) (by omega) (V_exit 0 (V_seq (V_region (S_go 2 (S_a [(2, .yes)] (ap ((by exact beq_of (by simp <;> omega)) : (Nat.beq 0 0 && (List.map I s).length.beq (List.map I s).length) = true) an) (S_go 2 (S_end (V_ret (E_a [(1, .yes), (1, .v (PV.own 1 (List.map I s)))] (ap ((by exact ble_of (by simp only [List.length_map, List.length_set, List.length_append, List.length_cons, List.length_nil, limit] <;> omega)) : (0 + (List.map I s).length).ble (List.map I s).length = true) (ap ((own_ext take_allL) : PV.own 1 (List.take (List.map I s).length (List.drop 0 (List.map I s))) = PV.own 1 (List.map I s)) an)) (PV.tup [PV.own 1 (List.map I s), PV.int IntKind.i64 (↑n : Int), PV.int IntKind.i64 0]) ([]) (by simp [*]) rfl))))))))))))))))
  · refine gives_ofX Try.f37 ?_
    refine V_seq (V_region (S_go 4 (S_end (V_seq (V_region (S_go 2 (S_a [(8, .ret (PV.tup [PV.own 2 (List.map mvV (movesL b l)), I (shareErr b l)]) ([]))] (ap (h33) an) (S_go 5 (S_end (V_seq (V_seq (V_region (S_go 2 (S_end (V_ndecT (shareErr b l = 0) (by omega) (V_seq (V_region (S_go 4 (S_end (V_ret (E_a [] an (PV.tup [PV.own 1 [], PV.int IntKind.i64 0, PV.int IntKind.i64 (shareErr b l)]) ([]) ?_ rfl)))))))))))))))))))))
    simp only [settleL, settleK, h, if_false]; rfl
end Go.Eng
set_option maxRecDepth 10000
set_option maxHeartbeats 4000000
namespace Go.Eng
open Go Go.Proofs
def mx (a b : Int) : Int := if b > a then b else a
def swOk (b : Dk) (fee f s : List Int) (x y : Nat) : Bool := decide (¬ s.getD x 0 = s.getD y 0) && (has (rnd b x).may (s.getD y 0) && (has (rnd b y).may (s.getD x 0) && decide (mx (f.getD (s.getD x 0).toNat 0 + (fee.getD y 0 - fee.getD x 0)) (f.getD (s.getD y 0).toNat 0 - (fee.getD y 0 - fee.getD x 0)) < mx (f.getD (s.getD x 0).toNat 0) (f.getD (s.getD y 0).toNat 0))))
def swRow (b : Dk) (fee f s : List Int) (x k : Nat) : List (Nat × Nat) := ((List.range k).filter fun j => swOk b fee f s x (x + 1 + j)).map fun j => (x, x + 1 + j)
def sws (b : Dk) (fee f s : List Int) (n : Nat) : List (Nat × Nat) := (List.range n).flatMap fun x => swRow b fee f s x (s.length - (x + 1))
theorem swRow_succ {b : Dk} {fee f s : List Int} {x k : Nat} : swRow b fee f s x (k + 1) = swRow b fee f s x k ++ if swOk b fee f s x (x + 1 + k) then [(x, x + 1 + k)] else [] := by
  simp only [swRow, List.range_succ, List.filter_append, List.map_append]
  congr 1
  cases h : swOk b fee f s x (x + 1 + k) <;> simp [h]
theorem sws_succ {b : Dk} {fee f s : List Int} {x : Nat} : sws b fee f s (x + 1) = sws b fee f s x ++ swRow b fee f s x (s.length - (x + 1)) := by
  simp only [sws, List.range_succ, List.flatMap_append]; simp
theorem swRow_len {b : Dk} {fee f s : List Int} {x k : Nat} : (swRow b fee f s x k).length ≤ k := by
  simp only [swRow, List.length_map]
  exact Nat.le_trans (List.length_filter_le _ _) (by simp)
theorem sws_len {b : Dk} {fee f s : List Int} : ∀ n, (sws b fee f s n).length ≤ n * s.length
  | 0 => by simp [sws]
  | n + 1 => by
    have ih := sws_len (b := b) (fee := fee) (f := f) (s := s) n
    have h := swRow_len (b := b) (fee := fee) (f := f) (s := s) (x := n) (k := s.length - (n + 1))
    rw [sws_succ, List.length_append, Nat.succ_mul]; omega
def swapsL (b : Dk) (l : List Int) : List (Nat × Nat) := if shareErr b l = 0 then sws b (feesOf b) (feeS b l) l l.length else []
theorem feeS_bd {b : Dk} {s : List Int} (hs : ShareOk b s) (i : Nat) : 0 ≤ (feeS b s).getD i 0 ∧ (feeS b s).getD i 0 ≤ 7000 := by
  have hg := box_good hs.box
  have := addF_bd (share := s) (feesOf_bd hg) s.length i
  have := hs.len
  have := hg.len
  unfold feeS; omega
section
variable [Yo]
theorem f34 (b : Dk) (l : List Int) (hb : Small b) (hl : l.length < 4294967296) : FG 34 [boxV b, ints l] (.tup [.own 2 ((swapsL b l).map mvV), I (shareErr b l)]) := by
  by_cases h : shareErr b l = 0
  · have hs := shr_ok h
    have hg := box_good hs.box
    have hcr := hg.cr
    have hbl := hg.len
    have hsl := hs.len
    have h88 := f88_1 b l hb h
    have hv : swapsL b l = sws b (feesOf b) (feeS b l) l l.length := by simp only [swapsL, h, if_true]
    have hfl : (feesOf b).length = l.length := by rw [feesOf_len]; omega
    rw [h, hv]
    have h90 := f90 b (feesOf b) l (share_lt hs) (feesOf_bd hg) (by omega) (by omega)
    have hF := feeS_bd hs
    have hFl : (feeS b l).length = 4 := addF_len _
    replace h90 : FG 90 [.ref (deskV b (feesOf b)), ints l] (.agg ((feeS b l).map I)) := h90
    generalize feeS b l = F at *
    obtain ⟨x0, x1, x2, x3, rfl⟩ := four_of hFl
    replace h90 : FG 90 [.ref (deskV b (feesOf b)), ints l] (.agg [I x0, I x1, I x2, I x3]) := h90
    refine gives_ofX Try.f34 ?_
    refine V_seq (V_region (S_go 3 (S_end (V_seq (V_region (S_go 2 (S_a [(8, .ret (PV.tup [(deskV b (feesOf b)).ref, I 0]) ([]))] (ap (h88) an) (S_go 5 (S_end (V_seq (V_seq (V_region (S_go 2 (S_end (V_false (V_skip (V_seq (V_region (S_go 2 (S_a [(7, .ret (PV.agg [I x0, I x1, I x2, I x3]) ([]))] (ap (h90) an) (S_go 2 (S_end (V_seq (V_region (S_go 1 (S_end (V_seq (V_seq (V_region (S_go 1 (S_a [(0, .n (l.length))] (ap ((by simp) : some (List.map I l).length = some l.length) an) (S_go 1 (S_end (V_block 0 ?_))))))))))))))))))))))))))))))))))
    refine V_loopS (fun (x, q) => x ≤ l.length ∧ q = sws b (feesOf b) [x0, x1, x2, x3] l x) (fun (x, q) => [(9, .own 2 (q.map mvV)), (29, I (x : Nat))]) (fun (x, _) => l.length - x) ((0 : Nat), ([] : List (Nat × Nat))) ⟨Nat.zero_le _, rfl⟩ fun (x, q) ⟨hx, hq⟩ => ?_
    clear h90 h88 hv
    have hql : q.length ≤ 49 := by
      have := sws_len (b := b) (fee := feesOf b) (f := [x0, x1, x2, x3]) (s := l) x
      have h2 : x * l.length ≤ 7 * 7 := Nat.mul_le_mul (by omega) (by omega)
      rw [hq]; omega
    by_cases hxl : x < l.length
    · refine V_seq (V_region (S_go 1 (S_end (V_seq (V_decT ((↑x : Int) < (↑l.length : Int)) (by omega) (V_skip (V_seq (V_block 1 (V_seq (V_region (S_go 1 (S_a [(2, .v (PV.int IntKind.i64 (l.getD x 0)))] (ap (getm (0) (by omega) : (List.map I l)[x]? = some (PV.int IntKind.i64 (l.getD x 0))) an) (S_go 3 (S_end (V_seq (V_region (S_go 1 (S_a [(1, .v (PV.int IntKind.i64 (↑(x + 1) : Int)))] (ap ((wrapE (by omega) (by omega)) : PV.int IntKind.i64 (IntKind.i64.wrap ((↑x : Int) + 1)) = PV.int IntKind.i64 (↑(x + 1) : Int)) an) (S_go 1 (S_end (V_block 2 ?_)))))))))))))))))))))
      refine V_loopS (fun (k, p) => k ≤ l.length - (x + 1) ∧ p = q ++ swRow b (feesOf b) [x0, x1, x2, x3] l x k) (fun (k, p) => [(9, .own 2 (p.map mvV)), (12, I ((x + 1 + k : Nat)))]) (fun (k, _) => l.length - (x + 1) - k) ((0 : Nat), q) ⟨Nat.zero_le _, by simp [swRow]⟩ fun (k, p) ⟨hk, hp⟩ => ?_
      have hpl : p.length ≤ 56 := by
        have := swRow_len (b := b) (fee := feesOf b) (f := [x0, x1, x2, x3]) (s := l) (x := x) (k := k)
        rw [hp, List.length_append]; omega
      by_cases hkl : x + 1 + k < l.length
      · have hxr := getD_all (share_lt hs) x hxl
        have hyr := getD_all (share_lt hs) (x + 1 + k) hkl
        have hf1 := hF (l.getD x 0).toNat
        have hf2 := hF (l.getD (x + 1 + k) 0).toNat
        have hf3 := feesOf_bd hg x
        have hf4 := feesOf_bd hg (x + 1 + k)
        have hok : swOk b (feesOf b) [x0, x1, x2, x3] l x (x + 1 + k) = (decide (¬ l.getD x 0 = l.getD (x + 1 + k) 0) && (has (rnd b x).may (l.getD (x + 1 + k) 0) && (has (rnd b (x + 1 + k)).may (l.getD x 0) && decide (mx ([x0, x1, x2, x3].getD (l.getD x 0).toNat 0 + ((feesOf b).getD (x + 1 + k) 0 - (feesOf b).getD x 0)) ([x0, x1, x2, x3].getD (l.getD (x + 1 + k) 0).toNat 0 - ((feesOf b).getD (x + 1 + k) 0 - (feesOf b).getD x 0)) < mx ([x0, x1, x2, x3].getD (l.getD x 0).toNat 0) ([x0, x1, x2, x3].getD (l.getD (x + 1 + k) 0).toNat 0))))) := rfl
        have hno : swOk b (feesOf b) [x0, x1, x2, x3] l x (x + 1 + k) = false → p = q ++ swRow b (feesOf b) [x0, x1, x2, x3] l x (k + 1) := fun h1 => by rw [swRow_succ, h1, hp]; simp
        have hyes : swOk b (feesOf b) [x0, x1, x2, x3] l x (x + 1 + k) = true → p ++ [(x, x + 1 + k)] = q ++ swRow b (feesOf b) [x0, x1, x2, x3] l x (k + 1) := fun h1 => by rw [swRow_succ, h1, hp]; simp
        clear hF hq hp
        refine V_seq (V_seq (V_region (S_go 2 (S_a [(0, .n (l.length))] (ap ((by simp) : some (List.map I l).length = some l.length) an) (S_go 1 (S_end (V_decT ((↑(x + 1 + k) : Int) < (↑l.length : Int)) (by omega) (V_skip (V_seq (V_block 3 (V_seq (V_region (S_go 2 (S_a [(2, .v (PV.int IntKind.i64 (l.getD (x + 1 + k) 0)))] (ap (getm (0) (by omega) : (List.map I l)[x + 1 + k]? = some (PV.int IntKind.i64 (l.getD (x + 1 + k) 0))) an) (S_go 6 (S_a [(2, .v (PV.int IntKind.i64 ((feesOf b).getD (x + 1 + k) 0)))] (ap (getm (0) (by omega) : (List.map I (feesOf b))[x + 1 + k]? = some (PV.int IntKind.i64 ((feesOf b).getD (x + 1 + k) 0))) an) (S_go 6 (S_a [(2, .v (PV.int IntKind.i64 ((feesOf b).getD x 0)))] (ap (getm (0) (by omega) : (List.map I (feesOf b))[x]? = some (PV.int IntKind.i64 ((feesOf b).getD x 0))) an) (S_go 1 (S_a [(1, .v (PV.int IntKind.i64 ((feesOf b).getD (x + 1 + k) 0 - (feesOf b).getD x 0)))] (ap ((wrapE rfl (by omega)) : PV.int IntKind.i64 (IntKind.i64.wrap ((feesOf b).getD (x + 1 + k) 0 - (feesOf b).getD x 0)) = PV.int IntKind.i64 ((feesOf b).getD (x + 1 + k) 0 - (feesOf b).getD x 0)) an) (S_go 2 (S_end (V_seq (V_region (S_go 4 (S_ndec 64 (l.getD x 0 = l.getD (x + 1 + k) 0) (fun k1 => (S_go 3 (S_a [(9, .ret (PV.bool (has (rnd b x).may (l.getD (x + 1 + k) 0))) ([]))] (ap (f98 (b) (feesOf b) (l.getD (x + 1 + k) 0) (x) (by first | omega | (simp <;> omega)) (by omega)) an) (S_go 2 (S_case 70 (has (rnd b x).may (l.getD (x + 1 + k) 0)) (fun k2 => (S_go 3 (S_a [(9, .ret (PV.bool (has (rnd b (x + 1 + k)).may (l.getD x 0))) ([]))] (ap (f98 (b) (feesOf b) (l.getD x 0) (x + 1 + k) (by first | omega | (simp <;> omega)) (by omega)) an) (S_go 2 (S_case 76 (has (rnd b (x + 1 + k)).may (l.getD x 0)) (fun k3 => (S_go 1 (S_a [(0, .ob), (1, .ob)] (ap ((by exact dec_of (by omega)) : decide (0 ≤ l.getD x 0) = true) (ap ((by exact dec_of (by omega)) : decide ((l.getD x 0).toNat < 4) = true) an)) (S_a [(0, .cs true ([PV.int IntKind.i64 ([x0, x1, x2, x3].getD (l.getD x 0).toNat 0)]))] (ap (rc_at (q := (PV.agg [PV.int IntKind.i64 x0, PV.int IntKind.i64 x1, PV.int IntKind.i64 x2, PV.int IntKind.i64 x3]).box) (xs := [PV.agg [PV.int IntKind.i64 x0, PV.int IntKind.i64 x1, PV.int IntKind.i64 x2, PV.int IntKind.i64 x3]]) (x := PV.agg (List.map I [x0, x1, x2, x3])) rfl rfl (re_arr (c := (l.getD x 0).toNat) (0) (by first | rfl | exact off_c1 (by kernel_rfl) | exact off_c2 (by kernel_rfl) | (simp; done)) (by omega)) : readCells 8 (PV.agg [PV.int IntKind.i64 x0, PV.int IntKind.i64 x1, PV.int IntKind.i64 x2, PV.int IntKind.i64 x3]).box [] 0 (0 + (l.getD x 0).toNat * (fun x => x.size) Try.prog.types[3]) 1 = some (true, [PV.int IntKind.i64 ([x0, x1, x2, x3].getD (l.getD x 0).toNat 0)])) an) (S_go 1 (S_a [(1, .v (PV.int IntKind.i64 ([x0, x1, x2, x3].getD (l.getD x 0).toNat 0 + ((feesOf b).getD (x + 1 + k) 0 - (feesOf b).getD x 0))))] (ap ((wrapE rfl (by omega)) : PV.int IntKind.i64 (IntKind.i64.wrap ([x0, x1, x2, x3].getD (l.getD x 0).toNat 0 + ((feesOf b).getD (x + 1 + k) 0 - (feesOf b).getD x 0))) = PV.int IntKind.i64 ([x0, x1, x2, x3].getD (l.getD x 0).toNat 0 + ((feesOf b).getD (x + 1 + k) 0 - (feesOf b).getD x 0))) an) (S_go 1 (S_a [(0, .ob), (1, .ob)] (ap ((by exact dec_of (by omega)) : decide (0 ≤ l.getD (x + 1 + k) 0) = true) (ap ((by exact dec_of (by omega)) : decide ((l.getD (x + 1 + k) 0).toNat < 4) = true) an)) (S_a [(0, .cs true ([PV.int IntKind.i64 ([x0, x1, x2, x3].getD (l.getD (x + 1 + k) 0).toNat 0)]))] (ap (rc_at (q := (PV.agg [PV.int IntKind.i64 x0, PV.int IntKind.i64 x1, PV.int IntKind.i64 x2, PV.int IntKind.i64 x3]).box) (xs := [PV.agg [PV.int IntKind.i64 x0, PV.int IntKind.i64 x1, PV.int IntKind.i64 x2, PV.int IntKind.i64 x3]]) (x := PV.agg (List.map I [x0, x1, x2, x3])) rfl rfl (re_arr (c := (l.getD (x + 1 + k) 0).toNat) (0) (by first | rfl | exact off_c1 (by kernel_rfl) | exact off_c2 (by kernel_rfl) | (simp; done)) (by omega)) : readCells 8 (PV.agg [PV.int IntKind.i64 x0, PV.int IntKind.i64 x1, PV.int IntKind.i64 x2, PV.int IntKind.i64 x3]).box [] 0 (0 + (l.getD (x + 1 + k) 0).toNat * (fun x => x.size) Try.prog.types[3]) 1 = some (true, [PV.int IntKind.i64 ([x0, x1, x2, x3].getD (l.getD (x + 1 + k) 0).toNat 0)])) an) (S_go 1 (S_a [(1, .v (PV.int IntKind.i64 ([x0, x1, x2, x3].getD (l.getD (x + 1 + k) 0).toNat 0 - ((feesOf b).getD (x + 1 + k) 0 - (feesOf b).getD x 0))))] (ap ((wrapE rfl (by omega)) : PV.int IntKind.i64 (IntKind.i64.wrap ([x0, x1, x2, x3].getD (l.getD (x + 1 + k) 0).toNat 0 - ((feesOf b).getD (x + 1 + k) 0 - (feesOf b).getD x 0))) = PV.int IntKind.i64 ([x0, x1, x2, x3].getD (l.getD (x + 1 + k) 0).toNat 0 - ((feesOf b).getD (x + 1 + k) 0 - (feesOf b).getD x 0))) an) (S_go 2 (S_a [(0, .ob), (1, .ob)] (ap ((by exact dec_of (by omega)) : decide (0 ≤ l.getD x 0) = true) (ap ((by exact dec_of (by omega)) : decide ((l.getD x 0).toNat < 4) = true) an)) (S_a [(0, .cs true ([PV.int IntKind.i64 ([x0, x1, x2, x3].getD (l.getD x 0).toNat 0)]))] (ap (rc_at (q := (PV.agg [PV.int IntKind.i64 x0, PV.int IntKind.i64 x1, PV.int IntKind.i64 x2, PV.int IntKind.i64 x3]).box) (xs := [PV.agg [PV.int IntKind.i64 x0, PV.int IntKind.i64 x1, PV.int IntKind.i64 x2, PV.int IntKind.i64 x3]]) (x := PV.agg (List.map I [x0, x1, x2, x3])) rfl rfl (re_arr (c := (l.getD x 0).toNat) (0) (by first | rfl | exact off_c1 (by kernel_rfl) | exact off_c2 (by kernel_rfl) | (simp; done)) (by omega)) : readCells 8 (PV.agg [PV.int IntKind.i64 x0, PV.int IntKind.i64 x1, PV.int IntKind.i64 x2, PV.int IntKind.i64 x3]).box [] 0 (0 + (l.getD x 0).toNat * (fun x => x.size) Try.prog.types[3]) 1 = some (true, [PV.int IntKind.i64 ([x0, x1, x2, x3].getD (l.getD x 0).toNat 0)])) an) (S_go 1 (S_a [(0, .ob), (1, .ob)] (ap ((by exact dec_of (by omega)) : decide (0 ≤ l.getD (x + 1 + k) 0) = true) (ap ((by exact dec_of (by omega)) : decide ((l.getD (x + 1 + k) 0).toNat < 4) = true) an)) (S_a [(0, .cs true ([PV.int IntKind.i64 ([x0, x1, x2, x3].getD (l.getD (x + 1 + k) 0).toNat 0)]))] (ap (rc_at (q := (PV.agg [PV.int IntKind.i64 x0, PV.int IntKind.i64 x1, PV.int IntKind.i64 x2, PV.int IntKind.i64 x3]).box) (xs := [PV.agg [PV.int IntKind.i64 x0, PV.int IntKind.i64 x1, PV.int IntKind.i64 x2, PV.int IntKind.i64 x3]]) (x := PV.agg (List.map I [x0, x1, x2, x3])) rfl rfl (re_arr (c := (l.getD (x + 1 + k) 0).toNat) (0) (by first | rfl | exact off_c1 (by kernel_rfl) | exact off_c2 (by kernel_rfl) | (simp; done)) (by omega)) : readCells 8 (PV.agg [PV.int IntKind.i64 x0, PV.int IntKind.i64 x1, PV.int IntKind.i64 x2, PV.int IntKind.i64 x3]).box [] 0 (0 + (l.getD (x + 1 + k) 0).toNat * (fun x => x.size) Try.prog.types[3]) 1 = some (true, [PV.int IntKind.i64 ([x0, x1, x2, x3].getD (l.getD (x + 1 + k) 0).toNat 0)])) an) (S_go 3 (S_end (V_dec ((if [x0, x1, x2, x3].getD (l.getD (x + 1 + k) 0).toNat 0 - ((feesOf b).getD (x + 1 + k) 0 - (feesOf b).getD x 0) > [x0, x1, x2, x3].getD (l.getD x 0).toNat 0 + ((feesOf b).getD (x + 1 + k) 0 - (feesOf b).getD x 0) then [x0, x1, x2, x3].getD (l.getD (x + 1 + k) 0).toNat 0 - ((feesOf b).getD (x + 1 + k) 0 - (feesOf b).getD x 0) else [x0, x1, x2, x3].getD (l.getD x 0).toNat 0 + ((feesOf b).getD (x + 1 + k) 0 - (feesOf b).getD x 0)) < if [x0, x1, x2, x3].getD (l.getD (x + 1 + k) 0).toNat 0 > [x0, x1, x2, x3].getD (l.getD x 0).toNat 0 then [x0, x1, x2, x3].getD (l.getD (x + 1 + k) 0).toNat 0 else [x0, x1, x2, x3].getD (l.getD x 0).toNat 0) (fun k4 => (V_region (S_go 5 (S_a [(4, .ob), (0, .ob), (0, .ob), (2, .v (PV.own 2 (List.map mvV (p ++ [(x, x + 1 + k)]))))] (ap ((by exact ble_of (by simp only [List.length_map, List.length_set, List.length_append, List.length_cons, List.length_nil, limit] <;> omega)) : (0 + (List.map mvV p).length).ble (List.map mvV p).length = true) (ap ((by exact ble_of (by simp only [List.length_map, List.length_set, List.length_append, List.length_cons, List.length_nil, limit] <;> omega)) : ((List.map mvV p).length + [PV.agg [PV.int IntKind.i64 (↑x : Int), PV.int IntKind.i64 (↑(x + 1 + k) : Int)]].length).ble limit = true) (ap ((by exact beq_of (by simp <;> omega)) : (0 + (List.map mvV p).length).beq (List.map mvV p).length = true) (ap ((by simp) : PV.own 2 (List.map mvV p ++ [PV.agg [PV.int IntKind.i64 (↑x : Int), PV.int IntKind.i64 (↑(x + 1 + k) : Int)]]) = PV.own 2 (List.map mvV (p ++ [(x, x + 1 + k)]))) an)))) (S_go 1 (S_end (V_region (S_go 1 (S_a [(1, .v (PV.int IntKind.i64 (↑(x + 1 + k + 1) : Int)))] (ap ((wrapE (by omega) (by omega)) : PV.int IntKind.i64 (IntKind.i64.wrap ((↑(x + 1 + k) : Int) + 1)) = PV.int IntKind.i64 (↑(x + 1 + k + 1) : Int)) an) (S_go 1 (S_end ?_))))))))))) (fun k4 => (V_skip (V_region (S_go 1 (S_a [(1, .v (PV.int IntKind.i64 (↑(x + 1 + k + 1) : Int)))] (ap ((wrapE (by omega) (by omega)) : PV.int IntKind.i64 (IntKind.i64.wrap ((↑(x + 1 + k) : Int) + 1)) = PV.int IntKind.i64 (↑(x + 1 + k + 1) : Int)) an) (S_go 1 (S_end ?_))))))))))))))))))))))))))) (fun k3 => (S_go 20 (S_end (V_false (V_skip (V_region (S_go 1 (S_a [(1, .v (PV.int IntKind.i64 (↑(x + 1 + k + 1) : Int)))] (ap ((wrapE (by omega) (by omega)) : PV.int IntKind.i64 (IntKind.i64.wrap ((↑(x + 1 + k) : Int) + 1)) = PV.int IntKind.i64 (↑(x + 1 + k + 1) : Int)) an) (S_go 1 (S_end ?_))))))))))))))) (fun k2 => (S_go 26 (S_end (V_false (V_skip (V_region (S_go 1 (S_a [(1, .v (PV.int IntKind.i64 (↑(x + 1 + k + 1) : Int)))] (ap ((wrapE (by omega) (by omega)) : PV.int IntKind.i64 (IntKind.i64.wrap ((↑(x + 1 + k) : Int) + 1)) = PV.int IntKind.i64 (↑(x + 1 + k + 1) : Int)) an) (S_go 1 (S_end ?_))))))))))))))) (fun k1 => (S_go 32 (S_end (V_false (V_skip (V_region (S_go 1 (S_a [(1, .v (PV.int IntKind.i64 (↑(x + 1 + k + 1) : Int)))] (ap ((wrapE (by omega) (by omega)) : PV.int IntKind.i64 (IntKind.i64.wrap ((↑(x + 1 + k) : Int) + 1)) = PV.int IntKind.i64 (↑(x + 1 + k + 1) : Int)) an) (S_go 1 (S_end ?_))))))))))))))))))))))))))))))))))))
        · exact ⟨(k + 1, p ++ [(x, x + 1 + k)]), ⟨by omega, hyes (by rw [hok, k2, k3, decide_eq_true k1, decide_eq_true (show mx _ _ < mx _ _ from k4)]; rfl)⟩, by simp only; omega, by kernel_rfl, by kernel_rfl⟩
        · exact ⟨(k + 1, p), ⟨by omega, hno (by rw [hok, k2, k3, decide_eq_false (show ¬ mx _ _ < mx _ _ from k4)]; simp)⟩, by simp only; omega, by kernel_rfl, by kernel_rfl⟩
        · exact ⟨(k + 1, p), ⟨by omega, hno (by rw [hok, k3]; simp)⟩, by simp only; omega, by kernel_rfl, by kernel_rfl⟩
        · exact ⟨(k + 1, p), ⟨by omega, hno (by rw [hok, k2]; simp)⟩, by simp only; omega, by kernel_rfl, by kernel_rfl⟩
        · exact ⟨(k + 1, p), ⟨by omega, hno (by rw [hok, decide_eq_false (fun h => h k1)]; simp)⟩, by simp only; omega, by kernel_rfl, by kernel_rfl⟩
      · refine V_seq (V_seq (V_region (S_go 2 (S_a [(0, .n (l.length))] (ap ((by simp) : some (List.map I l).length = some l.length) an) (S_go 1 (S_end (V_decF ((↑(x + 1 + k) : Int) < (↑l.length : Int)) (by omega) (V_exit 2 (V_region (S_a [(1, .v (PV.int IntKind.i64 (↑(x + 1) : Int)))] (ap ((wrapE (by omega) (by omega)) : PV.int IntKind.i64 (IntKind.i64.wrap ((↑x : Int) + 1)) = PV.int IntKind.i64 (↑(x + 1) : Int)) an) (S_go 1 (S_end ?_))))))))))))
        exact ⟨(x + 1, p), ⟨by omega, by rw [hp, hq, sws_succ, show k = l.length - (x + 1) by omega]⟩, by simp only; omega, by kernel_rfl, by kernel_rfl⟩
    · refine V_seq (V_region (S_go 1 (S_end (V_seq (V_decF ((↑x : Int) < (↑l.length : Int)) (by omega) (V_exit 0 (V_seq (V_region (S_go 1 (S_a [(2, .yes)] (ap ((by exact beq_of (by simp <;> omega)) : (Nat.beq 0 0 && (List.map mvV q).length.beq (List.map mvV q).length) = true) an) (S_go 1 (S_end (V_ret (E_a [(1, .yes), (1, .v (PV.own 2 (List.map mvV q)))] (ap ((by exact ble_of (by simp only [List.length_map, List.length_set, List.length_append, List.length_cons, List.length_nil, limit] <;> omega)) : (0 + (List.map mvV q).length).ble (List.map mvV q).length = true) (ap ((own_ext take_allL) : PV.own 2 (List.take (List.map mvV q).length (List.drop 0 (List.map mvV q))) = PV.own 2 (List.map mvV q)) an)) (PV.tup [PV.own 2 (List.map mvV q), PV.int IntKind.i64 0]) ([]) ?_ rfl))))))))))))))
      rw [hq, show x = l.length by omega]
  · refine gives_ofX Try.f34 ?_
    refine V_seq (V_region (S_go 3 (S_end (V_seq (V_region (S_go 2 (S_a [(8, .ret (PV.tup [PV.nilp, I (shareErr b l)]) ([]))] (ap (f88_2 (b) (l) (by omega) (by omega) (by omega)) an) (S_go 5 (S_end (V_seq (V_seq (V_region (S_go 2 (S_end (V_ndecT (shareErr b l = 0) (by omega) (V_seq (V_region (S_go 3 (S_end (V_ret (E_a [] an (PV.tup [PV.own 2 [], PV.int IntKind.i64 (shareErr b l)]) ([]) ?_ rfl)))))))))))))))))))))
    simp only [swapsL, h, if_false]; rfl
end
end Go.Eng
