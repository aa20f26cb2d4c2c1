/- The bound of some rounds, and the rounds with the greatest one, are as specified, for every box and every list of rounds. -/
import Derived.Test.YtpmbobnmpehobaaPf
import Derived.Test.YtpmbobnmpehobaaPe
set_option linter.unusedVariables false
set_option linter.unusedSimpArgs false
set_option linter.unusedSectionVars false
set_option maxRecDepth 10000
set_option maxHeartbeats 4000000
namespace Go.Eng
open Go Go.Proofs
theorem set_same {α : Type} {l : List α} {i : Nat} {d : α} (h : i < l.length) : l.set i (l.getD i d) = l := by
  rw [getD_lt h]; exact List.set_getElem_self h
abbrev rndO (r : Rnd) : PV := .agg [I r.w, I r.s, .own 1 (r.may.map I)]
section
variable [Yo]
theorem f91 (l : List Rnd) (hl : l.length < 4294967296) : FG 91 [rnds l] (.own 3 (l.map rndV)) := by
  refine gives_ofX Try.f91 ?_
  refine V_seq (V_region (S_go 1 (S_end (V_seq (V_region (S_go 1 (S_a [(0, .n (l.length))] (ap ((by simp) : some (List.map rndV l).length = some l.length) an) (S_a [(4, .ob), (0, .ob), (1, .v (PV.own 3 (List.map (fun x => PV.agg [PV.int IntKind.i64 0, PV.int IntKind.i64 0, PV.own 1 []]) (List.replicate l.length ()))))] (ap ((by exact dec_of (by omega)) : decide (l.length ≤ l.length) = true) (ap ((by exact dec_of (by simp [limit] <;> omega)) : decide (l.length ≤ limit) = true) (ap ((by simp) : PV.own 3 (List.replicate l.length (PV.agg [PV.int IntKind.i64 0, PV.int IntKind.i64 0, PV.own 1 []])) = PV.own 3 (List.map (fun x => PV.agg [PV.int IntKind.i64 0, PV.int IntKind.i64 0, PV.own 1 []]) (List.replicate l.length ()))) an))) (S_go 1 (S_end (V_seq (V_region (S_go 2 (S_copyL (fun q => q) 3 3 (List.map (fun x => PV.agg [PV.int IntKind.i64 0, PV.int IntKind.i64 0, PV.own 1 []]) (List.replicate l.length ())) (List.map rndV l) (List.map rndV l) (fits_map fun _ _ => (by first | exact fits_one | exact ⟨rfl, rfl, rfl, rfl, Nat.le_refl _, rfl⟩)) (by simp <;> omega) (map_all (by simp <;> omega)) Lens.nil (S_end (V_seq (V_region (S_go 1 (S_a [(2, .yes)] (ap ((by exact beq_of (by simp <;> omega)) : (Nat.beq 0 0 && (List.map rndV l).length.beq (List.map rndV l).length) = true) an) (S_end (V_ret (E_a [(1, .yes), (1, .v (PV.own 3 (List.map rndV l)))] (ap ((by exact ble_of (by simp only [List.length_map, List.length_set, List.length_append, List.length_cons, List.length_nil, limit] <;> omega)) : (0 + (List.map rndV l).length).ble (List.map rndV l).length = true) (ap ((by simp [take_mapL]) : PV.own 3 (List.take (List.map rndV l).length (List.drop 0 (List.map rndV l))) = PV.own 3 (List.map rndV l)) an)) (PV.own 3 (List.map rndV l)) ([]) rfl rfl))))))))))))))))))))))
theorem f30 (b : Dk) (hb : b.rs.length ≤ 12) (hb2 : ∀ r ∈ b.rs, r.may.length ≤ 10) : FG 30 [boxV b] (.agg [I b.cr, I b.wd, I b.st, I b.fn, .own 3 (b.rs.map rndV)]) := by
  refine gives_ofX Try.f30 ?_
  refine V_seq (V_region (S_go 2 (S_end (V_seq (V_region (S_go 2 (S_a [(6, .ret (PV.own 3 (List.map rndV b.rs)) ([]))] (ap (f91 (b.rs) (by omega)) an) (S_go 2 (S_end (V_seq (V_seq (V_region (S_go 1 (S_a [(1, .v (PV.bor 1 [(0, 4)] 3 0 b.rs.length))] (ap ((by simp) : PV.bor 1 [(0, 4)] 3 0 (List.map rndV b.rs).length = PV.bor 1 [(0, 4)] 3 0 b.rs.length) an) (S_go 2 (S_end (V_block 0 ?_)))))))))))))))))
  refine V_loopS (fun (i, q) => i ≤ b.rs.length ∧ q = b.rs) (fun (i, q) => [(1, .box (.agg [I b.cr, I b.wd, I b.st, I b.fn, .own 3 (q.map rndV)])), (12, I (i : Nat))]) (fun (i, _) => b.rs.length - i) ((0 : Nat), b.rs) ⟨Nat.zero_le _, rfl⟩ fun (i, q) ⟨hi, hq⟩ => ?_
  have hql : q.length = b.rs.length := by rw [hq]
  have hm : i < b.rs.length → (b.rs.getD i default).may.length ≤ 10 := fun h => hb2 _ (by rw [getD_lt h]; exact List.getElem_mem _)
  have hm2 : i < b.rs.length → (q.getD i default).may.length ≤ 10 := fun h => by rw [hq]; exact hm h
  refine V_seq (V_region (S_go 1 (S_end (V_seq (V_dec ((↑i : Int) < (↑b.rs.length : Int)) (fun k0 => (V_skip (V_seq (V_block 1 (V_seq (V_region (S_go 1 (S_a [(2, .ob), (1, .n (i))] (ap ((by exact dec_of (by omega)) : decide (i < b.rs.length) = true) (ap ((by simp) : some (0 + i) = some i) an)) (S_a [(0, .cs true ([PV.int IntKind.i64 (q.getD i default).w, PV.int IntKind.i64 (q.getD i default).s, PV.sl (List.map I (q.getD i default).may)]))] (ap (rc_at (q := PV.own 3 (List.map rndV q)) (xs := List.map rndV q) (x := PV.agg [PV.int IntKind.i64 (q.getD i default).w, PV.int IntKind.i64 (q.getD i default).s, PV.sl (List.map I (q.getD i default).may)]) (gn_at (xs := [PV.agg [PV.int IntKind.i64 b.cr, PV.int IntKind.i64 b.wd, PV.int IntKind.i64 b.st, PV.int IntKind.i64 b.fn, PV.own 3 (List.map rndV q)]]) (x := PV.agg [PV.int IntKind.i64 b.cr, PV.int IntKind.i64 b.wd, PV.int IntKind.i64 b.st, PV.int IntKind.i64 b.fn, PV.own 3 (List.map rndV q)]) (y := PV.own 3 (List.map rndV q)) rfl rfl) (getm (default) (by omega)) : readCells 1 (PV.agg [PV.int IntKind.i64 b.cr, PV.int IntKind.i64 b.wd, PV.int IntKind.i64 b.st, PV.int IntKind.i64 b.fn, PV.own 3 (List.map rndV q)]).box [(0, 4)] i 0 Try.prog.types[104].size = some (true, [PV.int IntKind.i64 (q.getD i default).w, PV.int IntKind.i64 (q.getD i default).s, PV.sl (List.map I (q.getD i default).may)])) an) (S_go 3 (S_end (V_region (S_go 1 (S_a [(1, .v (PV.bor 1 [(0, 4)] 3 0 q.length))] (ap ((by simp) : PV.bor 1 [(0, 4)] 3 0 (List.map rndV q).length = PV.bor 1 [(0, 4)] 3 0 q.length) an) (S_go 3 (S_a [(6, .ret (PV.own 1 (List.map I (q.getD i default).may)) ([]))] (ap (f17 ((q.getD i default).may) (by omega)) an) (S_a [(2, .ob), (1, .n (i))] (ap ((by exact dec_of (by omega)) : decide (i < q.length) = true) (ap ((by simp) : some (0 + i) = some i) an)) (S_go 1 (S_a [(3, .v (PV.sl (List.map I (q.getD i default).may))), (4, .root ((PV.agg [PV.int IntKind.i64 b.cr, PV.int IntKind.i64 b.wd, PV.int IntKind.i64 b.st, PV.int IntKind.i64 b.fn, PV.own 3 (List.map rndV (q.set i (q.getD i default)))]).box) true)] (ap ((sl_ext (freezes_mapG _)) : PV.sl (freezes (List.map I (q.getD i default).may)) = PV.sl (List.map I (q.getD i default).may)) (ap (wr_at (wr_in (p := (PV.agg [PV.int IntKind.i64 b.cr, PV.int IntKind.i64 b.wd, PV.int IntKind.i64 b.st, PV.int IntKind.i64 b.fn, PV.own 3 (List.map rndV q)]).box) (xs := [PV.agg [PV.int IntKind.i64 b.cr, PV.int IntKind.i64 b.wd, PV.int IntKind.i64 b.st, PV.int IntKind.i64 b.fn, PV.own 3 (List.map rndV q)]]) (x := PV.agg [PV.int IntKind.i64 b.cr, PV.int IntKind.i64 b.wd, PV.int IntKind.i64 b.st, PV.int IntKind.i64 b.fn, PV.own 3 (List.map rndV q)]) (q := PV.own 3 (List.map rndV q)) (q' := PV.own 3 (List.map rndV (q.set i (q.getD i default)))) (y := PV.agg [PV.int IntKind.i64 b.cr, PV.int IntKind.i64 b.wd, PV.int IntKind.i64 b.st, PV.int IntKind.i64 b.fn, PV.own 3 (List.map rndV (q.set i (q.getD i default)))]) (p' := (PV.agg [PV.int IntKind.i64 b.cr, PV.int IntKind.i64 b.wd, PV.int IntKind.i64 b.st, PV.int IntKind.i64 b.fn, PV.own 3 (List.map rndV (q.set i (q.getD i default)))]).box) rfl (wr_end (q := PV.own 3 (List.map rndV q)) (xs := List.map rndV q) (x := PV.agg [PV.int IntKind.i64 (q.getD i default).w, PV.int IntKind.i64 (q.getD i default).s, PV.sl (List.map I (q.getD i default).may)]) (y := PV.agg [PV.int IntKind.i64 (q.getD i default).w, PV.int IntKind.i64 (q.getD i default).s, PV.sl (List.map I (q.getD i default).may)]) (q' := PV.own 3 (List.map rndV (q.set i (q.getD i default)))) (getm (default) (by omega)) rfl (we_own (u := q.getD i default))) rfl rfl) rfl : writeAt (PV.agg [PV.int IntKind.i64 b.cr, PV.int IntKind.i64 b.wd, PV.int IntKind.i64 b.st, PV.int IntKind.i64 b.fn, PV.own 3 (List.map rndV q)]).box [(0, 4)] i 2 (PV.sl (List.map I (q.getD i default).may)).cells = some (PV.agg [PV.int IntKind.i64 b.cr, PV.int IntKind.i64 b.wd, PV.int IntKind.i64 b.st, PV.int IntKind.i64 b.fn, PV.own 3 (List.map rndV (q.set i (q.getD i default)))]).box ∧ keptView (PV.agg [PV.int IntKind.i64 b.cr, PV.int IntKind.i64 b.wd, PV.int IntKind.i64 b.st, PV.int IntKind.i64 b.fn, PV.own 3 (List.map rndV q)]).box (PV.agg [PV.int IntKind.i64 b.cr, PV.int IntKind.i64 b.wd, PV.int IntKind.i64 b.st, PV.int IntKind.i64 b.fn, PV.own 3 (List.map rndV (q.set i (q.getD i default)))]).box [(0, 4)] = true) an)) (S_end (V_region (S_a [(1, .v (PV.int IntKind.i64 (↑(i + 1) : Int)))] (ap ((wrapE (by omega) (by omega)) : PV.int IntKind.i64 (IntKind.i64.wrap ((↑i : Int) + 1)) = PV.int IntKind.i64 (↑(i + 1) : Int)) an) (S_go 1 (S_end ?_)))))))))))))))))))))))) (fun k0 => (V_exit 0 (V_seq (V_region (S_go 1 (S_a [(4, .yes)] (ap ((by exact beq_of (by simp <;> omega)) : (Nat.beq 0 0 && (List.map rndV q).length.beq (List.map rndV q).length) = true) an) (S_end (V_ret (E_a [(7, .yes), (1, .v (PV.own 3 (List.map rndV q)))] (ap ((by exact ble_of (by simp only [List.length_map, List.length_set, List.length_append, List.length_cons, List.length_nil, limit] <;> omega)) : (0 + (List.map rndV q).length).ble (List.map rndV q).length = true) (ap ((by simp [take_mapL]) : PV.own 3 (List.take (List.map rndV q).length (List.drop 0 (List.map rndV q))) = PV.own 3 (List.map rndV q)) an)) (PV.agg [PV.int IntKind.i64 b.cr, PV.int IntKind.i64 b.wd, PV.int IntKind.i64 b.st, PV.int IntKind.i64 b.fn, PV.own 3 (List.map rndV q)]) ([]) (by simp [*]) rfl))))))))))))))
  · exact ⟨(i + 1, q.set i (q.getD i default)), ⟨by omega, by rw [set_same (by omega), hq]⟩, by simp only; omega, by kernel_rfl, by kernel_rfl⟩
theorem f31 (b : Dk) (hb : b.rs.length ≤ 12) (hb2 : ∀ r ∈ b.rs, r.may.length ≤ 10) : FG 31 [boxV b] (.agg [I b.cr, I b.wd, I b.st, I b.fn, .own 3 (b.rs.map rndO)]) := by
  refine gives_ofX Try.f31 ?_
  refine V_seq (V_region (S_go 2 (S_end (V_seq (V_region (S_go 11 (S_end (V_seq (V_seq (V_region (S_go 2 (S_a [(0, .n (b.rs.length))] (ap ((by simp) : some (List.map rndV b.rs).length = some b.rs.length) an) (S_go 1 (S_end (V_block 0 ?_)))))))))))))))
  refine V_loopS (fun (i, q) => i ≤ b.rs.length ∧ q = b.rs.take i) (fun (i, q) => [(3, .box (.agg [I b.cr, I b.wd, I b.st, I b.fn, .own 3 (q.map rndO)])), (18, I (i : Nat))]) (fun (i, _) => b.rs.length - i) ((0 : Nat), ([] : List Rnd)) ⟨Nat.zero_le _, rfl⟩ fun (i, q) ⟨hi, hq⟩ => ?_
  have hm : i < b.rs.length → (b.rs.getD i default).may.length ≤ 10 := fun h => hb2 _ (by rw [getD_lt h]; exact List.getElem_mem _)
  have hql : q.length ≤ 12 := by rw [hq]; simp; omega
  refine V_seq (V_region (S_go 1 (S_end (V_seq (V_dec ((↑i : Int) < (↑b.rs.length : Int)) (fun k0 => (V_skip (V_seq (V_block 1 (V_seq (V_region (S_a [(2, .v (PV.agg [PV.int IntKind.i64 (b.rs.getD i default).w, PV.int IntKind.i64 (b.rs.getD i default).s, PV.sl (List.map I (b.rs.getD i default).may)]))] (ap (getm (default) (by omega) : (List.map rndV b.rs)[i]? = some (PV.agg [PV.int IntKind.i64 (b.rs.getD i default).w, PV.int IntKind.i64 (b.rs.getD i default).s, PV.sl (List.map I (b.rs.getD i default).may)])) an) (S_go 3 (S_end (V_region (S_go 1 (S_a [(1, .v (PV.bor 3 [(0, 4)] 3 0 q.length))] (ap ((by simp) : PV.bor 3 [(0, 4)] 3 0 (List.map rndO q).length = PV.bor 3 [(0, 4)] 3 0 q.length) an) (S_go 6 (S_a [(6, .ret (PV.own 1 (List.map I (b.rs.getD i default).may)) ([]))] (ap (f17 ((b.rs.getD i default).may) (by omega)) an) (S_go 2 (S_a [(4, .ob), (0, .ob), (0, .ob), (2, .v (PV.own 3 (List.map rndO (q ++ [b.rs.getD i default]))))] (ap ((by exact ble_of (by simp only [List.length_map, List.length_set, List.length_append, List.length_cons, List.length_nil, limit] <;> omega)) : (0 + q.length).ble (List.map rndO q).length = true) (ap ((by exact ble_of (by simp only [List.length_map, List.length_set, List.length_append, List.length_cons, List.length_nil, limit] <;> omega)) : ((List.map rndO q).length + [PV.agg [PV.int IntKind.i64 (b.rs.getD i default).w, PV.int IntKind.i64 (b.rs.getD i default).s, PV.own 1 (List.map I (b.rs.getD i default).may)]].length).ble limit = true) (ap ((by exact beq_of (by simp <;> omega)) : (0 + q.length).beq (List.map rndO q).length = true) (ap ((by simp) : PV.own 3 (List.map rndO q ++ [PV.agg [PV.int IntKind.i64 (b.rs.getD i default).w, PV.int IntKind.i64 (b.rs.getD i default).s, PV.own 1 (List.map I (b.rs.getD i default).may)]]) = PV.own 3 (List.map rndO (q ++ [b.rs.getD i default]))) an)))) (S_go 2 (S_end (V_region (S_a [(1, .v (PV.int IntKind.i64 (↑(i + 1) : Int)))] (ap ((wrapE (by omega) (by omega)) : PV.int IntKind.i64 (IntKind.i64.wrap ((↑i : Int) + 1)) = PV.int IntKind.i64 (↑(i + 1) : Int)) an) (S_go 1 (S_end ?_)))))))))))))))))))))) (fun k0 => (V_exit 0 (V_seq (V_region (S_go 1 (S_a [(4, .yes)] (ap ((by exact beq_of (by simp <;> omega)) : (Nat.beq 0 0 && (List.map rndO q).length.beq (List.map rndO q).length) = true) an) (S_end (V_ret (E_a [(7, .yes), (1, .v (PV.own 3 (List.map rndO q)))] (ap ((by exact ble_of (by simp only [List.length_map, List.length_set, List.length_append, List.length_cons, List.length_nil, limit] <;> omega)) : (0 + (List.map rndO q).length).ble (List.map rndO q).length = true) (ap ((by simp [take_mapL]) : PV.own 3 (List.take (List.map rndO q).length (List.drop 0 (List.map rndO q))) = PV.own 3 (List.map rndO q)) an)) (PV.agg [PV.int IntKind.i64 b.cr, PV.int IntKind.i64 b.wd, PV.int IntKind.i64 b.st, PV.int IntKind.i64 b.fn, PV.own 3 (List.map rndO q)]) ([]) ?_ rfl))))))))))))))
  · exact ⟨(i + 1, q ++ [b.rs.getD i default]), ⟨by omega, by rw [hq, List.take_add_one, List.getElem?_eq_getElem (by omega), getD_lt (by omega)]; rfl⟩, by simp only; omega, by kernel_rfl, by kernel_rfl⟩
  · rw [hq, List.take_of_length_le (by omega)]
theorem f38 (a b : Dk) (hb : a.rs.length ≤ 12) (hb2 : ∀ r ∈ a.rs, r.may.length ≤ 10) (hab : a = b) : FG 38 [boxV a, boxV b] (.bool true) := by
  subst hab
  refine gives_ofX Try.f38 ?_
  refine V_seq (V_region (S_go 3 (S_end (V_seq (V_seq (V_region (S_go 6 (S_ndecF 12 (a.cr = a.cr) (by omega) (S_go 7 (S_ndecF 19 (a.wd = a.wd) (by omega) (S_go 7 (S_ndecF 26 (a.st = a.st) (by omega) (S_go 7 (S_ndecF 33 (a.fn = a.fn) (by omega) (S_go 2 (S_a [(0, .n (a.rs.length))] (ap ((by simp) : some (List.map rndV a.rs).length = some a.rs.length) an) (S_go 2 (S_a [(0, .n (a.rs.length))] (ap ((by simp) : some (List.map rndV a.rs).length = some a.rs.length) an) (S_go 2 (S_end (V_ndecF ((↑a.rs.length : Int) = (↑a.rs.length : Int)) (by omega) (V_skip (V_seq (V_seq (V_region (S_go 2 (S_a [(0, .n (a.rs.length))] (ap ((by simp) : some (List.map rndV a.rs).length = some a.rs.length) an) (S_go 1 (S_end (V_block 0 ?_))))))))))))))))))))))))))))))
  refine V_loopS (fun i => i ≤ a.rs.length) (fun i => [(45, I (i : Nat))]) (fun i => a.rs.length - i) (0 : Nat) (Nat.zero_le _) fun i hi => ?_
  have hm : i < a.rs.length → (a.rs.getD i default).may.length ≤ 10 := fun h => hb2 _ (by rw [getD_lt h]; exact List.getElem_mem _)
  refine V_seq (V_region (S_go 1 (S_end (V_seq (V_dec ((↑i : Int) < (↑a.rs.length : Int)) (fun k0 => (V_skip (V_seq (V_block 1 (V_seq (V_region (S_go 1 (S_a [(2, .v (PV.agg [PV.int IntKind.i64 (a.rs.getD i default).w, PV.int IntKind.i64 (a.rs.getD i default).s, PV.sl (List.map I (a.rs.getD i default).may)]))] (ap (getm (default) (by omega) : (List.map rndV a.rs)[i]? = some (PV.agg [PV.int IntKind.i64 (a.rs.getD i default).w, PV.int IntKind.i64 (a.rs.getD i default).s, PV.sl (List.map I (a.rs.getD i default).may)])) an) (S_go 4 (S_end (V_seq (V_region (S_go 5 (S_a [(2, .v (PV.agg [PV.int IntKind.i64 (a.rs.getD i default).w, PV.int IntKind.i64 (a.rs.getD i default).s, PV.sl (List.map I (a.rs.getD i default).may)]))] (ap (getm (default) (by omega) : (List.map rndV a.rs)[i]? = some (PV.agg [PV.int IntKind.i64 (a.rs.getD i default).w, PV.int IntKind.i64 (a.rs.getD i default).s, PV.sl (List.map I (a.rs.getD i default).may)])) an) (S_go 4 (S_ndecF 59 ((a.rs.getD i default).w = (a.rs.getD i default).w) (by omega) (S_go 5 (S_a [(2, .v (PV.agg [PV.int IntKind.i64 (a.rs.getD i default).w, PV.int IntKind.i64 (a.rs.getD i default).s, PV.sl (List.map I (a.rs.getD i default).may)]))] (ap (getm (default) (by omega) : (List.map rndV a.rs)[i]? = some (PV.agg [PV.int IntKind.i64 (a.rs.getD i default).w, PV.int IntKind.i64 (a.rs.getD i default).s, PV.sl (List.map I (a.rs.getD i default).may)])) an) (S_go 5 (S_ndecF 70 ((a.rs.getD i default).s = (a.rs.getD i default).s) (by omega) (S_go 5 (S_a [(2, .v (PV.agg [PV.int IntKind.i64 (a.rs.getD i default).w, PV.int IntKind.i64 (a.rs.getD i default).s, PV.sl (List.map I (a.rs.getD i default).may)]))] (ap (getm (default) (by omega) : (List.map rndV a.rs)[i]? = some (PV.agg [PV.int IntKind.i64 (a.rs.getD i default).w, PV.int IntKind.i64 (a.rs.getD i default).s, PV.sl (List.map I (a.rs.getD i default).may)])) an) (S_go 2 (S_a [(8, .ret (PV.bool (decide ((a.rs.getD i default).may = (a.rs.getD i default).may))) ([]))] (ap (f20 ((a.rs.getD i default).may) ((a.rs.getD i default).may) (by omega)) an) (S_go 2 (S_end (V_ndecF ((a.rs.getD i default).may = (a.rs.getD i default).may) (by (simp; done)) (V_skip (V_region (S_a [(1, .v (PV.int IntKind.i64 (↑(i + 1) : Int)))] (ap ((wrapE (by omega) (by omega)) : PV.int IntKind.i64 (IntKind.i64.wrap ((↑i : Int) + 1)) = PV.int IntKind.i64 (↑(i + 1) : Int)) an) (S_go 1 (S_end ?_)))))))))))))))))))))))))))))))) (fun k0 => (V_exit 0 (V_seq (V_region (S_go 1 (S_end (V_ret (E_a [] an (PV.bool true) ([]) rfl rfl)))))))))))))
  · exact ⟨i + 1, by omega, by omega, by kernel_rfl, by kernel_rfl⟩
end
end Go.Eng
namespace Go.Eng
open Go Go.Proofs
abbrev u8 (n : Int) : PV := .int .u8 n
abbrev u32 (n : Int) : PV := .int .u32 n
abbrev bellV (l : List Int) (a : Nat) (t : Int) : PV := .box (.agg [.sl (l.map u8), I a, u32 t])
abbrev bellW : PV := .addr 50000000 [] 0 0 (some 3)
def BellOk (l : List Int) (a : Nat) : Prop := a ≤ l.length ∧ l.length < 9223372036854775808
def ringA0 (l : List Int) (a : Nat) : Nat := if a = l.length then 0 else a
def ringT (l : List Int) (a : Nat) (t : Int) : Int := if a = l.length then IntKind.u32.wrap (t + 1) else t
def ringA (l : List Int) (a : Nat) : Nat := if 0 < l.length then ringA0 l a + 1 else ringA0 l a
def bellN (n : Int) : Int := IntKind.u32.wrap ↑(BitVec.ofInt IntKind.u32.bits (IntKind.u32.wrap ↑(BitVec.ofInt IntKind.u32.bits n ^^^ BitVec.ofInt IntKind.u32.bits (n.fdiv (2 ^ min (Int.toNat 7) IntKind.u32.bits))).toNat) &&& BitVec.ofInt IntKind.u32.bits 65535).toNat
def ringN (l : List Int) (a : Nat) (t : Int) : Int := bellN (if 0 < l.length then IntKind.u32.wrap (IntKind.u32.wrap (30011 * ringT l a t) + IntKind.u32.wrap (263 * IntKind.u32.wrap (l.getD (ringA0 l a) 0))) else IntKind.u32.wrap (30011 * ringT l a t))
def strokeN (l : List Int) (a : Nat) (t : Int) (n : Int) : Int := (ringN l a t).tmod (max 1 (n + 1))
section
variable [Yo]
end
end Go.Eng
set_option maxRecDepth 10000
set_option maxHeartbeats 4000000
namespace Go.Eng
open Go Go.Proofs
theorem incr_len {l : List Int} {n : Int} (h : incr l = true) (hx : ∀ x ∈ l, 0 ≤ x ∧ x ≤ n - 1) (hn : 1 ≤ n ∧ n ≤ 4) : l.length ≤ 4 := by
  have : ∀ j, j < l.length → (j : Int) ≤ l.getD j 0 := by
    intro j
    induction j with
    | zero => intro hj; exact (getD_all hx 0 hj).1
    | succ j ih =>
      intro hj
      have h1 := ih (by omega)
      have h2 := incr_get h hj
      omega
  rcases Nat.lt_or_ge 4 l.length with h4 | h4
  · have h1 := this 4 h4
    have h2 := getD_all hx 4 h4
    omega
  · exact h4
abbrev boxO (b : Dk) : PV := .agg [I b.cr, I b.wd, I b.st, I b.fn, .own 3 (b.rs.map rndO)]
structure RndOk (cr : Int) (r : Rnd) : Prop where
  w : 1 ≤ r.w ∧ r.w ≤ 9
  s : 1 ≤ r.s ∧ r.s ≤ 5
  n : r.may.length ≠ 0
  may : ∀ x ∈ r.may, 0 ≤ x ∧ x ≤ cr - 1
  inc : incr r.may = true
section
variable [Yo]
end
end Go.Eng
set_option maxRecDepth 10000
set_option maxHeartbeats 4000000
namespace Go.Eng
open Go Go.Proofs
def costL (b : Dk) (l : List Int) : List Int := l.map fun r => (feesOf b).getD r.toNat 0
theorem costL_app {b : Dk} {l : List Int} {i : Nat} (h : i < l.length) : costL b (l.take (i + 1)) = costL b (l.take i) ++ [(feesOf b).getD (l.getD i 0).toNat 0] := by
  rw [List.take_add_one, List.getElem?_eq_getElem h, getD_lt h]; simp only [costL, List.map_append, Option.toList, List.map_cons, List.map_nil]
theorem costL_bd {b : Dk} (hg : Good b) {l : List Int} : ∀ x ∈ costL b l, 0 ≤ x ∧ x ≤ 1000 := fun x hx => by
  obtain ⟨r, _, rfl⟩ := List.mem_map.1 hx
  exact feesOf_bd hg _
theorem costL_len {b : Dk} {l : List Int} : (costL b l).length = l.length := by simp [costL]
theorem costs_bd {b : Dk} (hg : Good b) {l : List Int} : 0 ≤ costs b l ∧ costs b l ≤ 1000 * l.length := by
  have h1 := sum_nn fun x hx => (costL_bd hg (l := l) x hx).1
  have h2 := sum_bd (B := 1000) (l := costL b l) fun x hx => by have := costL_bd hg (l := l) x hx; omega
  rw [costL_len] at h2
  exact ⟨h1, h2.2⟩
theorem man_next {b : Dk} {l : List Int} {i c : Nat} (h : i < l.length) : manB b (l.take (i + 1)) c = (manB b (l.take i) c || has (rnd b (l.getD i 0).toNat).may (c : Int)) := by
  rw [List.take_add_one, List.getElem?_eq_getElem h, getD_lt h]; simp only [manB, List.any_append, Option.toList, List.any_cons, List.any_nil, Bool.or_false]
theorem has_next {l : List Int} {j : Nat} {v : Int} (h : j < l.length) : has (l.take (j + 1)) v = (has (l.take j) v || decide (v = l.getD j 0)) := by
  rw [List.take_add_one, List.getElem?_eq_getElem h, getD_lt h]; simp only [has, List.any_append, Option.toList, List.any_cons, List.any_nil, Bool.or_false]
theorem getD_setB {l : List Bool} {i j : Nat} {v : Bool} : (l.set i v).getD j false = if i = j ∧ j < l.length then v else l.getD j false := by
  simp only [List.getD_eq_getElem?_getD, List.getElem?_set]
  by_cases h : i = j
  · subst h
    by_cases h2 : i < l.length
    · simp [h2]
    · simp [h2]
  · simp [h]
theorem four_ofB {l : List Bool} (h : l.length = 4) : ∃ a b c d, l = [a, b, c, d] := by
  match l, h with
  | [a, b, c, d], _ => exact ⟨a, b, c, d, rfl⟩
def menK (b : Dk) (l : List Int) (k : Nat) : Nat := ((List.range k).filter (manB b l)).length
theorem menK_succ {b : Dk} {l : List Int} {k : Nat} : menK b l (k + 1) = menK b l k + (if manB b l k then 1 else 0) := by
  simp only [menK, List.range_succ, List.filter_append, List.length_append, List.filter_cons, List.filter_nil]
  split <;> rfl
theorem menK_le {b : Dk} {l : List Int} {k : Nat} : menK b l k ≤ k := by
  have := List.length_filter_le (manB b l) (List.range k)
  simpa [menK] using this
theorem man_cr {b : Dk} (hg : Good b) {l : List Int} (hr : ∀ x ∈ l, 0 ≤ x ∧ x ≤ (b.rs.length : Int) - 1) {c : Nat} (hc : b.cr ≤ c) : manB b l c = false := by
  simp only [manB, List.any_eq_false, Bool.not_eq_true]
  intro r hr'
  have h1 := hr r hr'
  have h2 := (good_may hg (i := r.toNat) (by omega)).2.1
  simp only [has, List.any_eq_false, decide_eq_true_eq]
  intro x hx he
  have := h2 x hx
  omega
theorem menK_cr {b : Dk} (hg : Good b) {l : List Int} (hr : ∀ x ∈ l, 0 ≤ x ∧ x ≤ (b.rs.length : Int) - 1) : menN b l = menK b l b.cr.toNat := by
  have hcr := hg.cr
  have key : ∀ k, menK b l (b.cr.toNat + k) = menK b l b.cr.toNat := by
    intro k
    induction k with
    | zero => rfl
    | succ k ih => rw [← Nat.add_assoc, menK_succ, ih, man_cr hg hr (by omega)]; rfl
  have := key (4 - b.cr.toNat)
  rw [show b.cr.toNat + (4 - b.cr.toNat) = 4 by omega] at this
  exact this
theorem tdiv_bd {s n : Int} (h0 : 0 ≤ s) (hn : 1 ≤ n) : 0 ≤ s.tdiv n ∧ s.tdiv n ≤ s := by
  rw [Int.tdiv_eq_ediv_of_nonneg h0]
  exact ⟨Int.ediv_nonneg h0 (by omega), Int.ediv_le_self _ h0⟩
section
variable [Yo]
theorem f119 (b : Dk) (l : List Int) (hg : Good b) (hl : l.length ≤ 12) (hr : ∀ x ∈ l, 0 ≤ x ∧ x ≤ (b.rs.length : Int) - 1) : FG 119 [.ref (deskV b (feesOf b)), ints l] (I (bndS b l)) := by
  refine gives_ofX Try.f119 ?_
  have hfl : (feesOf b).length = b.rs.length := feesOf_len
  have hcr := hg.cr
  refine V_seq (V_region (S_go 1 (S_end (V_seq (V_region (S_go 1 (S_end (V_seq (V_region (S_go 1 (S_end (V_seq (V_seq (V_region (S_go 1 (S_a [(0, .n (l.length))] (ap ((by simp) : some (List.map I l).length = some l.length) an) (S_go 1 (S_end (V_block 0 ?_)))))))))))))))))))
  refine V_loopS (fun (i, a, M) => i ≤ l.length ∧ a = costL b (l.take i) ∧ M.length = 4 ∧ ∀ c, c < 4 → M.getD c false = manB b (l.take i) c) (fun (i, a, M) => [(5, .own 1 (a.map I)), (6, .box (.agg (M.map PV.bool))), (16, I (i : Nat))]) (fun (i, _, _) => l.length - i) ((0 : Nat), ([] : List Int), [false, false, false, false]) ⟨Nat.zero_le _, rfl, rfl, fun c hc => by match c, hc with | 0, _ | 1, _ | 2, _ | 3, _ => rfl⟩ fun (i, a, M) ⟨hi, ha, hM, hm⟩ => ?_
  have hal : a.length = i := by rw [ha, costL_len, List.length_take]; omega
  by_cases hil : i < l.length
  · have hx := getD_all hr i hil
    have hmay := good_may hg (i := (l.getD i 0).toNat) (by omega)
    have hml := incr_len hmay.2.2 hmay.2.1 hcr
    refine V_seq (V_region (S_go 1 (S_end (V_seq (V_decT ((↑i : Int) < (↑l.length : Int)) (by omega) (V_skip (V_seq (V_block 1 (V_seq (V_region (S_a [(2, .v (PV.int IntKind.i64 (l.getD i 0)))] (ap (getm (0) (by omega) : (List.map I l)[i]? = some (PV.int IntKind.i64 (l.getD i 0))) an) (S_go 2 (S_end (V_seq (V_region (S_go 6 (S_a [(0, .ob), (1, .v (PV.int IntKind.i64 ((feesOf b).getD (l.getD i 0).toNat 0)))] (ap ((by exact dec_of (by omega)) : decide (0 ≤ l.getD i 0) = true) (ap (getm (0) (by omega) : (List.map I (feesOf b))[(l.getD i 0).toNat]? = some (PV.int IntKind.i64 ((feesOf b).getD (l.getD i 0).toNat 0))) an)) (S_go 2 (S_a [(4, .ob), (0, .ob), (0, .ob), (2, .v (PV.own 1 (List.map I (a ++ [(feesOf b).getD (l.getD i 0).toNat 0]))))] (ap ((by exact ble_of (by simp only [List.length_map, List.length_set, List.length_append, List.length_cons, List.length_nil, limit] <;> omega)) : (0 + (List.map I a).length).ble (List.map I a).length = true) (ap ((by exact ble_of (by simp only [List.length_map, List.length_set, List.length_append, List.length_cons, List.length_nil, limit] <;> omega)) : ((List.map I a).length + [PV.int IntKind.i64 ((feesOf b).getD (l.getD i 0).toNat 0)].length).ble limit = true) (ap ((by exact beq_of (by simp <;> omega)) : (0 + (List.map I a).length).beq (List.map I a).length = true) (ap ((by simp) : PV.own 1 (List.map I a ++ [PV.int IntKind.i64 ((feesOf b).getD (l.getD i 0).toNat 0)]) = PV.own 1 (List.map I (a ++ [(feesOf b).getD (l.getD i 0).toNat 0]))) an)))) (S_go 1 (S_end (V_seq (V_region (S_go 6 (S_a [(0, .ob), (1, .v (PV.agg [PV.int IntKind.i64 (b.rs.getD (l.getD i 0).toNat default).w, PV.int IntKind.i64 (b.rs.getD (l.getD i 0).toNat default).s, PV.sl (List.map I (b.rs.getD (l.getD i 0).toNat default).may)]))] (ap ((by exact dec_of (by omega)) : decide (0 ≤ l.getD i 0) = true) (ap (getm (default) (by omega) : (List.map rndV b.rs)[(l.getD i 0).toNat]? = some (PV.agg [PV.int IntKind.i64 (b.rs.getD (l.getD i 0).toNat default).w, PV.int IntKind.i64 (b.rs.getD (l.getD i 0).toNat default).s, PV.sl (List.map I (b.rs.getD (l.getD i 0).toNat default).may)])) an)) (S_go 2 (S_a [(0, .n ((b.rs.getD (l.getD i 0).toNat default).may.length))] (ap ((by simp) : some (List.map I (b.rs.getD (l.getD i 0).toNat default).may).length = some (b.rs.getD (l.getD i 0).toNat default).may.length) an) (S_go 1 (S_end (V_block 2 ?_))))))))))))))))))))))))))))))
    refine V_loopS (fun (j, N) => j ≤ (b.rs.getD (l.getD i 0).toNat default).may.length ∧ N.length = 4 ∧ ∀ c, c < 4 → N.getD c false = (manB b (l.take i) c || has ((b.rs.getD (l.getD i 0).toNat default).may.take j) (c : Int))) (fun (j, N) => [(6, .box (.agg (N.map PV.bool))), (40, I (j : Nat))]) (fun (j, _) => (b.rs.getD (l.getD i 0).toNat default).may.length - j) ((0 : Nat), M) ⟨Nat.zero_le _, hM, fun c hc => by rw [hm c hc]; simp [has]⟩ (hs := by exact Eq.trans (by kernel_rfl : _ = ([(0, (PV.agg [PV.int IntKind.i64 b.cr, PV.int IntKind.i64 b.wd, PV.int IntKind.i64 b.st, PV.int IntKind.i64 b.fn, PV.sl (List.map rndV b.rs), PV.sl (List.map I (feesOf b))]).ref), (1, PV.sl (List.map I l)), (5, PV.own 1 (List.map I (a ++ [(feesOf b).getD (l.getD i 0).toNat 0]))), (6, (PV.agg (mapWs (lose 5 []) (mapWs (lose 29 []) (mapWs (lose 28 []) (List.map PV.bool M))))).box), (14, PV.sl (List.map I l)), (15, PV.int IntKind.i64 (↑l.length : Int)), (16, PV.int IntKind.i64 (↑i : Int)), (17, PV.bool (decide ((↑i : Int) < (↑l.length : Int)))), (30, (PV.agg [PV.int IntKind.i64 b.cr, PV.int IntKind.i64 b.wd, PV.int IntKind.i64 b.st, PV.int IntKind.i64 b.fn, PV.sl (List.map rndV b.rs), PV.sl (List.map I (feesOf b))]).ref), (31, (PV.agg [PV.int IntKind.i64 b.cr, PV.int IntKind.i64 b.wd, PV.int IntKind.i64 b.st, PV.int IntKind.i64 b.fn, PV.sl (List.map rndV b.rs), PV.sl (List.map I (feesOf b))]).ref), (32, (PV.agg [PV.int IntKind.i64 b.cr, PV.int IntKind.i64 b.wd, PV.int IntKind.i64 b.st, PV.int IntKind.i64 b.fn, PV.sl (List.map rndV b.rs)]).ref), (33, (PV.sl (List.map rndV b.rs)).ref), (34, PV.sl (List.map rndV b.rs)), (35, PV.int IntKind.i64 (l.getD i 0)), (36, (PV.agg [PV.int IntKind.i64 (b.rs.getD (l.getD i 0).toNat default).w, PV.int IntKind.i64 (b.rs.getD (l.getD i 0).toNat default).s, PV.sl (List.map I (b.rs.getD (l.getD i 0).toNat default).may)]).ref), (37, (PV.sl (List.map I (b.rs.getD (l.getD i 0).toNat default).may)).ref), (38, PV.sl (List.map I (b.rs.getD (l.getD i 0).toNat default).may)), (39, PV.int IntKind.i64 (↑(b.rs.getD (l.getD i 0).toNat default).may.length : Int)), (40, PV.int IntKind.i64 0)])) (Eq.trans (by simp only [mapWs_I, mapWs_B] : _ = ([(0, (PV.agg [PV.int IntKind.i64 b.cr, PV.int IntKind.i64 b.wd, PV.int IntKind.i64 b.st, PV.int IntKind.i64 b.fn, PV.sl (List.map rndV b.rs), PV.sl (List.map I (feesOf b))]).ref), (1, PV.sl (List.map I l)), (5, PV.own 1 (List.map I (a ++ [(feesOf b).getD (l.getD i 0).toNat 0]))), (6, (PV.agg (List.map PV.bool M)).box), (14, PV.sl (List.map I l)), (15, PV.int IntKind.i64 (↑l.length : Int)), (16, PV.int IntKind.i64 (↑i : Int)), (17, PV.bool (decide ((↑i : Int) < (↑l.length : Int)))), (30, (PV.agg [PV.int IntKind.i64 b.cr, PV.int IntKind.i64 b.wd, PV.int IntKind.i64 b.st, PV.int IntKind.i64 b.fn, PV.sl (List.map rndV b.rs), PV.sl (List.map I (feesOf b))]).ref), (31, (PV.agg [PV.int IntKind.i64 b.cr, PV.int IntKind.i64 b.wd, PV.int IntKind.i64 b.st, PV.int IntKind.i64 b.fn, PV.sl (List.map rndV b.rs), PV.sl (List.map I (feesOf b))]).ref), (32, (PV.agg [PV.int IntKind.i64 b.cr, PV.int IntKind.i64 b.wd, PV.int IntKind.i64 b.st, PV.int IntKind.i64 b.fn, PV.sl (List.map rndV b.rs)]).ref), (33, (PV.sl (List.map rndV b.rs)).ref), (34, PV.sl (List.map rndV b.rs)), (35, PV.int IntKind.i64 (l.getD i 0)), (36, (PV.agg [PV.int IntKind.i64 (b.rs.getD (l.getD i 0).toNat default).w, PV.int IntKind.i64 (b.rs.getD (l.getD i 0).toNat default).s, PV.sl (List.map I (b.rs.getD (l.getD i 0).toNat default).may)]).ref), (37, (PV.sl (List.map I (b.rs.getD (l.getD i 0).toNat default).may)).ref), (38, PV.sl (List.map I (b.rs.getD (l.getD i 0).toNat default).may)), (39, PV.int IntKind.i64 (↑(b.rs.getD (l.getD i 0).toNat default).may.length : Int)), (40, PV.int IntKind.i64 (↑0 : Int))])) (by kernel_rfl))) fun (j, N) ⟨hj, hN, hn⟩ => ?_
    by_cases hjl : j < (b.rs.getD (l.getD i 0).toNat default).may.length
    · have hc := getD_all hmay.2.1 j hjl
      refine V_seq (V_region (S_go 1 (S_end (V_seq (V_decT ((↑j : Int) < (↑(b.rs.getD (l.getD i 0).toNat default).may.length : Int)) (by omega) (V_skip (V_seq (V_block 3 (V_seq (V_region (S_a [(2, .v (PV.int IntKind.i64 ((b.rs.getD (l.getD i 0).toNat default).may.getD j 0)))] (ap (getm (0) (by omega) : (List.map I (b.rs.getD (l.getD i 0).toNat default).may)[j]? = some (PV.int IntKind.i64 ((b.rs.getD (l.getD i 0).toNat default).may.getD j 0))) an) (S_go 2 (S_end (V_region (S_go 1 (S_a [(0, .ob), (1, .ob)] (ap ((by exact dec_of (by omega)) : decide (0 ≤ (b.rs.getD (l.getD i 0).toNat default).may.getD j 0) = true) (ap ((by exact dec_of (by omega)) : decide (((b.rs.getD (l.getD i 0).toNat default).may.getD j 0).toNat < 4) = true) an)) (S_a [(7, .root ((PV.agg (List.map PV.bool (N.set ((b.rs.getD (l.getD i 0).toNat default).may.getD j 0).toNat true))).box) true)] (ap (wa_box (c := ((b.rs.getD (l.getD i 0).toNat default).may.getD j 0).toNat) (by first | rfl | exact off_c1 (by kernel_rfl) | exact off_c2 (by kernel_rfl) | (simp; done)) (by omega) : writeAt (PV.agg (List.map PV.bool N)).box [] 0 (0 + ((b.rs.getD (l.getD i 0).toNat default).may.getD j 0).toNat * (fun x => x.size) Try.prog.types[4]) (PV.bool true).cells = some (PV.agg (List.map PV.bool (N.set ((b.rs.getD (l.getD i 0).toNat default).may.getD j 0).toNat true))).box ∧ keptView (PV.agg (List.map PV.bool N)).box (PV.agg (List.map PV.bool (N.set ((b.rs.getD (l.getD i 0).toNat default).may.getD j 0).toNat true))).box [] = true) an) (S_end (V_region (S_a [(1, .v (PV.int IntKind.i64 (↑(j + 1) : Int)))] (ap ((wrapE (by omega) (by omega)) : PV.int IntKind.i64 (IntKind.i64.wrap ((↑j : Int) + 1)) = PV.int IntKind.i64 (↑(j + 1) : Int)) an) (S_go 1 (S_end ?_))))))))))))))))))))))
      refine ⟨(j + 1, N.set ((b.rs.getD (l.getD i 0).toNat default).may.getD j 0).toNat true), ⟨by omega, by simpa using hN, fun c hc' => ?_⟩, by simp only; omega, by kernel_rfl, by kernel_rfl⟩
      rw [getD_setB, has_next hjl]
      by_cases e : ((b.rs.getD (l.getD i 0).toNat default).may.getD j 0).toNat = c
      · rw [if_pos ⟨e, by omega⟩, decide_eq_true (by omega : (c : Int) = _)]; simp
      · rw [if_neg (fun h => e h.1), hn c hc', decide_eq_false (by omega : ¬ (c : Int) = _)]; simp
    · refine V_seq (V_region (S_go 1 (S_end (V_seq (V_decF ((↑j : Int) < (↑(b.rs.getD (l.getD i 0).toNat default).may.length : Int)) (by omega) (V_exit 2 (V_region (S_a [(1, .v (PV.int IntKind.i64 (↑(i + 1) : Int)))] (ap ((wrapE (by omega) (by omega)) : PV.int IntKind.i64 (IntKind.i64.wrap ((↑i : Int) + 1)) = PV.int IntKind.i64 (↑(i + 1) : Int)) an) (S_go 1 (S_end ?_))))))))))
      refine ⟨(i + 1, a ++ [(feesOf b).getD (l.getD i 0).toNat 0], N), ⟨by omega, by rw [costL_app hil, ha], hN, fun c hc => ?_⟩, by simp only; omega, by kernel_rfl, by kernel_rfl⟩
      rw [man_next hil, hn c hc, List.take_of_length_le (show (b.rs.getD (l.getD i 0).toNat default).may.length ≤ j by omega)]; rfl
  · rw [List.take_of_length_le (by omega)] at ha hm
    have hsum := costs_bd hg (l := l)
    have hab : ∀ x ∈ a, -1000000000000 ≤ x ∧ x ≤ 1000000000000 := fun x hx => by rw [ha] at hx; have := costL_bd hg x hx; omega
    have hs : a.sum = costs b l := by rw [ha]; rfl
    obtain ⟨m0, m1, m2, m3, rfl⟩ := four_ofB hM
    have e0 : m0 = manB b l 0 := hm 0 (by omega)
    have e1 : m1 = manB b l 1 := hm 1 (by omega)
    have e2 : m2 = manB b l 2 := hm 2 (by omega)
    have e3 : m3 = manB b l 3 := hm 3 (by omega)
    clear hm hM
    refine V_seq (V_region (S_go 1 (S_end (V_seq (V_decF ((↑i : Int) < (↑l.length : Int)) (by omega) (V_exit 0 (V_seq (V_region (S_go 1 (S_end (V_seq (V_seq (V_region (S_go 2 (S_end (V_block 4 ?_))))))))))))))))
    refine V_loopS (fun (k, n) => k ≤ 4 ∧ n = menK b l k) (fun (k, n) => [(11, I (n : Nat)), (49, I (k : Nat))]) (fun (k, _) => 4 - k) ((0 : Nat), (0 : Nat)) ⟨by omega, rfl⟩ fun (k, n) ⟨hk, hn⟩ => ?_
    have hn4 : n ≤ 4 := by rw [hn]; have := menK_le (b := b) (l := l) (k := k); omega
    obtain rfl | rfl | rfl | rfl | rfl : k = 0 ∨ k = 1 ∨ k = 2 ∨ k = 3 ∨ k = 4 := by omega
    · cases hc : m0
      · subst hc
        refine V_seq (V_region (S_go 1 (S_end (V_seq (V_true (V_skip (V_seq (V_block 5 (V_seq (V_region (S_go 2 (S_end (V_seq (V_region (S_go 1 (S_end (V_false (V_skip (V_region (S_go 2 (S_end ?_)))))))))))))))))))))
        exact ⟨(1, n), ⟨by omega, by rw [menK_succ, ← e0, hn]; rfl⟩, by simp only; omega, by kernel_rfl, by kernel_rfl⟩
      · subst hc
        refine V_seq (V_region (S_go 1 (S_end (V_seq (V_true (V_skip (V_seq (V_block 5 (V_seq (V_region (S_go 2 (S_end (V_seq (V_region (S_go 1 (S_end (V_true (V_region (S_go 1 (S_a [(1, .v (PV.int IntKind.i64 (↑(n + 1) : Int)))] (ap ((wrapE (by omega) (by omega)) : PV.int IntKind.i64 (IntKind.i64.wrap ((↑n : Int) + 1)) = PV.int IntKind.i64 (↑(n + 1) : Int)) an) (S_go 1 (S_end (V_region (S_go 2 (S_end ?_)))))))))))))))))))))))))
        exact ⟨(1, n + 1), ⟨by omega, by rw [menK_succ, ← e0, hn]; rfl⟩, by simp only; omega, by kernel_rfl, by kernel_rfl⟩
    · cases hc : m1
      · subst hc
        refine V_seq (V_region (S_go 1 (S_end (V_seq (V_true (V_skip (V_seq (V_block 5 (V_seq (V_region (S_go 2 (S_end (V_seq (V_region (S_go 1 (S_end (V_false (V_skip (V_region (S_go 2 (S_end ?_)))))))))))))))))))))
        exact ⟨(2, n), ⟨by omega, by rw [menK_succ, ← e1, hn]; rfl⟩, by simp only; omega, by kernel_rfl, by kernel_rfl⟩
      · subst hc
        refine V_seq (V_region (S_go 1 (S_end (V_seq (V_true (V_skip (V_seq (V_block 5 (V_seq (V_region (S_go 2 (S_end (V_seq (V_region (S_go 1 (S_end (V_true (V_region (S_go 1 (S_a [(1, .v (PV.int IntKind.i64 (↑(n + 1) : Int)))] (ap ((wrapE (by omega) (by omega)) : PV.int IntKind.i64 (IntKind.i64.wrap ((↑n : Int) + 1)) = PV.int IntKind.i64 (↑(n + 1) : Int)) an) (S_go 1 (S_end (V_region (S_go 2 (S_end ?_)))))))))))))))))))))))))
        exact ⟨(2, n + 1), ⟨by omega, by rw [menK_succ, ← e1, hn]; rfl⟩, by simp only; omega, by kernel_rfl, by kernel_rfl⟩
    · cases hc : m2
      · subst hc
        refine V_seq (V_region (S_go 1 (S_end (V_seq (V_true (V_skip (V_seq (V_block 5 (V_seq (V_region (S_go 2 (S_end (V_seq (V_region (S_go 1 (S_end (V_false (V_skip (V_region (S_go 2 (S_end ?_)))))))))))))))))))))
        exact ⟨(3, n), ⟨by omega, by rw [menK_succ, ← e2, hn]; rfl⟩, by simp only; omega, by kernel_rfl, by kernel_rfl⟩
      · subst hc
        refine V_seq (V_region (S_go 1 (S_end (V_seq (V_true (V_skip (V_seq (V_block 5 (V_seq (V_region (S_go 2 (S_end (V_seq (V_region (S_go 1 (S_end (V_true (V_region (S_go 1 (S_a [(1, .v (PV.int IntKind.i64 (↑(n + 1) : Int)))] (ap ((wrapE (by omega) (by omega)) : PV.int IntKind.i64 (IntKind.i64.wrap ((↑n : Int) + 1)) = PV.int IntKind.i64 (↑(n + 1) : Int)) an) (S_go 1 (S_end (V_region (S_go 2 (S_end ?_)))))))))))))))))))))))))
        exact ⟨(3, n + 1), ⟨by omega, by rw [menK_succ, ← e2, hn]; rfl⟩, by simp only; omega, by kernel_rfl, by kernel_rfl⟩
    · cases hc : m3
      · subst hc
        refine V_seq (V_region (S_go 1 (S_end (V_seq (V_true (V_skip (V_seq (V_block 5 (V_seq (V_region (S_go 2 (S_end (V_seq (V_region (S_go 1 (S_end (V_false (V_skip (V_region (S_go 2 (S_end ?_)))))))))))))))))))))
        exact ⟨(4, n), ⟨by omega, by rw [menK_succ, ← e3, hn]; rfl⟩, by simp only; omega, by kernel_rfl, by kernel_rfl⟩
      · subst hc
        refine V_seq (V_region (S_go 1 (S_end (V_seq (V_true (V_skip (V_seq (V_block 5 (V_seq (V_region (S_go 2 (S_end (V_seq (V_region (S_go 1 (S_end (V_true (V_region (S_go 1 (S_a [(1, .v (PV.int IntKind.i64 (↑(n + 1) : Int)))] (ap ((wrapE (by omega) (by omega)) : PV.int IntKind.i64 (IntKind.i64.wrap ((↑n : Int) + 1)) = PV.int IntKind.i64 (↑(n + 1) : Int)) an) (S_go 1 (S_end (V_region (S_go 2 (S_end ?_)))))))))))))))))))))))))
        exact ⟨(4, n + 1), ⟨by omega, by rw [menK_succ, ← e3, hn]; rfl⟩, by simp only; omega, by kernel_rfl, by kernel_rfl⟩
    · have hn' : n = menN b l := hn
      by_cases hz : n = 0
      · refine V_seq (V_region (S_go 1 (S_end (V_seq (V_false (V_exit 4 (V_seq (V_seq (V_region (S_go 2 (S_end (V_decT ((↑n : Int) = 0) (by omega) (V_seq (V_region (S_go 1 (S_end (V_ret (E_a [] an (PV.int IntKind.i64 0) ([]) ?_ rfl))))))))))))))))))
        have e : bndS b l = 0 := by unfold bndS; rw [if_pos (by omega)]
        rw [e]
      · have hq := tdiv_bd (s := a.sum + (n : Nat) - 1) (n := (n : Nat)) (by omega) (by omega)
        refine V_seq (V_region (S_go 1 (S_end (V_seq (V_false (V_exit 4 (V_seq (V_seq (V_region (S_go 2 (S_end (V_decF ((↑n : Int) = 0) (by omega) (V_skip (V_seq (V_region (S_go 1 (S_a [(3, .ob), (0, .v (PV.sl (List.map I a))), (2, .ret (I a.sum) ([]))] (ap ((by exact ble_of (by simp only [List.length_map, List.length_set, List.length_append, List.length_cons, List.length_nil, limit] <;> omega)) : (0 + (List.map I a).length).ble (List.map I a).length = true) (ap ((sl_ext (freezes_all (freezes_mapH _))) : PV.sl (freezes (List.take (List.map I a).length (List.drop 0 (List.map I a)))) = PV.sl (List.map I a)) (ap (f81a (a) (by omega) (by omega)) an))) (S_go 1 (S_a [(1, .v (PV.int IntKind.i64 (a.sum + (↑n : Int))))] (ap ((wrapE rfl (by omega)) : PV.int IntKind.i64 (IntKind.i64.wrap (a.sum + (↑n : Int))) = PV.int IntKind.i64 (a.sum + (↑n : Int))) an) (S_a [(1, .v (PV.int IntKind.i64 (a.sum + (↑n : Int) - 1)))] (ap ((wrapE rfl (by omega)) : PV.int IntKind.i64 (IntKind.i64.wrap (a.sum + (↑n : Int) - 1)) = PV.int IntKind.i64 (a.sum + (↑n : Int) - 1)) an) (S_go 1 (S_a [(0, .v (PV.int IntKind.i64 ((a.sum + (↑n : Int) - 1).tdiv (↑n : Int))))] (ap (bv_quo (by omega) rfl (by omega) : binV Try.prog BinOp.quo 3 (PV.int IntKind.i64 (a.sum + (↑n : Int) - 1)) (PV.int IntKind.i64 (↑n : Int)) = some (PV.int IntKind.i64 ((a.sum + (↑n : Int) - 1).tdiv (↑n : Int)))) an) (S_go 1 (S_end (V_ret (E_a [] an (PV.int IntKind.i64 ((a.sum + (↑n : Int) - 1).tdiv (↑n : Int))) ([]) ?_ rfl))))))))))))))))))))))))))
        have e : bndS b l = (a.sum + (n : Nat) - 1).tdiv (n : Nat) := by unfold bndS; rw [if_neg (by omega), hs, hn']
        rw [e]
def dupL (l : List Int) : Bool := (List.range l.length).any fun i => has (l.take i) (l.getD i 0)
def bndErr (b : Dk) (l : List Int) : Int := if boxErr b = 0 then if !l.all (fun x => decide (0 ≤ x) && decide (x ≤ (b.rs.length : Int) - 1)) then 1 else if dupL l then 5 else 0 else boxErr b
def bndV (b : Dk) (l : List Int) : Int := if bndErr b l = 0 then bndS b l else 0
omit [Yo] in
theorem dup_f {l : List Int} (h : ∀ i, i < l.length → has (l.take i) (l.getD i 0) = false) : dupL l = false := by
  simp only [dupL, List.any_eq_false, List.mem_range, Bool.not_eq_true]; exact h
omit [Yo] in
theorem dup_t {l : List Int} {i : Nat} (hi : i < l.length) (h : has (l.take i) (l.getD i 0) = true) : dupL l = true := by
  simp only [dupL, List.any_eq_true, List.mem_range]; exact ⟨i, hi, h⟩
theorem f126_5 (b : Dk) (hb : b.rs.length < 4294967296) (x : Int) : FG 126 [I x, .ref (.func 116 [.ref (deskV b (feesOf b))] [])] (.bool (!(decide (0 ≤ x) && decide (x ≤ (b.rs.length : Int) - 1)))) := by
  refine gives_ofX Try.f126 ?_
  refine V_seq (V_region (S_go 1 (S_end (V_seq (V_region (S_go 2 (S_a [(7, .ret (PV.bool (decide (0 ≤ x) && decide (x ≤ (↑b.rs.length : Int) - 1))) ([]))] (ap (f116 (b) (feesOf b) (x) (by omega)) an) (S_go 2 (S_end (V_ret (E_a [] an (PV.bool !(decide (0 ≤ x) && decide (x ≤ (↑b.rs.length : Int) - 1))) ([]) rfl rfl)))))))))))
theorem f118_5n (b : Dk) (hb : b.rs.length < 4294967296) (l : List Int) (hl : l.length < 4294967296) : FG 118 [ints l, .func 126 [] [.ref (.func 116 [.ref (deskV b (feesOf b))] [])]] (I (idxF (fun x => !(decide (0 ≤ x) && decide (x ≤ (b.rs.length : Int) - 1))) l)) := by
  refine gives_ofX Try.f118 ?_
  refine V_seq (V_region (S_go 1 (S_end (V_seq (V_seq (V_region (S_go 1 (S_a [(0, .n (l.length))] (ap ((by simp) : some (List.map I l).length = some l.length) an) (S_go 1 (S_end (V_block 0 ?_)))))))))))
  refine V_loopS (fun i => i ≤ l.length ∧ ∀ j, j < i → (fun x => !(decide (0 ≤ x) && decide (x ≤ (b.rs.length : Int) - 1))) (l.getD j 0) = false) (fun i => [(8, I (i : Nat))]) (fun i => l.length - i) (0 : Nat) (by simp) fun i ⟨hi, ha⟩ => ?_
  refine V_seq (V_region (S_go 1 (S_end (V_seq (V_dec ((↑i : Int) < (↑l.length : Int)) (fun k0 => (V_skip (V_seq (V_block 1 (V_seq (V_region (S_go 2 (S_end (V_seq (V_region (S_go 3 (S_a [(2, .v (PV.int IntKind.i64 (l.getD i 0)))] (ap (getm (0) (by omega) : (List.map I l)[i]? = some (PV.int IntKind.i64 (l.getD i 0))) an) (S_go 1 (S_a [(7, .ret (PV.bool !(decide (0 ≤ l.getD i 0) && decide (l.getD i 0 ≤ (↑b.rs.length : Int) - 1))) ([]))] (ap (f126_5 (b) (by omega) (l.getD i 0)) an) (S_end (V_if (!(decide (0 ≤ l.getD i 0) && decide (l.getD i 0 ≤ (↑b.rs.length : Int) - 1))) (fun k1 => (V_seq (V_region (S_go 2 (S_end (V_ret (E_a [] an (PV.int IntKind.i64 (↑i : Int)) ([]) ?_ rfl))))))) (fun k1 => (V_skip (V_region (S_a [(1, .v (PV.int IntKind.i64 (↑(i + 1) : Int)))] (ap ((wrapE (by omega) (by omega)) : PV.int IntKind.i64 (IntKind.i64.wrap ((↑i : Int) + 1)) = PV.int IntKind.i64 (↑(i + 1) : Int)) an) (S_go 1 (S_end ?_)))))))))))))))))))))) (fun k0 => (V_exit 0 (V_seq (V_region (S_go 1 (S_end (V_ret (E_a [] an (PV.int IntKind.i64 (-1)) ([]) ?_ rfl)))))))))))))
  · rw [idxF_found (i := i) (by omega) (fun j hj => by rw [← getD_lt (d := 0)]; exact ha j hj) (by rw [← getD_lt (d := 0)]; assumption)]
  · refine ⟨i + 1, ⟨by omega, fun j hj => ?_⟩, by omega, by kernel_rfl, by kernel_rfl⟩
    rcases Nat.lt_succ_iff_lt_or_eq.1 hj with h | rfl
    · exact ha j h
    · assumption
  · rw [idxF_none fun j hj => by rw [← getD_lt (d := 0)]; exact ha j (by omega)]
theorem f65_5n (b : Dk) (hb : b.rs.length < 4294967296) (l : List Int) (hl : l.length < 4294967296) : FG 65 [ints l, .func 126 [] [.ref (.func 116 [.ref (deskV b (feesOf b))] [])]] (.bool (l.any (fun x => !(decide (0 ≤ x) && decide (x ≤ (b.rs.length : Int) - 1))))) := by
  refine gives_ofX Try.f65 ?_
  refine V_seq (V_region (S_go 1 (S_end (V_seq (V_region (S_go 2 (S_a [(6, .ret (I (idxF (fun x => !(decide (0 ≤ x) && decide (x ≤ (↑b.rs.length : Int) - 1))) l)) ([]))] (ap (f118_5n (b) (by omega) (l) (by omega)) an) (S_go 2 (S_end (V_ret (E_a [] an (PV.bool (decide (idxF (fun x => !(decide (0 ≤ x) && decide (x ≤ (↑b.rs.length : Int) - 1))) l ≥ 0))) ([]) ?_ rfl)))))))))))
  rw [idxF_ge]
theorem f79_5 (b : Dk) (hb : b.rs.length < 4294967296) (l : List Int) (hl : l.length < 4294967296) : FG 79 [ints l, .func 116 [.ref (deskV b (feesOf b))] []] (.bool (l.all (fun x => decide (0 ≤ x) && decide (x ≤ (b.rs.length : Int) - 1)))) := by
  refine gives_ofX Try.f79 ?_
  refine V_seq (V_region (S_go 2 (S_end (V_seq (V_region (S_go 2 (S_a [(12, .ret (PV.bool (l.any fun x => !(decide (0 ≤ x) && decide (x ≤ (↑b.rs.length : Int) - 1)))) ([]))] (ap (f65_5n (b) (by omega) (l) (by omega)) an) (S_go 2 (S_end (V_ret (E_a [] an (PV.bool !l.any fun x => !(decide (0 ≤ x) && decide (x ≤ (↑b.rs.length : Int) - 1))) ([]) ?_ rfl)))))))))))
  simp [List.not_any_eq_all_not]
theorem f69 (b : Dk) (l : List Int) (hb : Small b) (hl : l.length ≤ 12) : FG 69 [boxV b, ints l] (.tup [I (bndV b l), I (bndErr b l)]) := by
  by_cases h : boxErr b = 0
  · have hg := box_good h
    have hbl := hg.len
    refine gives_ofX Try.f69 ?_
    refine V_seq (V_region (S_go 3 (S_end (V_seq (V_region (S_go 1 (S_a [(6, .ret (PV.tup [(deskV b (feesOf b)).ref, I 0]) ([]))] (ap (f101_1 (b) (by omega) (by omega)) an) (S_go 5 (S_end (V_seq (V_block 0 (V_seq (V_region (S_go 3 (S_end (V_false (V_seq (V_region (S_go 3 (S_a [(7, .ret (PV.bool (l.all fun x => decide (0 ≤ x) && decide (x ≤ (↑b.rs.length : Int) - 1))) ([]))] (ap (f79_5 (b) (by first | omega | (simp <;> omega)) (l) (by omega)) an) (S_go 2 (S_end (V_if (!l.all fun x => decide (0 ≤ x) && decide (x ≤ (↑b.rs.length : Int) - 1)) (fun k0 => (V_seq (V_region (S_go 2 (S_end (V_ret (E_a [] an (PV.tup [PV.int IntKind.i64 0, PV.int IntKind.i64 1]) ([]) ?_ rfl))))))) (fun k0 => (V_skip (V_seq (V_seq (V_region (S_go 1 (S_a [(0, .n (l.length))] (ap ((by simp) : some (List.map I l).length = some l.length) an) (S_go 1 (S_end (V_block 1 ?_)))))))))))))))))))))))))))))))))
    · have e : bndErr b l = 1 := by simp only [bndErr, h, k0, if_true]
      simp only [bndV, e]; rfl
    have hr := all_in k0
    refine V_loopS (fun i => i ≤ l.length ∧ ∀ j, j < i → has (l.take j) (l.getD j 0) = false) (fun i => [(27, I (i : Nat))]) (fun i => l.length - i) (0 : Nat) ⟨Nat.zero_le _, fun j hj => absurd hj (Nat.not_lt_zero _)⟩ fun i ⟨hi, ha⟩ => ?_
    by_cases hil : i < l.length
    · refine V_seq (V_region (S_go 1 (S_end (V_seq (V_decT ((↑i : Int) < (↑l.length : Int)) (by omega) (V_skip (V_seq (V_block 2 (V_seq (V_region (S_go 1 (S_a [(2, .v (PV.int IntKind.i64 (l.getD i 0)))] (ap (getm (0) (by omega) : (List.map I l)[i]? = some (PV.int IntKind.i64 (l.getD i 0))) an) (S_go 3 (S_end (V_seq (V_region (S_go 2 (S_a [(3, .ob), (0, .ob), (0, .v (PV.sl (List.map I (List.take i l))))] (ap ((by exact ble_of (by simp only [List.length_map, List.length_set, List.length_append, List.length_cons, List.length_nil, limit] <;> omega)) : i.ble (List.map I l).length = true) (ap ((by exact all_map _) : ((List.map I l).all fun x => x.cells.length.beq ((fun x => x.size) Try.prog.types[3])) = true) (ap ((by simp) : PV.sl (List.take i (List.drop 0 (List.map I l))) = PV.sl (List.map I (List.take i l))) an))) (S_go 1 (S_a [(8, .ret (PV.bool (has (List.take i l) (l.getD i 0))) ([]))] (ap (f87 (List.take i l) (l.getD i 0) (by first | omega | (simp <;> omega))) an) (S_end (V_if (has (List.take i l) (l.getD i 0)) (fun k1 => (V_seq (V_region (S_go 2 (S_end (V_ret (E_a [] an (PV.tup [PV.int IntKind.i64 0, PV.int IntKind.i64 5]) ([]) ?_ rfl))))))) (fun k1 => (V_skip (V_region (S_a [(1, .v (PV.int IntKind.i64 (↑(i + 1) : Int)))] (ap ((wrapE (by omega) (by omega)) : PV.int IntKind.i64 (IntKind.i64.wrap ((↑i : Int) + 1)) = PV.int IntKind.i64 (↑(i + 1) : Int)) an) (S_go 1 (S_end ?_))))))))))))))))))))))))))))
      · have e : bndErr b l = 5 := by simp only [bndErr, h, k0, if_true, dup_t hil k1]; rfl
        simp only [bndV, e]; rfl
      · refine ⟨i + 1, ⟨by omega, fun j hj => ?_⟩, by omega, by kernel_rfl, by kernel_rfl⟩
        rcases Nat.lt_succ_iff_lt_or_eq.1 hj with h | rfl
        · exact ha j h
        · assumption
    · refine V_seq (V_region (S_go 1 (S_end (V_seq (V_decF ((↑i : Int) < (↑l.length : Int)) (by omega) (V_exit 1 (V_seq (V_region (S_go 2 (S_a [(7, .ret (I (bndS b l)) ([]))] (ap (f119 (b) (l) (by omega) (by omega) (by omega)) an) (S_go 2 (S_end (V_ret (E_a [] an (PV.tup [PV.int IntKind.i64 (bndS b l), PV.int IntKind.i64 0]) ([]) ?_ rfl))))))))))))))
      have e : bndErr b l = 0 := by simp only [bndErr, h, k0, if_true, dup_f fun j hj => ha j (by omega)]; rfl
      simp only [bndV, e, if_true]
  · refine gives_ofX Try.f69 ?_
    have e : bndErr b l = boxErr b := by simp only [bndErr, h, if_false]
    refine V_seq (V_region (S_go 3 (S_end (V_seq (V_region (S_go 1 (S_a [(6, .ret (PV.tup [PV.nilp, I (boxErr b)]) ([]))] (ap (f101_2 (b) (by omega) (by omega)) an) (S_go 5 (S_end (V_seq (V_block 0 (V_seq (V_region (S_go 3 (S_end (V_ndecT (boxErr b = 0) (by omega) (V_seq (V_region (S_go 3 (S_end (V_ret (E_a [] an (PV.tup [PV.int IntKind.i64 0, PV.int IntKind.i64 (boxErr b)]) ([]) ?_ rfl))))))))))))))))))))))
    simp only [bndV, e, h, if_false]
end
end Go.Eng
set_option maxRecDepth 10000
set_option maxHeartbeats 4000000
namespace Go.Eng
open Go Go.Proofs
def cmpI (x y : Int) : Int := if x < y then -1 else if x > y then 1 else 0
def cmpL : List Int → List Int → Int
  | [], [] => 0
  | [], _ :: _ => -1
  | _ :: _, [] => 1
  | x :: xs, y :: ys => if cmpI x y = 0 then cmpL xs ys else cmpI x y
theorem cmpL_lt : ∀ {l m : List Int}, cmpL l m < 0 ↔ ltL l m = true
  | [], [] => by simp [cmpL, ltL]
  | [], _ :: _ => by simp [cmpL, ltL]
  | _ :: _, [] => by simp [cmpL, ltL]
  | x :: xs, y :: ys => by
    have ih := cmpL_lt (l := xs) (m := ys)
    simp only [cmpL, ltL, Bool.or_eq_true, Bool.and_eq_true, decide_eq_true_eq, ← ih]
    by_cases h : x < y
    · have e : cmpI x y = -1 := by simp [cmpI, h]
      simp only [e]; simp [h]
    · by_cases h2 : x > y
      · have e : cmpI x y = 1 := by simp [cmpI, h, h2]
        simp only [e]; simp [h]; omega
      · have e : cmpI x y = 0 := by simp [cmpI, h, h2]
        obtain rfl : x = y := by omega
        simp only [e]; simp
theorem cmpL_drop {l m : List Int} {i : Nat} (h1 : i < l.length) (h2 : i < m.length) : cmpL (l.drop i) (m.drop i) = if cmpI (l.getD i 0) (m.getD i 0) = 0 then cmpL (l.drop (i + 1)) (m.drop (i + 1)) else cmpI (l.getD i 0) (m.getD i 0) := by
  rw [List.drop_eq_getElem_cons h1, List.drop_eq_getElem_cons h2, getD_lt h1, getD_lt h2]; rfl
section
variable [Yo]
theorem f141 (n : Int) : FG 141 [I n] (.bool false) := by
  refine gives_ofX Try.f141 ?_
  refine V_seq (V_region (S_go 1 (S_end (V_seq (V_region (S_go 4 (S_end (V_ret (E_a [] an (PV.bool (n != n)) ([]) (by simp [*]) rfl)))))))))
  try simp
theorem f140 (x y : Int) : FG 140 [I x, I y] (I (cmpI x y)) := by
  refine gives_ofX Try.f140 ?_
  refine V_seq (V_region (S_go 1 (S_end (V_seq (V_region (S_go 1 (S_a [(6, .ret (PV.bool false) ([]))] (ap (f141 (x)) an) (S_go 1 (S_end (V_seq (V_region (S_go 1 (S_a [(6, .ret (PV.bool false) ([]))] (ap (f141 (y)) an) (S_go 1 (S_end (V_seq (V_seq (V_region (S_go 1 (S_end (V_false (V_skip (V_seq (V_seq (V_region (S_go 1 (S_end (V_false (V_skip (V_seq (V_seq (V_region (S_go 3 (S_end (V_dec (x < y) (fun k0 => (V_seq (V_region (S_go 1 (S_end (V_ret (E_a [] an (PV.int IntKind.i64 (-1)) ([]) ?_ rfl))))))) (fun k0 => (V_skip (V_seq (V_seq (V_region (S_go 3 (S_end (V_dec (x > y) (fun k1 => (V_seq (V_region (S_go 1 (S_end (V_ret (E_a [] an (PV.int IntKind.i64 1) ([]) ?_ rfl))))))) (fun k1 => (V_skip (V_seq (V_region (S_go 1 (S_end (V_ret (E_a [] an (PV.int IntKind.i64 0) ([]) ?_ rfl)))))))))))))))))))))))))))))))))))))))))))))))))))
  · rw [cmpI, if_pos (by assumption)]
  · rw [cmpI, if_neg (by omega), if_pos (by omega)]
  · rw [cmpI, if_neg (by omega), if_neg (by omega)]
theorem f121 (l m : List Int) (hl : l.length < 4294967296) (hm : m.length < 4294967296) : FG 121 [ints l, ints m] (I (cmpL l m)) := by
  refine gives_ofX Try.f121 ?_
  refine V_seq (V_region (S_go 1 (S_end (V_seq (V_seq (V_region (S_go 1 (S_a [(0, .n (l.length))] (ap ((by simp) : some (List.map I l).length = some l.length) an) (S_go 1 (S_end (V_block 0 ?_)))))))))))
  refine V_loopS (fun i => i ≤ l.length ∧ i ≤ m.length ∧ cmpL l m = cmpL (l.drop i) (m.drop i)) (fun i => [(11, I (i : Nat))]) (fun i => l.length - i) (0 : Nat) ⟨Nat.zero_le _, Nat.zero_le _, rfl⟩ fun i ⟨hi, him, ha⟩ => ?_
  by_cases hil : i < l.length
  · by_cases hml : i < m.length
    · have hd := cmpL_drop hil hml
      by_cases hz : cmpI (l.getD i 0) (m.getD i 0) = 0
      · rw [if_pos hz] at hd
        refine V_seq (V_region (S_go 1 (S_end (V_seq (V_decT ((↑i : Int) < (↑l.length : Int)) (by omega) (V_skip (V_seq (V_block 1 (V_seq (V_region (S_go 1 (S_a [(2, .v (PV.int IntKind.i64 (l.getD i 0)))] (ap (getm (0) (by omega) : (List.map I l)[i]? = some (PV.int IntKind.i64 (l.getD i 0))) an) (S_go 3 (S_end (V_seq (V_seq (V_region (S_go 2 (S_a [(0, .n (m.length))] (ap ((by simp) : some (List.map I m).length = some m.length) an) (S_go 1 (S_end (V_decF ((↑i : Int) ≥ (↑m.length : Int)) (by omega) (V_skip (V_seq (V_region (S_go 2 (S_a [(2, .v (PV.int IntKind.i64 (m.getD i 0)))] (ap (getm (0) (by omega) : (List.map I m)[i]? = some (PV.int IntKind.i64 (m.getD i 0))) an) (S_go 2 (S_end (V_seq (V_region (S_go 2 (S_a [(8, .ret (I (cmpI (l.getD i 0) (m.getD i 0))) ([]))] (ap (f140 (l.getD i 0) (m.getD i 0)) an) (S_go 1 (S_end (V_seq (V_region (S_go 2 (S_end (V_ndecF (cmpI (l.getD i 0) (m.getD i 0) = 0) (by omega) (V_skip (V_region (S_a [(1, .v (PV.int IntKind.i64 (↑(i + 1) : Int)))] (ap ((wrapE (by omega) (by omega)) : PV.int IntKind.i64 (IntKind.i64.wrap ((↑i : Int) + 1)) = PV.int IntKind.i64 (↑(i + 1) : Int)) an) (S_go 1 (S_end ?_)))))))))))))))))))))))))))))))))))))))))))))
        exact ⟨i + 1, ⟨by omega, by omega, by rw [ha, hd]⟩, by omega, by kernel_rfl, by kernel_rfl⟩
      · rw [if_neg hz] at hd
        refine V_seq (V_region (S_go 1 (S_end (V_seq (V_decT ((↑i : Int) < (↑l.length : Int)) (by omega) (V_skip (V_seq (V_block 1 (V_seq (V_region (S_go 1 (S_a [(2, .v (PV.int IntKind.i64 (l.getD i 0)))] (ap (getm (0) (by omega) : (List.map I l)[i]? = some (PV.int IntKind.i64 (l.getD i 0))) an) (S_go 3 (S_end (V_seq (V_seq (V_region (S_go 2 (S_a [(0, .n (m.length))] (ap ((by simp) : some (List.map I m).length = some m.length) an) (S_go 1 (S_end (V_decF ((↑i : Int) ≥ (↑m.length : Int)) (by omega) (V_skip (V_seq (V_region (S_go 2 (S_a [(2, .v (PV.int IntKind.i64 (m.getD i 0)))] (ap (getm (0) (by omega) : (List.map I m)[i]? = some (PV.int IntKind.i64 (m.getD i 0))) an) (S_go 2 (S_end (V_seq (V_region (S_go 2 (S_a [(8, .ret (I (cmpI (l.getD i 0) (m.getD i 0))) ([]))] (ap (f140 (l.getD i 0) (m.getD i 0)) an) (S_go 1 (S_end (V_seq (V_region (S_go 2 (S_end (V_ndecT (cmpI (l.getD i 0) (m.getD i 0) = 0) (by omega) (V_seq (V_region (S_go 2 (S_end (V_ret (E_a [] an (PV.int IntKind.i64 (cmpI (l.getD i 0) (m.getD i 0))) ([]) (by simp [*]) rfl))))))))))))))))))))))))))))))))))))))))))))))
    · refine V_seq (V_region (S_go 1 (S_end (V_seq (V_decT ((↑i : Int) < (↑l.length : Int)) (by omega) (V_skip (V_seq (V_block 1 (V_seq (V_region (S_go 1 (S_a [(2, .v (PV.int IntKind.i64 (l.getD i 0)))] (ap (getm (0) (by omega) : (List.map I l)[i]? = some (PV.int IntKind.i64 (l.getD i 0))) an) (S_go 3 (S_end (V_seq (V_seq (V_region (S_go 2 (S_a [(0, .n (m.length))] (ap ((by simp) : some (List.map I m).length = some m.length) an) (S_go 1 (S_end (V_decT ((↑i : Int) ≥ (↑m.length : Int)) (by omega) (V_seq (V_region (S_go 1 (S_end (V_ret (E_a [] an (PV.int IntKind.i64 1) ([]) ?_ rfl))))))))))))))))))))))))))))
      rw [ha, List.drop_of_length_le (show m.length ≤ i by omega), List.drop_eq_getElem_cons hil]
      first | done | rfl
  · by_cases hml : i < m.length
    · refine V_seq (V_region (S_go 1 (S_end (V_seq (V_decF ((↑i : Int) < (↑l.length : Int)) (by omega) (V_exit 0 (V_seq (V_seq (V_region (S_go 1 (S_a [(0, .n (l.length))] (ap ((by simp) : some (List.map I l).length = some l.length) an) (S_go 1 (S_a [(0, .n (m.length))] (ap ((by simp) : some (List.map I m).length = some m.length) an) (S_go 1 (S_end (V_decT ((↑l.length : Int) < (↑m.length : Int)) (by omega) (V_seq (V_region (S_go 1 (S_end (V_ret (E_a [] an (PV.int IntKind.i64 (-1)) ([]) ?_ rfl))))))))))))))))))))))
      rw [ha, List.drop_of_length_le (show l.length ≤ i by omega), List.drop_eq_getElem_cons hml]; rfl
    · refine V_seq (V_region (S_go 1 (S_end (V_seq (V_decF ((↑i : Int) < (↑l.length : Int)) (by omega) (V_exit 0 (V_seq (V_seq (V_region (S_go 1 (S_a [(0, .n (l.length))] (ap ((by simp) : some (List.map I l).length = some l.length) an) (S_go 1 (S_a [(0, .n (m.length))] (ap ((by simp) : some (List.map I m).length = some m.length) an) (S_go 1 (S_end (V_decF ((↑l.length : Int) < (↑m.length : Int)) (by omega) (V_skip (V_seq (V_region (S_go 1 (S_end (V_ret (E_a [] an (PV.int IntKind.i64 0) ([]) ?_ rfl)))))))))))))))))))))))
      rw [ha, List.drop_of_length_le (show l.length ≤ i by omega), List.drop_of_length_le (show m.length ≤ i by omega)]; rfl
theorem f120 (b : Dk) (l : List Int) (hg : Good b) (hb : Small b) (hl : l.length ≤ 12) (hr : ∀ x ∈ l, 0 ≤ x ∧ x ≤ (b.rs.length : Int) - 1) : FG 120 [boxV b, ints l] (I (bndS b l)) := by
  refine gives_ofX Try.f120 ?_
  have hfl : (feesOf b).length = b.rs.length := feesOf_len
  have hcr := hg.cr
  have hbl := hg.len
  have hcb := costs_bd hg (l := l)
  have hmk := menK_cr hg hr
  have hm4 := menN_le b l
  refine V_seq (V_region (S_go 2 (S_end (V_seq (V_region (S_go 2 (S_end (V_seq (V_seq (V_region (S_go 1 (S_end (V_block 0 ?_)))))))))))))
  refine V_loopS (fun (i, s) => i ≤ l.length ∧ s = (costL b (l.take i)).sum) (fun (i, s) => [(5, I s), (7, I (i : Nat))]) (fun (i, _) => l.length - i) ((0 : Nat), (0 : Int)) ⟨Nat.zero_le _, rfl⟩ fun (i, s) ⟨hi, hs⟩ => ?_
  by_cases hil : i < l.length
  · have hx := getD_all hr i hil
    have h117 := f117 b (l.getD i 0).toNat (by omega) hg
    rw [Int.toNat_of_nonneg hx.1] at h117
    have hs2 := costs_bd hg (l := l.take i)
    have hs3 : s = costs b (l.take i) := hs
    rw [List.length_take] at hs2
    have hfb := feeOf_bd hg (rnd_num hg (i := (l.getD i 0).toNat) (by omega))
    have hfe : feeOf b (rnd b (l.getD i 0).toNat) = (feesOf b).getD (l.getD i 0).toNat 0 := (feesOf_at (by omega)).symm
    have hfb' : 0 ≤ feeOf b (rnd b (l.getD i 0).toNat) ∧ feeOf b (rnd b (l.getD i 0).toNat) ≤ 1000 := hfb
    rw [hfe] at h117 hfb'
    generalize hqe : (feesOf b).getD (l.getD i 0).toNat 0 = q at *
    refine V_seq (V_seq (V_region (S_go 2 (S_a [(0, .n (l.length))] (ap ((by simp) : some (List.map I l).length = some l.length) an) (S_go 1 (S_end (V_decT ((↑i : Int) < (↑l.length : Int)) (by omega) (V_skip (V_seq (V_block 1 (V_region (S_go 4 (S_a [(2, .v (PV.int IntKind.i64 (l.getD i 0)))] (ap (getm (0) (by omega) : (List.map I l)[i]? = some (PV.int IntKind.i64 (l.getD i 0))) an) (S_go 1 (S_a [(8, .ret (I q) ([]))] (ap (h117) an) (S_a [(1, .v (PV.int IntKind.i64 (s + q)))] (ap ((wrapE rfl (by omega)) : PV.int IntKind.i64 (IntKind.i64.wrap (s + q)) = PV.int IntKind.i64 (s + q)) an) (S_go 1 (S_end (V_region (S_go 1 (S_a [(1, .v (PV.int IntKind.i64 (↑(i + 1) : Int)))] (ap ((wrapE (by omega) (by omega)) : PV.int IntKind.i64 (IntKind.i64.wrap ((↑i : Int) + 1)) = PV.int IntKind.i64 (↑(i + 1) : Int)) an) (S_go 1 (S_end ?_)))))))))))))))))))))))
    refine ⟨(i + 1, s + q), ⟨by omega, ?_⟩, by simp only; omega, by kernel_rfl, by kernel_rfl⟩
    rw [costL_app hil, List.sum_append, hs, hqe]; simp only [List.sum_cons, List.sum_nil, Int.add_zero]
  · rw [List.take_of_length_le (by omega)] at hs
    have hs3 : s = costs b l := hs
    refine V_seq (V_seq (V_region (S_go 2 (S_a [(0, .n (l.length))] (ap ((by simp) : some (List.map I l).length = some l.length) an) (S_go 1 (S_end (V_decF ((↑i : Int) < (↑l.length : Int)) (by omega) (V_exit 0 (V_seq (V_seq (V_region (S_go 1 (S_end (V_block 2 ?_))))))))))))))
    refine V_loopS (fun (c, n) => (c : Int) ≤ b.cr ∧ n = menK b l c) (fun (c, n) => [(6, I (n : Nat)), (8, I (c : Nat))]) (fun (c, _) => b.cr.toNat - c) ((0 : Nat), (0 : Nat)) ⟨by omega, rfl⟩ fun (c, n) ⟨hc, hn⟩ => ?_
    have hnc : n ≤ c := by rw [hn]; exact menK_le
    by_cases hcc : (c : Int) < b.cr
    · refine V_seq (V_seq (V_region (S_go 4 (S_end (V_decT ((↑c : Int) < b.cr) (by omega) (V_skip (V_seq (V_block 3 (V_seq (V_region (S_go 1 (S_end (V_seq (V_seq (V_region (S_go 1 (S_end (V_block 4 ?_))))))))))))))))))
      refine V_loopS (fun (j, q) => j ≤ l.length ∧ q = manB b (l.take j) c) (fun (j, q) => [(9, .bool q), (10, I (j : Nat))]) (fun (j, _) => l.length - j) ((0 : Nat), false) ⟨Nat.zero_le _, rfl⟩ fun (j, q) ⟨hj, hq⟩ => ?_
      by_cases hjl : j < l.length
      · have hx := getD_all hr j hjl
        have h95 := f95 b (c : Int) (l.getD j 0).toNat (by omega) hb
        rw [Int.toNat_of_nonneg hx.1] at h95
        have hmn := man_next (b := b) (c := c) hjl
        rw [← hq] at hmn
        cases q with
        | true =>
          refine V_seq (V_seq (V_region (S_go 2 (S_a [(0, .n (l.length))] (ap ((by simp) : some (List.map I l).length = some l.length) an) (S_go 1 (S_end (V_decT ((↑j : Int) < (↑l.length : Int)) (by omega) (V_skip (V_seq (V_block 5 (V_region (S_go 11 (S_end (V_region (S_go 1 (S_a [(1, .v (PV.int IntKind.i64 (↑(j + 1) : Int)))] (ap ((wrapE (by omega) (by omega)) : PV.int IntKind.i64 (IntKind.i64.wrap ((↑j : Int) + 1)) = PV.int IntKind.i64 (↑(j + 1) : Int)) an) (S_go 1 (S_end ?_))))))))))))))))))
          exact ⟨(j + 1, true), ⟨by omega, by rw [hmn]; rfl⟩, by simp only; omega, by kernel_rfl, by kernel_rfl⟩
        | false =>
          refine V_seq (V_seq (V_region (S_go 2 (S_a [(0, .n (l.length))] (ap ((by simp) : some (List.map I l).length = some l.length) an) (S_go 1 (S_end (V_decT ((↑j : Int) < (↑l.length : Int)) (by omega) (V_skip (V_seq (V_block 5 (V_region (S_go 6 (S_a [(2, .v (PV.int IntKind.i64 (l.getD j 0)))] (ap (getm (0) (by omega) : (List.map I l)[j]? = some (PV.int IntKind.i64 (l.getD j 0))) an) (S_go 1 (S_a [(10, .ret (PV.bool (has (rnd b (l.getD j 0).toNat).may (↑c : Int))) ([]))] (ap (h95) an) (S_go 2 (S_end (V_region (S_go 1 (S_a [(1, .v (PV.int IntKind.i64 (↑(j + 1) : Int)))] (ap ((wrapE (by omega) (by omega)) : PV.int IntKind.i64 (IntKind.i64.wrap ((↑j : Int) + 1)) = PV.int IntKind.i64 (↑(j + 1) : Int)) an) (S_go 1 (S_end ?_))))))))))))))))))))))
          exact ⟨(j + 1, has (rnd b (l.getD j 0).toNat).may (c : Int)), ⟨by omega, by rw [hmn]; rfl⟩, by simp only; omega, by kernel_rfl, by kernel_rfl⟩
      · rw [List.take_of_length_le (by omega)] at hq
        have hms := menK_succ (b := b) (l := l) (k := c)
        rw [← hq] at hms
        cases q with
        | true =>
          refine V_seq (V_seq (V_region (S_go 2 (S_a [(0, .n (l.length))] (ap ((by simp) : some (List.map I l).length = some l.length) an) (S_go 1 (S_end (V_decF ((↑j : Int) < (↑l.length : Int)) (by omega) (V_exit 4 (V_seq (V_region (S_go 1 (S_end (V_true (V_region (S_go 1 (S_a [(1, .v (PV.int IntKind.i64 (↑(n + 1) : Int)))] (ap ((wrapE (by omega) (by omega)) : PV.int IntKind.i64 (IntKind.i64.wrap ((↑n : Int) + 1)) = PV.int IntKind.i64 (↑(n + 1) : Int)) an) (S_go 1 (S_end (V_region (S_go 1 (S_a [(1, .v (PV.int IntKind.i64 (↑(c + 1) : Int)))] (ap ((wrapE (by omega) (by omega)) : PV.int IntKind.i64 (IntKind.i64.wrap ((↑c : Int) + 1)) = PV.int IntKind.i64 (↑(c + 1) : Int)) an) (S_go 1 (S_end ?_)))))))))))))))))))))))
          exact ⟨(c + 1, n + 1), ⟨by omega, by rw [hms, hn]; rfl⟩, by simp only; omega, by kernel_rfl, by kernel_rfl⟩
        | false =>
          refine V_seq (V_seq (V_region (S_go 2 (S_a [(0, .n (l.length))] (ap ((by simp) : some (List.map I l).length = some l.length) an) (S_go 1 (S_end (V_decF ((↑j : Int) < (↑l.length : Int)) (by omega) (V_exit 4 (V_seq (V_region (S_go 1 (S_end (V_false (V_skip (V_region (S_go 1 (S_a [(1, .v (PV.int IntKind.i64 (↑(c + 1) : Int)))] (ap ((wrapE (by omega) (by omega)) : PV.int IntKind.i64 (IntKind.i64.wrap ((↑c : Int) + 1)) = PV.int IntKind.i64 (↑(c + 1) : Int)) an) (S_go 1 (S_end ?_)))))))))))))))))))
          exact ⟨(c + 1, n), ⟨by omega, by rw [hms, hn]; rfl⟩, by simp only; omega, by kernel_rfl, by kernel_rfl⟩
    · have hn2 : n = menN b l := by rw [hn, hmk, show c = b.cr.toNat by omega]
      refine V_seq (V_seq (V_region (S_go 4 (S_end (V_decF ((↑c : Int) < b.cr) (by omega) (V_exit 2 (V_seq (V_region (S_go 1 (S_end (V_seq (V_block 6 ?_))))))))))))
      obtain rfl | hz : n = 0 ∨ n ≠ 0 := by omega
      · refine V_loopS (fun i => i = 0) (fun i => [(11, I (i : Nat))]) (fun i => 0) (0 : Nat) rfl fun i hi => ?_
        subst hi
        refine V_seq (V_seq (V_region (S_go 9 (S_end (V_false (V_exit 6 (V_seq (V_region (S_go 2 (S_end (V_ret (E_a [] an (PV.int IntKind.i64 (↑0 : Int)) ([]) ?_ rfl))))))))))))
        have e : bndS b l = 0 := by unfold bndS; rw [if_pos (by omega)]
        rw [e]
      · refine V_loopS (fun (i : Nat) => (i : Int) ≤ s ∧ (i = 0 ∨ ((i : Int) - 1) * (n : Nat) < s)) (fun i => [(11, I (i : Nat))]) (fun i => s.toNat - i) (0 : Nat) ⟨by omega, .inl rfl⟩ fun i ⟨hi, hi2⟩ => ?_
        have hin : 0 ≤ (i : Int) * (n : Nat) ∧ (i : Int) * (n : Nat) ≤ 100000 := by
          obtain rfl | rfl | rfl | rfl : n = 1 ∨ n = 2 ∨ n = 3 ∨ n = 4 := by omega
          all_goals omega
        have hii : (i : Int) ≤ (i : Int) * (n : Nat) := by
          obtain rfl | rfl | rfl | rfl : n = 1 ∨ n = 2 ∨ n = 3 ∨ n = 4 := by omega
          all_goals omega
        by_cases hlt : (i : Int) * (n : Nat) < s
        · refine V_seq (V_seq (V_region (S_go 3 (S_decT 53 ((↑n : Int) > 0) (by omega) (S_go 2 (S_a [(1, .v (PV.int IntKind.i64 (↑(i * n) : Int)))] (ap ((wrapE (by omega) (by omega)) : PV.int IntKind.i64 (IntKind.i64.wrap ((↑i : Int) * (↑n : Int))) = PV.int IntKind.i64 (↑(i * n) : Int)) an) (S_go 3 (S_end (V_decT ((↑(i * n) : Int) < s) (by omega) (V_skip (V_block 7 (V_region (S_go 1 (S_a [(1, .v (PV.int IntKind.i64 (↑(i + 1) : Int)))] (ap ((wrapE (by omega) (by omega)) : PV.int IntKind.i64 (IntKind.i64.wrap ((↑i : Int) + 1)) = PV.int IntKind.i64 (↑(i + 1) : Int)) an) (S_go 1 (S_end ?_))))))))))))))))
          exact ⟨i + 1, ⟨by omega, .inr (by simpa using hlt)⟩, by omega, by kernel_rfl, by kernel_rfl⟩
        · refine V_seq (V_seq (V_region (S_go 3 (S_decT 53 ((↑n : Int) > 0) (by omega) (S_go 2 (S_a [(1, .v (PV.int IntKind.i64 (↑(i * n) : Int)))] (ap ((wrapE (by omega) (by omega)) : PV.int IntKind.i64 (IntKind.i64.wrap ((↑i : Int) * (↑n : Int))) = PV.int IntKind.i64 (↑(i * n) : Int)) an) (S_go 3 (S_end (V_decF ((↑(i * n) : Int) < s) (by omega) (V_exit 6 (V_seq (V_region (S_go 2 (S_end (V_ret (E_a [] an (PV.int IntKind.i64 (↑i : Int)) ([]) ?_ rfl))))))))))))))))
          have e : bndS b l = (i : Nat) := bnd_ceil (by omega) (by omega) (by omega) (by rw [← hs3, ← hn2]; exact hlt) (by rw [← hs3, ← hn2]; omega)
          rw [e]
theorem f70 (b : Dk) (l : List Int) (hb : Small b) (hl : l.length ≤ 12) : FG 70 [boxV b, ints l] (.tup [I (bndV b l), I (bndErr b l)]) := by
  by_cases h : boxErr b = 0
  · have hg := box_good h
    have hbl := hg.len
    refine gives_ofX Try.f70 ?_
    refine V_seq (V_region (S_go 3 (S_end (V_seq (V_seq (V_region (S_go 1 (S_a [(6, .ret (I (boxErr b)) ([]))] (ap (f59 (b) (by omega)) an) (S_go 1 (S_end (V_seq (V_region (S_go 2 (S_end (V_ndecF (boxErr b = 0) (by omega) (V_skip (V_seq (V_seq (V_region (S_go 1 (S_end (V_block 0 ?_))))))))))))))))))))))
    refine V_loopS (fun i => i ≤ l.length ∧ ∀ j, j < i → 0 ≤ l.getD j 0 ∧ l.getD j 0 ≤ (b.rs.length : Int) - 1) (fun i => [(7, I (i : Nat))]) (fun i => l.length - i) (0 : Nat) ⟨Nat.zero_le _, fun j hj => absurd hj (Nat.not_lt_zero _)⟩ fun i ⟨hi, ha⟩ => ?_
    by_cases hil : i < l.length
    · refine V_seq (V_seq (V_region (S_go 2 (S_a [(0, .n (l.length))] (ap ((by simp) : some (List.map I l).length = some l.length) an) (S_go 1 (S_end (V_decT ((↑i : Int) < (↑l.length : Int)) (by omega) (V_skip (V_seq (V_block 1 (V_seq (V_region (S_go 2 (S_a [(2, .v (PV.int IntKind.i64 (l.getD i 0)))] (ap (getm (0) (by omega) : (List.map I l)[i]? = some (PV.int IntKind.i64 (l.getD i 0))) an) (S_go 3 (S_a [(0, .n (b.rs.length))] (ap ((by simp) : some (List.map rndV b.rs).length = some b.rs.length) an) (S_a [(1, .v (PV.int IntKind.i64 ((↑b.rs.length : Int) - 1)))] (ap ((wrapE rfl (by omega)) : PV.int IntKind.i64 (IntKind.i64.wrap ((↑b.rs.length : Int) - 1)) = PV.int IntKind.i64 ((↑b.rs.length : Int) - 1)) an) (S_a [(10, .ret (PV.bool (decide (l.getD i 0 < 0) || decide ((↑b.rs.length : Int) - 1 < l.getD i 0))) ([]))] (ap (f84 (l.getD i 0) (0) ((↑b.rs.length : Int) - 1)) an) (S_end (V_if (decide (l.getD i 0 < 0) || decide ((↑b.rs.length : Int) - 1 < l.getD i 0)) (fun k0 => (V_seq (V_region (S_go 2 (S_end (V_ret (E_a [] an (PV.tup [PV.int IntKind.i64 0, PV.int IntKind.i64 1]) ([]) ?_ rfl))))))) (fun k0 => (V_skip (V_region (S_go 1 (S_a [(1, .v (PV.int IntKind.i64 (↑(i + 1) : Int)))] (ap ((wrapE (by omega) (by omega)) : PV.int IntKind.i64 (IntKind.i64.wrap ((↑i : Int) + 1)) = PV.int IntKind.i64 (↑(i + 1) : Int)) an) (S_go 1 (S_end ?_)))))))))))))))))))))))))))
      · have hx := off_t k0
        have e : bndErr b l = 1 := by
          have h1 : (!l.all (fun x => decide (0 ≤ x) && decide (x ≤ (b.rs.length : Int) - 1))) = true := by
            simp only [Bool.not_eq_true', List.all_eq_false]
            exact ⟨l.getD i 0, by rw [getD_lt hil]; exact List.getElem_mem _, by simp only [Bool.and_eq_true, decide_eq_true_eq]; omega⟩
          simp only [bndErr, h, h1, if_true]
        simp only [bndV, e]; rfl
      · have hx := off_f k0
        refine ⟨i + 1, ⟨by omega, fun j hj => ?_⟩, by omega, by kernel_rfl, by kernel_rfl⟩
        rcases Nat.lt_succ_iff_lt_or_eq.1 hj with h | rfl
        · exact ha j h
        · exact hx
    · have hr : ∀ x ∈ l, 0 ≤ x ∧ x ≤ (b.rs.length : Int) - 1 := fun x hx => by
        obtain ⟨j, hj, rfl⟩ := List.getElem_of_mem hx
        have := ha j (by omega); rwa [getD_lt hj] at this
      have h1 : (!l.all (fun x => decide (0 ≤ x) && decide (x ≤ (b.rs.length : Int) - 1))) = false := by
        simp only [Bool.not_eq_false', List.all_eq_true, Bool.and_eq_true, decide_eq_true_eq]; exact hr
      clear ha
      refine V_seq (V_seq (V_region (S_go 2 (S_a [(0, .n (l.length))] (ap ((by simp) : some (List.map I l).length = some l.length) an) (S_go 1 (S_end (V_decF ((↑i : Int) < (↑l.length : Int)) (by omega) (V_exit 0 (V_seq (V_seq (V_region (S_go 1 (S_end (V_block 2 ?_))))))))))))))
      refine V_loopS (fun i => i ≤ l.length ∧ ∀ j, j < i → has (l.take j) (l.getD j 0) = false) (fun i => [(8, I (i : Nat))]) (fun i => l.length - i) (0 : Nat) ⟨Nat.zero_le _, fun j hj => absurd hj (Nat.not_lt_zero _)⟩ fun i ⟨hi, ha⟩ => ?_
      by_cases hil : i < l.length
      · refine V_seq (V_seq (V_region (S_go 2 (S_a [(0, .n (l.length))] (ap ((by simp) : some (List.map I l).length = some l.length) an) (S_go 1 (S_end (V_decT ((↑i : Int) < (↑l.length : Int)) (by omega) (V_skip (V_seq (V_block 3 (V_seq (V_region (S_go 1 (S_end (V_block 4 ?_)))))))))))))))
        refine V_loopS (fun k => k ≤ i ∧ ∀ j, j < k → ¬ l.getD i 0 = l.getD j 0) (fun k => [(9, I (k : Nat))]) (fun k => i - k) (0 : Nat) ⟨Nat.zero_le _, fun j hj => absurd hj (Nat.not_lt_zero _)⟩ fun k ⟨hk, hka⟩ => ?_
        by_cases hki : k < i
        · by_cases he : l.getD i 0 = l.getD k 0
          · refine V_seq (V_seq (V_region (S_go 3 (S_end (V_decT ((↑k : Int) < (↑i : Int)) (by omega) (V_skip (V_seq (V_block 5 (V_seq (V_region (S_go 2 (S_a [(2, .v (PV.int IntKind.i64 (l.getD i 0)))] (ap (getm (0) (by omega) : (List.map I l)[i]? = some (PV.int IntKind.i64 (l.getD i 0))) an) (S_go 3 (S_a [(2, .v (PV.int IntKind.i64 (l.getD k 0)))] (ap (getm (0) (by omega) : (List.map I l)[k]? = some (PV.int IntKind.i64 (l.getD k 0))) an) (S_go 2 (S_end (V_decT (l.getD i 0 = l.getD k 0) (by omega) (V_seq (V_region (S_go 2 (S_end (V_ret (E_a [] an (PV.tup [PV.int IntKind.i64 0, PV.int IntKind.i64 5]) ([]) ?_ rfl)))))))))))))))))))))))
            have e : bndErr b l = 5 := by
              have hd : dupL l = true := dup_t hil (by
                simp only [has, List.any_eq_true, decide_eq_true_eq]
                exact ⟨l.getD k 0, by rw [getD_lt (by omega)]; exact List.mem_take_iff_getElem.2 ⟨k, by omega, rfl⟩, he⟩)
              simp only [bndErr, h, h1, hd, if_true]; rfl
            simp only [bndV, e]; rfl
          · refine V_seq (V_seq (V_region (S_go 3 (S_end (V_decT ((↑k : Int) < (↑i : Int)) (by omega) (V_skip (V_seq (V_block 5 (V_seq (V_region (S_go 2 (S_a [(2, .v (PV.int IntKind.i64 (l.getD i 0)))] (ap (getm (0) (by omega) : (List.map I l)[i]? = some (PV.int IntKind.i64 (l.getD i 0))) an) (S_go 3 (S_a [(2, .v (PV.int IntKind.i64 (l.getD k 0)))] (ap (getm (0) (by omega) : (List.map I l)[k]? = some (PV.int IntKind.i64 (l.getD k 0))) an) (S_go 2 (S_end (V_decF (l.getD i 0 = l.getD k 0) (by omega) (V_skip (V_region (S_go 1 (S_a [(1, .v (PV.int IntKind.i64 (↑(k + 1) : Int)))] (ap ((wrapE (by omega) (by omega)) : PV.int IntKind.i64 (IntKind.i64.wrap ((↑k : Int) + 1)) = PV.int IntKind.i64 (↑(k + 1) : Int)) an) (S_go 1 (S_end ?_)))))))))))))))))))))))
            refine ⟨k + 1, ⟨by omega, fun j hj => ?_⟩, by omega, by kernel_rfl, by kernel_rfl⟩
            rcases Nat.lt_succ_iff_lt_or_eq.1 hj with h | rfl
            · exact hka j h
            · exact he
        · refine V_seq (V_seq (V_region (S_go 3 (S_end (V_decF ((↑k : Int) < (↑i : Int)) (by omega) (V_exit 4 (V_region (S_go 1 (S_a [(1, .v (PV.int IntKind.i64 (↑(i + 1) : Int)))] (ap ((wrapE (by omega) (by omega)) : PV.int IntKind.i64 (IntKind.i64.wrap ((↑i : Int) + 1)) = PV.int IntKind.i64 (↑(i + 1) : Int)) an) (S_go 1 (S_end ?_)))))))))))
          refine ⟨i + 1, ⟨by omega, fun j hj => ?_⟩, by omega, by kernel_rfl, by kernel_rfl⟩
          rcases Nat.lt_succ_iff_lt_or_eq.1 hj with h | rfl
          · exact ha j h
          · simp only [has, List.any_eq_false, decide_eq_true_eq]
            intro x hx
            obtain ⟨q, hq, rfl⟩ := List.mem_take_iff_getElem.1 hx
            have := hka q (by omega)
            rwa [getD_lt (l := l) (i := q) (by omega)] at this
      · refine V_seq (V_seq (V_region (S_go 2 (S_a [(0, .n (l.length))] (ap ((by simp) : some (List.map I l).length = some l.length) an) (S_go 1 (S_end (V_decF ((↑i : Int) < (↑l.length : Int)) (by omega) (V_exit 2 (V_seq (V_region (S_go 2 (S_a [(8, .ret (I (bndS b l)) ([]))] (ap (f120 (b) (l) (by omega) (by omega) (by omega) (by omega)) an) (S_go 2 (S_end (V_ret (E_a [] an (PV.tup [PV.int IntKind.i64 (bndS b l), PV.int IntKind.i64 0]) ([]) ?_ rfl))))))))))))))))
        have e : bndErr b l = 0 := by simp only [bndErr, h, h1, if_true, dup_f fun j hj => ha j (by omega)]; rfl
        simp only [bndV, e, if_true]
  · refine gives_ofX Try.f70 ?_
    have e : bndErr b l = boxErr b := by simp only [bndErr, h, if_false]
    refine V_seq (V_region (S_go 3 (S_end (V_seq (V_seq (V_region (S_go 1 (S_a [(6, .ret (I (boxErr b)) ([]))] (ap (f59 (b) (by omega)) an) (S_go 1 (S_end (V_seq (V_region (S_go 2 (S_end (V_ndecT (boxErr b = 0) (by omega) (V_seq (V_region (S_go 3 (S_end (V_ret (E_a [] an (PV.tup [PV.int IntKind.i64 0, PV.int IntKind.i64 (boxErr b)]) ([]) ?_ rfl)))))))))))))))))))))
    simp only [bndV, e, h, if_false]
end
end Go.Eng
set_option maxRecDepth 10000
namespace Go.Eng
open Go Go.Proofs
abbrev four : Dk := ⟨2, 1, 2, 2, [⟨4, 2, [0, 1]⟩, ⟨3, 1, [0, 1]⟩, ⟨8, 1, [0, 1]⟩, ⟨1, 1, [1]⟩]⟩
abbrev fee4 : List Int := [12, 5, 10, 3]
section
variable [Yo]
theorem f88x : Gives Try.prog feeH 88 [boxV four, ints [0,0,0,1]] [] (.tup [.ref (deskV four fee4), I 0]) [] := Gives.closed 400
theorem f93x : Gives Try.prog feeH 93 [.ref (deskV four fee4), .bor 50000000 [(0, 0)] 1 0 4] [.box (.own 1 [I 0, I 0, I 0, I 1])] (.func 130 [] (.ref (.bor 50000000 [(0, 0)] 1 0 4) :: (mvCaps four fee4 [27, 3, 0, 0] []).tail)) [.box (.own 1 [I 0, I 0, I 0, I 1])] := Gives.closed 400
theorem f93y : Gives Try.prog feeH 93 [.ref (deskV four fee4), .bor 50000000 [(0, 0)] 1 0 4] [.box (.own 1 [I 1, I 0, I 0, I 1])] (.func 130 [] (.ref (.bor 50000000 [(0, 0)] 1 0 4) :: (mvCaps four fee4 [15, 15, 0, 0] []).tail)) [.box (.own 1 [I 1, I 0, I 0, I 1])] := Gives.closed 400
theorem f36w (hx : HandsAll 130 [] (mvCaps four fee4 [27, 3, 0, 0] [0,0,0,1]) [[mvV (0, 1)], [mvV (1, 1)], [mvV (2, 1)]]) (hy : HandsAll 130 [] (mvCaps four fee4 [15, 15, 0, 0] [1,0,0,1]) []) : Gives Try.prog feeH 36 [boxV four, ints [0,0,0,1]] [] (.tup [.own 1 [I 1, I 0, I 0, I 1], I 1, I 0]) [] := by
  refine gives_ofX Try.f36 ?_
  refine V_seq (V_region (S_go 4 (S_end (V_seq (V_region (S_go 2 (S_a [(8, .ret (PV.tup [(deskV four fee4).ref, I 0]) ([]))] (ap (f88x) an) (S_go 5 (S_end (V_seq (V_seq (V_region (S_go 2 (S_end (V_false (V_skip (V_seq (V_region (S_go 1 (S_go 1 (S_go 3 (S_end (V_seq (V_region (S_go 1 (S_go 1 ?_))))))))))))))))))))))))))
  refine S_go 1 (S_end ?_)
  refine V_seq (V_region (S_go 1 (S_end (V_block 0 ?_))))
  refine V_loopS (fun (n, sh) => n = 0 ∧ sh = [0,0,0,1] ∨ n = 1 ∧ sh = [1,0,0,1]) (fun (n, sh) => [(9, .box (.own 1 (sh.map I))), (10, I (n : Nat))]) (fun (n, _) => 2 - n) ((0 : Nat), ([0,0,0,1] : List Int)) (.inl ⟨rfl, rfl⟩) fun (n, sh) h => ?_
  rcases h with ⟨rfl, rfl⟩ | ⟨rfl, rfl⟩
  · refine V_seq (V_block 1 (V_scope (V_seq (V_region (S_go 2 (S_end (V_seq (V_label (V_seq (V_seq (V_region (S_go 1 (S_go 1 (S_a [(5, .ret (PV.func 130 [] ((PV.bor 50000000 [(0, 0)] 1 0 4).ref :: (mvCaps four fee4 [27, 3, 0, 0] []).tail)) ([(PV.own 1 [I 0, I 0, I 0, I 1]).box]))] (ap (f93x) an) (S_end (V_block 2 ?_))))))))))))))))
    refine V_rangeRg (t := 32) (R := [9]) hx ?_
    simp only [Rg]
    refine Round_mk ?_
    refine V_region (S_go 2 (S_end ?_))
    refine ⟨rfl, by kernel_rfl, ?_⟩
    refine V_block 3 (V_seq (V_region (S_go 1 (S_go 4 (S_go 1 (S_go 2 (S_end (V_exit 2 ?_))))))))
    refine ⟨by kernel_rfl, ?_⟩
    refine V_seq (V_region (S_go 2 (S_end (V_false (V_skip (V_region (S_go 3 (S_end ?_))))))))
    exact ⟨(1, [1,0,0,1]), .inr ⟨rfl, rfl⟩, by decide, by kernel_rfl, by kernel_rfl⟩
  · refine V_seq (V_block 1 (V_scope (V_seq (V_region (S_go 2 (S_end (V_seq (V_label (V_seq (V_seq (V_region (S_go 1 (S_go 1 (S_a [(5, .ret (PV.func 130 [] ((PV.bor 50000000 [(0, 0)] 1 0 4).ref :: (mvCaps four fee4 [15, 15, 0, 0] []).tail)) ([(PV.own 1 [I 1, I 0, I 0, I 1]).box]))] (ap (f93y) an) (S_end (V_block 2 ?_))))))))))))))))
    refine V_rangeRg (t := 32) (R := [9]) hy ?_
    simp only [Rg]
    refine V_seq (V_region (S_go 2 (S_end (V_true (V_seq (V_region (S_go 1 (S_go 4 (S_end (V_ret (E_a [] an (PV.tup [PV.own 1 [PV.int IntKind.i64 1, PV.int IntKind.i64 0, PV.int IntKind.i64 0, PV.int IntKind.i64 1], PV.int IntKind.i64 (↑1 : Int), PV.int IntKind.i64 0]) ([]) rfl rfl)))))))))))
end
noncomputable instance feeYo : Yo := yo1 Try.prog feeH
theorem four_ok {f share : List Int} (hf : f.length = 4) (hs : share.length = 4) (h1 : share.all (fun x => decide (0 ≤ x ∧ x < 4)) = true) (h2 : f.all (fun x => decide (-1000000 ≤ x ∧ x ≤ 1000000)) = true) : MvOk four fee4 f share := by
  refine ⟨⟨by decide, by decide⟩, by decide, hf, rfl, hs, fun x hx => by simpa using List.all_eq_true.1 h1 x hx, fun i => ?_, fun i => ?_⟩
  · rcases Nat.lt_or_ge i f.length with h | h
    · rw [getD_lt h]; simpa using List.all_eq_true.1 h2 _ (List.getElem_mem h)
    · rw [List.getD_eq_getElem?_getD, List.getElem?_eq_none h]; simp
  · rcases Nat.lt_or_ge i 4 with h | h
    · match i, h with
      | 0, _ => decide
      | 1, _ => decide
      | 2, _ => decide
      | 3, _ => decide
    · rw [List.getD_eq_getElem?_getD, List.getElem?_eq_none h]; simp
theorem f130a {b : Dk} {fee f share : List Int} (h : MvOk b fee f share) : HandsAll 130 [] (mvCaps b fee f share) (mvLog b fee f share share.length) := by
  refine ⟨?_, fun j h1 h2 => ?_⟩
  · have := f130h h (-1) (.inl rfl)
    rwa [if_pos rfl] at this
  · have := f130h h (j : Int) (.inr ⟨by omega, by simpa using h2⟩)
    rw [if_neg (by omega)] at this
    exact this
theorem f36x : Gives Try.prog feeH 36 [boxV four, ints [0,0,0,1]] [] (.tup [.own 1 [I 1, I 0, I 0, I 1], I 1, I 0]) [] := by
  refine f36w ?_ ?_
  · exact f130a (four_ok rfl rfl (by decide) (by decide))
  · exact f130a (four_ok rfl rfl (by decide) (by decide))
end Go.Eng
namespace Go.Eng
open Go Go.Proofs
def bal5 : List Int := [5,-2,-3,4,-4]
abbrev ad (j : Nat) : PV := .addr (50000000 + j) [] 0 0 none
abbrev putB : PV := .box (.func 135 [] [ad 0, ad 1, ad 2, ad 3])
abbrev oints (l : List Int) : PV := .own 1 (l.map I)
abbrev rows (l : List (List Int)) : PV := .own 1 (l.map oints)
abbrev putE (i : Nat) (now out out' : List (List Int)) : Entry := ⟨135, [I (i : Nat), ad 0, ad 1, ad 2, ad 3], [.box (ints bal5), putB, .box (rows now), .box (rows out)], .tup [], [.box (ints bal5), putB, .box (rows now), .box (rows out')]⟩
abbrev puts (i : Nat) (now out out' : List (List Int)) : Prop := ∀ [Yo], AllT Try.prog feeH [putE i now out out']
theorem g3_012x : puts 3 [[0, 1, 2]] [] [[0, 1, 2], [3, 4]] := ⟨Gives.closed 400, trivial⟩
theorem g3_01x2x : puts 3 [[0, 1], [2]] [[0, 1, 2], [3, 4]] [[0, 1, 2], [3, 4]] := ⟨Gives.closed 400, trivial⟩
theorem g3_02x1x : puts 3 [[0, 2], [1]] [[0, 1, 2], [3, 4]] [[0, 1, 2], [3, 4]] := ⟨Gives.closed 400, trivial⟩
theorem g3_0x12x : puts 3 [[0], [1, 2]] [[0, 1, 2], [3, 4]] [[0, 1, 2], [3, 4]] := ⟨Gives.closed 400, trivial⟩
theorem g3_0x1x2x : puts 3 [[0], [1], [2]] [[0, 1, 2], [3, 4]] [[0, 1, 2], [3, 4]] := ⟨Gives.closed 400, trivial⟩
theorem g0_ : puts 0 [] [] [[0, 1, 2], [3, 4]] := ⟨Gives.table ([putE 3 [[0, 1, 2]] [] [[0, 1, 2], [3, 4]], putE 3 [[0, 1], [2]] [[0, 1, 2], [3, 4]] [[0, 1, 2], [3, 4]], putE 3 [[0, 2], [1]] [[0, 1, 2], [3, 4]] [[0, 1, 2], [3, 4]], putE 3 [[0], [1, 2]] [[0, 1, 2], [3, 4]] [[0, 1, 2], [3, 4]], putE 3 [[0], [1], [2]] [[0, 1, 2], [3, 4]] [[0, 1, 2], [3, 4]]]) ⟨g3_012x.1, g3_01x2x.1, g3_02x1x.1, g3_0x12x.1, g3_0x1x2x.1, trivial⟩ 400, trivial⟩
theorem f49x [Yo] : Gives Try.prog feeH 49 [ints bal5] [] (.tup [rows [[0, 1, 2], [3, 4]], I 0]) [] := Gives.table [putE 0 [] [] [[0, 1, 2], [3, 4]]] ⟨g0_.1, trivial⟩ 400
end Go.Eng
set_option maxRecDepth 10000
namespace Go.Eng
open Go Go.Proofs
section
variable [Yo]
theorem f26x : Gives Try.prog feeH 26 [boxV four, ints [1,0,0,1], ints [4,10]] [] (.tup [.own 1 [I 7, I 0], I 23, I 0]) [] := Gives.closed 400
theorem f41x : Gives Try.prog feeH 41 [boxV four] [] (.tup [.own 1 [I 1, I 0, I 0, I 1], I 15, I 0]) [] := Gives.closed 400
theorem f34x : Gives Try.prog feeH 34 [boxV four, ints [0,0,1,1]] [] (.tup [.own 2 [.agg [I 0, I 2]], I 0]) [] := Gives.closed 400
theorem f69x : Gives Try.prog feeH 69 [boxV four, ints [3,0]] [] (.tup [I 8, I 0]) [] := Gives.closed 400
theorem f18x : Gives Try.prog feeH 18 [I 10, ints [5,3,1]] [] (.tup [.own 1 [I 6, I 3, I 1], I 0]) [] := Gives.closed 400
end
abbrev awakeT : List Entry := [
  ⟨36, [boxV four, ints [0,0,0,1]], [], .tup [.own 1 [I 1, I 0, I 0, I 1], I 1, I 0], []⟩,
  ⟨41, [boxV four], [], .tup [.own 1 [I 1, I 0, I 0, I 1], I 15, I 0], []⟩,
  ⟨34, [boxV four, ints [0,0,1,1]], [], .tup [.own 2 [.agg [I 0, I 2]], I 0], []⟩,
  ⟨26, [boxV four, ints [1,0,0,1], ints [4,10]], [], .tup [.own 1 [I 7, I 0], I 23, I 0], []⟩,
  ⟨69, [boxV four, ints [3,0]], [], .tup [I 8, I 0], []⟩,
  ⟨18, [I 10, ints [5,3,1]], [], .tup [.own 1 [I 6, I 3, I 1], I 0], []⟩,
  ⟨49, [ints bal5], [], .tup [rows [[0, 1, 2], [3, 4]], I 0], []⟩]
theorem f16 : Gives Try.prog feeH 16 [] [] (.bool true) [] := Gives.table awakeT ⟨f36x, f41x, f34x, f26x, f69x, f18x, f49x, trivial⟩ 400
end Go.Eng
set_option maxRecDepth 10000
set_option maxHeartbeats 4000000
namespace Go.Eng
open Go Go.Proofs
theorem great_f {b : Dk} (h : greatB b = false) : b.rs.length ≤ 12 ∧ ∀ r ∈ b.rs, r.may.length ≤ 10 := by
  simp only [greatB, Bool.or_eq_false_iff, decide_eq_false_iff_not, List.any_eq_false, decide_eq_true_eq] at h
  exact ⟨by omega, fun r hr => by have := h.2 r hr; omega⟩
theorem great_small {b : Dk} (h : greatB b = false) : Small b := by
  obtain ⟨h1, h2⟩ := great_f h
  exact ⟨by omega, fun r hr => by have := h2 r hr; omega⟩
end Go.Eng
