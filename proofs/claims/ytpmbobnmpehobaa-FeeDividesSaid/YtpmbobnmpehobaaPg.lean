/- FeeDivides of the given program answers true for every input and leaves its arguments as they were; no conditions. -/
import Derived.Test.YtpmbobnmpehobaaPd
import Derived.ProofKit
import Derived.Test.YtpmbobnmpehobaaProg
import Derived.Test.YtpmbobnmpehobaaPa
import Derived.Test.YtpmbobnmpehobaaRows
import Derived.Test.YtpmbobnmpehobaaPf
set_option linter.unusedVariables false
set_option linter.unusedSimpArgs false
set_option linter.unusedSectionVars false
namespace Go.Eng
open Go Go.ChangeShapes Go.WideShapes Go.ChangeAt Go.RowKit
section
variable {H : Type} {enc : TypeId × Value → H} {P : Program}
theorem post_of_old {f : Func} {s : ChangeSpec} {apart fresh handsOn again : Bool} {W W' : World} {args : Array Value} {v : Value} {ds gs : List (DataW H)} {before pa pv : List MemPlace}
    (hW : DataW.Whole enc P f.params.toList s.vars apart W args.toList ds gs before)
    (hres : ∀ (b : Nat) (sp : Nat → Bool) (hd : Bool), DataW.TrodAll enc P W' b sp hd f.resultTypes.toList (v.resultList f.resultTypes.size) (s.fn H (ds ++ gs)).results [])
    (hargs : ∀ sp : Nat → Bool, (∀ p ∈ before, sp p.block = true) → DataW.TrodAll enc P W' 0 sp true f.params.toList args.toList (s.fn H (ds ++ gs)).args pa)
    (hvars : ∀ sp : Nat → Bool, (∀ p ∈ before, sp p.block = true) → DataW.TrodVars enc P W' sp s.vars (s.fn H (ds ++ gs)).vars pv)
    (hps : before = pa ++ pv) (hold' : ∀ b, b < W.heap.size → W'.heap[b]? = W.heap[b]?) (hk : W.keptBut W' (· ∈ before))
    (hok : ∀ (j : Nat) (t : TypeId) (r : Value), f.resultTypes[j]? = some t → (v.resultList f.resultTypes.size)[j]? = some r → Value.okWide P W' .any 0 t r) :
    s.post enc P f apart fresh handsOn again W args v W' := by
  have hlt := hW.lt
  have hold : ∀ p ∈ before, (fun b => decide (b < W.heap.size)) p.block = true := fun p hp => by simpa using hlt p hp
  refine ⟨ds, gs, before, [], pa, pv, hW, hres _ _ _, hargs _ hold, hvars _ hold, World.keptBut_mono (fun p hp => ⟨hp, ?_⟩) hk, fun _ => ?_⟩
  · rw [hps, List.mem_append] at hp
    exact Or.inr hp
  · obtain ⟨_, _, _, _, _, hz, hn⟩ := hW
    refine ⟨hok, _, _, ([] ++ pa) ++ pv, ⟨[] ++ pa, pv, trodAll_append (hargs _ (fun _ _ => rfl)) (hres _ _ _), hvars _ (fun _ _ => rfl), rfl, ?_, ?_⟩, ?_⟩
    · intro b off hp
      have hp' : MemPlace.cell b off ∈ before := by rw [hps]; simpa using hp
      have h1 := hz b off hp'
      have h2 := hlt _ hp'
      unfold World.frozen? at h1 ⊢
      rw [hold' b h2]; exact h1
    · intro ha
      have := hn ha
      rw [hps] at this
      simpa using this
    · intro p hp _
      rw [hps]
      simpa using hp
theorem trodAll_stays {W W' : World} {sp' : Nat → Bool} (hl : laidOutB P = true) (hb : Below W.heap.size W W') : ∀ {ts : List TypeId} {vs : List Value} {ds : List (DataW H)} {ps : List MemPlace}, (∀ t ∈ ts, P.readableRec t = true ∧ t < P.types.size) → DataW.TrodAll enc P W 0 (fun _ => true) true ts vs ds ps → (∀ x ∈ ps, x.block < W.heap.size) → (∀ x ∈ ps, sp' x.block = true) →
    DataW.TrodAll enc P W' 0 sp' true ts vs ds ps
  | [], vs, ds, ps, _, h, _, _ => by
    obtain ⟨rfl, rfl, rfl⟩ := trodAll_nil h
    exact trodAll_mk0
  | t :: ts, vs, ds, ps, ht, h, hlt, hs => by
    obtain ⟨v, vs', d, ds', p, q, rfl, rfl, rfl, h1, h2⟩ := trodAll_cons h
    exact ⟨p, q, WideElems.Trod_stays hl (ht t (by simp)).1 (ht t (by simp)).2 h1 (fun x hx => hb.same (hlt x (by simp [hx]))) (fun x hx => hs x (by simp [hx])), trodAll_stays hl hb (fun t h => ht t (by simp [h])) h2 (fun x hx => hlt x (by simp [hx])) (fun x hx => hs x (by simp [hx])), rfl⟩
theorem law_post {f : Func} {s : ChangeSpec} {apart fresh handsOn again : Bool} {W W' : World} {args : Array Value} {ds : List (DataW H)} {before : List MemPlace} {tb : TypeId} (hl : laidOutB P = true) (hvars : s.vars = []) (htb : P.underlying tb = some .bool) (hrt : f.resultTypes = #[tb]) (hts : ∀ t ∈ f.params.toList, P.readableRec t = true ∧ t < P.types.size)
    (hfn : s.fn H ds = { results := [.lit (.bool true)], args := ds }) (hW : DataW.Whole enc P f.params.toList s.vars apart W args.toList ds [] before)
    (h1 : W.heap.size ≤ W'.heap.size) (h2 : ∀ b, b < W.heap.size → W'.heap[b]? = W.heap[b]?) (h3 : W'.os = W.os) (h4 : W'.tape = W.tape) (h5 : W'.output = W.output) : s.post enc P f apart fresh handsOn again W args (.bool true) W' := by
  have hlt := hW.lt
  have hb : Below W.heap.size W W' := ⟨h3, h4, h5, h1, h2⟩
  obtain ⟨pa, pv, hA, hV, hps, hz, hn⟩ := id hW
  have hpv : pv = [] := by
    rw [hvars] at hV
    exact (trodVars_none hV).2
  subst hpv
  have hrl : (Value.bool true).resultList f.resultTypes.size = [.bool true] := by rw [hrt]; rfl
  have hfn' : s.fn H (ds ++ []) = { results := [.lit (.bool true)], args := ds } := by rw [List.append_nil]; exact hfn
  have hlt' : ∀ x ∈ pa, x.block < W.heap.size := fun x hx => hlt x (by rw [hps]; simp [hx])
  refine post_of_old (pa := pa) (pv := []) hW (fun b sp hd => ?_) (fun sp hsp => ?_) (fun sp hsp => ?_) hps h2 ?_ ?_
  · rw [hrl, hrt, hfn']; exact trodAll_mk1 (shut_bool htb true)
  · rw [hfn']; exact trodAll_stays hl hb hts hA hlt' (fun x hx => hsp x (by rw [hps]; simp [hx]))
  · rw [hvars, hfn']; rfl
  · refine ⟨h3, h5, fun i hi => ?_⟩
    rw [h2 i hi]
    cases W.heap[i]? with
    | none => rfl
    | some o => cases o <;> first | exact ⟨rfl, rfl, rfl, fun _ _ => rfl⟩ | exact .inr ⟨rfl, rfl⟩ | rfl
  · exact ok_one hrt rfl (okWide_bool_mk htb true)
end
end Go.Eng
namespace Go.Eng
open Go
section
variable {w : World} {Φ : Nat → Prop} {A : Al}
theorem reps_ints {k : IntKind} : ∀ {l : List Int}, Reps w Φ A (l.map fun n => .int k n) (l.map fun n => .int k n) []
  | [] => ⟨rfl, rfl⟩
  | n :: l => ⟨_, _, [], [], rfl, rfl, ⟨rfl, rfl⟩, reps_ints⟩
theorem flat_ints {k : IntKind} : ∀ (l : List Int), flat (l.map fun n => .int k n) = l.map fun n => .int k n
  | [] => rfl
  | n :: l => by simp only [flat, List.map_cons, List.flatMap_cons] at *; have := flat_ints l (k := k); simp only [flat] at this; rw [this]; rfl
theorem rep_ints {k : IntKind} {a : Addr} {len cap : Nat} {zs : List Int} (hc : ∀ i, i < zs.length → w.cell? (a.add i) = some (.int k (zs.getD i 0))) (hl : len ≤ zs.length) (hcap : len ≤ cap) (hΦ : 0 < len → Φ a.block) :
    Rep w Φ A (.sl ((zs.take len).map fun n => .int k n)) (.slice (some a) len cap) [] := by
  refine ⟨rfl, ?_⟩
  by_cases h0 : len = 0
  · subst h0
    exact .inl ⟨by simp, _, _, rfl⟩
  · right
    have h1 := hc 0 (by omega)
    simp only [Addr.add, if_true, World.cell?] at h1
    cases hb : w.heap[a.block]? with
    | none => rw [hb] at h1; cases h1
    | some o =>
      cases o <;> rw [hb] at h1 <;> try (cases h1; done)
      rename_i c el fr
      simp only at h1
      cases hs : a.spot with
      | some s => rw [hs] at h1; cases h1
      | none =>
        have hlen : ((zs.take len).map fun n => PV.int k n).length = len := by simp; omega
        refine ⟨a, cap, c, (zs.take len).map fun n => .int k n, 1, by rw [hlen], hs, by rw [hlen]; exact hcap, hΦ (by omega), ⟨el, fr, hb⟩, ?_, ⟨?_, ?_⟩, ?_, reps_ints⟩
        · intro x hx; obtain ⟨n, _, rfl⟩ := List.mem_map.1 hx; rfl
        · intro u hu; obtain ⟨n, _, rfl⟩ := List.mem_map.1 hu; rfl
        · simp only [List.map_map]; rfl
        · rw [hlen, Nat.mul_one, flat_ints]
          have key : ∀ i, i < zs.length → c[a.off + i]? = some (.int k (zs.getD i 0)) := by
            intro i hi
            have := hc i hi
            simp only [Addr.add] at this
            split at this
            · rename_i h; subst h; simp only [World.cell?, hb, hs] at this; exact this
            · simp only [World.cell?, hb] at this; exact this
          apply List.ext_getElem?
          intro i
          simp only [seg, List.getElem?_take, List.getElem?_drop, List.getElem?_map]
          split
          · rename_i hi
            rw [Array.getElem?_toList, key i (by omega), List.getElem?_eq_getElem (by omega)]
            simp [List.getD, List.getElem?_eq_getElem (show i < zs.length by omega)]
          · rfl
end
end Go.Eng
namespace Go.Eng
open Go
section
variable {P : Program} {H : Hints}
theorem funcs_mem {f : FuncId} {fn : Func} (h : P.funcs[f]? = some fn) : fn ∈ P.funcs.toList := by
  rw [← Array.getElem?_toList] at h
  exact List.mem_of_getElem? h
theorem named_of (h : (P.funcs.toList.all fun fn => !(fn.name == "runtime.NumGoroutine")) = true) : Named P := fun f fn hf => by
  have := List.all_eq_true.1 h fn (funcs_mem hf)
  simpa using this
theorem fit_of (h : ((List.range P.funcs.size).all fun f => bif Nat.beq (H f).intr 0 then (match P.funcs[f]? with
    | some fn => fnOk P fn
    | none => true) else true) = true) : Fit P H := fun f fn hf hi => by
  have hlt := (Array.getElem?_eq_some_iff.1 hf).1
  have := List.all_eq_true.1 h f (List.mem_range.2 hlt)
  rw [hi, hf] at this
  exact this
theorem intr_of (h : ((List.range P.funcs.size).all fun f => Nat.beq (H f).intr 0 || Nat.beq (H f).intr 9) = true) : Intrinsic P H := fun f fn args hid v hid' hf hi hr => by
  have hlt := (Array.getElem?_eq_some_iff.1 hf).1
  have := List.all_eq_true.1 h f (List.mem_range.2 hlt)
  rw [Bool.or_eq_true] at this
  rcases this with h1 | h1
  · exact absurd (Nat.eq_of_beq_eq_true h1) hi
  · rw [Nat.eq_of_beq_eq_true h1] at hr
    simp [intrin] at hr
end
end Go.Eng
namespace Go.Proofs.Ytpmbobnmpehobaa
open Go.Eng
theorem hmix : Try.prog.follows .mixedOrders = true := by kernel_rfl
theorem hnm : Named Try.prog := named_of (by kernel_rfl)
theorem hfit : Fit Try.prog feeH := fit_of (by kernel_rfl)
theorem hin : Intrinsic Try.prog feeH := intr_of (by kernel_rfl)
end Go.Proofs.Ytpmbobnmpehobaa
set_option maxRecDepth 100000
namespace Go.Proofs.Ytpmbobnmpehobaa
open Go.ChangeShapes Go.WideShapes Go.ChangeAt Go.RowKit Go.Eng
theorem Try.own : ownKnob Try.prog.godebug = none := by kernel_rfl
theorem Try.laidOut : laidOutB Try.prog = true := by kernel_rfl
theorem hts : ∀ t ∈ Try.f3.params.toList, Try.prog.readableRec t = true ∧ t < Try.prog.types.size := by
  have h : Try.f3.params.toList.all (fun t => Try.prog.readableRec t && Nat.blt t Try.prog.types.size) = true := by kernel_rfl
  intro t ht
  have := List.all_eq_true.1 h t ht
  rw [Bool.and_eq_true] at this
  exact ⟨this.1, blt_lt this.2⟩
theorem f_lifted (os : Os) (started : os.Started) (H : Type) (enc : TypeId × Value → H) :
    ReturnsInHanded {} Try.checked os 3 .any (Rows.feeDividesSpec.pre6 enc Try.prog Try.f3 Rows.feeDividesRow.domain false) (Rows.feeDividesSpec.post enc Try.prog Try.f3 false true false false) := by
  refine returnsInHanded_of_change (C := Try.checked) Try.own started (by kernel_rfl) Try.func3
    (ChangeSpec.witness6 (enc := enc) (C := Try.checked) false ⟨#[], #[.int .i64 0, .slice none 0 0], []⟩ 8 (by kernel_rfl) (by kernel_rfl) (by kernel_rfl) (by kernel_rfl)) ?_
  intro W base args ds gs before hval0 hW hcnd _
  have hval : ∀ (j : Nat) t v, Try.f3.params[j]? = some t → args[j]? = some v → Value.okWide Try.prog W .any base t v := hval0
  have hW' := hW
  obtain ⟨p, q, hA0, hV, rfl, hfz, hnd⟩ := hW
  have hA : DataW.TrodAll enc Try.prog W 0 (fun _ => true) true Try.f3.params.toList args.toList ds p := hA0
  rw [Try.params3] at hA hval
  obtain ⟨v0, v1, d0, d1, p0, p1, rfl, rfl, rfl, h0, h1⟩ := trodAll_two hA
  obtain ⟨rfl, rfl⟩ := trodVars_none hV
  obtain ⟨a, rfl, rfl, rfl, wa⟩ := open_int Try.underlying3 (hval 0 3 v0 rfl rfl) h0
  obtain ⟨n1, hn1⟩ := h1
  obtain ⟨ad, ln, cp, rfl⟩ := okWide_slice Try.underlying22 (hval 1 22 v1 rfl rfl)
  have hlt := DataW.Whole.lt hW'
  have hr1 : ∃ l : List Int, Rep W (fun b => b < W.heap.size) noAl (.sl (l.map fun n => .int .i64 n)) (.slice ad ln cp) [] := by
    rcases open_ints Try.underlying22 Try.underlying3 (by kernel_rfl) hn1 with ⟨hc, _⟩ | ⟨b, len, cap, zs, hc, _, h2, _, h4, h5, h6, _⟩
    · have hc : (Value.slice ad ln cp) = .slice none 0 0 := by simpa [Value.cells] using hc
      rw [hc]
      exact ⟨[], rfl, .inl ⟨rfl, _, _, rfl⟩⟩
    · have hc : (Value.slice ad ln cp) = .slice (some b) len cap := by simpa [Value.cells] using hc
      rw [hc]
      simp only [if_true] at h4
      refine ⟨zs.take len, rep_ints h6 (by omega) h2 fun h0 => ?_⟩
      have := h6 0 (by omega)
      simp only [Addr.add, if_true, World.cell?] at this
      cases hb : W.heap[b.block]? with
      | none => rw [hb] at this; cases this
      | some o => exact (Array.getElem?_eq_some_iff.1 hb).1
  obtain ⟨l, hl⟩ := hr1
  clear hA0 hval0
  refine (law_calls (Φ := fun b => b < W.heap.size) hmix hnm hfit hin (f3 a l) (fun b hb => hb) ⟨_, _, [], [], rfl, rfl, ⟨rfl, rfl⟩, ⟨_, _, [], [], rfl, rfl, hl, ⟨rfl, rfl⟩⟩⟩ (show 2 ≤ hidBase by decide)).mono fun e W' ⟨he, g1, g2, g3, g4, g5⟩ => ?_
  subst he
  exact ⟨_, rfl, law_post Try.laidOut rfl Try.underlying4 (by kernel_rfl) hts rfl hW' g1 g2 g3 g4 g5⟩
theorem feeDivides_holds : Rows.FeeDividesSaid :=
  OpenClaim.holds_of_wide 3 Try.f3 rfl rfl rfl rfl rfl rfl rfl ⟨rfl, rfl, rfl, rfl, rfl⟩ rfl rfl rfl rfl rfl (by kernel_rfl) Try.func3 (by kernel_rfl)
    (of_decide_eq_true (by kernel_rfl)) (by unfold Func.isWrapper; first | (rw [if_pos (by decide +kernel)]; kernel_rfl) | (rw [if_neg (by decide +kernel)]; exact ⟨rfl, rfl⟩))
    (fun os started H enc _ => f_lifted os started H enc)
end Go.Proofs.Ytpmbobnmpehobaa
