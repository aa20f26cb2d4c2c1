/- Rounds are shared so that nobody earns more than somebody else by more than a single round which this one may cry, no share is better than the best one, no rounds have a greater bound, and to settle never makes the greatest fee greater, for all numbers. -/
import Derived.Test.YtpmbobnmpehobaaPa
import Derived.Laws.StructEq
import Derived.Laws.Cover3
import Derived.Laws.Slices
import Derived.Laws.MakeOwn
import Derived.Laws.CopyRow
import Derived.Laws.AppendOwn
set_option linter.unusedVariables false
set_option linter.unusedSimpArgs false
set_option linter.unusedSectionVars false
namespace Go.Eng
open Go
theorem optM_run {α:Type} {x:Option α} {k:α→PM} {o:Oracle} {e e':Env} (h:(optM x k).run o e=some e'):∃ a,x=some a∧(k a).run o e=some e':=by
  cases x with
  | none=>cases h
  | some a=>exact ⟨a,rfl,h⟩
theorem natIdx_run {p:PV} {k:Nat→PM} {o:Oracle} {e e':Env} (h:(natIdx p k).run o e=some e'):∃ ik n,p = .int ik n∧0≤n∧(k n.toNat).run o e=some e':=by
  cases p<;>try (cases h;done)
  rename_i ik n
  simp only [natIdx] at h
  split at h
  · exact ⟨ik,n,rfl,‹_›,h⟩
  · cases h
theorem ite_run {c:Prop} [Decidable c] {k:PM} {o:Oracle} {e e':Env} (h:(if c then k else .fail).run o e=some e'):c∧k.run o e=some e':=by
  split at h
  · exact ⟨‹_›,h⟩
  · cases h
theorem cond_run {c:Bool} {k:PM} {o:Oracle} {e e':Env} (h:(bif c then k else .fail).run o e=some e'):c=true∧k.run o e=some e':=by
  cases c
  · cases h
  · exact ⟨rfl,h⟩
section
variable {P:Program} {w0 w:World} {U Φ0 Φ:Nat→Prop} {nt:Nat} {hv:Hid} {a:Act} {e e':Env} {rv rv':Nat→Value} {E E':Nat→PV} {L L':Nat→List Nat} {o:Oracle} {A:Al}
def Empty (E:Nat→PV):Prop:=∀ g,ghost≤g→E g = .bad
theorem fin_light (S:St w0 U Φ0 nt hv a w e Φ rv E L) (hb:Empty E) {d:Option Nat} (hd:∀ x,d=some x→x<nt) {p:PV} {v:Value} (h:(put d p).run o e=some e') (hr:Rep w Φ (AlOf w rv E) p v []) :
    Fr w0 U Φ0 nt hv (a.put d v) w e':=by
  have:=put_ok (S.hold (Nat.le_refl ghost) hr) hd (Nat.le_refl ghost) (by rw [upd_at];exact h) (fun s hs hne=>by rw [upd_ne hne];exact hb s hs)
  rwa [upd_at] at this
theorem pick_ok (S:St w0 U Φ0 nt hv a w e Φ rv E L) (hb:Empty E) {d:Option Nat} (hd:∀ x,d=some x→x<nt) {c x y:Operand} (hc:opdOk nt c=true) (hx:opdOk nt x=true) (hy:opdOk nt y=true)
    (h:(opPick d c x y).run o e=some e'):∃ t,a.eval c = .bool t∧Fr w0 U Φ0 nt hv (a.put d (if t then a.eval x else a.eval y)) w e':=by
  obtain ⟨p,h1,h2⟩:=opd_ok S hc h
  cases p<;>simp only [boolOf] at h1<;>try (cases h1;done)
  rename_i t
  refine ⟨t,h2.1,?_⟩
  cases t
  · obtain ⟨q,h3,h4⟩:=opd_ok S hy h1;exact fin_light S hb hd h3 h4
  · obtain ⟨q,h3,h4⟩:=opd_ok S hx h1;exact fin_light S hb hd h3 h4
theorem nil_ok (S:St w0 U Φ0 nt hv a w e Φ rv E L) (hb:Empty E) {d:Option Nat} (hd:∀ x,d=some x→x<nt) {x:Operand} (hx:opdOk nt x=true) (h:(opd x (nilV d)).run o e=some e') :
    (match a.eval x with | .pointer none | .nilIface | .nilFunc | .func (.method _) _ _=>False | _=>True)∧Fr w0 U Φ0 nt hv (a.put d (a.eval x)) w e':=by
  obtain ⟨p,h1,h2⟩:=opd_ok S hx h
  cases p<;>simp only [nilV] at h1<;>try (cases h1;done)
  case ref q=>refine ⟨?_,fin_light S hb hd h1 h2⟩;obtain ⟨_,b,c,u,h3,_⟩:=h2;rw [h3];trivial
  case func=>refine ⟨?_,fin_light S hb hd h1 h2⟩;obtain ⟨_,fs,cs,h3,_⟩:=h2;rw [h3];trivial
  case addr=>refine ⟨?_,fin_light S hb hd h1 h2⟩;obtain ⟨_,_,b,h3,_⟩:=h2;rw [h3];trivial
  case yld=>refine ⟨?_,fin_light S hb hd h1 h2⟩;rw [h2.2];trivial
theorem un_ok (S:St w0 U Φ0 nt hv a w e Φ rv E L) (hb:Empty E) {d:Option Nat} (hd:∀ x,d=some x→x<nt) {op:UnOp} {x:Operand} (hx:opdOk nt x=true) (h:(opd x (unV d op)).run o e=some e') :
    ∃ v,(Op.unary op (a.eval x)).run P w = .ok v w∧Fr w0 U Φ0 nt hv (a.put d v) w e':=by
  obtain ⟨p,h1,h2⟩:=opd_ok S hx h
  simp only [unV] at h1
  split at h1
  · rename_i b;exact ⟨.bool !b,by rw [h2.1];rfl,fin_light S hb hd h1 ⟨rfl,rfl⟩⟩
  · rename_i k n;exact ⟨.int k (k.wrap (0-n)),by rw [h2.1];rfl,fin_light S hb hd h1 ⟨rfl,rfl⟩⟩
  · cases h1
theorem conv_ok (S:St w0 U Φ0 nt hv a w e Φ rv E L) (hb:Empty E) {d:Option Nat} (hd:∀ x,d=some x→x<nt) {s t:TypeId} (hs:(P.underlying s).isSome=true) {x:Operand} (hx:opdOk nt x=true) (h:(opd x (convV P d t)).run o e=some e') :
    ∃ v,(convert s t (a.eval x)).run P w = .ok v w∧Fr w0 U Φ0 nt hv (a.put d v) w e':=by
  obtain ⟨p,h1,h2⟩:=opd_ok S hx h
  simp only [convV] at h1
  split at h1
  · rename_i k k' n ht
    refine ⟨.int k (k.wrap n),?_,fin_light S hb hd h1 ⟨rfl,rfl⟩⟩
    obtain ⟨ds,hds⟩:=Option.isSome_iff_exists.1 hs
    rw [h2.1]
    simp only [convert,Sem.run_bind,run_underlying ht,run_underlying hds,Result.andThen_ok]
    rfl
  · cases h1
theorem func_ok (S:St w0 U Φ0 nt hv a w e Φ rv E L) (hb:Empty E) {d:Option Nat} (hd:∀ x,d=some x→x<nt) {f:FuncId} {fs cs:Array Operand} (hf:∀ x∈fs.toList,opdOk nt x=true) (hc:∀ x∈cs.toList,opdOk nt x=true)
    (h:(opMakeFunc d f fs.toList cs.toList).run o e=some e'):Fr w0 U Φ0 nt hv (a.put d (.func (.func f) (fs.map a.eval) (cs.map a.eval))) w e':=by
  obtain ⟨ps,h1,h2⟩:=opds_ok S hf h
  obtain ⟨qs,h3,h4⟩:=opds_ok S hc h1
  exact fin_light S hb hd h3 ⟨rfl,_,_,rfl,by simpa using h2,by simpa using h4⟩
theorem shT_spec {t:TypeId} {sh:Option Nat} (h:shT P t=some sh):∃ i,P.info? t=some i∧(isAgg t).run P w = .ok sh.isSome w∧(∀ n,sh=some n→n=i.size)∧(sh=none→i.size=1):=by
  simp only [shT] at h
  cases hu:P.underlying t with
  | none=>rw [hu] at h;cases h
  | some td =>
    have hr:=run_underlying (w:=w) hu
    cases hi:P.info? t with
    | none=>rw [hu,hi] at h;cases td<;>cases h
    | some i =>
      rw [hu,hi] at h
      refine ⟨i,rfl,?_⟩
      cases td<;>simp only at h<;>first | (cases h;exact ⟨by simp only [isAgg,Sem.run_bind,hr,Result.andThen_ok];rfl,fun n hn=>by cases hn;rfl,fun hn=>by cases hn⟩) | skip
      all_goals
        split at h
        · rename_i h1
          cases h;exact ⟨by simp only [isAgg,Sem.run_bind,hr,Result.andThen_ok];rfl,(by intro n hn;cases hn),fun _=>h1⟩
        · cases h
theorem run_sizeOf' {t:TypeId} {i:TypeInfo} (h:P.info? t=some i):(sizeOf t).run P w = .ok i.size w:=by
  simp [sizeOf,typeInfo,h]
theorem part_ok {t:TypeId} {sh:Option Nat} (hs:shT P t=some sh) {p q:PV} {cs:Array Value} {off:Nat} (hp:Rep w Φ A p (.agg cs) []) (h:sub p off sh=some q) :
    ∃ u,(part t cs off).run P w = .ok u w∧Rep w Φ A q u []:=by
  obtain ⟨i,hi,hagg,h1,h2⟩:=shT_spec (w:=w) hs
  cases p<;>try (cases sh<;>cases h;done)
  rename_i ps
  obtain ⟨vs,hv,hr⟩:=hp
  cases hv
  have hlen:=hr.length
  cases sh with
  | some n =>
    simp only [sub] at h
    split at h
    · rename_i hle
      cases h
      have hn:=h1 n rfl;subst hn
      refine ⟨.agg (cs.extract off (off+i.size)),?_,?_⟩
      · simp only [part,Sem.run_bind,hagg,Result.andThen_ok,Option.isSome_some,if_true,run_sizeOf' hi];rfl
      · refine ⟨_,rfl,?_⟩
        rw [Array.toList_extract]
        have:=reps_part_nil hr off i.size
        simpa [List.extract] using this
    · cases h
  | none =>
    simp only [sub] at h
    obtain ⟨u,La,Li,Lb,hu,hL,hru,_,_⟩:=hr.split h
    have hu':cs[off]? = some u:=by simpa using hu
    have:Li=[]:=by
      have:=congrArg List.length hL;simp at this
      exact List.eq_nil_of_length_eq_zero (by omega)
    subst this
    refine ⟨u,?_,hru⟩
    simp only [part,Sem.run_bind,hagg,Result.andThen_ok,Option.isSome_none,Bool.false_eq_true,if_false,hu']
    rfl
theorem eqFs_ok {eq:TypeId→PV→PV→Option Bool} {d:Nat} {p q:PV} {xs ys:Array Value} (hp:Rep w Φ A p (.agg xs) []) (hq:Rep w Φ A q (.agg ys) [])
    (hd:∀ t p q b x y,eq t p q=some b→Rep w Φ A p x []→Rep w Φ A q y []→(Op.equalIn d t x y).run P w = .ok b w) :
    ∀ (fs:List Field) (b:Bool),eqFs eq (shT P) p q fs=some b→(Op.eqFields d xs ys fs).run P w = .ok b w
  | [],b,h=>by simp only [eqFs,Option.some.injEq] at h;subst h;rfl
  | f :: fs,b,h=>by
    simp only [eqFs] at h
    simp only [Op.eqFields]
    split at h
    · rename_i hn
      rw [if_neg (by simp [hn])]
      exact eqFs_ok hp hq hd fs b h
    · rename_i hn
      rw [if_pos hn]
      cases hs:shT P f.type with
      | none=>rw [hs] at h;cases h
      | some sh =>
        rw [hs] at h;simp only at h
        split at h
        · rename_i a1 b1 h1 h2
          obtain ⟨u1,h3,h4⟩:=part_ok hs hp h1
          obtain ⟨u2,h5,h6⟩:=part_ok hs hq h2
          simp only [Sem.run_bind,h3,h5,Result.andThen_ok]
          cases he:eq f.type a1 b1 with
          | none=>rw [he] at h;cases h
          | some r =>
            rw [hd _ _ _ _ _ _ he h4 h6]
            rw [he] at h
            simp only [Result.andThen_ok]
            cases r with
            | true =>
              simp only [Bool.not_true,Bool.false_eq_true,if_false]
              exact eqFs_ok hp hq hd fs b h
            | false =>
              simp only [Option.some.injEq] at h;subst h
              simp
        · cases h
theorem eqEs_ok {eq:PV→PV→Option Bool} {d:Nat} {e:TypeId} {sh:Option Nat} {i:TypeInfo} (hs:shT P e=some sh) (hi:P.info? e=some i) {p q:PV} {xs ys:Array Value} (hp:Rep w Φ A p (.agg xs) []) (hq:Rep w Φ A q (.agg ys) [])
    (hd:∀ p q b x y,eq p q=some b→Rep w Φ A p x []→Rep w Φ A q y []→(Op.equalIn d e x y).run P w = .ok b w) :
    ∀ (n k:Nat) (b:Bool),eqEs eq sh i.size p q k n=some b →
      ((forIn (List.range' k n 1) ((none,()):Option Bool×Unit) fun i' r=>do
        let a ← part e xs (i'*i.size)
        let c ← part e ys (i'*i.size)
        if !(← Op.equalIn d e a c) then pure (.done (some false,())) else pure (.yield (none,()))):Sem _).run P w = .ok (if b then (none,()) else (some false,())) w
  | 0,k,b,h=>by simp only [eqEs,Option.some.injEq] at h;subst h;simp
  | n + 1,k,b,h=>by
    simp only [eqEs] at h
    simp only [List.range'_succ,List.forIn_cons,Sem.run_bind]
    split at h
    · rename_i a1 b1 h1 h2
      obtain ⟨u1,h3,h4⟩:=part_ok hs hp h1
      obtain ⟨u2,h5,h6⟩:=part_ok hs hq h2
      simp only [h3,h5,Result.andThen_ok]
      cases he:eq a1 b1 with
      | none=>rw [he] at h;cases h
      | some r =>
        rw [hd _ _ _ _ _ he h4 h6]
        rw [he] at h
        simp only [Result.andThen_ok]
        cases r with
        | true =>
          simp only [Bool.not_true,Bool.false_eq_true,if_false,Sem.run_pure,Result.andThen_ok]
          exact eqEs_ok hs hi hp hq hd n (k+1) b h
        | false =>
          simp only [Option.some.injEq] at h;subst h
          simp
    · cases h
theorem eqT_ok:∀ (n:Nat) (t:TypeId) (p q:PV) (b:Bool) (x y:Value) (d:Nat),n≤d→eqT P n t p q=some b→Rep w Φ A p x []→Rep w Φ A q y []→(Op.equalIn d t x y).run P w = .ok b w
  | 0,t,p,q,b,x,y,d,hd,h,hp,hq=>by cases h
  | n+1,t,p,q,b,x,y,0,hd,h,hp,hq=>by omega
  | n + 1,t,p,q,b,x,y,d+1,hd,h,hp,hq=>by
    have hle:n≤d:=by omega
    simp only [eqT] at h
    split at h
    · rename_i k0 k a1 k' b1 ht
      rw [hp.1,hq.1]
      split at h
      · rename_i hk;subst hk
        cases h;exact run_equalIn_int w d t k k0 a1 b1 ht
      · cases h
    · rename_i a1 b1 ht
      rw [hp.1,hq.1];cases h
      exact run_equalIn_bool' w d t a1 b1 ht
    · rename_i el ht
      rw [hp.1,hq.1];cases h
      simp [Op.equalIn,run_underlying ht]
    · rename_i fs xs ys ht
      cases hst:P.stoodInHeld t with
      | true=>rw [hst] at h;cases h
      | false =>
        rw [hst] at h;simp only [cond_false] at h
        obtain ⟨vs,rfl,hp'⟩:=hp
        obtain ⟨us,rfl,hq'⟩:=hq
        have hfs:P.fieldsOf t=fs:=by simp [Program.fieldsOf,ht]
        rw [run_equalIn_struct w d t vs us (by rw [hfs];exact ht) hst,hfs]
        exact eqFs_ok (p := .agg xs) (q := .agg ys) ⟨vs,rfl,hp'⟩ ⟨us,rfl,hq'⟩ (fun t p q b x y he h1 h2=>eqT_ok n t p q b x y d hle he h1 h2) fs.toList b h
    · rename_i len el xs ys ht
      split at h
      · rename_i sz sh hsz hsh
        obtain ⟨vs,rfl,hp'⟩:=hp
        obtain ⟨us,rfl,hq'⟩:=hq
        obtain ⟨i,hi,_⟩:=shT_spec (w:=w) hsh
        have hszi:i.size=sz:=by simp only [szT,hi,Option.map_some,Option.some.injEq] at hsz;exact hsz
        subst hszi
        have:=eqEs_ok (p := .agg xs) (q := .agg ys) hsh hi ⟨vs,rfl,hp'⟩ ⟨us,rfl,hq'⟩ (fun p q b x y he h1 h2=>eqT_ok n el p q b x y d hle he h1 h2) len 0 b h
        simp only [Op.equalIn,Sem.run_bind,run_underlying ht,Result.andThen_ok,run_sizeOf' hi,Std.Legacy.Range.forIn_eq_forIn_range',Std.Legacy.Range.size,Nat.sub_zero,Nat.add_sub_cancel,Nat.div_one]
        rw [this]
        cases b<;>simp
      · cases h
    · cases h
theorem eqT_kind {n:Nat} {t:TypeId} {p q:PV} {b:Bool} (h:eqT P n t p q=some b) (ha:p.isAgg=false):(∃ k n k' m,p = .int k n∧q = .int k' m)∨(∃ b,p = .bool b)∨p = .nilp:=by
  cases n with
  | zero=>cases h
  | succ n =>
    simp only [eqT] at h
    split at h
    · exact .inl ⟨_,_,_,_,rfl,rfl⟩
    · exact .inr (.inl ⟨_,rfl⟩)
    · exact .inr (.inr rfl)
    · cases ha
    · cases ha
    · cases h
theorem eqV_last {t:TypeId} {p q:PV} (hn:∀ z,q ≠ .nils z) (ha:∀ ys,q ≠ .agg ys):eqV P t p q=bif p.isAgg then none else eqT P 20 t p q:=by
  cases q<;>first | rfl | exact absurd rfl (hn _) | exact absurd rfl (ha _)
def cmpd:Value→Bool
  | .bool _ | .pointer _ | .slice .. | .agg _=>true
  | _=>false
theorem eql_run {t:TypeId} {x y:Value} {b:Bool} (hx:cmpd x=true) (h:(Op.equal t x y).run P w = .ok b w):(binOp .eql t x y).run P w = .ok (.bool b) w∧(binOp .neq t x y).run P w = .ok (.bool !b) w:=by
  have h1:binOp .eql t x y=(do pure (.bool (← Op.equal t x y))):=by cases x<;>first | (cases hx;done) | rfl
  have h2:binOp .neq t x y=(do pure (.bool (!(← Op.equal t x y)))):=by cases x<;>first | (cases hx;done) | rfl
  rw [h1,h2]
  simp only [Sem.run_bind,h,Result.andThen_ok]
  exact ⟨rfl,rfl⟩
theorem eqNil_ok {t:TypeId} {p:PV} {z:Nat} {b:Bool} {x:Value} (h:eqV P t p (.nils z)=some b) (hA:∀ a v,a.isWay=true→A a v→∀ r pre z lo n,a = .bor r pre z lo n→∃ b c,v = .slice b n c∧n≤c∧(b=none→c=0))
    (hp:Rep w Φ A p x []):(∃ a n c,x = .slice a n c)∧(Op.equal t x (.slice none 0 0)).run P w = .ok b w:=by
  cases ht:P.underlying t with
  | none=>simp [eqV,ht] at h
  | some td =>
  by_cases hsl:∃ e,td = .slice e
  · obtain ⟨e,rfl⟩:=hsl
    by_cases hnp:∃ z',p = .nils z'
    · obtain ⟨z',rfl⟩:=hnp
      simp only [eqV,ht,Option.some.injEq] at h
      subst h
      rw [hp.1]
      exact ⟨⟨_,_,_,rfl⟩,run_equal_slice_nil w t e none 0 0 ht⟩
    have hh:(bif someElem p then some false else none)=some b:=by
      rw [← h]
      cases p<;>first | (simp only [eqV,ht];done) | exact absurd ⟨_,rfl⟩ hnp
    have key:∀ a n c,x = .slice (some a) n c→b=false→(∃ a n c,x = .slice a n c)∧(Op.equal t x (.slice none 0 0)).run P w = .ok b w:=by
      intro a n c hx hb
      subst hx;subst hb
      exact ⟨⟨_,_,_,rfl⟩,run_equal_slice_nil w t e (some a) n c ht⟩
    cases hse:someElem p with
    | false=>rw [hse] at hh;cases hh
    | true =>
      rw [hse] at hh;simp only [cond_true,Option.some.injEq] at hh
      cases p<;>simp only [someElem] at hse<;>try (cases hse;done)
      case sl xs =>
        cases xs with
        | nil=>cases hse
        | cons x0 xs =>
          obtain ⟨_,⟨h1,_⟩ | ⟨a,n,c,us,sz,h1,_⟩⟩:=hp
          · cases h1
          · exact key a _ n h1 hh.symm
      case own sz xs =>
        cases xs with
        | nil=>cases hse
        | cons x0 xs =>
          obtain ⟨h1,_⟩ | ⟨a,n,c,us,L',h0,_⟩:=hp
          · cases h1
          · cases h0
      case bor r pre z lo n =>
        cases n with
        | zero=>cases hse
        | succ n =>
          obtain ⟨b',c,h1,h2,h3⟩:=hA _ _ rfl hp.2 r pre z lo (n+1) rfl
          cases b' with
          | none=>have:=h3 rfl;omega
          | some a=>exact key a _ c h1 hh.symm
  · cases td<;>first | exact absurd ⟨_,rfl⟩ hsl | simp [eqV,ht] at h
theorem eqV_ok {t:TypeId} {p q:PV} {b:Bool} {x y:Value} (h:eqV P t p q=some b) (hA:∀ a v,a.isWay=true→A a v→∀ r pre z lo n,a = .bor r pre z lo n→∃ b c,v = .slice b n c∧n≤c∧(b=none→c=0))
    (hp:Rep w Φ A p x []) (hq:Rep w Φ A q y []) (hni:∀ k n k' m,p = .int k n→q = .int k' m→False) (op:BinOp) (xo yo:Operand) :
    (eqGuard op t xo yo x y).run P w = .ok () w∧(Op.equal t x y).run P w = .ok b w∧cmpd x=true:=by
  by_cases hn:∃ z,q = .nils z
  · obtain ⟨z,rfl⟩:=hn
    have hy:y = .slice none 0 0:=hq.1
    subst hy
    obtain ⟨⟨a,n,c,rfl⟩,h2⟩:=eqNil_ok h hA hp
    exact ⟨by rw [eqGuard_at_slice];rfl,h2,rfl⟩
  · by_cases ha:∃ ys,q = .agg ys
    · obtain ⟨ys,rfl⟩:=ha
      simp only [eqV] at h
      split at h
      · rename_i xs
        cases hg:P.eqGuardType P.depth t with
        | true=>rw [hg] at h;cases h
        | false =>
          rw [hg] at h;simp only [cond_false] at h
          have:=eqT_ok 20 t _ _ b x y 10000 (by decide) h hp hq
          obtain ⟨vs,rfl,_⟩:=hp
          obtain ⟨us,rfl,_⟩:=hq
          exact ⟨run_eqGuard_agg w op t xo yo vs us hg,this,rfl⟩
      · cases h
    · rw [eqV_last (fun z hz=>hn ⟨z,hz⟩) (fun ys hy=>ha ⟨ys,hy⟩)] at h
      cases hpa:p.isAgg with
      | true=>rw [hpa] at h;cases h
      | false =>
        rw [hpa] at h;simp only [cond_false] at h
        have h2:=eqT_ok 20 t _ _ b x y 10000 (by decide) h hp hq
        rcases eqT_kind h hpa with ⟨k,n,k',m,h3,h4⟩ | ⟨b',h3⟩ | h3
        · exact absurd h4 fun h4=>hni k n k' m h3 h4
        · subst h3;have hx:x = .bool b':=hp.1
          subst hx;exact ⟨by rw [eqGuard_at_bool];rfl,h2,rfl⟩
        · subst h3;have hx:x = .pointer none:=hp.1
          subst hx;exact ⟨by rw [eqGuard_at_pointer];rfl,h2,rfl⟩
theorem al_bor:∀ a v,a.isWay=true→AlOf w rv E a v→∀ r pre z lo n,a = .bor r pre z lo n→∃ b c,v = .slice b n c∧n≤c∧(b=none→c=0):=by
  intro a v _ h r pre z lo n ha
  subst ha
  obtain ⟨_,⟨b,c,h1,h2,h3,_⟩,_⟩:=h
  exact ⟨b,c,h1,h2,h3⟩
theorem intOp_ok {op:BinOp} {t:TypeId} {k:IntKind} {x y:Int} {r:PV} (h:intOp op k x y=some r) (hs:op ≠ .shl∧op ≠ .shr):∃ v,(binOp op t (.int k x) (.int k y)).run P w = .ok v w∧Rep w Φ A r v []:=by
  cases op<;>simp only [intOp] at h<;>try (cases h;done)
  case quo => split at h
              · cases h
              · rename_i hy;cases h;exact ⟨.int k (k.wrap (x.tdiv y)),by simp [binOp,Op.intDiv,hy],rfl,rfl⟩
  case rem => split at h
              · cases h
              · rename_i hy;cases h;exact ⟨.int k (x.tmod y),by simp [binOp,Op.intDiv,hy],rfl,rfl⟩
  all_goals
    simp only [Option.some.injEq] at h
    subst h
    first
    | exact ⟨_,by simp [binOp,Op.intArith];rfl,rfl,rfl⟩
    | exact ⟨_,by simp [binOp,Op.intCmp];rfl,rfl,rfl⟩
    | exact ⟨_,by simp [binOp,Op.intBits];rfl,rfl,rfl⟩
theorem bin_ok (S:St w0 U Φ0 nt hv a w e Φ rv E L) (hb:Empty E) {d:Option Nat} (hd:∀ x,d=some x→x<nt) {op:BinOp} {t:TypeId} {x y:Operand} (hx:opdOk nt x=true) (hy:opdOk nt y=true) (h:(opBin P d op t x y).run o e=some e') :
    ∃ v,(do eqGuard op t x y (a.eval x) (a.eval y);binOp op t (a.eval x) (a.eval y)).run P w = .ok v w∧Fr w0 U Φ0 nt hv (a.put d v) w e':=by
  obtain ⟨p,h1,hp⟩:=opd_ok S hx h
  obtain ⟨q,h2,hq⟩:=opd_ok S hy h1
  obtain ⟨r,h3,h4⟩:=optM_run h2
  have fin:∀ v,(eqGuard op t x y (a.eval x) (a.eval y)).run P w = .ok () w→(binOp op t (a.eval x) (a.eval y)).run P w = .ok v w→Rep w Φ (AlOf w rv E) r v []→∃ v,(do eqGuard op t x y (a.eval x) (a.eval y);binOp op t (a.eval x) (a.eval y)).run P w = .ok v w∧Fr w0 U Φ0 nt hv (a.put d v) w e':=by
    intro v g1 g2 g3
    refine ⟨v,?_,fin_light S hb hd h4 g3⟩
    simp only [Sem.run_bind,g1,Result.andThen_ok];exact g2
  simp only [binV] at h3
  split at h3
  · rename_i k n _ m
    split at h3
    · cases h3
    · rename_i hm;cases h3
      refine fin (.int k (k.wrap (n*2 ^ (min m.toNat k.bits)))) ?_ ?_ ⟨rfl,rfl⟩
      · rw [hp.1,eqGuard_at_int];rfl
      · rw [hp.1,hq.1];simp [binOp,Op.shift,hm]
  · rename_i k n _ m
    split at h3
    · cases h3
    · rename_i hm;cases h3
      refine fin (.int k (n.fdiv (2 ^ (min m.toNat k.bits)))) ?_ ?_ ⟨rfl,rfl⟩
      · rw [hp.1,eqGuard_at_int];rfl
      · rw [hp.1,hq.1];simp [binOp,Op.shift,hm]
  · rename_i k n k' m hns1 hns2
    split at h3
    · rename_i hk;subst hk
      obtain ⟨v,g1,g2⟩:=intOp_ok (P:=P) (w:=w) (Φ:=Φ) (A:=AlOf w rv E) (t:=t) h3 ⟨fun hc=>hns1 hc,fun hc=>hns2 hc⟩
      refine fin v ?_ ?_ g2
      · rw [hp.1,eqGuard_at_int];rfl
      · rw [hp.1,hq.1];exact g1
    · cases h3
  · rename_i hnn
    simp only [Option.map_eq_some_iff] at h3
    obtain ⟨b,h5,rfl⟩:=h3
    obtain ⟨g1,g2,g3⟩:=eqV_ok h5 al_bor hp hq (fun k n k' m h1 h2=>hnn k n k' m h1 h2) .eql x y
    exact fin (.bool b) g1 (eql_run g3 g2).1 ⟨rfl,rfl⟩
  · rename_i hnn
    simp only [Option.map_eq_some_iff] at h3
    obtain ⟨b,h5,rfl⟩:=h3
    obtain ⟨g1,g2,g3⟩:=eqV_ok h5 al_bor hp hq (fun k n k' m h1 h2=>hnn k n k' m h1 h2) .neq x y
    exact fin (.bool !b) g1 (eql_run g3 g2).2 ⟨rfl,rfl⟩
  · cases h3
theorem field_ok (S:St w0 U Φ0 nt hv a w e Φ rv E L) (hb:Empty E) {d:Option Nat} (hd:∀ x,d=some x→x<nt) {t:TypeId} {x:Operand} {i:Nat} (hx:opdOk nt x=true) (h:(opField P d t x i).run o e=some e') :
    ∃ v,(Instr.field t (a.eval x) i).run P w = .ok v w∧Fr w0 U Φ0 nt hv (a.put d v) w e':=by
  obtain ⟨p,h1,hp⟩:=opd_ok S hx h
  obtain ⟨f,h2,h3⟩:=optM_run h1
  obtain ⟨sh,h4,h5⟩:=optM_run h3
  obtain ⟨q,h6,h7⟩:=optM_run h5
  have hpa:∃ cs,p = .agg cs:=by cases p<;>first | exact ⟨_,rfl⟩ | (cases sh<;>cases h6)
  obtain ⟨cs,rfl⟩:=hpa
  obtain ⟨vs,hv,hr⟩:=hp
  obtain ⟨u,h8,h9⟩:=part_ok (P:=P) h4 (p := .agg cs) ⟨vs,rfl,hr⟩ h6
  refine ⟨u,?_,fin_light S hb hd h7 h9⟩
  simp only [fieldOf] at h2
  cases ht:P.underlying t with
  | none=>rw [ht] at h2;cases h2
  | some td =>
    rw [ht] at h2
    cases td<;>simp only at h2<;>try (cases h2;done)
    rw [hv]
    simp only [Instr.field,Sem.run_bind,run_underlying ht,Result.andThen_ok,h2,asAgg,Sem.run_pure]
    exact h8
theorem index_ok (S:St w0 U Φ0 nt hv a w e Φ rv E L) (hb:Empty E) {d:Option Nat} (hd:∀ x,d=some x→x<nt) {t:TypeId} {x i:Operand} (hx:opdOk nt x=true) (hi:opdOk nt i=true) (h:(opIndex P d t x i).run o e=some e') :
    ∃ v,(Instr.index t (a.eval x) (a.eval i)).run P w = .ok v w∧Fr w0 U Φ0 nt hv (a.put d v) w e':=by
  obtain ⟨p,h1,hp⟩:=opd_ok S hx h
  obtain ⟨pi,h2,hpi⟩:=opd_ok S hi h1
  obtain ⟨ik,n,rfl,hn,h3⟩:=natIdx_run h2
  split at h3
  · rename_i len el ht
    split at h3
    · rename_i s sh hs hsh
      obtain ⟨hlt,h4⟩:=ite_run h3
      obtain ⟨q,h5,h6⟩:=optM_run h4
      have hpa:∃ cs,p = .agg cs:=by cases p<;>first | exact ⟨_,rfl⟩ | (cases sh<;>cases h5)
      obtain ⟨cs,rfl⟩:=hpa
      obtain ⟨vs,hv,hr⟩:=hp
      obtain ⟨u,h8,h9⟩:=part_ok (P:=P) hsh (p := .agg cs) ⟨vs,rfl,hr⟩ h5
      refine ⟨u,?_,fin_light S hb hd h6 h9⟩
      obtain ⟨ti,hti,_⟩:=shT_spec (w:=w) hsh
      have hsz:ti.size=s:=by simp only [szT,hti,Option.map_some,Option.some.injEq] at hs;exact hs
      subst hsz
      rw [hv,hpi.1]
      simp only [Instr.index,Sem.run_bind,asIntOf,Sem.run_pure,Result.andThen_ok,run_underlying ht,run_sizeOf' hti]
      rw [if_pos ⟨hn,by omega⟩]
      simp only [Sem.run_bind,run_sizeOf' hti,Result.andThen_ok]
      exact h8
    · cases h3
  · cases h3
theorem step_ok {p q:PV} {off:Nat} {sh:Option Nat} {v:Value} (h:stepAddr p off sh=some q) (hp:Rep w Φ (AlOf w rv E) p v []) :
    ∃ b,v = .pointer (some b)∧b.spot=none∧sh≠some 0∧Rep w Φ (AlOf w rv E) q (.pointer (some (cellOf b off))) []:=by
  have h0:sh≠some 0:=by intro hc;subst hc;cases h
  replace h:stepAt p off sh=some q:=by
    cases sh with
    | none=>exact h
    | some n=>cases n with
      | zero=>exact absurd rfl h0
      | succ n=>exact h
  cases p<;>simp only [stepAt] at h<;>try (cases h;done)
  case ref q0 =>
    obtain ⟨_,b,c,u,rfl,hsp,hΦ,hrow,hseg,⟨hsz,hag⟩,hr⟩:=hp
    refine ⟨b,rfl,hsp,h0,?_⟩
    cases hs:sub q0 off sh with
    | none=>rw [hs] at h;cases h
    | some x =>
      rw [hs] at h;simp only at h
      have hpart:∀ n,off+n≤q0.cells.length→seg c (b.off+off) n=(u.cells.toList.drop off).take n:=by
        intro n hn
        rw [← hseg]
        apply List.ext_getElem?
        intro k
        simp only [seg,List.getElem?_take,List.getElem?_drop]
        by_cases hk:k<n
        · rw [if_pos hk,if_pos hk,if_pos (by omega),Nat.add_assoc]
        · rw [if_neg hk,if_neg hk]
      cases q0<;>try (cases sh<;>cases hs;done)
      rename_i cs
      obtain ⟨vs,rfl,hr⟩:=hr
      have hlen:=hr.length
      cases sh with
      | some n =>
        simp only [sub] at hs
        split at hs
        · rename_i hle
          cases hs
          simp only [Option.isSome_some,Bool.true_or,cond_true,Option.some.injEq] at h
          subst h
          refine ⟨rfl,cellOf b off,c,.agg ((vs.toList.drop off).take n).toArray,rfl,rfl,hΦ,hrow,?_,⟨?_,rfl⟩,_,rfl,by simpa using reps_part_nil hr off n⟩
          · simp only [cellOf,PV.cells,Value.cells]
            rw [show ((cs.drop off).take n).length=n by simp;omega]
            exact hpart n hle
          · simp only [Value.cells,PV.cells];simp at hlen ⊢;omega
        · cases hs
      | none =>
        simp only [sub] at hs
        obtain ⟨u2,La,Li,Lb,hu,hL,hru,_,_⟩:=hr.split hs
        have:Li=[]:=by
          have:=congrArg List.length hL;simp at this
          exact List.eq_nil_of_length_eq_zero (by omega)
        subst this
        simp only [Option.isSome_none,Bool.false_or] at h
        cases hx1:x.oneCell with
        | false=>rw [hx1] at h;cases h
        | true =>
          rw [hx1] at h;simp only [cond_true,Option.some.injEq] at h;subst h
          have h1:=oneCell_cells (rep_oneCell (fun a v hw h=>al_oneCell hw h) hru hx1)
          have h2:=oneCell_pv hx1
          have hlt:off<cs.length:=(List.getElem?_eq_some_iff.1 hs).1
          refine ⟨rfl,cellOf b off,c,u2,rfl,rfl,hΦ,hrow,?_,⟨by rw [h1.1,h2.1];rfl,by rw [h1.2,h2.2]⟩,hru⟩
          rw [h1.1,h2.1]
          have:=hpart 1 (by simp only [PV.cells];omega)
          simp only [cellOf,List.length_singleton]
          rw [this]
          simp only [Value.cells]
          have hlt':off<vs.toList.length:=by omega
          rw [List.drop_eq_getElem_cons hlt']
          rw [List.getElem?_eq_getElem hlt'] at hu
          simp only [Option.some.injEq] at hu
          simp [← hu]
  case addr r pre i c s =>
    cases s with
    | none=>cases h
    | some s =>
      simp only [Option.some.injEq] at h;subst h
      obtain ⟨_,hg,b,rfl,hsp,hn⟩:=hp
      refine ⟨b,rfl,hsp,h0,rfl,hg,cellOf b off,rfl,rfl,fun nv np hf a' ha=>?_⟩
      have key:∃ a0,addrIn nv np i c=some a0∧a'=cellOf a0 off:=by
        cases np<;>try (simp [addrIn] at ha;done)
        · cases nv with
          | slice x _ _ =>
            cases x with
            | none=>cases ha
            | some x=>simp only [addrIn] at ha ⊢;cases ha;exact ⟨_,rfl,by simp [cellOf,Nat.add_assoc]⟩
          | pointer x=>cases x<;>cases ha
          | _=>cases ha
        · cases nv with
          | pointer x =>
            cases x with
            | none=>cases i<;>cases ha
            | some x=>cases i<;>simp only [addrIn] at ha ⊢ <;> cases ha;exact ⟨_,rfl,by simp [cellOf,Nat.add_assoc]⟩
          | slice x _ _=>cases x<;>cases ha
          | _=>cases ha
      obtain ⟨a0,h1,h2⟩:=key
      rw [h2,hn nv np hf a0 h1]
theorem fieldAddr_ok (S:St w0 U Φ0 nt hv a w e Φ rv E L) (hb:Empty E) {d:Option Nat} (hd:∀ x,d=some x→x<nt) {t:TypeId} {x:Operand} {i:Nat} (hx:opdOk nt x=true) (h:(opFieldAddr P d t x i).run o e=some e') :
    ∃ v,(Instr.fieldAt t (a.eval x) i).run P w = .ok v w∧Fr w0 U Φ0 nt hv (a.put d v) w e':=by
  obtain ⟨p,h1,hp⟩:=opd_ok S hx h
  obtain ⟨f,h2,h3⟩:=optM_run h1
  obtain ⟨sh,h4,h5⟩:=optM_run h3
  obtain ⟨q,h6,h7⟩:=optM_run h5
  obtain ⟨b,h8,h9,h10,h11⟩:=step_ok h6 hp
  obtain ⟨ti,hti,_,hs1,hs2⟩:=shT_spec (w:=w) h4
  refine ⟨_,?_,fin_light S hb hd h7 h11⟩
  have hsz:ti.size≠0:=by
    cases sh with
    | none=>rw [hs2 rfl];decide
    | some n=>rw [← hs1 n rfl];intro hc;subst hc;exact h10 rfl
  simp only [fieldOf] at h2
  cases ht:P.underlying t with
  | none=>rw [ht] at h2;cases h2
  | some td =>
    rw [ht] at h2
    cases td<;>simp only at h2<;>try (cases h2;done)
    rw [h8]
    simp only [Instr.fieldAt,Sem.run_bind,run_underlying ht,Result.andThen_ok,h2,Instr.sureAddr,Sem.run_pure,fieldPlace,run_sizeOf' hti,hsz,if_false,Sem.run_ite]
    rw [add_cell h9]
theorem szT_info {t:TypeId} {n:Nat} (h:szT P t=some n):∃ i,P.info? t=some i∧i.size=n:=by
  simp only [szT] at h
  cases hi:P.info? t with
  | none=>rw [hi] at h;cases h
  | some i=>rw [hi] at h;simp only [Option.map_some,Option.some.injEq] at h;exact ⟨i,rfl,h⟩
theorem idxSl_ok {el:TypeId} {p q:PV} {i:Nat} {v:Value} {d:Option Nat} {k:PV→PM} (h:(idxSl P d el p i).run o e=some e') (hp:Rep w Φ (AlOf w rv E) p v []) :
    ∃ ti b n c q,P.info? el=some ti∧v = .slice (some b) n c∧i<n∧(put d q).run o e=some e'∧Rep w Φ (AlOf w rv E) q (.pointer (some (b.add (i*ti.size)))) []:=by
  cases p<;>simp only [idxSl] at h<;>try (cases h;done)
  case sl xs =>
    obtain ⟨x,hx,h1⟩:=optM_run h
    obtain ⟨hs,h2⟩:=ite_run h1
    obtain ⟨ti,hti,hsz⟩:=szT_info hs
    obtain ⟨_,⟨h3,_⟩ | ⟨b,n,c,us,sz,rfl,hsp,hle,hΦ,hrow,hxs,⟨hu1,hu2⟩,hseg,hr⟩⟩:=hp
    · subst h3;simp at hx
    · have hlt:i<xs.length:=(List.getElem?_eq_some_iff.1 hx).1
      obtain ⟨u,La,Li,Lb,hu,hL,hru,_,_⟩:=hr.split hx
      have hLi:Li=[]:=by
        have:=congrArg List.length hL;simp at this
        exact List.eq_nil_of_length_eq_zero (by omega)
      subst hLi
      have hxl:=hxs x (List.mem_of_getElem? hx)
      have hul:=hu1 u (List.mem_of_getElem? hu)
      have hg:vAgg u=x.isAgg:=by
        have h1:(us.map vAgg)[i]? = some (vAgg u):=by simp [hu]
        have h2:(xs.map PV.isAgg)[i]? = some x.isAgg:=by simp [hx]
        rw [hu2] at h1;rw [h1] at h2;simpa using h2
      refine ⟨ti,b,xs.length,n,.ref x,hti,rfl,hlt,h2,rfl,cellOf b (i*sz),c,u,?_,rfl,hΦ,hrow,?_,⟨by omega,hg⟩,hru.mono Same.refl (fun _ _ _ h=>h.elim) (by simp)⟩
      · rw [add_cell hsp,hsz,hxl]
      · rw [hxl]
        refine seg_ext (by simpa using hul) fun k y hy=>?_
        have hf:=flat_get hu1 hu hy
        rw [← hseg] at hf
        have:=seg_get hf
        simp only [cellOf,Nat.add_assoc];exact this
  case bor r pre z lo n =>
    cases hsh:shT P el with
    | none=>rw [hsh] at h;cases h
    | some sh =>
      rw [hsh] at h;simp only at h
      obtain ⟨⟨hlt,hs⟩,h2⟩:=ite_run h
      obtain ⟨ti,hti,hsz⟩:=szT_info hs
      obtain ⟨_,hg,⟨x,cap,rfl,hcap,hnone,hspot⟩,hn⟩:=hp
      cases x with
      | none=>have:=hnone rfl;omega
      | some b =>
        refine ⟨ti,b,n,cap,_,hti,rfl,hlt,h2,rfl,hg,b.add (i*ti.size),rfl,by rw [add_cell (hspot b rfl)];rfl,fun nv np hf a' ha=>?_⟩
        have hh:np.heavy0=true:=by cases np<;>first | rfl | (simp [addrIn] at ha;done)
        obtain ⟨sz,xs,h3,h4,h5⟩:=hn nv np hf hh
        subst h3;subst h4
        cases nv<;>simp only [sliceIn] at h5
        rename_i y l c
        cases y with
        | none=>cases ha
        | some y =>
          simp only [sliceIn,Value.slice.injEq,Option.some.injEq] at h5
          simp only [addrIn,Option.some.injEq] at ha
          rw [← ha,add_cell (hspot b rfl),h5.1.1,hsz]
          simp [cellOf,Nat.add_mul,Nat.add_assoc]
  case bsl r pre j c0 s ag n =>
    obtain ⟨⟨hlt,hs⟩,h2⟩:=ite_run h
    obtain ⟨ti,hti,hsz⟩:=szT_info hs
    obtain ⟨_,hg,b,cap,rfl,hcap,hspot,hn⟩:=hp
    refine ⟨ti,b,n,cap,_,hti,rfl,hlt,h2,rfl,hg,b.add (i*ti.size),rfl,by rw [add_cell hspot];rfl,fun nv np hf a' ha=>?_⟩
    have key:∃ a0,addrIn nv np j c0=some a0∧a'=cellOf a0 (i*s):=by
      cases np<;>try (simp [addrIn] at ha;done)
      · cases nv with
        | slice x _ _ =>
          cases x with
          | none=>cases ha
          | some x=>simp only [addrIn] at ha ⊢;cases ha;exact ⟨_,rfl,by simp [cellOf,Nat.add_assoc]⟩
        | pointer x=>cases x<;>cases ha
        | _=>cases ha
      · cases nv with
        | pointer x =>
          cases x with
          | none=>cases j<;>cases ha
          | some x=>cases j<;>simp only [addrIn] at ha ⊢ <;> cases ha;exact ⟨_,rfl,by simp [cellOf,Nat.add_assoc]⟩
        | slice x _ _=>cases x<;>cases ha
        | _=>cases ha
    obtain ⟨a0,h3,h4⟩:=key
    rw [h4,add_cell hspot,hn nv np hf a0 h3,hsz]
theorem indexAddr_ok (S:St w0 U Φ0 nt hv a w e Φ rv E L) (hb:Empty E) {d:Option Nat} (hd:∀ x,d=some x→x<nt) {t:TypeId} {x i:Operand} (hx:opdOk nt x=true) (hi:opdOk nt i=true) (h:(opIndexAddr P d t x i).run o e=some e') :
    ∃ v,(Instr.indexAt t (a.eval x) (a.eval i)).run P w = .ok v w∧Fr w0 U Φ0 nt hv (a.put d v) w e':=by
  obtain ⟨p,h1,hp⟩:=opd_ok S hx h
  obtain ⟨pi,h2,hpi⟩:=opd_ok S hi h1
  obtain ⟨ik,n,rfl,hn,h3⟩:=natIdx_run h2
  rw [hpi.1]
  split at h3
  · rename_i len el ht
    simp only [idxArr] at h3
    split at h3
    · rename_i s sh hs hsh
      obtain ⟨hlt,h4⟩:=ite_run h3
      obtain ⟨q,h5,h6⟩:=optM_run h4
      obtain ⟨b,h7,h8,h9,h10⟩:=step_ok h5 hp
      obtain ⟨ti,hti,hsz⟩:=szT_info hs
      refine ⟨_,?_,fin_light S hb hd h6 h10⟩
      rw [h7]
      simp only [Instr.indexAt,Sem.run_bind,asIntOf,Sem.run_pure,Result.andThen_ok,run_underlying ht,Instr.sureAddr]
      rw [if_pos ⟨hn,by omega⟩]
      simp only [Sem.run_bind,run_sizeOf' hti,Result.andThen_ok,Sem.run_pure]
      rw [add_cell h8,hsz]
    · cases h3
  · rename_i el ht
    obtain ⟨ti,b,m,c,q,hti,hv',hlt,h4,h5⟩:=idxSl_ok (q := .bad) (k:=fun _ => .ok) h3 hp
    refine ⟨_,?_,fin_light S hb hd h4 h5⟩
    rw [hv']
    simp only [Instr.indexAt,Sem.run_bind,asIntOf,Sem.run_pure,Result.andThen_ok,run_underlying ht]
    rw [if_pos ⟨hn,by omega⟩]
    simp only [Sem.run_bind,run_sizeOf' hti,Result.andThen_ok,Sem.run_pure]
  · cases h3
theorem lenOf_ok {p:PV} {n:Nat} {v:Value} (h:lenOf p=some n) (hp:Rep w Φ (AlOf w rv E) p v []):∃ b c,v = .slice b n c:=by
  cases p<;>simp only [lenOf] at h<;>try (cases h;done)
  case nils=>cases h;exact ⟨_,_,hp.1⟩
  case sl xs =>
    cases h
    obtain ⟨_,⟨rfl,b,c,rfl⟩ | ⟨b,c,_,_,_,rfl,_⟩⟩:=hp
    · exact ⟨_,_,rfl⟩
    · exact ⟨_,_,rfl⟩
  case bor=>cases h;obtain ⟨_,_,⟨b,c,rfl,_⟩,_⟩:=hp;exact ⟨_,_,rfl⟩
  case bsl=>cases h;obtain ⟨_,_,b,c,rfl,_⟩:=hp;exact ⟨_,_,rfl⟩
theorem len_ok (S:St w0 U Φ0 nt hv a w e Φ rv E L) (hb:Empty E) {d:Option Nat} (hd:∀ x,d=some x→x<nt) {ty:TypeId} {ts:Array TypeId} {xs:Array Operand} (hx:∀ x∈xs.toList,opdOk nt x=true)
    (h:(builtinM P d .len ts.toList xs.toList).run o e=some e') :
    ∃ v,(Builtin.len_ ts ty (xs.map a.eval)).run P w = .ok v w∧Fr w0 U Φ0 nt hv (a.put d v) w e':=by
  obtain ⟨ts⟩:=ts;obtain ⟨xs⟩:=xs
  simp only at h hx
  rcases xs with _ | ⟨x,_ | ⟨y,xs⟩⟩<;>rcases ts with _ | ⟨t,ts⟩<;>try (cases h;done)
  obtain ⟨p,h1,hp⟩:=opd_ok S (hx x (by simp)) h
  split at h1
  · rename_i n el ht
    refine ⟨_,?_,fin_light S hb hd h1 ⟨rfl,rfl⟩⟩
    simp only [Builtin.len_,List.map_toArray,List.map_cons,List.map_nil,List.getElem?_toArray,List.getElem?_cons_zero,Sem.run_bind,run_underlying ht,Result.andThen_ok]
    cases a.eval x<;>rfl
  · rename_i el ht
    split at h1
    · rename_i n hn
      obtain ⟨b,c,hv'⟩:=lenOf_ok hn hp
      refine ⟨_,?_,fin_light S hb hd h1 ⟨rfl,rfl⟩⟩
      simp only [Builtin.len_,List.map_toArray,List.map_cons,List.map_nil,List.getElem?_toArray,List.getElem?_cons_zero,Sem.run_bind,run_underlying ht,Result.andThen_ok,hv']
      rfl
    · cases h1
  · cases h1
theorem maxFold {k:IntKind}:∀ (ps:List PV) (vs:List Value) (m:Int) (r:Option Int),Reps w Φ A ps vs [] →
    (ps.foldl (fun m p=>match m,p with
      | some m,.int k' b=>if k=k' then some (if b>m then b else m) else none
      | _,_=>none) (some m))=r→∀ z,r=some z→(vs.foldlM Builtin.max2 (.int k m)).run P w = .ok (.int k z) w
  | [],vs,m,r,hr,h,z,hz=>by rw [hr.1];simp only [List.foldl_nil] at h;rw [← h] at hz;cases hz;rfl
  | p :: ps,vs,m,r,hr,h,z,hz=>by
    obtain ⟨v,vs',L1,L2,rfl,hL,h1,h2⟩:=hr
    obtain ⟨rfl,rfl⟩:L1=[]∧L2=[]:=by simpa using hL.symm
    have dead:∀ qs:List PV,qs.foldl (fun m p=>match m,p with
      | some m,.int k' b=>if k=k' then some (if b>m then b else m) else none
      | _,_=>none) (none:Option Int)=none:=by
      intro qs;induction qs with
      | nil=>rfl
      | cons q qs ih=>simp only [List.foldl_cons];exact ih
    simp only [List.foldl_cons] at h
    cases p<;>try (simp only at h;rw [dead] at h;rw [← h] at hz;cases hz;done)
    rename_i k' b
    simp only at h
    split at h
    · rename_i hk;subst hk
      rw [h1.1]
      simp only [List.foldlM_cons,Builtin.max2,Sem.run_bind,Sem.run_pure,Result.andThen_ok]
      exact maxFold ps vs' _ r h2 h z hz
    · rw [dead] at h;rw [← h] at hz;cases hz
theorem minFold {k:IntKind}:∀ (ps:List PV) (vs:List Value) (m:Int) (r:Option Int),Reps w Φ A ps vs [] →
    (ps.foldl (fun m p=>match m,p with
      | some m,.int k' b=>if k=k' then some (if b<m then b else m) else none
      | _,_=>none) (some m))=r→∀ z,r=some z→(vs.foldlM Builtin.min2 (.int k m)).run P w = .ok (.int k z) w
  | [],vs,m,r,hr,h,z,hz=>by rw [hr.1];simp only [List.foldl_nil] at h;rw [← h] at hz;cases hz;rfl
  | p :: ps,vs,m,r,hr,h,z,hz=>by
    obtain ⟨v,vs',L1,L2,rfl,hL,h1,h2⟩:=hr
    obtain ⟨rfl,rfl⟩:L1=[]∧L2=[]:=by simpa using hL.symm
    have dead:∀ qs:List PV,qs.foldl (fun m p=>match m,p with
      | some m,.int k' b=>if k=k' then some (if b<m then b else m) else none
      | _,_=>none) (none:Option Int)=none:=by
      intro qs;induction qs with
      | nil=>rfl
      | cons q qs ih=>simp only [List.foldl_cons];exact ih
    simp only [List.foldl_cons] at h
    cases p<;>try (simp only at h;rw [dead] at h;rw [← h] at hz;cases hz;done)
    rename_i k' b
    simp only at h
    split at h
    · rename_i hk;subst hk
      rw [h1.1]
      simp only [List.foldlM_cons,Builtin.min2,Sem.run_bind,Sem.run_pure,Result.andThen_ok]
      exact minFold ps vs' _ r h2 h z hz
    · rw [dead] at h;rw [← h] at hz;cases hz
theorem max_ok (S:St w0 U Φ0 nt hv a w e Φ rv E L) (hb:Empty E) {d:Option Nat} (hd:∀ x,d=some x→x<nt) {ty:TypeId} {ts:Array TypeId} {xs:Array Operand} (hx:∀ x∈xs.toList,opdOk nt x=true)
    (h:(builtinM P d .max ts.toList xs.toList).run o e=some e'):∃ v,(Builtin.max_ ts ty (xs.map a.eval)).run P w = .ok v w∧Fr w0 U Φ0 nt hv (a.put d v) w e':=by
  simp only [builtinM] at h
  obtain ⟨ps,h1,hp⟩:=opds_ok S hx h
  cases hm:maxV ps with
  | none=>rw [hm] at h1;cases h1
  | some r =>
    rw [hm] at h1;simp only at h1
    rcases ps with _ | ⟨p,ps⟩<;>simp only [maxV] at hm<;>try (cases hm;done)
    cases p<;>simp only at hm<;>try (cases hm;done)
    rename_i k x0
    simp only [Option.map_eq_some_iff] at hm
    obtain ⟨z,hz,rfl⟩:=hm
    obtain ⟨v,vs',L1,L2,hvs,hL,g1,g2⟩:=hp
    obtain ⟨rfl,rfl⟩:L1=[]∧L2=[]:=by simpa using hL.symm
    refine ⟨.int k z,?_,fin_light S hb hd h1 ⟨rfl,rfl⟩⟩
    simp only [Builtin.max_,Array.toList_map,hvs]
    rw [g1.1]
    exact maxFold ps vs' x0 _ g2 hz z rfl
theorem min_ok (S:St w0 U Φ0 nt hv a w e Φ rv E L) (hb:Empty E) {d:Option Nat} (hd:∀ x,d=some x→x<nt) {ty:TypeId} {ts:Array TypeId} {xs:Array Operand} (hx:∀ x∈xs.toList,opdOk nt x=true)
    (h:(builtinM P d .min ts.toList xs.toList).run o e=some e'):∃ v,(Builtin.min_ ts ty (xs.map a.eval)).run P w = .ok v w∧Fr w0 U Φ0 nt hv (a.put d v) w e':=by
  simp only [builtinM] at h
  obtain ⟨ps,h1,hp⟩:=opds_ok S hx h
  cases hm:minV ps with
  | none=>rw [hm] at h1;cases h1
  | some r =>
    rw [hm] at h1;simp only at h1
    rcases ps with _ | ⟨p,ps⟩<;>simp only [minV] at hm<;>try (cases hm;done)
    cases p<;>simp only at hm<;>try (cases hm;done)
    rename_i k x0
    simp only [Option.map_eq_some_iff] at hm
    obtain ⟨z,hz,rfl⟩:=hm
    obtain ⟨v,vs',L1,L2,hvs,hL,g1,g2⟩:=hp
    obtain ⟨rfl,rfl⟩:L1=[]∧L2=[]:=by simpa using hL.symm
    refine ⟨.int k z,?_,fin_light S hb hd h1 ⟨rfl,rfl⟩⟩
    simp only [Builtin.min_,Array.toList_map,hvs]
    rw [g1.1]
    exact minFold ps vs' x0 _ g2 hz z rfl
end
end Go.Eng
namespace Go.Eng
open Go
section
variable {P:Program} {w0 w w':World} {U Φ0 Φ:Nat→Prop} {nt:Nat} {hv:Hid} {a:Act} {e e':Env} {rv rv':Nat→Value} {E E':Nat→PV} {L L':Nat→List Nat} {o:Oracle} {A:Al}
def rowed (w:World) (c:Array Value) (t:TypeId):World:={w with heap:=w.heap.push (.cells c t)}
theorem run_newRow' (t:TypeId) (c:Array Value):(newRow t c).run P w = .ok ⟨w.heap.size,0,none⟩ (rowed w c t):=by
  simp [newRow,rowed]
theorem rowed_old {c:Array Value} {t:TypeId} {b:Nat} (h:b<w.heap.size):(rowed w c t).heap[b]? = w.heap[b]?:=by
  simp only [rowed,Array.getElem?_push];rw [if_neg (by omega)]
theorem rowed_new {c:Array Value} {t:TypeId}:RowAt (rowed w c t) w.heap.size c:=⟨t,by show (w.heap.push (.cells c t))[w.heap.size]? = _;simp⟩
theorem rowed_size {c:Array Value} {t:TypeId}:(rowed w c t).heap.size=w.heap.size+1:=by simp [rowed]
theorem zero1_rep {p:PV} {v:Value} (h:zero1 p v=true):Rep w Φ A p v []∧p.oneCell=true∧v.oneCell'=true:=by
  cases p<;>cases v<;>simp only [zero1] at h<;>try (cases h;done)
  case int=>simp only [Bool.and_eq_true,decide_eq_true_eq] at h;obtain ⟨rfl,rfl⟩:=h;exact ⟨⟨rfl,rfl⟩,rfl,rfl⟩
  case bool=>simp only [beq_iff_eq] at h;subst h;exact ⟨⟨rfl,rfl⟩,rfl,rfl⟩
  case nilp.pointer a=>cases a<;>simp only [zero1] at h<;>first | (cases h;done) | exact ⟨⟨rfl,rfl⟩,rfl,rfl⟩
  case nilf=>exact ⟨⟨rfl,rfl⟩,rfl,rfl⟩
  case nilm.map a=>cases a<;>simp only [zero1] at h<;>first | (cases h;done) | exact ⟨⟨rfl,rfl⟩,rfl,rfl⟩
  case own.slice sz xs a n c =>
    cases xs with
    | cons _ _=>simp only [zero1] at h;cases h
    | nil =>
      cases a with
      | some _=>simp only [zero1] at h;cases h
      | none=>cases n<;>cases c<;>simp only [zero1] at h<;>first | (cases h;done) | exact ⟨.inl ⟨rfl,rfl,rfl⟩,rfl,rfl⟩
theorem zeros_rep:∀ {ps:List PV} {vs:List Value},zeros ps vs=true→Reps w Φ A ps vs []∧(∀ v∈vs,v.oneCell'=true)∧∀ p∈ps,p.oneCell=true
  | [],[],_=>⟨⟨rfl,rfl⟩,by simp,by simp⟩
  | [],_::_,h=>by cases h
  | _::_,[],h=>by cases h
  | p::ps,v::vs,h=>by
    simp only [zeros,Bool.and_eq_true] at h
    obtain ⟨h1,h2,h3⟩:=zero1_rep (w:=w) (Φ:=Φ) (A:=A) h.1
    obtain ⟨h4,h5,h6⟩:=zeros_rep h.2
    exact ⟨⟨v,vs,[],[],rfl,rfl,h1,h4⟩,fun x hx=>(List.mem_cons.1 hx).elim (fun e=>e▸h3) (h5 x),fun x hx=>(List.mem_cons.1 hx).elim (fun e=>e▸h2) (h6 x)⟩
theorem zeroIs_rep {p:PV} {v:Value} (h:zeroIs p v=true):Rep w Φ A p v []∧v.cells.size=p.cells.length∧vAgg v=p.isAgg∧(∀ u∈v.cells.toList,u.oneCell'=true)∧∀ q∈p.cells,q.oneCell=true:=by
  by_cases hp:∃ cs,p = .agg cs
  · obtain ⟨cs,rfl⟩:=hp
    cases v<;>simp only [zeroIs] at h<;>try (cases h;done)
    rename_i vs
    obtain ⟨h1,h2,h3⟩:=zeros_rep (w:=w) (Φ:=Φ) (A:=A) h
    have:=h1.length
    exact ⟨⟨vs,rfl,h1⟩,by simpa [Value.cells,PV.cells] using this,rfl,h2,h3⟩
  · have h:zero1 p v=true:=by
      rw [← h];cases p<;>first | rfl | exact absurd ⟨_,rfl⟩ hp
    obtain ⟨h1,h2,h3⟩:=zero1_rep (w:=w) (Φ:=Φ) (A:=A) h
    have h4:=oneCell_cells h3
    have h5:=oneCell_pv h2
    exact ⟨h1,by rw [h4.1,h5.1];rfl,by rw [h4.2,h5.2],by rw [h4.1];simpa using h3,by rw [h5.1];simpa using h2⟩
theorem zeroPV_ok {t:TypeId} {z:PV} (h:zeroPV P t=some z):∃ i v,P.info? t=some i∧i.zero=some v∧(∀ w:World,(zeroValue t).run P w = .ok v w)∧zeroIs z v=true:=by
  simp only [zeroPV] at h
  split at h
  · rename_i cs sh v _ _ hv
    cases hi:P.info? t with
    | none=>rw [hi] at hv;cases hv
    | some i =>
      rw [hi] at hv;simp only [Option.bind_some] at hv
      cases hz:zeroIs (ofCells sh cs) v with
      | false=>rw [hz] at h;cases h
      | true =>
        rw [hz] at h;simp only [cond_true,Option.some.injEq] at h
        subst h
        refine ⟨i,v,rfl,hv,fun w=>?_,hz⟩
        simp [zeroValue,typeInfo,hi,hv]
  · cases h
theorem St.boxed (S:St w0 U Φ0 nt hv a w e Φ rv E L) {g0 g:Nat} (hg0:ghost≤g0) (hg:ghost≤g) (hne:g≠g0) (hEg:E g = .bad) {v:Value} (hv':rv g0=v) (t:TypeId) (hsz:v.cells.size=(E g0).cells.length∧vAgg v=(E g0).isAgg) :
    ∃ rv1 E1 L1,St w0 U Φ0 nt hv a (rowed w v.cells t) e Φ rv1 E1 L1∧E1 g = .box (E g0)∧rv1 g = .pointer (some ⟨w.heap.size,0,none⟩)∧E1 g0 = .bad∧∀ s,ghost≤s→s≠g→s≠g0→E1 s=E s:=by
  have hrep:=S.conf.rep g0
  rw [hv'] at hrep
  have hold:∀ b∈L g0,(rowed w v.cells t).heap[b]? = w.heap[b]?:=fun b hb=>rowed_old (S.conf.own g0 b hb).1
  have hΦ:Same w (rowed w v.cells t) Φ Φ:=fun b hb=>⟨hb,rowed_old (S.conf.frz b hb).1⟩
  have hc:=S.conf.make (w':=rowed w v.cells t) (fun s=>s==g0) (fun s hs=>by have:=eq_of_beq hs;omega) hg (p := .box (E g0)) (v := .pointer (some ⟨w.heap.size,0,none⟩)) (Lp:=w.heap.size::L g0)
    (fun A hA=>⟨_,v.cells,v,L g0,rfl,rfl,rfl,rowed_new,by show (v.cells.toList.drop 0).take _=_;rw [← hsz.1];exact List.take_of_length_le (by simp),hsz,hrep.mono hΦ hA hold⟩)
    (List.nodup_cons.2 ⟨fun hm=>absurd (S.conf.own g0 _ hm).1 (Nat.lt_irrefl _),S.conf.nodup g0⟩)
    (fun b hb=>by
      rcases List.mem_cons.1 hb with rfl | hb
      · exact .inr ⟨Nat.le_refl _,by rw [rowed_size];omega⟩
      · exact .inl ⟨g0,hb,by simp⟩)
    (by rw [rowed_size];omega) (fun b hb _=>rowed_old hb) ⟨rfl,rfl,rfl⟩
  refine ⟨_,_,_,S.turn hc (fun s hs=>?_) (fun s hs=>upd_ne (by omega)) (fun d ps hd hp=>?_),upd_at,upd_at,?_,fun s h1 h2 h3=>?_⟩
  · rw [upd_ne (by omega)]
    have:(s==g0)=false:=by simp;omega
    simp only [this,Bool.false_eq_true,if_false];exact S.env s hs
  · simp only [ghost] at hg hg0
    rw [upd_ne (by omega)] at hp
    have:(d==g0)=false:=by simp;omega
    simp only [this,Bool.false_eq_true,if_false] at hp;exact ⟨ps,hp,rfl⟩
  · rw [upd_ne (Ne.symm hne)];simp
  · rw [upd_ne h2]
    have:(s==g0)=false:=by simp [h3]
    simp [this]
theorem alloc_ok (S:St w0 U Φ0 nt hv a w e Φ rv E L) (hb:Empty E) {d:Option Nat} (hd:∀ x,d=some x→x<nt) {t:TypeId} (h:(opAlloc P d t).run o e=some e') :
    ∃ v w',(Instr.alloc t true (.tuple #[])).run P w = .ok v w'∧Fr w0 U Φ0 nt hv (a.put d v) w' e':=by
  obtain ⟨z,hz,h1⟩:=optM_run h
  obtain ⟨i,v,hi,hiz,hrun,hzi⟩:=zeroPV_ok hz
  obtain ⟨hr,h2,h3,_⟩:=zeroIs_rep (w:=w) (Φ:=Φ) (A:=AlOf w rv E) hzi
  have S1:=S.hold (Nat.le_refl ghost) hr
  obtain ⟨rv1,E1,L1,S2,h4,h5,h6,h7⟩:=S1.boxed (g0:=ghost) (g:=ghost+1) (Nat.le_refl _) (by omega) (by omega) (by rw [upd_ne (by omega)];exact hb _ (by omega)) upd_at t (by rw [upd_at];exact ⟨h2,h3⟩)
  have:=put_ok S2 hd (g:=ghost+1) (by omega) (by rw [h4,upd_at];exact h1) (fun s hs hne=>by
      by_cases h8:s=ghost
      · subst h8;exact h6
      · rw [h7 s hs hne h8,upd_ne h8];exact hb s hs)
  rw [h5] at this
  refine ⟨_,_,?_,this⟩
  simp only [Instr.alloc,Sem.run_bind,hrun,Result.andThen_ok,newVar,run_newRow',Sem.run_pure]
theorem box_ok (S:St w0 U Φ0 nt hv a w e Φ rv E L) (hb:Empty E) {d:Option Nat} (hd:∀ x,d=some x→x<nt) {t:TypeId} {x:Operand} (hx:opdOk nt x=true) (h:(opBox P d t x).run o e=some e') :
    ∃ v w',(Instr.box t (a.eval x)).run P w = .ok v w'∧Fr w0 U Φ0 nt hv (a.put d v) w' e':=by
  obtain ⟨e1,rv1,E1,L1,h1,S1,h2,h3⟩:=opdT_ok S hx (Nat.le_refl ghost) h
  split at h1
  · rename_i sh n _ _
    obtain ⟨h4,h5⟩:=ite_run h1
    simp only [Bool.and_eq_true,decide_eq_true_eq] at h4
    have hrep:=S1.conf.rep ghost
    rw [h2] at hrep
    have hsz:(a.eval x).cells.size=(E1 ghost).cells.length∧vAgg (a.eval x)=(E1 ghost).isAgg:=by
      have hw:=h4.2
      simp only [PV.whole,Bool.or_eq_true] at hw
      rcases hw with hw | hw
      · cases hE:E1 ghost<;>rw [hE] at hw<;>simp [PV.isAgg] at hw
        rw [hE] at hrep
        obtain ⟨vs,hv',hr⟩:=hrep
        have:=hr.length
        rw [hv'];exact ⟨by simpa [Value.cells,PV.cells] using this,rfl⟩
      · have g1:=oneCell_cells (rep_oneCell (fun a v hw h=>al_oneCell hw h) hrep hw)
        have g2:=oneCell_pv hw
        exact ⟨by rw [g1.1,g2.1];rfl,by rw [g1.2,g2.2]⟩
    obtain ⟨rv2,E2,L2,S2,h6,h7,h8,h9⟩:=S1.boxed (g0:=ghost) (g:=ghost+1) (Nat.le_refl _) (by omega) (by omega) (by rw [(h3 (ghost+1) (by omega) (by omega)).1];exact hb _ (by omega)) h2 t hsz
    have:=put_ok S2 hd (g:=ghost+1) (by omega) (by rw [h6];exact h5) (fun s hs hne=>by
        by_cases h10:s=ghost
        · subst h10;exact h8
        · rw [h9 s hs hne h10,(h3 s hs h10).1];exact hb s hs)
    rw [h7] at this
    refine ⟨_,_,?_,this⟩
    simp only [Instr.box,Sem.run_bind,newVar,run_newRow',Result.andThen_ok,Sem.run_pure]
  · cases h1
theorem load_cells {t:TypeId} {sh:Option Nat} (hs:shT P t=some sh) {b:Addr} {u:Value} (hc:∀ j y,u.cells.toList[j]? = some y→w.cell? (b.add j)=some y) (hu:vAgg u=sh.isSome) (hn:u.cells.size=sh.getD 1) :
    (loadVar t b).run P w = .ok u w:=by
  obtain ⟨ti,hti,hagg,h1,h2⟩:=shT_spec (w:=w) hs
  cases sh with
  | some n =>
    have:=h1 n rfl;subst this
    cases u<;>simp [vAgg] at hu
    rename_i vs
    simp only [Option.getD_some,Value.cells] at hn
    have hl:=run_loadCells_list (P:=P) w b vs.toList hc
    have hl':(loadCells b ti.size).run P w = .ok vs w:=by rw [← hn];simpa using hl
    simp only [loadVar,Sem.run_bind,hagg,Result.andThen_ok,Option.isSome_some,if_true,run_sizeOf' hti,hl',Sem.run_pure,Sem.run_ite]
  | none =>
    have hu1:u.cells=#[u]:=by cases u<;>first | rfl | simp [vAgg] at hu
    have:=hc 0 u (by rw [hu1];rfl)
    have h0:b.add 0=b:=by simp [Addr.add]
    rw [h0] at this
    simp only [loadVar,Sem.run_bind,hagg,Result.andThen_ok,Option.isSome_none,Bool.false_eq_true,if_false,Sem.run_ite,run_load,this]
theorem cells_of_seg {b:Addr} {c:Array Value} {l:List Value} (hsp:b.spot=none) (hr:RowAny w b.block c) (h:seg c b.off l.length=l):∀ j y,l[j]? = some y→w.cell? (b.add j)=some y:=by
  intro j y hy
  rw [add_cell hsp]
  simp only [cellOf]
  rw [cell_row hr]
  rw [← h] at hy
  exact seg_get hy
theorem reps_one {q:List PV} {u:Value} {us:List Value} (h:Reps w Φ A q us []) (hl:us=[u]):Rep w Φ A (q.headD .bad) u []:=by
  subst hl
  cases q with
  | nil=>exact absurd h.1 (by simp)
  | cons p ps =>
    obtain ⟨v,vs',L1,L2,h1,h2,h3,_⟩:=h
    obtain ⟨rfl,rfl⟩:L1=[]∧L2=[]:=by simpa using h2.symm
    simp only [List.cons.injEq] at h1
    rw [h1.1];exact h3
theorem readM_ok (S:St w0 U Φ0 nt hv a w e Φ rv E L) {t:TypeId} {sh:Option Nat} (hs:shT P t=some sh) {r:Nat} {pre:Path} {i c:Nat} {s':Option Nat} {v:Value} (hp:Rep w Φ (AlOf w rv E) (.addr r pre i c s') v [])
    {k:PV→PM} (h:(readM r pre i c sh k).run o e=some e'):∃ b u q,v = .pointer (some b)∧(loadVar t b).run P w = .ok u w∧(k q).run o e=some e'∧Rep w Φ (AlOf w rv E) q u []:=by
  obtain ⟨_,hg,b,rfl,hsp,hn⟩:=hp
  refine ⟨b,?_⟩
  cases sh with
  | some n =>
    simp only [readM,PM.run] at h
    split at h
    · rename_i ag qs hq
      rw [← S.env r hg] at hq
      obtain ⟨nv,np,ad,us,h1,h2,h3,h4,h5,h6⟩:=S.conf.cells hg hq
      have:=hn nv np h1 ad h2;subst this
      cases ag with
      | false=>cases h
      | true =>
        refine ⟨.agg us.toArray,.agg qs,rfl,load_cells hs (fun j y hy=>h5 j y (by simpa [Value.cells] using hy)) rfl (by simpa [Value.cells] using h4),h,_,rfl,by simpa using h6⟩
    · cases h
  | none =>
    simp only [readM,PM.run] at h
    split at h
    · rename_i ag qs hq
      rw [← S.env r hg] at hq
      obtain ⟨nv,np,ad,us,h1,h2,h3,h4,h5,h6⟩:=S.conf.cells hg hq
      have:=hn nv np h1 ad h2;subst this
      match us,h4 with
      | [u],_ =>
        refine ⟨u,qs.headD .bad,rfl,?_,h,reps_one h6 rfl⟩
        have:=h5 0 u rfl
        rw [show b.add 0=b by simp [Addr.add]] at this
        obtain ⟨ti,hti,hagg,_⟩:=shT_spec (w:=w) hs
        simp only [loadVar,Sem.run_bind,hagg,Result.andThen_ok,Option.isSome_none,Bool.false_eq_true,if_false,Sem.run_ite,run_load,this]
    · cases h
theorem loadV_ok (S:St w0 U Φ0 nt hv a w e Φ rv E L) (hb:Empty E) {d:Option Nat} (hd:∀ x,d=some x→x<nt) {t:TypeId} {sh:Option Nat} (hs:shT P t=some sh) {p:PV} {v:Value} (hp:Rep w Φ (AlOf w rv E) p v []) (h:(loadV d sh p).run o e=some e') :
    ∃ u,(Instr.loadAt t v).run P w = .ok u w∧Fr w0 U Φ0 nt hv (a.put d u) w e':=by
  cases p<;>simp only [loadV] at h<;>try (cases h;done)
  case ref q =>
    obtain ⟨h1,h2⟩:=ite_run h
    simp only [Bool.and_eq_true,decide_eq_true_eq] at h1
    obtain ⟨_,b,c,u,rfl,hsp,hΦ,hrow,hseg,⟨hsz,hag⟩,hr⟩:=hp
    refine ⟨u,?_,fin_light S hb hd h2 hr⟩
    simp only [Instr.loadAt,Instr.sureAddr,Sem.run_bind,Sem.run_pure,Result.andThen_ok]
    refine load_cells hs (cells_of_seg hsp hrow ?_) ?_ ?_
    · rw [show u.cells.toList.length=q.cells.length by simpa using hsz];exact hseg
    · rw [hag,h1.1]
    · rw [hsz,h1.2]
  case addr r pre i c s' =>
    obtain ⟨b,u,q,rfl,h1,h2,h3⟩:=readM_ok S hs hp h
    refine ⟨u,?_,fin_light S hb hd h2 h3⟩
    simp only [Instr.loadAt,Instr.sureAddr,Sem.run_bind,Sem.run_pure,Result.andThen_ok]
    exact h1
end
end Go.Eng
namespace Go.Eng
open Go
section
variable {P:Program} {w0 w w':World} {U Φ0 Φ:Nat→Prop} {nt:Nat} {hv:Hid} {a:Act} {e e':Env} {rv rv':Nat→Value} {E E':Nat→PV} {L L':Nat→List Nat} {o:Oracle} {A:Al}
def Cov (w:World) (Φ:Nat→Prop) (rv:Nat→Value) (E:Nat→PV) (Φ1:Nat→Prop) (x:Nat×Path):Prop :=
  ∀ nv q Li A,follow w (rv x.1) (E x.1).unlock x.2=some (nv,q)→Rep w Φ A q nv Li→∀ b∈Li,Φ1 b
def alFrom (hb:Nat) (A:Al):Al:=fun a v=>A a v∧∀ x∈a.ways,hb≤x.1
structure Shown (w:World) (Φ:Nat→Prop) (rv:Nat→Value) (E:Nat→PV) (hb:Nat) (p:PV) (v:Value) (Lp:List Nat) (q:PV) (l:List (Nat×Path)):Prop where
  low:∀ x∈l,x.1<ghost∧x.1<hb
  agg:q.isAgg=p.isAgg
  len:q.cells.length=p.cells.length
  rep:∀ Φ1:Nat→Prop,(∀ b,Φ b→Φ1 b)→(∀ x∈l,Cov w Φ rv E Φ1 x)→(∀ b∈Lp,Φ1 b)→Rep w Φ1 (alFrom hb (AlOf w rv E)) q v []
structure Showns (w:World) (Φ:Nat→Prop) (rv:Nat→Value) (E:Nat→PV) (hb:Nat) (ps:List PV) (vs:List Value) (Lp:List Nat) (qs:List PV) (l:List (Nat×Path)):Prop where
  low:∀ x∈l,x.1<ghost∧x.1<hb
  len:qs.length=ps.length
  rep:∀ Φ1:Nat→Prop,(∀ b,Φ b→Φ1 b)→(∀ x∈l,Cov w Φ rv E Φ1 x)→(∀ b∈Lp,Φ1 b)→Reps w Φ1 (alFrom hb (AlOf w rv E)) qs vs []
theorem deep_run {r:Nat} {pre:Path} {k:PV→PM} (h:(PM.deep r pre k).run o e=some e'):∃ q,getNode (e.get r).unlock pre=some q∧(k q).run o e=some e':=by
  simp only [PM.run] at h
  cases hq:getNode (e.get r).unlock pre with
  | none=>rw [hq] at h;cases h
  | some q=>rw [hq] at h;exact ⟨q,rfl,h⟩
theorem resolves_ok {hb:Nat} {res:PV→(PV→List (Nat×Path)→PM)→PM}
    (hres:∀ p v Lp k,Rep w Φ (AlOf w rv E) p v Lp→(res p k).run o e=some e'→∃ q l,(k q l).run o e=some e'∧Shown w Φ rv E hb p v Lp q l) :
    ∀ (ps:List PV) (vs:List Value) (Lp:List Nat) (k:List PV→List (Nat×Path)→PM),Reps w Φ (AlOf w rv E) ps vs Lp→(resolves res ps k).run o e=some e'→∃ qs l,(k qs l).run o e=some e'∧Showns w Φ rv E hb ps vs Lp qs l
  | [],vs,Lp,k,h,hr=>⟨[],[],hr,⟨by simp,rfl,fun _ _ _ _=>⟨h.1,rfl⟩⟩⟩
  | p::ps,vs,Lp,k,h,hr=>by
    obtain ⟨v,vs',L1,L2,rfl,rfl,h1,h2⟩:=h
    simp only [resolves] at hr
    obtain ⟨q,l,h3,h4⟩:=hres p v L1 _ h1 hr
    obtain ⟨qs,m,h5,h6⟩:=resolves_ok hres ps vs' L2 _ h2 h3
    refine ⟨q::qs,l++m,h5,⟨fun x hx=>?_,by simp [h6.len],fun Φ1 g1 g2 g3=>⟨v,vs',[],[],rfl,rfl,h4.rep Φ1 g1 (fun x hx=>g2 x (by simp [hx])) (fun b hb=>g3 b (by simp [hb])),h6.rep Φ1 g1 (fun x hx=>g2 x (by simp [hx])) (fun b hb=>g3 b (by simp [hb]))⟩⟩⟩
    rcases List.mem_append.1 hx with hx | hx
    · exact h4.low x hx
    · exact h6.low x hx
theorem shown_plain {hb:Nat} {p:PV} {v:Value} {Lp:List Nat} (hp:Rep w Φ (AlOf w rv E) p v Lp) (hw:∀ x∈p.ways,hb≤x.1):Shown w Φ rv E hb p v Lp (freeze p) [] :=
  ⟨by simp,freeze_isAgg p,freeze_len p,fun Φ1 g1 _ g3=>(rep_freeze g1 p v Lp g3 hp).ways _ _ _ fun a v _ hx ha=>⟨ha,fun x hxa=>hw x (ways_freeze p x (hx x hxa))⟩⟩
theorem shown_self {hb:Nat} {p:PV} {v:Value} (hp:Rep w Φ (AlOf w rv E) p v []) (hw:∀ x∈p.ways,hb≤x.1):Shown w Φ rv E hb p v [] p [] :=
  ⟨by simp,rfl,rfl,fun Φ1 g1 _ g3=>(hp.mono (fun b hb=>⟨g1 b hb,rfl⟩) (fun _ _ _ h=>h) (by simp)).ways _ _ _ fun a v _ hx ha=>⟨ha,fun x hxa=>hw x (hx x hxa)⟩⟩
theorem empty_ways {hb:Nat} {l:List (Nat×Path)} (h:l.isEmpty=true):∀ x∈l,hb≤x.1:=by
  cases l with
  | nil=>simp
  | cons _ _=>cases h
theorem resolve_ok (S:St w0 U Φ0 nt hv a w e Φ rv E L) {hb:Nat}:∀ (n:Nat) (p:PV) (v:Value) (Lp:List Nat) (k:PV→List (Nat×Path)→PM),Rep w Φ (AlOf w rv E) p v Lp→(resolve hb n p k).run o e=some e' →
    ∃ q l,(k q l).run o e=some e'∧Shown w Φ rv E hb p v Lp q l
  | 0,p,v,Lp,k,hp,h=>by cases h
  | n + 1, p, v,Lp,k,hp,h=>by
    have ih:=resolve_ok S (hb:=hb) n
    have node:∀ r pre x,r<ghost→getNode (e.get r).unlock pre=some x→∃ nv Li,follow w (rv r) (E r).unlock pre=some (nv,x)∧Rep w Φ (AlOf w rv E) x nv Li∧∀ Φ1,Cov w Φ rv E Φ1 (r,pre)→∀ b∈Li,Φ1 b:=by
      intro r pre x hr hx
      rw [← S.env r hr] at hx
      obtain ⟨nv,Li,h1,_,h3⟩:=getNode_follow (rep_unlock (S.conf.rep r)) hx
      exact ⟨nv,Li,h1,h3.mono Same.refl (fun _ _ _ h=>alOn_le h) (fun _ _=>rfl),fun Φ1 hc b hb=>hc nv x Li _ h1 h3 b hb⟩
    have dflt:(∀ x∈p.ways,hb≤x.1)→(k (freeze p) []).run o e=some e'→∃ q l,(k q l).run o e=some e'∧Shown w Φ rv E hb p v Lp q l :=
      fun hw h=>⟨_,_,h,shown_plain hp hw⟩
    have dflt2:(bif p.ways.all (fun w=>Nat.ble hb w.1) then k (freeze p) [] else .fail).run o e=some e'→∃ q l,(k q l).run o e=some e'∧Shown w Φ rv E hb p v Lp q l:=by
      intro h
      obtain ⟨h1,h2⟩:=cond_run h
      exact dflt (fun x hx=>Nat.le_of_ble_eq_true (List.all_eq_true.1 h1 x hx)) h2
    have keep:∀ r,(∀ x∈p.ways,x.1=r)→Lp=[]→(k p []).run o e=some e'→Nat.ble hb r=true→∃ q l,(k q l).run o e=some e'∧Shown w Φ rv E hb p v Lp q l:=by
      intro r hw hL hk hr
      subst hL
      exact ⟨_,_,hk,shown_self hp fun x hx=>by rw [hw x hx];exact Nat.le_of_ble_eq_true hr⟩
    have hlow:∀ r,Nat.ble hb r=false→r<hb:=by
      intro r hr
      exact Nat.lt_of_not_le fun hle=>by rw [Nat.ble_eq_true_of_le hle] at hr;cases hr
    cases p<;>simp only [resolve] at h<;>try (exact dflt2 h)
    case agg cs =>
      cases hw:(PV.agg cs).ways.isEmpty with
      | true=>rw [hw] at h;exact dflt (empty_ways hw) h
      | false =>
        rw [hw] at h;simp only [cond_false] at h
        obtain ⟨vs,rfl,hr⟩:=hp
        obtain ⟨qs,l,h1,h2⟩:=resolves_ok ih cs _ Lp _ hr h
        exact ⟨_,_,h1,⟨h2.low,rfl,by simpa [PV.cells] using h2.len,fun Φ1 g1 g2 g3=>⟨vs,rfl,h2.rep Φ1 g1 g2 g3⟩⟩⟩
    case ref q =>
      have hL:=hp.1
      subst hL
      cases hw:q.ways.isEmpty with
      | true=>rw [hw] at h;exact ⟨_,_,h,shown_self hp (empty_ways hw)⟩
      | false =>
        rw [hw] at h;simp only [cond_false] at h
        obtain ⟨_,b,c,u,h1,h2,h3,h4,h5,h6,h7⟩:=hp
        obtain ⟨q',l,h8,h9⟩:=ih q u [] _ h7 h
        refine ⟨_,_,h8,⟨h9.low,rfl,rfl,fun Φ1 g1 g2 g3=>⟨rfl,b,c,u,h1,h2,g1 _ h3,h4,by rw [h9.len];exact h5,by rw [h9.len,h9.agg];exact h6,h9.rep Φ1 g1 g2 (by simp)⟩⟩⟩
    case func f x y =>
      have hL:=hp.1
      subst hL
      cases hw:(PV.func f x y).ways.isEmpty with
      | true=>rw [hw] at h;exact ⟨_,_,h,shown_self hp (empty_ways hw)⟩
      | false =>
        rw [hw] at h;simp only [cond_false] at h
        obtain ⟨_,fs,cs,h1,h2,h3⟩:=hp
        obtain ⟨qs,l,h4,h5⟩:=resolves_ok ih x _ [] _ h2 h
        obtain ⟨qs',m,h6,h7⟩:=resolves_ok ih y _ [] _ h3 h4
        refine ⟨_,_,h6,⟨fun z hz=>?_,rfl,rfl,fun Φ1 g1 g2 g3=>⟨rfl,fs,cs,h1,h5.rep Φ1 g1 (fun z hz=>g2 z (by simp [hz])) (by simp),h7.rep Φ1 g1 (fun z hz=>g2 z (by simp [hz])) (by simp)⟩⟩⟩
        rcases List.mem_append.1 hz with hz | hz
        · exact h5.low z hz
        · exact h7.low z hz
    case addr r pre i c sh =>
      have hL:=hp.1
      have ha:=hp.2
      cases hhb:Nat.ble hb r with
      | true=>rw [hhb] at h;exact keep r (by simp [PV.ways]) hL h hhb
      | false =>
        rw [hhb] at h;simp only [cond_false] at h
        obtain ⟨x,hx,h1⟩:=deep_run h
        obtain ⟨hg,ad,rfl,hsp,hn⟩:=ha
        obtain ⟨nv,Li,hf,hxr,hcov⟩:=node r pre x hg hx
        cases hh:hcells x with
        | none=>rw [hh] at h1;cases h1
        | some xs =>
          rw [hh] at h1;simp only at h1
          cases hi:xs[i]? with
          | none=>rw [hi] at h1;cases h1
          | some y =>
            rw [hi] at h1;simp only at h1
            obtain ⟨ux,row,ad0,Lx,k1,k2,k3,k4,k5,k6,k7,k8,k9⟩:=node_row hxr hh hi
            have had:=hn nv x hf _ (k5 c)
            subst had
            have k9':=k9.mono (A':=AlOf w rv E) Same.refl (fun _ _ _ h=>below_le h) (fun _ _=>rfl)
            cases sh with
            | some m =>
              simp only at h1
              obtain ⟨hc,h2⟩:=cond_run h1
              simp only [Bool.and_eq_true] at hc
              have hle:=Nat.le_of_ble_eq_true hc.1
              cases hya:y<;>rw [hya] at hc<;>try (simp [PV.isAgg] at hc;done)
              rename_i cs
              subst hya
              obtain ⟨vs,rfl,hr⟩:=k9'
              obtain ⟨Ly,hly,hry⟩:=part_blocks hr c m
              have hlen:=hr.length
              obtain ⟨q',l,h3,h4⟩:=ih (.agg ((cs.drop c).take m)) (.agg ((vs.toList.drop c).take m).toArray) Ly _ ⟨_,rfl,by simpa using hry⟩ h2
              have hq':q'.cells.length=m:=by rw [h4.len];simp [PV.cells] at hle ⊢;omega
              refine ⟨_,_,h3,⟨fun z hz=>?_,rfl,rfl,fun Φ1 g1 g2 g3=>?_⟩⟩
              · rcases List.mem_cons.1 hz with rfl | hz
                · exact ⟨hg,hlow r hhb⟩
                · exact h4.low z hz
              · have hc1:=hcov Φ1 (g2 _ (by simp))
                refine ⟨rfl,cellOf ad0 c,row,_,rfl,rfl,hc1 _ k1,k3.any,?_,⟨?_,?_⟩,h4.rep Φ1 g1 (fun z hz=>g2 z (by simp [hz])) fun b hb=>hc1 b (k4 b (hly b hb))⟩
                · rw [hq'];simp only [cellOf,Value.cells];rw [k6 c m hle];rfl
                · rw [hq'];simp [Value.cells,PV.cells] at hle hlen ⊢;omega
                · rw [h4.agg];rfl
            | none =>
              simp only at h1
              cases hc:y.cells[c]? with
              | none=>rw [hc] at h1;cases h1
              | some z =>
                rw [hc] at h1;simp only at h1
                obtain ⟨hz1,h2⟩:=cond_run h1
                obtain ⟨u,La,Lu,Lb,hu,hL',hru,_,_⟩:=k9'.cell hc k7
                obtain ⟨q',l,h3,h4⟩:=ih z u Lu _ hru h2
                have hu1:=oneCell_cells (rep_oneCell (fun a v hw h=>al_oneCell hw h) hru hz1)
                have hp1:=oneCell_pv hz1
                have hcl:c<y.cells.length:=(List.getElem?_eq_some_iff.1 hc).1
                refine ⟨_,_,h3,⟨fun z hz=>?_,rfl,rfl,fun Φ1 g1 g2 g3=>?_⟩⟩
                · rcases List.mem_cons.1 hz with rfl | hz
                  · exact ⟨hg,hlow r hhb⟩
                  · exact h4.low z hz
                · have hc1:=hcov Φ1 (g2 _ (by simp))
                  refine ⟨rfl,cellOf ad0 c,row,u,rfl,rfl,hc1 _ k1,k3.any,?_,⟨?_,?_⟩,h4.rep Φ1 g1 (fun z hz=>g2 z (by simp [hz])) fun b hb=>hc1 b (k4 b (by rw [hL'];simp [hb]))⟩
                  · rw [h4.len,hp1.1,hu1.1]
                    have:=k6 c 1 (by omega)
                    simp only [cellOf,List.length_singleton]
                    rw [this]
                    have hlt:c<ux.cells.toList.length:=by simpa [k8] using hcl
                    rw [List.drop_eq_getElem_cons hlt]
                    have:ux.cells.toList[c]=u:=by rw [List.getElem?_eq_getElem hlt] at hu;simpa using hu
                    simp [this]
                  · rw [h4.len,hp1.1,hu1.1];rfl
                  · rw [h4.agg,hp1.2,hu1.2]
    case bor r pre z lo m =>
      have hL:=hp.1
      have ha:=hp.2
      cases hhb:Nat.ble hb r with
      | true=>rw [hhb] at h;exact keep r (by simp [PV.ways]) hL h hhb
      | false =>
        rw [hhb] at h;simp only [cond_false] at h
        obtain ⟨x,hx,h1⟩:=deep_run h
        obtain ⟨hg,_,hn⟩:=ha
        obtain ⟨nv,Li,hf,hxr,hcov⟩:=node r pre x hg hx
        split at h1
        · rename_i sz xs
          obtain ⟨hc,h2⟩:=cond_run h1
          refine ⟨_,_,h2,⟨fun z hz=>?_,rfl,rfl,fun Φ1 g1 g2 g3=>?_⟩⟩
          · simp only [List.mem_singleton] at hz;subst hz;exact ⟨hg,hlow r hhb⟩
          · have:=inlineSl_rep (A':=alFrom hb (AlOf w rv E)) g1 hxr (hcov Φ1 (g2 _ (by simp))) (z:=z) (lo:=lo) (n:=m) (v:=v) fun sz' xs' hx'=>by
              obtain ⟨sz2,xs2,h7,h8,h9⟩:=hn nv _ hf rfl
              cases h7;cases hx';exact ⟨h8,h9⟩
            simp only [inlineSl,hc,cond_true] at this
            exact this
        · cases h1
    case bmap r pre =>
      have hL:=hp.1
      have ha:=hp.2
      cases hhb:Nat.ble hb r with
      | true=>rw [hhb] at h;exact keep r (by simp [PV.ways]) hL h hhb
      | false =>
        rw [hhb] at h;simp only [cond_false] at h
        obtain ⟨x,hx,h1⟩:=deep_run h
        obtain ⟨hg,_,hn⟩:=ha
        obtain ⟨nv,Li,hf,hxr,hcov⟩:=node r pre x hg hx
        split at h1
        · rename_i es
          refine ⟨_,_,h1,⟨fun z hz=>?_,rfl,rfl,fun Φ1 g1 g2 g3=>?_⟩⟩
          · simp only [List.mem_singleton] at hz;subst hz;exact ⟨hg,hlow r hhb⟩
          · exact inlineMap_rep (A':=alFrom hb (AlOf w rv E)) g1 hxr (hcov Φ1 (g2 _ (by simp))) (v:=v) fun es' hx'=>hn nv _ hf _ hx'
        · cases h1
    case bsl r pre i c sz ag m =>
      have hL:=hp.1
      have ha:=hp.2
      cases hhb:Nat.ble hb r with
      | true=>rw [hhb] at h;exact keep r (by simp [PV.ways]) hL h hhb
      | false =>
        rw [hhb] at h;simp only [cond_false] at h
        obtain ⟨x,hx,h1⟩:=deep_run h
        obtain ⟨hg,ad,cap,rfl,hcap,hsp,hn⟩:=ha
        obtain ⟨nv,Li,hf,hxr,hcov⟩:=node r pre x hg hx
        cases hh:hcells x with
        | none=>rw [hh] at h1;cases h1
        | some xs =>
          rw [hh] at h1;simp only at h1
          cases hi:xs[i]? with
          | none=>rw [hi] at h1;cases h1
          | some y =>
            rw [hi] at h1;simp only at h1
            obtain ⟨hc,h2⟩:=cond_run h1
            refine ⟨_,_,h2,⟨fun z hz=>?_,rfl,rfl,fun Φ1 g1 g2 g3=>?_⟩⟩
            · simp only [List.mem_singleton] at hz;subst hz;exact ⟨hg,hlow r hhb⟩
            · have:=inlineBsl_rep (A':=alFrom hb (AlOf w rv E)) (fun a v hw h=>al_log hw h) g1 hxr (hcov Φ1 (g2 _ (by simp))) (i:=i) (c:=c) (sz:=sz) (ag:=ag) (m:=m) (v := .slice (some ad) m cap) rfl hcap fun a' ha'=>hn nv x hf a' ha'
              simp only [inlineBsl,hh,hi,hc,cond_true] at this
              exact this
theorem share_ok (S:St w0 U Φ0 nt hv a w e Φ rv E L) {p:PV} {v:Value} {Lp:List Nat} {k:PV→List (Nat×Path)→PM} (hp:Rep w Φ (AlOf w rv E) p v Lp) (h:(share p k).run o e=some e') :
    ∃ q l,(k q l).run o e=some e'∧(∀ x∈l,x.1<ghost)∧∀ Φ1:Nat→Prop,(∀ b,Φ b→Φ1 b)→(∀ x∈l,Cov w Φ rv E Φ1 x)→(∀ b∈Lp,Φ1 b)→Rep w Φ1 noAl q v []:=by
  obtain ⟨q,l,h1,h2⟩:=resolve_ok S (hb:=ghost) depth p v Lp k hp h
  refine ⟨q,l,h1,fun x hx=>(h2.low x hx).1,fun Φ1 g1 g2 g3=>(h2.rep Φ1 g1 g2 g3).mono Same.refl (fun a v hw ha=>?_) (fun _ _=>rfl)⟩
  have hr:=al_root ha.1
  have:=ha.2 (rootOf a)
  cases a<;>first | (cases hw;done) | (exact ha.1.elim) | skip
  all_goals
    have:=this (by simp [PV.ways,rootOf])
    omega
theorem putCell_kind {p q' p':PV} {i c:Nat} (hp:putCell p i c q'=some p'):p'.unlock=p'∧p'.isTup=false:=by
  simp only [putCell] at hp
  cases p<;>simp only [helems,Option.bind_none,Option.bind_some] at hp<;>try cases hp
  case own sz xs =>
    cases hx:xs[i]?<;>rw [hx] at hp<;>simp [withElems] at hp
    subst hp;exact ⟨rfl,rfl⟩
  case box q =>
    cases i with
    | zero=>simp [withElems] at hp;subst hp;exact ⟨rfl,rfl⟩
    | succ i=>simp at hp
  case agg cs =>
    cases i with
    | zero=>simp [withElems,setCells] at hp;subst hp;exact ⟨rfl,rfl⟩
    | succ i=>simp at hp
theorem modNode_kind {q' p p':PV} (h1:q'.unlock=q') (h2:q'.isTup=false):∀ {pre:Path},modNode (fun _=>some q') p pre=some p'→p'.unlock=p'∧p'.isTup=false
  | [],h=>by simp only [modNode,Option.some.injEq] at h;subst h;exact ⟨h1,h2⟩
  | (i,c)::rest,h=>by
    rw [modNode_cons] at h
    cases hc:Eng.child p i c with
    | none=>rw [hc] at h;cases h
    | some q =>
      rw [hc] at h;simp only [Option.bind_some] at h
      cases hm:modNode (fun _=>some q') q rest with
      | none=>rw [hm] at h;cases h
      | some q1=>rw [hm] at h;exact putCell_kind (by simpa using h)
theorem freeze_kind (q:PV):(freeze q).unlock=freeze q∧(freeze q).isTup=false:=by cases q<;>exact ⟨rfl,rfl⟩
theorem isLock_unlock {p:PV} (h:p.isLock=false):p.unlock=p:=by cases p<;>first | rfl | cases h
theorem inl_tup (r:Nat) (pre:Path) (q p:PV) (hp:p.isWay=true):(inl r pre q p).isTup=false:=by
  have h:=(inl_tame r pre q).dull p hp
  have h1 : ∀ i c sh x,(inlineAt i c sh x).isTup=false:=by
    intro i c sh x
    simp only [inlineAt]
    split
    · split
      · split
        · cases (Nat.ble _ _&&PV.isAgg _)<;>rfl
        · split
          · rename_i q _;cases q.oneCell<;>rfl
          · rfl
      · rfl
    · rfl
  have h2:∀ lo n x,(inlineSl lo n x).isTup=false:=by
    intro lo n x
    cases x<;>try rfl
    simp only [inlineSl];cases Nat.ble _ _<;>rfl
  have h5:∀ i c sz ag m x,(inlineBsl i c sz ag m x).isTup=false:=by
    intro i c sz ag m x
    simp only [inlineBsl]
    split
    · split
      · cases (chunksOk ag sz m _&&_)<;>rfl
      · rfl
    · rfl
  have h3:∀ x,(inlineMap x).isTup=false:=by intro x;cases x<;>rfl
  have h4:∀ (o:Option PV) (f:PV→PV),(∀ x,(f x).isTup=false)→(atNode o f).isTup=false:=by
    intro o f hf;cases o with
    | none=>rfl
    | some x=>exact hf x
  cases p<;>first | (cases hp;done) | skip
  all_goals
    simp only [inl]
    first | rfl | skip
  all_goals
    cases isUnder r pre _ _<;>first | rfl | exact h4 _ _ (h1 _ _ _) | exact h4 _ _ (h2 _ _) | exact h4 _ _ h3 | exact h4 _ _ (h5 _ _ _ _ _)
theorem frz_ok (S:St w0 U Φ0 nt hv a w e Φ rv E L) (M:Nat→Bool) {r:Nat} {pre:Path} {q:PV} (hr:r<ghost) (hq:getNode (e.get r).unlock pre=some q) {k:PM} (h:(PM.frz r pre k).run o e=some e') :
    ∃ e1 Φ1 E1 L1,k.run o e1=some e'∧St w0 U Φ0 nt hv a w e1 Φ1 rv E1 L1∧(∀ b,Φ b→Φ1 b)∧(∀ s,ghost≤s→E1 s=(if M s then (E s).mapW (inl r pre q) else E s)∧L1 s=L s):=by
  simp only [PM.run] at h
  cases hf:e.frz r pre with
  | none=>rw [hf] at h;cases h
  | some e1 =>
    rw [hf] at h;simp only at h
    obtain ⟨q0,root,hl,hn,hm,hget⟩:=Env.frz_eq hf
    have hlk:=isLock_unlock hl
    rw [hlk,hn] at hq;simp only [Option.some.injEq] at hq;subst hq
    have hE:=S.env r hr
    obtain ⟨k1,k2⟩:=modNode_kind (freeze_kind q0).1 (freeze_kind q0).2 hm
    obtain ⟨nv,Li,L',h1,h2,h3,h4⟩:=S.conf.ice M hr (pre:=pre) (q:=q0) (root':=root) (by rw [hE];exact hlk) (by rw [hE];exact hn) (by rw [hE];exact hm) k1
    refine ⟨e1,_,_,L',h,S.turn h4 (fun s hs=>?_) (fun _ _=>rfl) (fun d ps hd hp=>?_),fun b hb => .inl hb,fun s hs=>⟨?_,h3 s (by omega)⟩⟩
    · simp only [hs,true_or,if_true]
      rw [hget s]
      by_cases hsr:s=r
      · subst hsr;simp
      · rw [if_neg hsr,if_neg hsr,S.env s hs]
    · have hdg:d<ghost:=by simp only [ghost];omega
      simp only [hdg,true_or,if_true] at hp
      obtain ⟨ps',h5,h6⟩:=dull_tup (inl_tup r pre q0) hp
      by_cases hdr:d=r
      · rw [if_pos hdr] at h5;rw [h5] at k2;cases k2
      · rw [if_neg hdr] at h5;exact ⟨ps',h5,h6⟩
    · have:¬ s<ghost:=by omega
      simp only [this,false_or]
      have hsr:s≠r:=by omega
      rw [if_neg hsr]
theorem find_none {l:List (Nat×Path)} {hb:Nat} (h:l.find? (fun w=>Nat.blt w.1 hb)=none):∀ x∈l,hb≤x.1:=by
  intro x hx
  have:=List.find?_eq_none.1 h x hx
  exact Nat.le_of_not_lt fun hlt=>this (Nat.ble_eq_true_of_le hlt)
theorem iceM_ok {hb g:Nat} (hg:ghost≤g) (hhb:hb≤ghost) {k:PV→PM}:∀ (n:Nat) {e:Env} {Φ:Nat→Prop} {E:Nat→PV} {L:Nat→List Nat},St w0 U Φ0 nt hv a w e Φ rv E L→(iceM hb n (E g) k).run o e=some e' →
    ∃ e1 Φ1 E1 L1,(k (E1 g)).run o e1=some e'∧St w0 U Φ0 nt hv a w e1 Φ1 rv E1 L1∧(∀ b,Φ b→Φ1 b)∧(∀ s,ghost≤s→s≠g→E1 s=E s)∧(∀ s,ghost≤s→L1 s=L s) ∧
      (∀ x∈(E1 g).ways,hb≤x.1)∧(E1 g).isAgg=(E g).isAgg∧(E1 g).cells.length=(E g).cells.length
  | 0,e,Φ,E,L,S,h=>by cases h
  | n + 1,e,Φ,E,L,S,h=>by
    simp only [iceM] at h
    split at h
    · rename_i hf
      exact ⟨e,Φ,E,L,h,S,fun _ h=>h,fun _ _ _=>rfl,fun _ _=>rfl,find_none hf,rfl,rfl⟩
    · rename_i r pre hf
      have hr:r<ghost:=by
        have:=List.find?_some hf
        have:r<hb:=Nat.le_of_ble_eq_true this
        omega
      obtain ⟨q,hq,h1⟩:=deep_run h
      obtain ⟨e1,Φ1,E1,L1,h2,S1,h3,h4⟩:=frz_ok S (fun s=>s==g) hr hq h1
      have hEg:E1 g=(E g).mapW (inl r pre q):=by simpa using (h4 g hg).1
      rw [← hEg] at h2
      obtain ⟨e2,Φ2,E2,L2,h5,S2,h6,h7,h8,h9,h10,h11⟩:=iceM_ok hg hhb n S1 h2
      refine ⟨e2,Φ2,E2,L2,h5,S2,fun b hb=>h6 b (h3 b hb),fun s hs hne=>?_,fun s hs=>(h8 s hs).trans (h4 s hs).2,h9,?_,?_⟩
      · rw [h7 s hs hne,(h4 s hs).1];simp [hne]
      · rw [h10,hEg,isAgg_mapW (inl_tame r pre q).agg]
      · rw [h11,hEg,cells_mapW (inl_tame r pre q).agg]
end
end Go.Eng
namespace Go.Eng
open Go
section
variable {w w':World} {Φ Φ':Nat→Prop} {A A':Al}
theorem Reps.append:∀ {ps qs:List PV} {us vs:List Value} {L M:List Nat},Reps w Φ A ps us L→Reps w Φ A qs vs M→Reps w Φ A (ps++qs) (us++vs) (L++M)
  | [],qs,us,vs,L,M,h,h'=>by obtain ⟨rfl,rfl⟩:=h;simpa using h'
  | p::ps,qs,us,vs,L,M,h,h'=>by
    obtain ⟨v,us',L1,L2,rfl,rfl,h1,h2⟩:=h
    exact ⟨v,us'++vs,L1,L2++M,rfl,by simp,h1,h2.append h'⟩
theorem Reps.cut:∀ {ps:List PV} {us:List Value} {L:List Nat} (n:Nat),Reps w Φ A ps us L→∃ L1 L2,L=L1++L2∧Reps w Φ A (ps.take n) (us.take n) L1∧Reps w Φ A (ps.drop n) (us.drop n) L2
  | ps,us,L,0,h=>⟨[],L,rfl,by simp [Reps],by simpa using h⟩
  | [],us,L,n+1,h=>by obtain ⟨rfl,rfl⟩:=h;exact ⟨[],[],rfl,by simp [Reps],by simp [Reps]⟩
  | p::ps,us,L,n+1,h=>by
    obtain ⟨v,us',L1,L2,rfl,rfl,h1,h2⟩:=h
    obtain ⟨M1,M2,rfl,h3,h4⟩:=h2.cut n
    exact ⟨L1++M1,M2,by simp,⟨v,_,L1,M1,rfl,rfl,h1,h3⟩,by simpa using h4⟩
theorem Reps.replace {ps:List PV} {us:List Value} {L:List Nat} (h:Reps w Φ A ps us L) (c n:Nat):∃ L1 L2 L3,L=L1++L2++L3 ∧
    ∀ {w':World} {Φ':Nat→Prop} {A':Al} {qs:List PV} {vs:List Value} {Lq:List Nat},(∀ a v,a.isWay=true→A a v→A' a v)→Same w w' Φ Φ'→(∀ b∈L1++L3,w'.heap[b]? = w.heap[b]?)→Reps w' Φ' A' qs vs Lq →
      Reps w' Φ' A' (ps.take c++qs++ps.drop (c+n)) (us.take c++vs++us.drop (c+n)) (L1++Lq++L3):=by
  obtain ⟨L1,L23,rfl,h1,h2⟩:=h.cut c
  obtain ⟨L2,L3,rfl,_,h3⟩:=h2.cut n
  rw [List.drop_drop,List.drop_drop] at h3
  refine ⟨L1,L2,L3,by simp,fun hA hs hb hq=>?_⟩
  exact ((h1.mono hs hA fun b h=>hb b (by simp [h])).append hq).append (h3.mono hs hA fun b h=>hb b (by simp [h]))
end
def splice (c:Array Value) (o:Nat) (vs:List Value):Array Value:=(c.toList.take o++vs++c.toList.drop (o+vs.length)).toArray
theorem splice_size {c:Array Value} {o:Nat} {vs:List Value} (h:o+vs.length≤c.size):(splice c o vs).size=c.size:=by
  simp [splice];omega
theorem list_splice {α:Type} {l:List α} {o:Nat} {vs:List α} (h:o+vs.length≤l.length) (k:Nat) :
    (l.take o++vs++l.drop (o+vs.length))[k]? = if k<o then l[k]? else if k<o+vs.length then vs[k-o]? else l[k]?:=by
  have ho:(l.take o).length=o:=by simp;omega
  have hov:(l.take o++vs).length=o+vs.length:=by simp;omega
  by_cases h1:k<o
  · rw [if_pos h1,List.getElem?_append_left (by omega),List.getElem?_append_left (by omega),List.getElem?_take,if_pos h1]
  · rw [if_neg h1]
    by_cases h2:k<o+vs.length
    · rw [if_pos h2,List.getElem?_append_left (by omega),List.getElem?_append_right (by omega),ho]
    · rw [if_neg h2,List.getElem?_append_right (by omega),hov,List.getElem?_drop,show o+vs.length+(k-(o+vs.length))=k by omega]
theorem seg_splice {c:Array Value} {o off m:Nat} {vs:List Value} (h1:off≤o) (h2:o+vs.length≤off+m) (h3:off+m≤c.size) :
    seg (splice c o vs) off m=(seg c off m).take (o-off)++vs++(seg c off m).drop (o-off+vs.length):=by
  have hsl:(seg c off m).length=m:=by simp [seg];omega
  apply List.ext_getElem?
  intro k
  rw [list_splice (by rw [hsl];omega)]
  simp only [seg,splice,List.getElem?_take,List.getElem?_drop]
  rw [list_splice (by simp;omega)]
  by_cases hk:k<m
  · simp only [hk,if_true]
    by_cases h4:off+k<o
    · have h6:k<o-off:=by omega
      simp only [h4,h6,if_true]
    · have h6:¬ k<o-off:=by omega
      simp only [h4,h6,if_false]
      by_cases h5:off+k<o+vs.length
      · have h7:k<o-off+vs.length:=by omega
        simp only [h5,h7,if_true]
        rw [show off+k-o=k-(o-off) by omega]
      · have h7:¬ k<o-off+vs.length:=by omega
        simp only [h5,h7,if_false]
  · have h6:¬ k<o-off:=by omega
    have h7:¬ k<o-off+vs.length:=by omega
    simp only [hk,h6,h7,if_false]
theorem seg_off {c:Array Value} {off m:Nat} {l:List Value} (h:seg c off m=l) (hl:l.length=m) (hm:m≠0):off+m≤c.size:=by
  rw [← h] at hl
  simp [seg] at hl;omega
theorem flat_append (us vs:List Value):flat (us++vs)=flat us++flat vs:=by simp [flat]
section
variable {w w':World} {Φ Φ':Nat→Prop} {A A':Al}
theorem elem_put {x:PV} {u:Value} {L:List Nat} (h:Rep w Φ A x u L) (hn:vAgg u=x.isAgg) {c:Nat} {qs:List PV} {vs:List Value} (hq:∀ q∈qs,q.oneCell=true) (hvs:∀ v∈vs,v.oneCell'=true) (hlen:vs.length=qs.length) (hc:c+qs.length≤x.cells.length) :
    ∃ u' L1 L2 L3,u'.cells.toList=u.cells.toList.take c++vs++u.cells.toList.drop (c+vs.length)∧vAgg u'=vAgg u∧L=L1++L2++L3∧(setCells x c qs).isAgg=x.isAgg∧(setCells x c qs).cells.length=x.cells.length ∧
      ∀ {w':World} {Φ':Nat→Prop} {A':Al} {Lq:List Nat},(∀ a v,a.isWay=true→A a v→A' a v)→Same w w' Φ Φ'→(∀ b∈L1++L3,w'.heap[b]? = w.heap[b]?)→Reps w' Φ' A' qs vs Lq →
        Rep w' Φ' A' (setCells x c qs) u' (L1++Lq++L3):=by
  cases hx:x.isAgg with
  | true =>
    cases x<;>simp [PV.isAgg] at hx
    rename_i cs
    obtain ⟨us,rfl,hr⟩:=h
    obtain ⟨L1,L2,L3,rfl,hk⟩:=hr.replace c qs.length
    have hul:=hr.length
    refine ⟨.agg (us.toList.take c++vs++us.toList.drop (c+vs.length)).toArray,L1,L2,L3,by simp [Value.cells],rfl,rfl,rfl,?_,fun hA hs hb hq=>⟨_,rfl,?_⟩⟩
    · simp [setCells,PV.cells] at hc ⊢;omega
    · have:=hk hA hs hb hq
      rw [hlen];simpa using this
  | false =>
    have hcs:x.cells=[x]:=by cases x<;>first | rfl | simp [PV.isAgg] at hx
    have hv:u.cells=#[u]:=by rw [hx] at hn;cases u<;>first | rfl | simp [vAgg] at hn
    rw [hcs] at hc ⊢
    match qs,vs,hlen,hq,hvs with
    | [],[],_,_,_ =>
      have he:setCells x c []=x:=by cases x<;>first | rfl | simp [PV.isAgg] at hx
      refine ⟨u,L,[],[],by simp,rfl,by simp,by rw [he];exact hx,by rw [he,hcs],fun hA hs hb hq=>?_⟩
      obtain ⟨_,rfl⟩:=hq
      rw [he];simpa using h.mono hs hA (fun b hb'=>hb b (by simp [hb']))
    | [q],[v],_,hq,hvs =>
      have hc0:c=0:=by simp at hc;exact hc
      subst hc0
      have he:setCells x 0 [q]=q:=by cases x<;>first | rfl | simp [PV.isAgg] at hx
      have h1:=oneCell_pv (hq q (by simp))
      have h2:=oneCell_cells (hvs v (by simp))
      refine ⟨v,[],L,[],by simp [hv,h2.1],by rw [h2.2,hn,hx],by simp,by rw [he];exact h1.2,by rw [he,h1.1];rfl,fun hA hs hb hq=>?_⟩
      obtain ⟨v',vs',L1,L2,h3,h4,h5,h6⟩:=hq
      obtain ⟨h7,h8⟩:=h6
      cases h3;subst h8
      rw [he,h4];simpa using h5
    | _::_::_,_,_,_,_=>simp only [List.length_cons,List.length_nil] at hc;omega
theorem set_splice {α:Type} {l:List α} {i:Nat} {x:α} (h:i<l.length):l.set i x=l.take i++[x]++l.drop (i+1):=by
  rw [List.set_eq_take_append_cons_drop,if_pos h];simp
theorem node_put {np q':PV} {nv:Value} {Li:List Nat} (h:Rep w Φ A np nv Li) {xs:List PV} (hx:hcells np=some xs) {i c:Nat} {x:PV} (hi:xs[i]? = some x) {qs:List PV} {vs:List Value}
    (hq:∀ q∈qs,q.oneCell=true) (hvs:∀ v∈vs,v.oneCell'=true) (hlen:vs.length=qs.length) (hne:qs.length≠0) (hc:c+qs.length≤x.cells.length) (hw:withElems np (xs.set i (setCells x c qs))=some q') :
    ∃ ad row La Lm Lb,addrIn nv np i c=some ad∧ad.spot=none∧RowAt w ad.block row∧ad.off+vs.length≤row.size∧Li=ad.block::(La++Lm++Lb) ∧
      ∀ {w':World} {Φ':Nat→Prop} {A':Al} {Lq:List Nat},(∀ a v,a.isWay=true→A a v→A' a v)→Same w w' Φ Φ'→(∀ b∈La++Lb,w'.heap[b]? = w.heap[b]?)→RowAt w' ad.block (splice row ad.off vs)→Reps w' Φ' (below A' np) qs vs Lq →
        Rep w' Φ' A' q' nv (ad.block::(La++Lq++Lb)):=by
  have hil:i<xs.length:=(List.getElem?_eq_some_iff.1 hi).1
  cases np<;>simp only [hcells] at hx<;>try cases hx
  case own sz =>
    obtain ⟨h1,h2,h3⟩ | ⟨a,n,r,us,L',rfl,h1,h2,h3,h4,h5,h6,⟨h7,h7'⟩,h8,h9⟩:=h
    · subst h1;simp at hi
    · simp only [withElems,Option.some.injEq] at hw;subst hw
      have husl:us.length=xs.length:=by have:=congrArg List.length h7';simpa using this
      obtain ⟨Ka,K23,rfl,hA1,hB⟩:=h9.cut i
      have hilu:i<us.length:=by omega
      have hxe:xs[i]=x:=by rw [List.getElem?_eq_getElem hil] at hi;simpa using hi
      rw [List.drop_eq_getElem_cons hil,List.drop_eq_getElem_cons hilu,hxe] at hB
      obtain ⟨u,us2,Lx,Kb,hue,rfl,hr,hB⟩:=hB
      simp only [List.cons.injEq] at hue
      obtain ⟨hu0,rfl⟩:=hue
      have hu:us[i]? = some u:=by rw [List.getElem?_eq_getElem hilu,hu0]
      have hg:vAgg u=x.isAgg:=by
        have h1:(us.map vAgg)[i]? = some (vAgg u):=by simp [hu]
        have h2:(xs.map PV.isAgg)[i]? = some x.isAgg:=by simp [hi]
        rw [h7'] at h1;rw [h1] at h2;simpa using h2
      have hxl:=h6 x (List.mem_of_getElem? hi)
      have hul:=h7 u (List.mem_of_getElem? hu)
      obtain ⟨u',L1,L2,L3,k1,k2,rfl,k4,k5,k6⟩:=elem_put hr hg hq hvs hlen hc
      have hmul:i*sz+sz≤xs.length*sz:=by rw [← Nat.succ_mul];exact Nat.mul_le_mul_right _ hil
      have hnsz:xs.length*sz≤n*sz:=Nat.mul_le_mul_right _ h3
      have hroom:a.off+(i*sz+c)+vs.length≤r.size:=by rw [hlen];omega
      refine ⟨cellOf a (i*sz+c),r,Ka++L1,L2,L3++Kb,by rw [h1];rfl,rfl,h4,hroom,by simp [cellOf],@fun w' Φ' A' Lq hA hs hb hrow hqs=>?_⟩
      have hset:xs.set i (setCells x c qs)=xs.take i++([setCells x c qs]++xs.drop (i+1)):=by rw [set_splice hil];simp
      have hsetu:us.set i u'=us.take i++([u']++us.drop (i+1)):=by rw [set_splice hilu];simp
      refine .inr ⟨a,n,_,us.set i u',(Ka++(L1++Lq++L3)++Kb),by simp [cellOf],by simpa using h1,h2,by simpa using h3,hrow,?_,?_,⟨?_,?_⟩,?_,?_⟩
      · show a.off+n*sz≤(splice r (a.off+(i*sz+c)) vs).size
        rw [splice_size hroom];exact h5
      · intro y hy
        rcases List.mem_or_eq_of_mem_set hy with hy | hy
        · exact h6 y hy
        · rw [hy,k5];exact hxl
      · intro y hy
        rcases List.mem_or_eq_of_mem_set hy with hy | hy
        · exact h7 y hy
        · rw [hy]
          have:=congrArg List.length k1
          simp at this
          omega
      · rw [map_set_same hi k4,map_set_same hu k2,h7']
      · have hfl:flat us=flat (us.take i)++(u.cells.toList++flat (us.drop (i+1))):=by
          conv=>lhs;rw [← List.take_append_drop i us,List.drop_eq_getElem_cons hilu,hu0]
          rw [flat_append,flat_cons]
        have hti:(flat (us.take i)).length=i*sz:=by
          rw [flat_length (fun y hy=>h7 y (List.mem_of_mem_take hy)),List.length_take,Nat.min_eq_left (by omega)]
        have hucl:u.cells.toList.length=sz:=by simpa using hul
        rw [List.length_set]
        show seg (splice r (cellOf a (i*sz+c)).off vs) a.off (xs.length*sz)=_
        simp only [cellOf]
        rw [seg_splice (by omega) (by rw [hlen];omega) (by omega),h8,show a.off+(i*sz+c)-a.off=i*sz+c by omega]
        rw [hsetu,flat_append,flat_append,hfl]
        have e1:(flat (us.take i)++(u.cells.toList++flat (us.drop (i+1)))).take (i*sz+c)=flat (us.take i)++u.cells.toList.take c:=by
          rw [List.take_append,hti,List.take_of_length_le (by omega),show i*sz+c-i*sz=c by omega,List.take_append_of_le_length (by omega)]
        have e2:(flat (us.take i)++(u.cells.toList++flat (us.drop (i+1)))).drop (i*sz+c+vs.length)=u.cells.toList.drop (c+vs.length)++flat (us.drop (i+1)):=by
          rw [List.drop_append,hti,List.drop_of_length_le (by omega),show i*sz+c+vs.length-i*sz=c+vs.length by omega,List.drop_append_of_le_length (by omega)];rfl
        rw [e1,e2]
        have e3:flat [u']=u'.cells.toList:=by simp [flat]
        rw [e3,k1];simp
      · rw [hset,hsetu]
        have hx':=k6 (fun a v _ h=>h) (Φ':=_) hs (fun b h=>hb b (by simp at h ⊢;rcases h with h | h<;>simp [h])) hqs
        have:=(hA1.mono hs (fun _ _ _ h=>h) (fun b h=>hb b (by simp [h]))).append ((show Reps _ _ noAl [setCells x c qs] [u'] _ from ⟨u',[],_,[],rfl,rfl,hx',rfl,rfl⟩).append (hB.mono hs (fun _ _ _ h=>h) (fun b h=>hb b (by simp [h]))))
        simpa using this
  case box q0 =>
    obtain ⟨a,r,u0,L',rfl,h1,h2,h4,h5,⟨h6,h6'⟩,h7⟩:=h
    have hi0:i=0:=by simpa using hil
    subst hi0;simp at hi;subst hi
    simp only [List.set_cons_zero,withElems,Option.some.injEq] at hw;subst hw
    obtain ⟨u',L1,L2,L3,k1,k2,rfl,k4,k5,k6⟩:=elem_put h7 h6' hq hvs hlen hc
    have hul:u0.cells.toList.length=q0.cells.length:=by simpa using h6
    have hr':a.off+q0.cells.length≤r.size:=seg_off h5 hul (by omega)
    refine ⟨cellOf a c,r,L1,L2,L3,by rw [h1];rfl,rfl,h4,by simp only [cellOf];omega,by simp [cellOf],fun hA hs hb hrow hqs=>?_⟩
    refine ⟨a,_,u',_,rfl,h1,h2,hrow,?_,⟨?_,?_⟩,k6 hA hs hb hqs⟩
    · rw [k5]
      simp only [cellOf]
      rw [seg_splice (by omega) (by omega) (by omega),h5,show a.off+c-a.off=c by omega,k1]
    · rw [k5]
      have:=congrArg List.length k1
      simp at this hul
      omega
    · rw [k2,k4,h6']
theorem node_base {np:PV} {nv:Value} {Li:List Nat} (h:Rep w Φ A np nv Li) {xs:List PV} (hx:hcells np=some xs) {i:Nat} {x:PV} (hi:xs[i]? = some x) :
    ∃ M ux Lx ad,Li=ad.block::M∧(∀ c,addrIn nv np i c=some (cellOf ad c))∧Rep w Φ (below A np) x ux Lx∧(∀ b∈Lx,b∈M)∧vAgg ux=x.isAgg∧∀ k u,ux.cells.toList[k]? = some u→kid w nv np i k=some u:=by
  cases np<;>simp only [hcells] at hx<;>try cases hx
  case own sz =>
    obtain ⟨h1,h2,h3⟩ | ⟨a,n,r,us,L',rfl,h1,h2,h3,h4,h5,h6,⟨h7,h7'⟩,h8,h9⟩:=h
    · subst h1;simp at hi
    · obtain ⟨ux,La,Lx,Lb,hu,rfl,hr,_,_⟩:=h9.split hi
      have hg:vAgg ux=x.isAgg:=by
        have h1:(us.map vAgg)[i]? = some (vAgg ux):=by simp [hu]
        have h2:(xs.map PV.isAgg)[i]? = some x.isAgg:=by simp [hi]
        rw [h7'] at h1;rw [h1] at h2;simpa using h2
      subst h1
      refine ⟨_,ux,Lx,cellOf a (i*sz),rfl,fun c=>by simp [addrIn,cellOf,Nat.add_assoc],hr,fun b hb=>by simp [hb],hg,fun k u hk=>?_⟩
      have hf:=flat_get h7 hu hk
      rw [← h8] at hf
      have:=seg_get hf
      simp only [kid,cellOf]
      rw [cell_row h4.any];exact this
  case box q0 =>
    obtain ⟨a,r,u0,L',rfl,h1,h2,h4,h5,⟨h6,h6'⟩,h7⟩:=h
    have hi0:i=0:=by
      cases i with
      | zero=>rfl
      | succ i=>simp at hi
    subst hi0;simp at hi;subst hi
    subst h1
    refine ⟨L',u0,L',a,rfl,fun c=>rfl,h7,fun b hb=>hb,h6',fun k u hk=>?_⟩
    have:=seg_get (c:=r) (o:=a.off) (n:=q0.cells.length) (k:=k) (u:=u) (by rw [h5];exact hk)
    simp only [kid,cellOf]
    rw [cell_row h4.any];exact this
end
mutual
theorem mapW_mapW {f g:PV→PV}:∀ p:PV,(p.mapW f).mapW g=p.mapW fun a=>(f a).mapW g
  | .agg cs=>by rw [PV.mapW,PV.mapW,PV.mapW,mapWs_mapW]
  | .tup cs=>by rw [PV.mapW,PV.mapW,PV.mapW,mapWs_mapW]
  | .func h a b=>by rw [PV.mapW,PV.mapW,PV.mapW,mapWs_mapW,mapWs_mapW]
  | .ref q=>by rw [PV.mapW,PV.mapW,PV.mapW,mapW_mapW]
  | .box q=>by rw [PV.mapW,PV.mapW,PV.mapW,mapW_mapW]
  | .lock q=>by rw [PV.mapW,PV.mapW,PV.mapW,mapW_mapW]
  | .addr .. => rfl
  | .bor .. => rfl
  | .bsl .. => rfl
  | .bmap .. => rfl
  | .yld .. => rfl
  | .log .. => rfl
  | .bad=>rfl
  | .und=>rfl
  | .int .. => rfl
  | .bool .. => rfl
  | .nilp=>rfl
  | .nilf=>rfl
  | .nilm=>rfl
  | .nils _=>rfl
  | .sl _=>rfl
  | .own .. => rfl
  | .map _=>rfl
  | .omap _=>rfl
theorem mapWs_mapW {f g:PV→PV}:∀ ps:List PV,mapWs g (mapWs f ps)=mapWs (fun a=>(f a).mapW g) ps
  | []=>rfl
  | p::ps=>by rw [mapWs,mapWs,mapWs,mapW_mapW,mapWs_mapW]
end
mutual
theorem mapW_congr {f g:PV→PV} (h:∀ a,a.isWay=true→f a=g a):∀ p:PV,p.mapW f=p.mapW g
  | .agg cs=>by rw [PV.mapW,PV.mapW,mapWs_congr h]
  | .tup cs=>by rw [PV.mapW,PV.mapW,mapWs_congr h]
  | .func k a b=>by rw [PV.mapW,PV.mapW,mapWs_congr h,mapWs_congr h b]
  | .ref q=>by rw [PV.mapW,PV.mapW,mapW_congr h]
  | .box q=>by rw [PV.mapW,PV.mapW,mapW_congr h]
  | .lock q=>by rw [PV.mapW,PV.mapW,mapW_congr h]
  | .addr .. => h _ rfl
  | .bor .. => h _ rfl
  | .bsl .. => h _ rfl
  | .bmap .. => h _ rfl
  | .yld .. => rfl
  | .log .. => h _ rfl
  | .bad=>rfl
  | .und=>rfl
  | .int .. => rfl
  | .bool .. => rfl
  | .nilp=>rfl
  | .nilf=>rfl
  | .nilm=>rfl
  | .nils _=>rfl
  | .sl _=>rfl
  | .own .. => rfl
  | .map _=>rfl
  | .omap _=>rfl
theorem mapWs_congr {f g:PV→PV} (h:∀ a,a.isWay=true→f a=g a):∀ ps:List PV,mapWs f ps=mapWs g ps
  | []=>rfl
  | p::ps=>by rw [mapWs,mapWs,mapW_congr h,mapWs_congr h]
end
def killF (r:Nat) (pre:Path) (i:Nat):Nat→List PV→PV→PV
  | _,[],a=>a
  | c,q::qs,a=>bif q.heavy then (if (lose r (pre++[(i,c)]) a).isWay=true then killF r pre i (c+1) qs a else lose r (pre++[(i,c)]) a) else killF r pre i (c+1) qs a
theorem killF_or (r:Nat) (pre:Path) (i:Nat):∀ (qs:List PV) (c:Nat) (p:PV),killF r pre i c qs p=p∨(p.isWay=true∧killF r pre i c qs p = .bad)
  | [],c,p => .inl rfl
  | q :: qs,c,p=>by
    simp only [killF]
    cases hq:q.heavy with
    | false=>exact killF_or r pre i qs (c+1) p
    | true =>
      simp only [cond_true]
      split
      · exact killF_or r pre i qs (c+1) p
      · exact lose_or r (pre++[(i,c)]) p
theorem killNew_run {o:Oracle} {r:Nat} {pre:Path} {i:Nat} {k:PM} {e':Env}:∀ (qs:List PV) (c:Nat) {e:Env},(killNew r pre i c qs k).run o e=some e' →
    ∃ e1,k.run o e1=some e'∧∀ s,e1.get s=(e.get s).mapW (killF r pre i c qs)
  | [],c,e,h=>⟨e,h,fun s=>by rw [show killF r pre i c []=fun x=>x from rfl,mapW_id]⟩
  | q :: qs,c,e,h=>by
    simp only [killNew] at h
    cases hq:q.heavy with
    | false =>
      rw [hq] at h
      obtain ⟨e1,h1,h2⟩:=killNew_run qs (c+1) h
      refine ⟨e1,h1,fun s=>?_⟩
      rw [h2 s];exact mapW_congr (fun a _=>by simp [killF,hq]) _
    | true =>
      rw [hq] at h;simp only [cond_true,PM.run] at h
      obtain ⟨e1,h1,h2⟩:=killNew_run qs (c+1) h
      refine ⟨e1,h1,fun s=>?_⟩
      rw [h2 s,Env.get_kill,mapW_mapW]
      refine mapW_congr (fun a ha=>?_) _
      simp only [killF,hq,cond_true]
      rcases lose_or r (pre++[(i,c)]) a with h3 | ⟨_,h3⟩
      · rw [h3,if_pos ha,way_mapW ha]
      · rw [h3];rfl
theorem killF_kills {r:Nat} {pre:Path} {i:Nat}:∀ (qs:List PV) (c j:Nat) {q:PV},qs[j]? = some q→q.heavy=true→∀ a,a.isWay=true→∀ rest,rootOf a=(r,pre++(i,c+j)::rest)→(∀ h,a ≠ .yld h)→(∀ xs k,a ≠ .log xs k)→killF r pre i c qs a≠a
  | [],_,_,_,h,_,_,_,_,_,_,_=>by simp at h
  | q0::qs,c,0,q,h,hh,a,ha,rest,hr,hy,hl=>by
    simp at h;subst h
    simp only [killF,hh,cond_true]
    have hlose:lose r (pre++[(i,c)]) a = .bad:=by
      have hp:(pre++[(i,c)]).isPrefixOf (pre++(i,c)::rest)=true:=by
        rw [List.isPrefixOf_iff_prefix];exact ⟨rest,by simp⟩
      cases a<;>first | (cases ha;done) | (exact absurd rfl (hy _)) | (exact absurd rfl (hl _ _)) | skip
      all_goals
        simp only [rootOf,Nat.add_zero,Prod.mk.injEq] at hr
        obtain ⟨rfl,rfl⟩:=hr
        simp [lose,hp]
    rw [hlose];simp only [PV.isWay,Bool.false_eq_true,if_false]
    intro he;rw [← he] at ha;cases ha
  | q0::qs,c,j+1,q,h,hh,a,ha,rest,hr,hy,hl=>by
    have ih:=killF_kills (r:=r) (pre:=pre) (i:=i) qs (c+1) j (by simpa using h) hh a ha rest (by rw [hr];congr 4;omega) hy hl
    simp only [killF]
    cases hq:q0.heavy with
    | false=>exact ih
    | true =>
      simp only [cond_true]
      rcases lose_or r (pre++[(i,c)]) a with h3 | ⟨_,h3⟩
      · rw [h3,if_pos ha];exact ih
      · rw [h3];simp only [PV.isWay,Bool.false_eq_true,if_false]
        intro he;rw [← he] at ha;cases ha
theorem killF_stays {r:Nat} {pre:Path} {i:Nat}:∀ (qs:List PV) (c:Nat) {a:PV},(∀ x∈a.ways,isUnder r pre x.1 x.2=false∨x.2.length≤pre.length)→killF r pre i c qs a=a
  | [],_,_,_=>rfl
  | q :: qs,c,a,h=>by
    have ih:=killF_stays (r:=r) (pre:=pre) (i:=i) qs (c+1) h
    have hl : lose r (pre++[(i,c)]) a=a:=by
      have key:∀ r' p,(isUnder r pre r' p=false∨p.length≤pre.length)→(Nat.beq r' r&&(pre++[(i,c)]).isPrefixOf p)=false:=by
        intro r' p hp
        cases hb:(Nat.beq r' r&&(pre++[(i,c)]).isPrefixOf p) with
        | false=>rfl
        | true =>
          simp only [Bool.and_eq_true,List.isPrefixOf_iff_prefix] at hb
          obtain ⟨h1,rest,h2⟩:=hb
          rcases hp with hp | hp
          · have:isUnder r pre r' p=true:=isUnder_iff.2 ⟨Nat.eq_of_beq_eq_true h1,(i,c)::rest,by rw [← h2];simp⟩
            rw [this] at hp;cases hp
          · rw [← h2] at hp;simp at hp;omega
      cases a<;>first | rfl | skip
      all_goals
        simp only [lose]
        rw [key _ _ (h (_,_) (List.mem_singleton.2 rfl))];rfl
    simp only [killF]
    cases hq:q.heavy with
    | false=>exact ih
    | true=>simp only [cond_true,hl];split<;>first | exact ih | rfl
theorem modNode_f {f:PV→Option PV}:∀ {pre:Path} {p p':PV},modNode f p pre=some p'→∃ q q',getNode p pre=some q∧f q=some q'∧modNode (fun _=>some q') p pre=some p'
  | [],p,p',h=>⟨p,p',rfl,h,rfl⟩
  | (i, c)::rest,p,p',h=>by
    rw [modNode_cons] at h
    cases hc:Eng.child p i c with
    | none=>rw [hc] at h;cases h
    | some q =>
      rw [hc] at h;simp only [Option.bind_some] at h
      cases hm:modNode f q rest with
      | none=>rw [hm] at h;cases h
      | some q1 =>
        rw [hm] at h;simp only [Option.bind_some] at h
        obtain ⟨x,x',h1,h2,h3⟩:=modNode_f hm
        exact ⟨x,x',by rw [getNode_cons,hc];exact h1,h2,by rw [modNode_cons,hc];simp only [Option.bind_some];rw [h3];exact h⟩
theorem getNode_unlock:∀ {pre:Path} {p q:PV},getNode p pre=some q→q.unlock=q→p.unlock=p
  | [],p,q,h,hq=>by simp only [getNode,Option.some.injEq] at h;subst h;exact hq
  | (i,c)::rest,p,q,h,_=>by
    rw [getNode_cons] at h
    cases p<;>first | rfl | (simp [Eng.child,helems] at h;done)
theorem killF_light {r:Nat} {pre:Path} {i:Nat} {p:PV} (hh:p.heavy=false→∀ q∈p.cells,q.heavy=false) (h:p.heavy=false) {c:Nat} (a:PV):killF r pre i c p.cells a=a:=by
  have key:∀ (qs:List PV) (c:Nat),(∀ q∈qs,q.heavy=false)→killF r pre i c qs a=a:=by
    intro qs
    induction qs with
    | nil=>intro c _;rfl
    | cons q qs ih=>intro c h;simp only [killF,h q (by simp),cond_false];exact ih (c+1) fun x hx=>h x (by simp [hx])
  exact key _ _ (hh h)
theorem cells_ways {p:PV} {x:Nat×Path} (h:x∈wayss p.cells):x∈p.ways:=by
  cases p<;>simp only [PV.cells,wayss,List.append_nil] at h<;>exact h
theorem closedAt_cons (p:PV) (i c:Nat) (rest:Path):closedAt p ((i,c)::rest)=match p with
    | .own .. => true
    | p=>match Eng.child p i c with | some q=>closedAt q rest | none=>false:=by
  cases p<;>simp only [closedAt,Eng.child,helems,Option.bind_none,Option.bind_some]
  · cases i with
    | zero=>simp only [List.getElem?_cons_zero,Option.bind_some];split<;>simp_all
    | succ i=>simp
  · cases i with
    | zero=>simp only [List.getElem?_cons_zero,Option.bind_some];split<;>simp_all
    | succ i=>simp
theorem open_alOn:∀ {pre:Path} {p q:PV} {A:Al},closedAt p pre=false→getNode p pre=some q→∀ a v,A a v→below (alOn A p pre) q a v
  | [],p,q,A,hc,hq,a,v,h=>by
    simp only [getNode,Option.some.injEq] at hq;subst hq
    simp only [alOn]
    cases p<;>first | exact h | (simp [closedAt] at hc;done)
  | (i,c)::rest,p,q,A,hc,hq,a,v,h=>by
    rw [getNode_cons] at hq
    rw [closedAt_cons] at hc
    cases hch:Eng.child p i c with
    | none=>rw [hch] at hq;cases hq
    | some q1 =>
      rw [hch] at hq;simp only [Option.bind_some] at hq
      simp only [alOn,hch]
      cases p<;>simp only [hch] at hc<;>first | (cases hc;done) | exact open_alOn hc hq a v h
section
variable {P:Program} {w0 w:World} {U Φ0 Φ:Nat→Prop} {nt:Nat} {hv:Hid} {a:Act} {e e':Env} {rv:Nat→Value} {E:Nat→PV} {L:Nat→List Nat} {o:Oracle}
theorem heavy_cell {p:PV} (h:p.heavy=false):∀ q∈p.cells,q.heavy=false:=by
  intro q hq
  cases p<;>simp only [PV.cells,List.mem_singleton] at hq<;>try (subst hq;exact h)
  obtain ⟨i,hi⟩:=List.getElem?_of_mem hq
  exact heavys_false h hi
theorem cells_setCells {x:PV} {c:Nat} {qs:List PV} (hq:∀ q∈qs,q.oneCell=true) (hne:qs.length≠0) (hle:c+qs.length≤x.cells.length):(setCells x c qs).cells=x.cells.take c++qs++x.cells.drop (c+qs.length):=by
  cases hx:x.isAgg with
  | true=>cases x<;>simp [PV.isAgg] at hx;rfl
  | false =>
    have hcs:x.cells=[x]:=by cases x<;>first | rfl | simp [PV.isAgg] at hx
    rw [hcs] at hle ⊢
    match qs,hq,hne with
    | [],_,hne=>exact absurd rfl hne
    | [q],hq,_ =>
      have hc0:c=0:=by simp at hle;exact hle
      subst hc0
      have he:setCells x 0 [q]=q:=by cases x<;>first | rfl | simp [PV.isAgg] at hx
      rw [he,(oneCell_pv (hq q (by simp))).1];simp
    | _::_::_,_,_=>simp only [List.length_cons,List.length_nil] at hle;omega
theorem cell_setRow {b o k:Nat} {row:Array Value} {vs:List Value} (hrow:RowAt w b row) (hroom:o+vs.length≤row.size) (hk:k<o∨o+vs.length≤k):(w.setRow b (splice row o vs)).cell? ⟨b,k,none⟩=w.cell? ⟨b,k,none⟩:=by
  obtain ⟨el,hel⟩:=hrow
  have hnew:RowAny (w.setRow b (splice row o vs)) b (splice row o vs):=⟨el,_,setRow_heap w _ _ _ el _ hel⟩
  rw [cell_row hnew,cell_row ⟨el,_,hel⟩]
  have:(splice row o vs)[k]? = (row.toList.take o++vs++row.toList.drop (o+vs.length))[k]?:=by simp [splice]
  rw [this,list_splice (by simpa using hroom)]
  rcases hk with hk | hk
  · rw [if_pos hk];simp
  · rw [if_neg (by omega),if_neg (by omega)];simp
theorem write_follow {A:Al} {np q':PV} {nv:Value} {Li:List Nat} (h:Rep w Φ A np nv Li) (hnd:Li.Nodup) {xs:List PV} (hx:hcells np=some xs) {i c:Nat} {x:PV} (hi:xs[i]? = some x) {qs:List PV} {vs:List Value}
    (hq:∀ q∈qs,q.oneCell=true) (hlen:vs.length=qs.length) (hne:qs.length≠0) (hc:c+qs.length≤x.cells.length) (hw:withElems np (xs.set i (setCells x c qs))=some q') {ad:Addr} {row:Array Value}
    (had:addrIn nv np i c=some ad) (hrow:RowAt w ad.block row) (hroom:ad.off+vs.length≤row.size) :
    ∀ (rest:Path) (nv2:Value) (np2:PV),follow (w.setRow ad.block (splice row ad.off vs)) nv q' rest=some (nv2,np2)→np2.heavy0=true →
      (∃ j q rest',qs[j]? = some q∧q.heavy=true∧rest=(i,c+j)::rest')∨∃ np0,follow w nv np rest=some (nv2,np0)∧alike np0 np2:=by
  intro rest nv2 np2 hf hh
  have hal:alike np q'∧helems q'=some (xs.set i (setCells x c qs)):=by
    cases np<;>simp only [hcells] at hx<;>try cases hx
    · simp only [withElems,Option.some.injEq] at hw;subst hw;exact ⟨rfl,rfl⟩
    · have hi0:i=0:=by have:=(List.getElem?_eq_some_iff.1 hi).1;simpa using this
      subst hi0
      simp only [List.set_cons_zero,withElems,Option.some.injEq] at hw ⊢;subst hw;exact ⟨trivial,rfl⟩
  cases rest with
  | nil =>
    simp only [follow,Option.some.injEq,Prod.mk.injEq] at hf
    obtain ⟨rfl,rfl⟩:=hf
    exact .inr ⟨np,rfl,hal.1⟩
  | cons y rest =>
    obtain ⟨i2,c2⟩:=y
    rw [follow_cons] at hf
    cases hch:Eng.child q' i2 c2 with
    | none=>rw [hch] at hf;cases hf
    | some q2 =>
      rw [hch] at hf;simp only [Option.bind_some] at hf
      cases hk:kid (w.setRow ad.block (splice row ad.off vs)) nv q' i2 c2 with
      | none=>rw [hk] at hf;cases hf
      | some u2 =>
        rw [hk] at hf;simp only [Option.bind_some] at hf
        have hil:i<xs.length:=(List.getElem?_eq_some_iff.1 hi).1
        simp only [Eng.child,hal.2,Option.bind_some] at hch
        by_cases hin:i2=i∧c≤c2∧c2<c+qs.length
        · obtain ⟨rfl,h1,h2⟩:=hin
          rw [List.getElem?_set_self hil] at hch
          simp only [Option.bind_some] at hch
          rw [cells_setCells hq hne hc,list_splice hc,if_neg (by omega),if_pos h2] at hch
          cases hh2:q2.heavy with
          | true=>exact .inl ⟨c2-c,q2,rest,hch,hh2,by rw [show c+(c2-c)=c2 by omega]⟩
          | false =>
            have:=follow_light hh2 hf
            rw [heavy0_heavy hh] at this;cases this
        ·
          have hold:∃ x2,xs[i2]? = some x2∧x2.cells[c2]? = some q2:=by
            by_cases hii:i2=i
            · subst hii
              rw [List.getElem?_set_self hil] at hch
              simp only [Option.bind_some] at hch
              rw [cells_setCells hq hne hc,list_splice hc] at hch
              refine ⟨x,hi,?_⟩
              by_cases h1:c2<c
              · rw [if_pos h1] at hch;exact hch
              · rw [if_neg h1,if_neg (fun h2=>hin ⟨rfl,by omega,h2⟩)] at hch;exact hch
            · rw [List.getElem?_set_ne (Ne.symm hii)] at hch
              cases hx2:xs[i2]? with
              | none=>rw [hx2] at hch;cases hch
              | some x2=>rw [hx2] at hch;exact ⟨x2,rfl,hch⟩
          obtain ⟨x2,hx2,hq2⟩:=hold
          obtain ⟨M,ux,Lx,ad2,g1,g2,g3,g4,g5,g6⟩:=node_base h hx hx2
          obtain ⟨u,La,Lu,Lb,hu,hLx,hru,_,_⟩:=g3.cell hq2 g5
          have hkid:=g6 c2 u hu
          have hblk:ad2.block=ad.block:=by
            have:=g2
            cases np<;>simp only [hcells] at hx<;>try cases hx
            · cases nv<;>try (simp [addrIn] at had;done)
              rename_i sa _ _
              cases sa with
              | none=>cases had
              | some sa =>
                simp only [addrIn,Option.some.injEq] at had
                have:=this 0
                simp only [addrIn,Option.some.injEq] at this
                rw [← had]
                exact (congrArg Addr.block this).symm
            · cases nv<;>try (cases i<;>simp [addrIn] at had;done)
              rename_i sa
              cases sa with
              | none=>cases i<;>cases had
              | some sa =>
                have hi0:i=0:=by have:=(List.getElem?_eq_some_iff.1 hi).1;simpa using this
                have hi20:i2=0:=by have:=(List.getElem?_eq_some_iff.1 hx2).1;simpa using this
                subst hi0;subst hi20
                simp only [addrIn,Option.some.injEq] at had
                have:=this 0
                simp only [addrIn,Option.some.injEq] at this
                rw [← had]
                exact (congrArg Addr.block this).symm
          have hsame:kid (w.setRow ad.block (splice row ad.off vs)) nv q' i2 c2=kid w nv np i2 c2:=by
            have hc2l:c2<x2.cells.length:=(List.getElem?_eq_some_iff.1 hq2).1
            cases np<;>simp only [hcells] at hx<;>try cases hx
            case own sz =>
              simp only [withElems,Option.some.injEq] at hw;subst hw
              cases nv<;>try (simp [addrIn] at had;done)
              rename_i sa _ _
              cases sa with
              | none=>cases had
              | some sa =>
                simp only [addrIn,Option.some.injEq] at had;subst had
                simp only [kid]
                refine cell_setRow hrow hroom ?_
                obtain ⟨hh1,_⟩ | ⟨_,_,_,_,_,_,_,_,_,_,_,hsz,_⟩:=h
                · subst hh1;simp at hi
                · have e1:=hsz x (List.mem_of_getElem? hi)
                  have e2:=hsz x2 (List.mem_of_getElem? hx2)
                  simp only [cellOf]
                  rw [hlen]
                  by_cases hii:i2=i
                  · subst hii
                    have:¬ (c≤c2∧c2<c+qs.length):=fun h=>hin ⟨rfl,h⟩
                    omega
                  · rcases Nat.lt_or_gt_of_ne hii with hlt | hgt
                    · have:=Nat.mul_le_mul_right x.cells.length (Nat.succ_le_of_lt hlt)
                      rw [Nat.succ_mul,e1] at this;left;omega
                    · have:=Nat.mul_le_mul_right x.cells.length (Nat.succ_le_of_lt hgt)
                      rw [Nat.succ_mul,e1] at this;right;omega
            case box q0 =>
              have hi0:i=0:=by have:=(List.getElem?_eq_some_iff.1 hi).1;simpa using this
              have hi20:i2=0:=by have:=(List.getElem?_eq_some_iff.1 hx2).1;simpa using this
              subst hi0;subst hi20
              simp only [List.set_cons_zero,withElems,Option.some.injEq] at hw;subst hw
              cases nv<;>try (simp [addrIn] at had;done)
              rename_i sa
              cases sa with
              | none=>cases had
              | some sa =>
                simp only [addrIn,Option.some.injEq] at had;subst had
                simp only [kid]
                refine cell_setRow hrow hroom ?_
                simp only [cellOf]
                rw [hlen]
                have:¬ (c≤c2∧c2<c+qs.length):=fun h=>hin ⟨rfl,h⟩
                omega
          rw [hsame,hkid] at hk;cases hk
          have hfs:=follow_same (w':=w.setRow ad.block (splice row ad.off vs)) (pre:=rest) hru fun t ht=>setRow_other w _ t _ fun hc=>by
            rw [g1,hblk] at hnd
            exact (List.nodup_cons.1 hnd).1 (g4 _ (by rw [hLx,← hc];simp [ht]))
          rw [hfs] at hf
          refine .inr ⟨np2,?_,alike.refl hh⟩
          rw [follow_cons]
          have:Eng.child np i2 c2=some q2:=by simp only [Eng.child,helems_hcells hx,Option.bind_some,hx2,hq2]
          rw [this];simp only [Option.bind_some];rw [hkid];exact hf
theorem St.write (S:St w0 U Φ0 nt hv a w e Φ rv E L) {g r:Nat} {pre:Path} {i c:Nat} {sh:Option Nat} (hg:ghost≤g) {va:Value} (ha:Rep w Φ (AlOf w rv E) (.addr r pre i c sh) va [])
    (hc1:(E g).heavy=false∨∀ x∈(E g).ways,isUnder r pre x.1 x.2=false∨x.2.length≤pre.length) (hone:∀ q∈(E g).cells,q.oneCell=true) (hne:(E g).cells.length≠0)
    (hva:vAgg (rv g)=(E g).isAgg) {k:PM} (h:(killNew r pre i c (E g).cells (.wcells r pre i c (E g).cells k)).run o e=some e') :
    ∃ b row e1 E1 L1,va = .pointer (some b)∧b.spot=none∧RowAt w b.block row∧b.off+(rv g).cells.size≤row.size∧(∀ v∈(rv g).cells.toList,v.oneCell'=true)∧k.run o e1=some e' ∧
      St w0 U Φ0 nt hv a (w.setRow b.block (splice row b.off (rv g).cells.toList)) e1 Φ rv E1 L1∧E1 g = .bad∧(∀ s,ghost≤s→s≠g→E s = .bad→E1 s = .bad)∧(∀ s,ghost≤s→s≠g→E1 s=(E s).mapW (killF r pre i c (E g).cells))∧b.block∈L r:=by
  obtain ⟨e1,h1,hget⟩:=killNew_run _ _ h
  have hf:=killF_or r pre i (E g).cells c
  have hall:=ha.2
  obtain ⟨hr,b,rfl,hsp,hn⟩:=ha.2
  simp only [PM.run] at h1
  cases hwr:writeAt (e1.get r) pre i c (E g).cells with
  | none=>rw [hwr] at h1;cases h1
  | some root =>
    rw [hwr] at h1;simp only at h1
    have hE1:e1.get r=(E r).mapW (killF r pre i c (E g).cells):=by rw [hget r,S.env r hr]
    rw [hE1] at hwr
    simp only [writeAt] at hwr
    cases hcl:(closedAt ((E r).mapW (killF r pre i c (E g).cells)) pre && !(wayss (E g).cells).isEmpty) with
    | true=>rw [hcl] at hwr;cases hwr
    | false =>
      rw [hcl] at hwr;simp only [cond_false] at hwr
      obtain ⟨np,q',hnp,hfq,hmod⟩:=modNode_f hwr
      cases hx:hcells np with
      | none=>rw [hx] at hfq;cases hfq
      | some xs =>
        rw [hx] at hfq;simp only at hfq
        cases hi:xs[i]? with
        | none=>rw [hi] at hfq;cases hfq
        | some x =>
          rw [hi] at hfq;simp only at hfq
          cases hle:Nat.ble (c+(E g).cells.length) x.cells.length with
          | false=>rw [hle] at hfq;cases hfq
          | true =>
            rw [hle] at hfq;simp only [cond_true] at hfq
            have hle:=Nat.le_of_ble_eq_true hle
            have hlock:((E r).mapW (killF r pre i c (E g).cells)).unlock=(E r).mapW (killF r pre i c (E g).cells):=getNode_unlock hnp (by cases np<;>first | rfl | cases hx)
            obtain ⟨nv,Li,hfo,hrep,hLnd,hLsub,hmods⟩:=S.conf.mod hr hf hlock hnp
            have hrg:=(S.conf.rep g).cellsAll hva
            have hvl:(rv g).cells.toList.length=(E g).cells.length:=hrg.length
            have hone':∀ v∈(rv g).cells.toList,v.oneCell'=true:=by
              intro v hv
              obtain ⟨j,hj⟩:=List.getElem?_of_mem hv
              have hjl:j<(E g).cells.length:=by rw [← hvl];exact (List.getElem?_eq_some_iff.1 hj).1
              obtain ⟨v',La,Li',Lb,hv',_,hr',_⟩:=hrg.split (i:=j) (List.getElem?_eq_getElem hjl)
              rw [hj] at hv';cases hv'
              exact rep_oneCell (fun a v hw h=>al_oneCell hw h) hr' (hone _ (List.getElem_mem hjl))
            have hheavy:=heavy_cell (p:=E g)
            have hq'k:q'.isAgg=false∧q'.unlock=q'∧q'.isTup=false∧np.isAgg=false∧alike np q':=by
              cases np<;>simp only [hcells] at hx<;>try cases hx
              · simp only [withElems,Option.some.injEq] at hfq;subst hfq;exact ⟨rfl,rfl,rfl,rfl,rfl⟩
              · simp only [withElems] at hfq
                split at hfq<;>first | (cases hfq;done) | skip
                · simp_all
                · cases hfq;exact ⟨rfl,rfl,rfl,rfl,trivial⟩
                · simp_all
            obtain ⟨ad,row,La,Lm,Lb,k1,k2,k3,k4,hLi,hput⟩:=node_put hrep hx hi hone hone' hvl hne hle hfq
            have hfo':∃ np0,follow w (rv r) (E r).unlock pre=some (nv,np0)∧alike np0 np:=by
              rw [← hlock,unlock_mapW (tame_or hf)] at hfo
              exact follow_mapW (tame_or hf) hfo (by cases np<;>first | rfl | cases hx)
            obtain ⟨np0,hfo0,hal⟩:=hfo'
            have hbad:=hn nv np0 hfo0 ad (by rw [addrIn_alike hal];exact k1)
            subst hbad
            have hbL:b.block∈L r:=hLsub _ (by rw [hLi];simp)
            have hrg':r≠g:=by omega
            have hother:∀ t,t≠b.block→(w.setRow b.block (splice row b.off (rv g).cells.toList)).heap[t]? = w.heap[t]?:=fun t ht=>setRow_other w _ t _ ht
            have hnew:RowAt (w.setRow b.block (splice row b.off (rv g).cells.toList)) b.block (splice row b.off (rv g).cells.toList):=by
              obtain ⟨el,hel⟩:=k3;exact ⟨el,setRow_heap w _ _ _ el _ hel⟩
            have hnotL:∀ t,t≠r→b.block∉L t:=fun t ht hm=>S.conf.disj t r ht _ hm hbL
            have hΦ:Same w (w.setRow b.block (splice row b.off (rv g).cells.toList)) Φ Φ:=fun t ht=>⟨ht,hother t fun hc=>(S.conf.own r _ hbL).2.1 (hc▸ht)⟩
            have hLnd':=hLnd
            rw [hLi] at hLnd'
            have hLab:∀ t∈La++Lb,t≠b.block:=by
              intro t ht hc
              subst hc
              refine (List.nodup_cons.1 hLnd').1 ?_
              simp at ht ⊢;rcases ht with h | h<;>simp [h]
            have hstay:∀ a v,a.isWay=true→(∀ x∈a.ways,x∈(E g).ways)→AlOf w rv E a v→Eng.stays (killF r pre i c (E g).cells) (AlOf w rv E) a v:=by
              intro a v hw hx ha
              refine ⟨ha,?_⟩
              rcases hc1 with hc1 | hc1
              · exact killF_light hheavy hc1 a
              · exact killF_stays _ _ fun x hxa=>hc1 x (hx x hxa)
            have hcont:∀ A:Al,(∀ a u,a.isWay=true→Eng.stays (killF r pre i c (E g).cells) (AlOf w rv E) a u→A a u) →
                Reps (w.setRow b.block (splice row b.off (rv g).cells.toList)) Φ (below (alOn A ((E r).mapW (killF r pre i c (E g).cells)) pre) np) (E g).cells (rv g).cells.toList (L g):=by
              intro A hA
              have h1:Reps (w.setRow b.block (splice row b.off (rv g).cells.toList)) Φ (AlOf w rv E) (E g).cells (rv g).cells.toList (L g) :=
                hrg.mono hΦ (fun _ _ _ h=>h) fun t ht=>hother t fun hc=>hnotL g (Ne.symm hrg') (hc▸ht)
              refine h1.ways _ _ _ fun a v hw hx ha=>?_
              simp only [Bool.and_eq_false_iff] at hcl
              rcases hcl with hcl | hcl
              · exact open_alOn hcl hnp a v (hA a v hw (hstay a v hw (fun y hy=>cells_ways (hx y hy)) ha))
              · have h0:wayss (E g).cells=[]:=by simpa using hcl
                rw [h0] at hx
                have h1:=al_log hw ha
                cases hay:a.ways with
                | nil=>exact absurd hay h1
                | cons z zs=>have:=hx z (by rw [hay];simp);cases this
            obtain ⟨kk1,kk2⟩:=modNode_kind hq'k.2.1 hq'k.2.2.1 hmod
            obtain ⟨L1,hL1,hconf⟩:=hmods (fun s=>s==g) (w.setRow b.block (splice row b.off (rv g).cells.toList)) q' root (b.block::(La++L g++Lb)) (fun s hs=>by have:=eq_of_beq hs;omega)
              (fun _=>by rw [hq'k.1,hq'k.2.2.2.1]) hmod kk1
              (fun A hA=>hput (alOn_mono hA) hΦ (fun t ht=>hother t (hLab t ht)) hnew (hcont A hA))
              (by
                have hdg:∀ t∈L g,t∉L r:=fun t ht=>S.conf.disj g r (Ne.symm hrg') t ht
                have hin:∀ t,t=b.block∨t∈La++Lb→t∈L r:=by
                  intro t ht
                  rcases ht with rfl | ht
                  · exact hbL
                  · exact hLsub t (by rw [hLi];simp at ht ⊢;rcases ht with h | h<;>simp [h])
                have hn1:=(List.nodup_cons.1 hLnd').2
                simp only [List.nodup_append] at hn1
                refine List.nodup_cons.2 ⟨fun hm=>?_,?_⟩
                · simp only [List.mem_append] at hm
                  rcases hm with (hm | hm) | hm
                  · exact hLab _ (by simp [hm]) rfl
                  · exact hdg _ hm hbL
                  · exact hLab _ (by simp [hm]) rfl
                · simp only [List.nodup_append]
                  refine ⟨⟨hn1.1.1,S.conf.nodup g,fun x hx y hy e=>hdg y hy (e▸hin x (.inr (by simp [hx])))⟩,hn1.2.1,fun x hx y hy e=>?_⟩
                  simp only [List.mem_append] at hx
                  rcases hx with hx | hx
                  · exact hn1.2.2 x (by simp [hx]) y hy e
                  · exact hdg x hx (e▸hin y (.inr (by simp [hy]))))
              (fun t ht=>by
                simp only [List.mem_cons,List.mem_append] at ht
                rcases ht with rfl | (ht | ht) | ht
                · exact .inl (by rw [hLi];simp)
                · exact .inl (by rw [hLi];simp [ht])
                · exact .inr (.inl ⟨g,ht,by simp⟩)
                · exact .inl (by rw [hLi];simp [ht]))
              (by rw [setRow_size];exact Nat.le_refl _)
              (fun t _ ht _=>hother t fun hc=>ht (by rw [hLi,hc];simp))
              (fun rest nv2 np2 hf2 hh2=>by
                rcases write_follow hrep hLnd hx hi hone hvl hne hle hfq k1 k3 k4 rest nv2 np2 hf2 hh2 with ⟨j,q,rest',h1,h2,h3⟩ | h3
                · refine .inl fun a ha hro=>?_
                  subst h3
                  refine killF_kills _ _ _ h1 h2 a ha rest' hro (fun y hy=>?_) (fun ys k hy=>?_)
                  · subst hy;simp only [rootOf,Prod.mk.injEq] at hro;have:=hro.2;simp at this
                  · subst hy;simp only [rootOf,Prod.mk.injEq] at hro;have:=hro.2;simp at this
                · exact .inr h3)
              ⟨rfl,rfl,rfl⟩
            refine ⟨b,row,e1.set r root,_,L1,rfl,hsp,k3,by rw [show (rv g).cells.size=(rv g).cells.toList.length by simp];exact k4,hone',h1,S.turn hconf (fun s hs=>?_) (fun _ _=>rfl) (fun d ps hd hp=>?_),?_,?_⟩
            · rw [Env.get_set]
              by_cases hsr:s=r
              · subst hsr;simp
              · have:(s==g)=false:=by simp;omega
                simp only [hsr,if_false,this,Bool.false_eq_true]
                rw [hget s,S.env s hs]
            · by_cases hdr:d=r
              · simp only [hdr,if_true] at hp;rw [hp] at kk2;cases kk2
              · have:(d==g)=false:=by simp only [ghost] at hg;simp;omega
                simp only [hdr,if_false,this,Bool.false_eq_true] at hp
                refine dull_tup (fun p hp=>?_) hp
                rcases hf p with h | ⟨_,h⟩
                · rw [h];cases p<;>first | rfl | cases hp
                · rw [h];rfl
            · simp [Ne.symm hrg']
            · refine ⟨fun s hs hsg hb=>?_,fun s hs hsg=>?_,hbL⟩
              · have:s≠r:=by omega
                simp [this,hsg,hb,PV.mapW]
              · have:s≠r:=by omega
                simp [this,hsg]
end
end Go.Eng
namespace Go.Eng
open Go
section
variable {P:Program} {w0 w:World} {U Φ0 Φ:Nat→Prop} {nt:Nat} {hv:Hid} {a:Act} {e e':Env} {rv:Nat→Value} {E:Nat→PV} {L:Nat→List Nat} {o:Oracle}
theorem wnode_run {r:Nat} {pre:Path} {q:PV} {k:PM} (h:(PM.wnode r pre q k).run o e=some e'):∃ root,(e.get r).isLock=false∧modNode (fun _=>some q) (e.get r) pre=some root∧k.run o (e.set r root)=some e':=by
  simp only [PM.run] at h
  cases hl:(e.get r).isLock with
  | true=>rw [hl] at h;cases h
  | false =>
    rw [hl] at h;simp only [cond_false] at h
    cases hm:modNode (fun _=>some q) (e.get r) pre with
    | none=>rw [hm] at h;cases h
    | some root=>rw [hm] at h;exact ⟨root,rfl,rfl,h⟩
theorem takeO_ok (S:St w0 U Φ0 nt hv a w e Φ rv E L) {p:PV} {v:Value} (hp:Rep w Φ (AlOf w rv E) p v []) {k:PV→PM} {k2:PM} (h:(takeO p k k2).run o e=some e') :
    k2.run o e=some e'∨(k p).run o e=some e'∨∃ r pre q root,r<ghost∧(E r).unlock=E r∧getNode (E r) pre=some q∧q.oneCell=true∧p.oneCell=true∧modNode (fun _=>some .bad) (E r) pre=some root∧root.unlock=root∧root.isTup=false ∧
      (k q).run o (e.set r root)=some e'∧∀ nv,follow w (rv r) (E r) pre=some (nv,q)→nv=v:=by
  cases p<;>simp only [takeO] at h<;>try (exact .inr (.inl h))
  case bor r pre z lo n =>
    obtain ⟨q,hq,h1⟩:=deep_run h
    obtain ⟨_,hr,⟨b,cap,hv',_⟩,hn⟩:=hp
    split at h1
    · rename_i sz xs
      cases hc:(Nat.beq lo 0&&Nat.beq n xs.length) with
      | false=>rw [hc] at h1;exact .inl h1
      | true =>
        rw [hc] at h1;simp only [cond_true] at h1
        simp only [Bool.and_eq_true] at hc
        have hlo:=Nat.eq_of_beq_eq_true hc.1
        have hnl:=Nat.eq_of_beq_eq_true hc.2
        subst hlo
        obtain ⟨root,hl,hm,h2⟩:=wnode_run h1
        have hlk:=isLock_unlock hl
        rw [hlk,← S.env r hr] at hq
        rw [← S.env r hr] at hlk hm
        obtain ⟨k1,k2'⟩:=modNode_kind (q' := .bad) rfl rfl hm
        refine .inr (.inr ⟨r,pre,_,root,hr,hlk,hq,rfl,rfl,hm,k1,k2',h2,fun nv hf=>?_⟩)
        obtain ⟨sz2,xs2,g1,g2,g3⟩:=hn nv _ (by rw [hlk];exact hf) rfl
        cases g1;subst g2
        obtain ⟨nv',Li,hf',_,hrep⟩:=getNode_follow (S.conf.rep r) hq
        rw [hf] at hf';cases hf'
        obtain ⟨q1,q2,q3⟩ | ⟨x,m,c,us,M,q0,q1,q2,_⟩:=hrep
        · subst q3;exact g3.1.symm
        · subst q1
          simp only [sliceIn] at g3
          rw [g3.1,hnl]
          congr 2
          · cases x;simp_all [cellOf]
    · exact .inl h1
  case bmap r pre =>
    obtain ⟨q,hq,h1⟩:=deep_run h
    obtain ⟨_,hr,⟨b,hv'⟩,hn⟩:=hp
    split at h1
    · rename_i es
      obtain ⟨root,hl,hm,h2⟩:=wnode_run h1
      have hlk:=isLock_unlock hl
      rw [hlk,← S.env r hr] at hq
      rw [← S.env r hr] at hlk hm
      obtain ⟨k1,k2'⟩:=modNode_kind (q' := .bad) rfl rfl hm
      exact .inr (.inr ⟨r,pre,_,root,hr,hlk,hq,rfl,rfl,hm,k1,k2',h2,fun nv hf=>(hn nv _ (by rw [hlk];exact hf) _ rfl).symm⟩)
    · exact .inl h1
theorem St.taken (S:St w0 U Φ0 nt hv a w e Φ rv E L) {g r:Nat} (hg:ghost≤g) (hr:r<ghost) {pre:Path} {q root:PV} (hlk:(E r).unlock=E r) (hq:getNode (E r) pre=some q) (h1:q.oneCell=true)
    (hm:modNode (fun _=>some .bad) (E r) pre=some root) (hk:root.unlock=root) (hk2:root.isTup=false) :
    ∃ nv Li,follow w (rv r) (E r) pre=some (nv,q)∧Rep w Φ (AlOf w rv E) q nv Li∧Li.Nodup∧(∀ b∈Li,b∉L g)∧∀ (p':PV) (v':Value) (Lg:List Nat),Rep w Φ (AlOf w rv E) p' v' Lg→Lg.Nodup→(∀ b∈Lg,b∈Li∨b∈L g) →
      ∃ L',St w0 U Φ0 nt hv a w (e.set r root) Φ (upd rv g v') (upd (upd E r root) g p') L'∧∀ s,ghost≤s→s≠g→L' s=L s:=by
  obtain ⟨nv,Li,g1,g2,g3,g4,g5⟩:=S.conf.takeNode hr hg hlk hq (oneCell_pv h1).2 hm hk
  refine ⟨nv,Li,g1,g2,g3,fun b hb hb2=>S.conf.disj r g (by omega) b (g4 b hb) hb2,fun p' v' Lg q1 q2 q3=>?_⟩
  obtain ⟨L',hc,hL⟩:=g5 p' v' Lg q1 q2 q3
  refine ⟨L',S.turn hc (fun s hs=>?_) (fun s hs=>upd_ne (by omega)) (fun d ps hd hp=>?_),fun s hs hsg=>hL s (by omega) hsg⟩
  · rw [upd_ne (by omega),Env.get_set]
    by_cases hsr:s=r
    · subst hsr;rw [upd_at,if_pos rfl]
    · rw [upd_ne hsr,if_neg hsr];exact S.env s hs
  · rw [upd_ne (by simp only [ghost] at hg;omega)] at hp
    by_cases hdr:d=r
    · subst hdr;rw [upd_at] at hp;rw [hp] at hk2;cases hk2
    · rw [upd_ne hdr] at hp;exact ⟨ps,hp,rfl⟩
structure Worked (w0:World) (U Φ0:Nat→Prop) (nt:Nat) (hv:Hid) (a:Act) (w:World) (rv:Nat→Value) (E:Nat→PV) (g:Nat) (e1:Env) (rv1:Nat→Value) (E1:Nat→PV):Prop where
  st:∃ Φ1 L1,St w0 U Φ0 nt hv a w e1 Φ1 rv1 E1 L1
  val:rv1 g=rv g
  low:∀ s,s<ghost→rv1 s=rv s
  rest:∀ s,ghost≤s→s≠g→E1 s=E s∧rv1 s=rv s
  agg:(E1 g).isAgg=(E g).isAgg
  len:(E1 g).cells.length=(E g).cells.length
theorem way_light {p:PV} (h:p.isWay=true):p.heavy=false:=by cases p<;>first | rfl | cases h
theorem takeM_ok (S:St w0 U Φ0 nt hv a w e Φ rv E L) {g:Nat} (hg:ghost≤g) {k:PV→PM} (h:(takeM (E g) k).run o e=some e'):∃ e1 rv1 E1,(k (E1 g)).run o e1=some e'∧Worked w0 U Φ0 nt hv a w rv E g e1 rv1 E1:=by
  have hself:Worked w0 U Φ0 nt hv a w rv E g e rv E:=⟨⟨Φ,L,S⟩,rfl,fun _ _=>rfl,fun _ _ _=>⟨rfl,rfl⟩,rfl,rfl⟩
  by_cases hway:(E g).isWay=true
  · have hrep:=S.conf.rep g
    have hL:L g=[]:=light_nil _ _ _ (way_light hway) hrep
    rw [hL] at hrep
    rcases takeO_ok S hrep h with h1 | h1 | ⟨r,pre,q,root,c1,c2,c3,c4,c5,c6,c7,c8,c9,c10⟩
    · obtain ⟨e1,Φ1,E1,L1,h2,S1,_,h3,_,_,h4,h5⟩:=iceM_ok hg (Nat.le_refl _) icing S h1
      exact ⟨e1,rv,E1,h2,⟨Φ1,L1,S1⟩,rfl,fun _ _=>rfl,fun s hs hne=>⟨h3 s hs hne,rfl⟩,h4,h5⟩
    · exact ⟨e,rv,E,h1,hself⟩
    · obtain ⟨nv,Li,g1,g2,g3,g4,g5⟩:=S.taken hg c1 c2 c3 c4 c6 c7 c8
      have hnv:=c10 nv g1
      obtain ⟨L',S',hL'⟩:=g5 q nv Li g2 g3 (fun b hb => .inl hb)
      have hrg:r≠g:=by omega
      refine ⟨_,_,_,by rw [upd_at];exact c9,⟨Φ,L',S'⟩,by rw [upd_at,hnv],fun s hs=>upd_ne (by omega),fun s hs hne=>?_,?_,?_⟩
      · rw [upd_ne hne,upd_ne hne,upd_ne (by omega)];exact ⟨rfl,rfl⟩
      · rw [upd_at,(oneCell_pv c4).2,(oneCell_pv c5).2]
      · rw [upd_at,(oneCell_pv c4).1,(oneCell_pv c5).1];rfl
  · have:(k (E g)).run o e=some e':=by
      revert h
      simp only [takeM,takeO]
      cases hE:E g<;>first | (rw [hE] at hway;exact absurd rfl hway) | exact fun h=>h
    exact ⟨e,rv,E,this,hself⟩
theorem Worked.self (S:St w0 U Φ0 nt hv a w e Φ rv E L) {g:Nat}:Worked w0 U Φ0 nt hv a w rv E g e rv E:=⟨⟨Φ,L,S⟩,rfl,fun _ _=>rfl,fun _ _ _=>⟨rfl,rfl⟩,rfl,rfl⟩
theorem Worked.trans {g:Nat} {e1 e2:Env} {rv1 rv2:Nat→Value} {E1 E2:Nat→PV} (h1:Worked w0 U Φ0 nt hv a w rv E g e1 rv1 E1) (h2:Worked w0 U Φ0 nt hv a w rv1 E1 g e2 rv2 E2):Worked w0 U Φ0 nt hv a w rv E g e2 rv2 E2 :=
  ⟨h2.st,h2.val.trans h1.val,fun s hs=>(h2.low s hs).trans (h1.low s hs),fun s hs hne=>⟨(h2.rest s hs hne).1.trans (h1.rest s hs hne).1,(h2.rest s hs hne).2.trans (h1.rest s hs hne).2⟩,h2.agg.trans h1.agg,h2.len.trans h1.len⟩
theorem ice_ok (S:St w0 U Φ0 nt hv a w e Φ rv E L) {g:Nat} (hg:ghost≤g) {k:PV→PM} (h:(iceM ghost icing (E g) k).run o e=some e'):∃ e1 rv1 E1,(k (E1 g)).run o e1=some e'∧Worked w0 U Φ0 nt hv a w rv E g e1 rv1 E1:=by
  obtain ⟨e1,Φ1,E1,L1,h2,S1,_,h3,_,_,h4,h5⟩:=iceM_ok hg (Nat.le_refl _) icing S h
  exact ⟨e1,rv,E1,h2,⟨Φ1,L1,S1⟩,rfl,fun _ _=>rfl,fun s hs hne=>⟨h3 s hs hne,rfl⟩,h4,h5⟩
theorem takesM_ok {g:Nat} (hg:ghost≤g) {k:PV→PM}:∀ (ps done:List PV) {e:Env} {Φ:Nat→Prop} {rv:Nat→Value} {E:Nat→PV} {L:Nat→List Nat},St w0 U Φ0 nt hv a w e Φ rv E L→E g = .agg (done++ps) →
    (takesM ps fun qs=>k (.agg (done++qs))).run o e=some e'→∃ e1 rv1 E1,(k (E1 g)).run o e1=some e'∧Worked w0 U Φ0 nt hv a w rv E g e1 rv1 E1
  | [],done,e,Φ,rv,E,L,S,hE,h=>by
    refine ⟨e,rv,E,?_,.self S⟩
    rw [hE];exact h
  | p :: ps,done,e,Φ,rv,E,L,S,hE,h=>by
    have hrep:=S.conf.rep g
    rw [hE] at hrep
    obtain ⟨vs,hv',hr⟩:=hrep
    have hpi:(done++p::ps)[done.length]? = some p:=by simp
    obtain ⟨v,La,Lp,Lb,hvi,hL,hrp,hset,_⟩:=hr.split hpi
    simp only [takesM] at h
    by_cases hway:p.isWay=true
    · have hLp:=light_nil _ _ _ (way_light hway) hrp
      subst hLp
      rcases takeO_ok S hrp h with h1 | h1 | ⟨r,pre,q,root,c1,c2,c3,c4,c5,c6,c7,c8,c9,c10⟩
      · cases h1
      · exact takesM_ok hg ps (done++[p]) S (by rw [hE];simp) (by simpa using h1)
      · obtain ⟨nv,Li,g1,g2,g3,g4,g5⟩:=S.taken hg c1 c2 c3 c4 c6 c7 c8
        have hnv:=c10 nv g1
        subst hnv
        have hnd:=S.conf.nodup g
        rw [hL] at hnd
        simp only [List.append_nil,List.nodup_append] at hnd
        have hnew:=hset w Φ (AlOf w rv E) q Li (fun _ _ _ h=>h) Same.refl (fun _ _=>rfl) g2
        have hmem:∀ b∈La++Lb,b∈L g:=fun b hb=>by rw [hL];simpa using hb
        obtain ⟨L',S',hL'⟩:=g5 (.agg ((done++p::ps).set done.length q)) (rv g) (La++Li++Lb) ⟨vs,hv',hnew⟩
          (by
            simp only [List.nodup_append]
            refine ⟨⟨hnd.1,g3,fun x hx y hy e=>g4 y hy (hmem y (by rw [← e];simp [hx]))⟩,hnd.2.1,fun x hx y hy e=>?_⟩
            rcases List.mem_append.1 hx with hx | hx
            · exact hnd.2.2 x hx y hy e
            · exact g4 x hx (hmem x (by rw [e];simp [hy])))
          (fun b hb=>by
            simp only [List.mem_append] at hb
            rcases hb with (hb | hb) | hb
            · exact .inr (hmem b (by simp [hb]))
            · exact .inl hb
            · exact .inr (hmem b (by simp [hb])))
        have hrg:r≠g:=by omega
        have hEq:(done++p::ps).set done.length q=done++q::ps:=by simp
        obtain ⟨e1,rv1,E1,h2,W⟩:=takesM_ok hg ps (done++[q]) S' (by rw [upd_at,hEq];simp) (by simpa using c9)
        refine ⟨e1,rv1,E1,h2,?_⟩
        have W0:Worked w0 U Φ0 nt hv a w rv E g (e.set r root) (upd rv g (rv g)) (upd (upd E r root) g (.agg ((done++p::ps).set done.length q))):=by
          refine ⟨⟨Φ,L',S'⟩,upd_at,fun s hs=>upd_ne (by omega),fun s hs hne=>?_,?_,?_⟩
          · rw [upd_ne hne,upd_ne hne,upd_ne (by omega)];exact ⟨rfl,rfl⟩
          · rw [upd_at,hE];rfl
          · rw [upd_at,hE];simp [PV.cells]
        exact W0.trans W
    · have:(takesM ps fun qs=>k (.agg (done++p::qs))).run o e=some e':=by
        revert h
        cases p<;>first | (exact absurd rfl hway) | exact fun h=>h
      exact takesM_ok hg ps (done++[p]) S (by rw [hE];simp) (by simpa using this)
theorem settle_ok (S:St w0 U Φ0 nt hv a w e Φ rv E L) {g:Nat} (hg:ghost≤g) {tk:Bool} {k:PV→PM} (h:(settleM tk (E g) k).run o e=some e'):∃ e1 rv1 E1,(k (E1 g)).run o e1=some e'∧Worked w0 U Φ0 nt hv a w rv E g e1 rv1 E1:=by
  have plain:(k (E g)).run o e=some e'→∃ e1 rv1 E1,(k (E1 g)).run o e1=some e'∧Worked w0 U Φ0 nt hv a w rv E g e1 rv1 E1:=fun h=>⟨e,rv,E,h,.self S⟩
  have ice:(iceM ghost icing (E g) k).run o e=some e'→∃ e1 rv1 E1,(k (E1 g)).run o e1=some e'∧Worked w0 U Φ0 nt hv a w rv E g e1 rv1 E1:=ice_ok S hg
  have take:(takeM (E g) k).run o e=some e'→∃ e1 rv1 E1,(k (E1 g)).run o e1=some e'∧Worked w0 U Φ0 nt hv a w rv E g e1 rv1 E1:=takeM_ok S hg
  cases hE:E g<;>rw [hE] at h plain ice take<;>simp only [settleM] at h<;>try (exact plain h)
  case agg cs =>
    cases tk with
    | true=>exact takesM_ok hg cs [] S (by rw [hE];rfl) (by simpa using h)
    | false =>
      simp only [cond_false] at h
      revert h
      cases cs.any _ with
      | true=>exact ice
      | false=>exact plain
  case bor=>cases tk<;>first | exact take h | exact ice h
  case bmap=>cases tk<;>first | exact take h | exact ice h
  case bsl=>exact ice h
theorem St.iced (S:St w0 U Φ0 nt hv a w e Φ rv E L) {g:Nat} (hg:ghost≤g):∃ Φ1 L1,St w0 U Φ0 nt hv a w e Φ1 rv (upd E g (freeze (E g))) L1:=by
  have hA:∀ a u,a.isWay=true→AlOf w rv E a u→AlOf w rv (upd E g (freeze (E g))) a u:=by
    intro a u _ ha
    have:=al_root ha
    exact al_keep S.conf tame_id ha (by rw [upd_ne (by omega),mapW_id]) rfl (fun _ _=>rfl)
  have hΦ:Same w w Φ (fun b=>Φ b∨b∈L g):=fun b hb=>⟨.inl hb,rfl⟩
  have hc:Conf w0 U Φ0 w (fun b=>Φ b∨b∈L g) rv (upd E g (freeze (E g))) (upd L g []):=by
    refine ⟨fun s=>?_,fun s=>?_,fun s s' hne b hb hb'=>?_,fun s b hb=>?_,fun b hb=>?_,fun b hb => .inl (S.conf.frz0 b hb),S.conf.size,S.conf.kept,S.conf.os,S.conf.tape,S.conf.output⟩
    · by_cases hs:s=g
      · subst hs;rw [upd_at,upd_at]
        exact (rep_freeze (fun b hb => .inl hb) _ _ _ (fun b hb => .inr hb) (S.conf.rep s)).mono Same.refl hA (by simp)
      · rw [upd_ne hs,upd_ne hs];exact (S.conf.rep s).mono hΦ hA (fun _ _=>rfl)
    · by_cases hs:s=g
      · subst hs;rw [upd_at];exact List.nodup_nil
      · rw [upd_ne hs];exact S.conf.nodup s
    · by_cases hs:s=g
      · subst hs;rw [upd_at] at hb;cases hb
      · rw [upd_ne hs] at hb
        by_cases hs':s'=g
        · subst hs';rw [upd_at] at hb';cases hb'
        · rw [upd_ne hs'] at hb';exact S.conf.disj s s' hne b hb hb'
    · by_cases hs:s=g
      · subst hs;rw [upd_at] at hb;cases hb
      · rw [upd_ne hs] at hb
        have:=S.conf.own s b hb
        exact ⟨this.1,fun hp=>hp.elim this.2.1 fun hbg=>S.conf.disj s g hs b hb hbg,this.2.2⟩
    · rcases hb with hb | hb
      · exact S.conf.frz b hb
      · have:=S.conf.own g b hb;exact ⟨this.1,.inr this.2.2⟩
  exact ⟨_,_,S.turn hc (fun s hs=>by rw [upd_ne (by omega)];exact S.env s hs) (fun _ _=>rfl) fun d ps hd hp=>by
    rw [upd_ne (by simp only [ghost] at hg;omega)] at hp;exact ⟨ps,hp,rfl⟩⟩
theorem St.clear (S:St w0 U Φ0 nt hv a w e Φ rv E L):Fr w0 U Φ0 nt hv a w e:=by
  have hc:=S.conf.drop fun s=>decide (ghost≤s)
  refine ⟨_,_,_,_,S.turn hc (fun s hs=>?_) (fun _ _=>rfl) (fun d ps hd hp=>?_),fun s hs=>?_⟩
  · have:decide (ghost≤s)=false:=by simp;omega
    simp only [this,Bool.false_eq_true,if_false];exact S.env s hs
  · have:decide (ghost≤d)=false:=decide_eq_false (by simp only [ghost];omega)
    simp only [this,Bool.false_eq_true,if_false] at hp;exact ⟨ps,hp,rfl⟩
  · simp [hs]
theorem own_part {A:Al} {sz lo n:Nat} {xs:List PV} {nv v:Value} {Li:List Nat} (h:Rep w Φ A (.own sz xs) nv Li) (hle:lo+n≤xs.length) (hs:sliceIn v nv sz lo n) :
    ∃ Lg,Rep w Φ A (.own sz ((xs.drop lo).take n)) v Lg∧(∀ b∈Lg,b∈Li)∧(Li.Nodup→Lg.Nodup):=by
  obtain ⟨h1,h2,h3⟩ | ⟨x,m,c,us,M,rfl,h1,h2,h3,h4,h5,h6,⟨h7,h7'⟩,h8,h9⟩:=h
  · subst h1;subst h3
    exact ⟨[],.inl ⟨by simp,rfl,hs.1⟩,by simp,fun _=>List.nodup_nil⟩
  · subst h1
    simp only [sliceIn] at hs
    obtain ⟨rfl,hcap⟩:=hs
    have hul:us.length=xs.length:=by have:=congrArg List.length h7';simpa using this
    obtain ⟨M1,M23,rfl,_,hB⟩:=h9.cut lo
    obtain ⟨M2,M3,rfl,hC,_⟩:=hB.cut n
    have hlen:((xs.drop lo).take n).length=n:=by simp;omega
    refine ⟨x.block::M2,.inr ⟨cellOf x (lo*sz),m-lo,c,(us.drop lo).take n,M2,rfl,by rw [hlen],rfl,by rw [hlen];omega,h4,?_,fun y hy=>h6 y (List.mem_of_mem_drop (List.mem_of_mem_take hy)),⟨fun u hu=>h7 u (List.mem_of_mem_drop (List.mem_of_mem_take hu)),Reps.map_isAgg h7' lo n⟩,?_,hC⟩,?_,?_⟩
    · simp only [cellOf]
      have:lo*sz+(m-lo)*sz=m*sz:=by rw [← Nat.add_mul];congr 1;omega
      omega
    · rw [hlen];exact seg_flat h7 hul h8 hle
    · intro b hb;simp only [List.mem_cons,List.mem_append] at hb ⊢;rcases hb with h | h<;>simp [h]
    · intro hn
      simp only [List.nodup_cons,List.mem_append,not_or,List.nodup_append] at hn ⊢
      exact ⟨hn.1.2.1,hn.2.2.1.1⟩
theorem run_store_at {t:TypeId} {n:Nat} (hn:szT P t=some n) {b:Addr} (hsp:b.spot=none) {row:Array Value} (hrow:RowAt w b.block row) {v:Value} (hv:v.cells.size=n) (hroom:b.off+v.cells.size≤row.size) (hone:∀ u∈v.cells.toList,u.oneCell'=true) :
    (Instr.storeAt t (.pointer (some b)) v).run P w = .ok () (w.setRow b.block (splice row b.off v.cells.toList)):=by
  obtain ⟨ti,hti,hsz⟩:=szT_info hn
  obtain ⟨el,hel⟩:=hrow
  have hb:b=⟨b.block,b.off,none⟩:=by cases b;simp_all
  simp only [Instr.storeAt,Instr.sureAddr,Sem.run_bind,Sem.run_pure,Result.andThen_ok,storeVar,run_sizeOf' hti]
  rw [if_neg (by simp only [ne_eq,Decidable.not_not];omega)]
  have:=run_storeCells_at (P:=P) b.block b.off el v.cells.toList 0 row w hel (by simpa using hroom) hone
  rw [← hb] at this
  simp only [Nat.add_zero] at this
  exact this
theorem write_ok (S:St w0 U Φ0 nt hv a w e Φ rv E L) {g r:Nat} (hg:ghost≤g) {pre:Path} {i c:Nat} {sh:Option Nat} {t:TypeId} {va:Value} (ha:Rep w Φ (AlOf w rv E) (.addr r pre i c sh) va [])
    (hn:szT P t=some (E g).cells.length) (h:(writeM r pre i c (E g)).run o e=some e') :
    ∃ w',(Instr.storeAt t va (rv g)).run P w = .ok () w'∧Fr w0 U Φ0 nt hv a w' e':=by
  simp only [writeM] at h
  obtain ⟨hc,h1⟩:=cond_run h
  simp only [Bool.and_eq_true,Bool.or_eq_true,Bool.not_eq_true'] at hc
  obtain ⟨⟨hc1,hc2⟩,hc3⟩:=hc
  have hone:∀ q∈(E g).cells,q.oneCell=true:=fun q hq=>List.all_eq_true.1 hc2 q hq
  have hva:vAgg (rv g)=(E g).isAgg:=by
    have hrep:=S.conf.rep g
    cases hx:(E g).isAgg with
    | true =>
      cases hE:E g<;>rw [hE] at hx<;>simp [PV.isAgg] at hx
      rw [hE] at hrep;obtain ⟨vs,hv',_⟩:=hrep;rw [hv'];rfl
    | false =>
      have hcs:(E g).cells=[E g]:=by cases hE:E g<;>first | rfl | (rw [hE] at hx;simp [PV.isAgg] at hx)
      have:=hone (E g) (by rw [hcs];simp)
      exact (oneCell_cells (rep_oneCell (fun a v hw h=>al_oneCell hw h) hrep this)).2
  have hlow:(E g).heavy=false∨∀ x∈(E g).ways,isUnder r pre x.1 x.2=false∨x.2.length≤pre.length:=by
    rcases hc1 with h | h
    · exact .inl h
    · refine .inr fun x hx=>?_
      have:=List.all_eq_true.1 h x hx
      simp only [Bool.not_eq_true',Bool.and_eq_false_iff] at this
      rcases this with h | h
      · exact .inl h
      · refine .inr (Nat.le_of_not_lt fun hlt=>?_)
        rw [show Nat.blt pre.length x.2.length=true from Nat.ble_eq_true_of_le hlt] at h;cases h
  have hne:(E g).cells.length≠0:=by
    intro h0;rw [List.eq_nil_of_length_eq_zero h0] at hc3;cases hc3
  obtain ⟨b,row,e1,E1,L1,rfl,k1,k2,k3,k4,k5,k6,_,_⟩:=S.write hg ha hlow hone hne hva h1
  simp only [PM.run,Option.some.injEq] at k5;subst k5
  have hsz:(rv g).cells.size=(E g).cells.length:=by
    have:=((S.conf.rep g).cellsAll hva).length
    simpa using this
  exact ⟨_,run_store_at hn k1 k2 hsz k3 k4,k6.clear⟩
theorem storeV_ok (S:St w0 U Φ0 nt hv a w e Φ rv E L) {g:Nat} (hg:ghost≤g) (hE2:E (g+1) = .bad) {r:Nat} {pre:Path} {i c:Nat} {sh:Option Nat} {t:TypeId} {va:Value} (ha:Rep w Φ (AlOf w rv E) (.addr r pre i c sh) va [])
    (hn:szT P t=some (E g).cells.length) {tk:Bool} (h:(storeV tk r pre i c (E g)).run o e=some e') :
    ∃ w',(Instr.storeAt t va (rv g)).run P w = .ok () w'∧Fr w0 U Φ0 nt hv a w' e':=by
  have S1:=S.hold (g:=g+1) (by omega) ha
  have hg1:g≠g+1:=by omega
  simp only [storeV] at h
  split at h
  · rename_i m hcut
    cases hEg:E g<;>rw [hEg] at hcut<;>simp only [cutOf] at hcut<;>try (cases hcut;done)
    rename_i r' q z lo n
    cases lo with
    | succ lo=>cases hcut
    | zero =>
      simp only [cutOf] at hcut
      split at hcut
      · rename_i hrq
        simp only [Bool.and_eq_true,decide_eq_true_eq] at hrq
        obtain ⟨rfl,rfl⟩:=hrq
        simp only [Option.some.injEq] at hcut;subst hcut
        obtain ⟨x,hx,h1⟩:=deep_run h
        split at h1
        · rename_i s xs
          obtain ⟨hle,h2⟩:=cond_run h1
          have hle:=Nat.le_of_ble_eq_true hle
          obtain ⟨root,hl,hm,h3⟩:=wnode_run h2
          have hr:r'<ghost:=ha.2.1
          have hlk:=isLock_unlock hl
          rw [hlk,← S.env r' hr] at hx
          rw [← S.env r' hr] at hlk hm
          have hr1:r'≠g+1:=by omega
          obtain ⟨kk1,kk2⟩:=modNode_kind (q' := .bad) rfl rfl hm
          have hE1:upd E (g+1) (.addr r' pre i c sh) r'=E r':=upd_ne hr1
          obtain ⟨nv,Li,g1,g2,g3,g4,g5⟩:=S1.taken (g:=g) hg hr (by rw [hE1];exact hlk) (by rw [hE1];exact hx) rfl (by rw [hE1];exact hm) kk1 kk2
          have hrepg:=S.conf.rep g
          rw [hEg] at hrepg
          obtain ⟨_,_,_,hn'⟩:=hrepg
          have hsl:sliceIn (rv g) nv s 0 n:=by
            obtain ⟨s2,xs2,q1,q2,q3⟩:=hn' nv _ (by rw [hlk];rw [hE1,upd_ne hr1] at g1;exact g1) rfl
            cases q1;subst q2;exact q3
          obtain ⟨Lg,p1,p2,p3⟩:=own_part g2 (by omega) hsl
          obtain ⟨L',S2,_⟩:=g5 _ (rv g) Lg p1 (p3 g3) (fun b hb => .inl (p2 b hb))
          have ha2:=S2.conf.rep (g+1)
          rw [upd_ne (Ne.symm hg1),upd_ne (Ne.symm hr1),upd_at,upd_ne (Ne.symm hg1),upd_at] at ha2
          have hL2:L' (g+1)=[]:=ha2.1
          rw [hL2] at ha2
          have:=write_ok (P:=P) (t:=t) S2 hg ha2 (by rw [upd_at];rw [hEg] at hn;exact hn) (by rw [upd_at];exact h3)
          rw [upd_at] at this;exact this
        · cases h1
      · cases hcut
  · have key:(settleM tk (E g) fun v=>writeM r pre i c v).run o e=some e'∨(writeM r pre i c (E g)).run o e=some e':=by
      simp only [settleAt] at h
      cases hb:(pre.isEmpty && !tk) with
      | false=>rw [hb] at h;exact .inl h
      | true =>
        rw [hb] at h;simp only [cond_true,PM.run] at h
        split at h
        · exact .inr h
        · exact .inl h
    rcases key with h | h
    · have hEg1:upd E (g+1) (.addr r pre i c sh) g=E g:=upd_ne hg1
      obtain ⟨e1,rv1,E1,h1,W⟩:=settle_ok S1 (g:=g) hg (by rw [hEg1];exact h)
      obtain ⟨Φ1,L1,S2⟩:=W.st
      have ha2:=S2.conf.rep (g+1)
      obtain ⟨q1,q2⟩:=W.rest (g+1) (by omega) (Ne.symm hg1)
      rw [q1,q2,upd_at,upd_at] at ha2
      have hL2:L1 (g+1)=[]:=ha2.1
      rw [hL2] at ha2
      have hlen:=W.len
      rw [hEg1] at hlen
      have:=write_ok (P:=P) (t:=t) S2 hg ha2 (by rw [hlen];exact hn) h1
      rw [W.val,upd_ne hg1] at this;exact this
    · exact write_ok S hg ha hn h
theorem elem_sz {t el:TypeId} {s:Nat} (h:(elemT P t).bind (szT P)=some s):∃ el,elemT P t=some el∧szT P el=some s:=by
  cases he:elemT P t with
  | none=>rw [he] at h;cases h
  | some el=>rw [he] at h;exact ⟨el,rfl,h⟩
theorem slice_size {t:TypeId} {el:TypeId} (h:elemT P t=some el):P.underlying t=some (.slice el):=by
  simp only [elemT] at h
  split at h
  · cases h;assumption
  · cases h
theorem store_ok (S:St w0 U Φ0 nt hv a w e Φ rv E L) (hb:Empty E) {fz tk:Bool} {t:TypeId} {x y:Operand} (hx:opdOk nt x=true) (hy:opdOk nt y=true) (h:(storeM P fz tk t x y).run o e=some e') :
    ∃ w',(Instr.storeAt t (a.eval x) (a.eval y)).run P w = .ok () w'∧Fr w0 U Φ0 nt hv a w' e':=by
  obtain ⟨pa,h1,hpa⟩:=opd_ok S hx h
  have gen:(match pa,shT P t,szT P t with
      | .addr r pre i c _,some sh,some n=>(bif fz&&tk then opd y else opdT y) fun v=>bif Nat.beq v.cells.length n&&v.isAgg==sh.isSome then storeV (tk && !fz) r pre i c (bif fz && !tk then freeze v else v) else .fail
      | _,_,_ => .fail).run o e=some e'→∃ w',(Instr.storeAt t (a.eval x) (a.eval y)).run P w = .ok () w'∧Fr w0 U Φ0 nt hv a w' e':=by
    intro h2
    clear h1
    split at h2
    · rename_i r pre i c s' sh n hsh hn
      have S1:=S.hold (g:=ghost+2) (by omega) hpa
      cases hfk:(fz&&tk) with
      | true =>
        rw [Bool.and_eq_true] at hfk
        obtain ⟨rfl,rfl⟩:=hfk
        simp only [Bool.and_self,cond_true,Bool.not_true,Bool.and_false,cond_false] at h2
        obtain ⟨v,h2,hv⟩:=opd_ok S1 hy h2
        obtain ⟨hc,h5⟩:=cond_run h2
        simp only [Bool.and_eq_true] at hc
        have hlen:=Nat.eq_of_beq_eq_true hc.1
        have S2:=S1.hold (g:=ghost) (Nat.le_refl _) hv
        have ha2:=S2.conf.rep (ghost+2)
        rw [upd_ne (show ghost+2≠ghost by omega),upd_ne (show ghost+2≠ghost by omega),upd_ne (show ghost+2≠ghost by omega),upd_at,upd_at,upd_at] at ha2
        have:=storeV_ok (P:=P) (t:=t) S2 (Nat.le_refl ghost) (by rw [upd_ne (show ghost+1≠ghost by omega),upd_ne (show ghost+1≠ghost+2 by omega)];exact hb _ (by omega)) ha2 (by rw [upd_at,hlen];exact hn) (by rw [upd_at];exact h5)
        rwa [upd_at] at this
      | false =>
      rw [hfk,cond_false] at h2
      obtain ⟨e1,rv1,E1,L1,h2,S2,h3,h4⟩:=opdT_ok S1 hy (g:=ghost) (Nat.le_refl _) h2
      obtain ⟨hc,h5⟩:=cond_run h2
      simp only [Bool.and_eq_true] at hc
      have hlen:=Nat.eq_of_beq_eq_true hc.1
      have h6:=h4 (ghost+2) (by omega) (by omega)
      rw [upd_at,upd_at,upd_at] at h6
      have h7:=h4 (ghost+1) (by omega) (by omega)
      rw [upd_ne (show ghost+1≠ghost+2 by omega)] at h7
      have hE1:E1 (ghost+1) = .bad:=by rw [h7.1];exact hb _ (by omega)
      cases fz with
      | false =>
        simp only [Bool.false_and,cond_false] at h5
        have ha2:=S2.conf.rep (ghost+2)
        rw [h6.1,h6.2.1,h6.2.2] at ha2
        have:=storeV_ok (P:=P) (t:=t) S2 (Nat.le_refl ghost) hE1 ha2 (by rw [hlen];exact hn) h5
        rwa [h3] at this
      | true =>
        simp only [Bool.true_and] at hfk
        subst hfk
        simp only [Bool.not_false,Bool.and_self,cond_true] at h5
        obtain ⟨Φ2,L2,S3⟩:=S2.iced (g:=ghost) (Nat.le_refl _)
        have ha2:=S3.conf.rep (ghost+2)
        rw [upd_ne (show ghost+2≠ghost by omega),h6.1,h6.2.1] at ha2
        have hL2:L2 (ghost+2)=[]:=ha2.1
        rw [hL2] at ha2
        have:=storeV_ok (P:=P) (t:=t) S3 (Nat.le_refl ghost) (by rw [upd_ne (show ghost+1≠ghost by omega)];exact hE1) ha2 (by rw [upd_at,freeze_len,hlen];exact hn) (by rw [upd_at];exact h5)
        rwa [h3] at this
    · cases h2
  split at h1
  · rename_i r pre i c s'
    obtain ⟨s,hs,h2'⟩:=optM_run h1
    obtain ⟨hsl,h2⟩:=ite_run h2'
    have S1:=S.hold (g:=ghost) (p := .own s []) (v := .slice none 0 0) (Nat.le_refl _) (.inl ⟨rfl,rfl,rfl⟩)
    have hpa':Rep w Φ (AlOf w (upd rv ghost (.slice none 0 0)) (upd E ghost (.own s []))) (.addr r pre i c s') (a.eval x) []:=by
      have hr:=al_root hpa.2
      refine ⟨rfl,al_keep S.conf tame_id hpa.2 ?_ ?_ (fun _ _=>rfl)⟩
      · rw [upd_ne (Nat.ne_of_lt hr),mapW_id]
      · rw [upd_ne (Nat.ne_of_lt hr)]
    have:=storeV_ok (P:=P) (t:=t) S1 (Nat.le_refl ghost) (by rw [upd_ne (show ghost+1≠ghost by omega)];exact hb _ (by omega)) hpa' (by rw [upd_at];exact hsl) (by rw [upd_at];exact h2)
    rwa [upd_at] at this
  · exact gen h1
theorem Fr.congr {e1 e2:Env} (h:∀ s,e1.get s=e2.get s) (hf:Fr w0 U Φ0 nt hv a w e1):Fr w0 U Φ0 nt hv a w e2:=by
  obtain ⟨Φ,rv,E,L,S,hb⟩:=hf
  exact ⟨Φ,rv,E,L,{S with env:=fun s hs=>(S.env s hs).trans (h s)},hb⟩
theorem assignV_ok (S:St w0 U Φ0 nt hv a w e Φ rv E L) {g:Nat} (hg:ghost≤g) {d:Option Nat} (hd:∀ x,d=some x→x<nt) (hb:∀ s,ghost≤s→s≠g→E s = .bad) (h:(assignV d (E g)).run o e=some e'):Fr w0 U Φ0 nt hv (a.put d (rv g)) w e':=by
  have plain:(put d (E g)).run o e=some e'→Fr w0 U Φ0 nt hv (a.put d (rv g)) w e':=fun h=>put_ok S hd hg h hb
  have hsm:=S.small
  simp only [assignV] at h
  split at h
  · rename_i d' r z lo n hEg
    split at h
    · rename_i hrd
      subst hrd
      have hr:r<nt:=hd r rfl
      have hrg:r<ghost:=by simp only [ghost];omega
      simp only [PM.run] at h
      split at h
      · cases h
      · rename_i root hnl
        split at h
        · rename_i sz xs hroot
          obtain ⟨hle,h1⟩:=cond_run h
          have hle:=Nat.le_of_ble_eq_true hle
          simp only [PM.run,Option.some.injEq] at h1
          have hE:E r = .own sz xs:=by rw [S.env r hrg,hroot]
          obtain ⟨nv,Li,g1,g2,g3,g4,g5⟩:=S.taken (g:=g) hg hrg (pre:=[]) (q := .own sz xs) (root := .bad) (by rw [hE];rfl) (by rw [hE];rfl) rfl rfl rfl rfl
          have hrep:=S.conf.rep g
          rw [hEg] at hrep
          obtain ⟨_,_,_,hn⟩:=hrep
          have hsl:sliceIn (rv g) nv sz lo n:=by
            obtain ⟨s2,xs2,q1,q2,q3⟩:=hn nv _ (by rw [hE];rw [hE] at g1;exact g1) rfl
            cases q1;subst q2;exact q3
          obtain ⟨Lg,p1,p2,p3⟩:=own_part g2 hle hsl
          obtain ⟨L',S2,_⟩:=g5 _ (rv g) Lg p1 (p3 g3) (fun b hb => .inl (p2 b hb))
          have hput:(put (some r) (upd (upd E r .bad) g (.own sz ((xs.drop lo).take n)) g)).run o (e.set r .bad)=some (((e.set r .bad).kill r []).set r (.own sz ((xs.drop lo).take n))):=by
            rw [upd_at];rfl
          have:=put_ok S2 hd hg hput (fun s hs hne=>by rw [upd_ne hne,upd_ne (by omega)];exact hb s hs hne)
          rw [upd_at] at this
          refine this.congr fun s=>?_
          rw [← h1,Env.get_set,Env.get_set,Env.get_kill,Env.get_kill,Env.get_set]
          by_cases hs:s=r
          · simp [hs]
          · simp [hs]
        · cases h
    · exact plain h
  · exact plain h
theorem assign_ok (S:St w0 U Φ0 nt hv a w e Φ rv E L) (hb:Empty E) {d:Option Nat} (hd:∀ x,d=some x→x<nt) {tk nl:Bool} {t:TypeId} {x:Operand} (hx:opdOk nt x=true) (h:(opAssign P tk nl d t x).run o e=some e'):Fr w0 U Φ0 nt hv (a.put d (a.eval x)) w e':=by
  have gen:(opdT x fun p=>bif tk then takeM p (assignV d) else assignV d p).run o e=some e'→Fr w0 U Φ0 nt hv (a.put d (a.eval x)) w e':=by
    intro h
    obtain ⟨e1,rv1,E1,L1,h1,S1,h2,h3⟩:=opdT_ok S hx (g:=ghost) (Nat.le_refl _) h
    have hb1:∀ s,ghost≤s→s≠ghost→E1 s = .bad:=fun s hs hne=>by rw [(h3 s hs hne).1];exact hb s hs
    cases tk with
    | false =>
      have:=assignV_ok S1 (Nat.le_refl ghost) hd hb1 h1
      rwa [h2] at this
    | true =>
      obtain ⟨e2,rv2,E2,h4,W⟩:=takeM_ok S1 (Nat.le_refl ghost) h1
      obtain ⟨Φ2,L2,S2⟩:=W.st
      have:=assignV_ok S2 (Nat.le_refl ghost) hd (fun s hs hne=>by rw [(W.rest s hs hne).1];exact hb1 s hs hne) h4
      rw [W.val,h2] at this;exact this
  simp only [opAssign] at h
  split at h
  · have nilR:∀ s,Rep w Φ (AlOf w rv E) (.own s []) (.slice none 0 0) []:=fun s => .inl ⟨rfl,rfl,rfl⟩
    cases nl with
    | true=>obtain ⟨s,_,h1⟩:=optM_run h;exact fin_light S hb hd h1 ⟨rfl,rfl⟩
    | false =>
      simp only [cond_false,opNil] at h
      split at h
      · exact fin_light S hb hd h (nilR _)
      · cases h
  · exact gen h
theorem vslot_inj {d i d' i':Nat} (h:vslot d i=vslot d' i') (hi:i<16) (hi':i'<16):d=d'∧i=i':=by
  simp only [vslot] at h;omega
theorem extract_ok (S:St w0 U Φ0 nt hv a w e Φ rv E L) (hb:Empty E) {d:Option Nat} (hd:∀ x,d=some x→x<nt) {s i:Nat} (hs:s<nt) (h:(opExtract d s i).run o e=some e') :
    ∃ v,(Instr.extract (a.eval (.tmp s)) i).run P w = .ok v w∧Fr w0 U Φ0 nt hv (a.put d v) w e':=by
  have hsm:=S.small
  have hsg:s<ghost:=by simp only [ghost];omega
  simp only [opExtract,PM.run] at h
  split at h
  · cases h
  · rename_i m hnl
    split at h
    · rename_i ps hps
      obtain ⟨hi,h1⟩:=cond_run h
      have hi:=blt_lt hi
      have hE:E s = .tup ps:=by rw [S.env s hsg,hps]
      obtain ⟨h16,vs,hv1,hv2⟩:=S.parts s ps i hs hE hi
      have hvg:vslot s i<ghost:=by simp only [vslot,ghost];omega
      have hev:a.eval (.tmp s) = .tuple vs:=by rw [← hv1];exact S.tmps s hs
      have hrun:(Instr.extract (a.eval (.tmp s)) i).run P w = .ok (rv (vslot s i)) w:=by
        rw [hev];simp only [Instr.extract,hv2];rfl
      refine ⟨_,hrun,?_⟩
      simp only [PM.run] at h1
      split at h1
      · cases h1
      · rename_i p hnl2
        have hrep:=S.conf.rep (vslot s i)
        rw [S.env _ hvg] at hrep
        cases hh:(e.get (vslot s i)).heavy with
        | false =>
          rw [hh] at h1;simp only [cond_false] at h1
          rw [light_nil _ _ _ hh hrep] at hrep
          exact fin_light S hb hd h1 hrep
        | true =>
          rw [hh] at h1;simp only [cond_true,PM.run] at h1
          have hc:=S.conf.take (s:=vslot s i) (g:=ghost) hvg (Nat.le_refl _)
          have S1:=S.turn (e':=e.set (vslot s i) .bad) hc (fun t ht=>by
            rw [upd_ne (by omega),Env.get_set]
            by_cases hts:t=vslot s i
            · subst hts;rw [upd_at,if_pos rfl]
            · rw [upd_ne hts,if_neg hts];exact S.env t ht) (fun t ht=>upd_ne (by omega)) (fun d ps hd hp=>by
            rw [upd_ne (by simp only [ghost];omega),upd_ne (by simp only [vslot];omega)] at hp;exact ⟨ps,hp,rfl⟩)
          have:=put_ok S1 hd (g:=ghost) (Nat.le_refl _) (by rw [upd_at,S.env _ hvg];exact h1) (fun t ht hne=>by rw [upd_ne hne,upd_ne (by omega)];exact hb t ht)
          rwa [upd_at] at this
    · cases h
end
end Go.Eng
namespace Go.Eng
open Go
mutual
theorem mapW_same {f:PV→PV}:∀ p:PV,(∀ a,a.isWay=true→(∀ x∈a.ways,x∈p.ways)→(∀ xs k,a ≠ .log xs k)→f a=a)→(∀ xs k,f (.log xs k) = .log xs k)→p.mapW f=p
  | .agg cs,h,hl=>by rw [PV.mapW,mapWs_same cs h hl]
  | .tup cs,h,hl=>by rw [PV.mapW,mapWs_same cs h hl]
  | .func k a b,h,hl=>by rw [PV.mapW,mapWs_same a (fun x hx hw hn=>h x hx (fun y hy=>List.mem_append.2 (.inl (hw y hy))) hn) hl,mapWs_same b (fun x hx hw hn=>h x hx (fun y hy=>List.mem_append.2 (.inr (hw y hy))) hn) hl]
  | .ref q,h,hl=>by rw [PV.mapW,mapW_same q h hl]
  | .box q,h,hl=>by rw [PV.mapW,mapW_same q h hl]
  | .lock q,h,hl=>by rw [PV.mapW,mapW_same q h hl]
  | .addr ..,h,_=>h _ rfl (fun _ h=>h) (fun _ _=>by simp)
  | .bor ..,h,_=>h _ rfl (fun _ h=>h) (fun _ _=>by simp)
  | .bsl ..,h,_=>h _ rfl (fun _ h=>h) (fun _ _=>by simp)
  | .bmap ..,h,_=>h _ rfl (fun _ h=>h) (fun _ _=>by simp)
  | .yld ..,_,_=>rfl
  | .log ..,_,hl=>hl _ _
  | .bad,_,_=>rfl
  | .und,_,_=>rfl
  | .int ..,_,_=>rfl
  | .bool ..,_,_=>rfl
  | .nilp,_,_=>rfl
  | .nilf,_,_=>rfl
  | .nilm,_,_=>rfl
  | .nils _,_,_=>rfl
  | .sl _,_,_=>rfl
  | .own ..,_,_=>rfl
  | .map _,_,_=>rfl
  | .omap _,_,_=>rfl
theorem mapWs_same {f:PV→PV}:∀ ps:List PV,(∀ a,a.isWay=true→(∀ x∈a.ways,x∈wayss ps)→(∀ xs k,a ≠ .log xs k)→f a=a)→(∀ xs k,f (.log xs k) = .log xs k)→mapWs f ps=ps
  | [],_,_=>rfl
  | p::ps,h,hl=>by
    rw [mapWs,mapW_same p (fun x hx hw hn=>h x hx (fun y hy=>List.mem_append.2 (.inl (hw y hy))) hn) hl,mapWs_same ps (fun x hx hw hn=>h x hx (fun y hy=>List.mem_append.2 (.inr (hw y hy))) hn) hl]
end
theorem mem_wayss {p:PV} {x:Nat×Path}:∀ {ps:List PV},p∈ps→x∈p.ways→x∈wayss ps
  | y::ys,h,hx=>by
    simp only [wayss,List.mem_append]
    rcases List.mem_cons.1 h with rfl | hm
    · exact .inl hx
    · exact .inr (mem_wayss hm hx)
theorem lose_none {r:Nat} {p:PV} (h:∀ x∈p.ways,x.1≠r):p.mapW (lose r [])=p:=by
  refine mapW_same p (fun a ha hw hn=>?_) (fun _ _=>rfl)
  have key:∀ r',(∀ x∈a.ways,x.1=r')→a.ways≠[]→Nat.beq r' r=false:=by
    intro r' h1 h2
    cases hb:Nat.beq r' r with
    | false=>rfl
    | true =>
      have hr:=Nat.eq_of_beq_eq_true hb
      cases hy:a.ways with
      | nil=>exact absurd hy h2
      | cons z zs =>
        have hz:z∈a.ways:=by rw [hy];simp
        exact absurd ((h1 z hz).trans hr) (h z (hw z hz))
  cases a<;>first | (cases ha;done) | (exact absurd rfl (hn _ _)) | skip
  all_goals
    simp only [lose]
    rw [key _ (by simp [PV.ways];done) (by simp [PV.ways])]
    rfl
section
variable {P:Program} {w0 w:World} {U Φ0 Φ:Nat→Prop} {nt:Nat} {hv:Hid} {a:Act} {e e':Env} {rv:Nat→Value} {E:Nat→PV} {L:Nat→List Nat} {o:Oracle}
theorem loadTk_ok (S:St w0 U Φ0 nt hv a w e Φ rv E L) (hb:Empty E) {d:Option Nat} (hd:∀ x,d=some x→x<nt) {tk:Bool} {t:TypeId} {x:Operand} (hx:opdOk nt x=true) (h:(opLoad P tk d t x).run o e=some e') :
    ∃ v,(Instr.loadAt t (a.eval x)).run P w = .ok v w∧Fr w0 U Φ0 nt hv (a.put d v) w e':=by
  obtain ⟨sh,hsh,h1⟩:=optM_run h
  obtain ⟨p,h2,hp⟩:=opd_ok S hx h1
  cases tk with
  | false=>exact loadV_ok S hb hd hsh hp h2
  | true =>
    simp only [cond_true] at h2
    split at h2
    · rename_i r pre i c s'
      obtain ⟨b,u,q,hb',h3,h4,h5⟩:=readM_ok S hsh hp h2
      have S1:=S.hold (Nat.le_refl ghost) h5
      obtain ⟨e1,rv1,E1,h6,W⟩:=ice_ok S1 (g:=ghost) (Nat.le_refl _) (by rw [upd_at];exact h4)
      obtain ⟨Φ1,L1,S2⟩:=W.st
      have:=put_ok S2 hd (g:=ghost) (Nat.le_refl _) h6 (fun s hs hne=>by rw [(W.rest s hs hne).1,upd_ne hne];exact hb s hs)
      rw [W.val,upd_at] at this
      refine ⟨u,?_,this⟩
      rw [hb']
      simp only [Instr.loadAt,Instr.sureAddr,Sem.run_bind,Sem.run_pure,Result.andThen_ok]
      exact h3
    · exact loadV_ok S hb hd hsh hp h2
theorem St.layPart (S:St w0 U Φ0 nt hv a w e Φ rv E L) {d i g:Nat} (hd:d<nt) (hi:i<16) (hg:ghost≤g) (hEd:∀ ps,E d ≠ .tup ps) {k:PM} (h:(lay (vslot d i) (E g) k).run o e=some e') :
    ∃ e1 E1 L1,k.run o e1=some e'∧St w0 U Φ0 nt hv a w e1 Φ (upd rv (vslot d i) (rv g)) E1 L1∧(∀ ps,E1 d ≠ .tup ps)∧E1 g = .bad∧∀ s,ghost≤s→s≠g→(∀ x∈(E s).ways,x.1≠vslot d i)→E1 s=E s:=by
  have hsm:=S.small
  have hvs:vslot d i<hidBase:=by simp only [vslot,hidBase];omega
  obtain ⟨e1,E1,L1,h1,h2,h3,h4,h5,h6,h7⟩:=lay_ok S hvs hg h
  have hcalm:∀ d' ps,d'<2000000→E1 d' = .tup ps→∃ ps',E d' = .tup ps'∧ps'.length=ps.length:=by
    intro d' ps hd' hp
    have hne:d'≠vslot d i:=by simp only [vslot];omega
    rcases h4 d' hne (by simp only [ghost];omega) with h8 | h8
    · exact ⟨ps,by rw [← h8];exact hp,rfl⟩
    · rw [h8] at hp;exact dull_tup (lose_tup _ _) hp
  refine ⟨e1,E1,L1,h1,⟨h2,h3,S.size,S.small,fun t ht=>?_,fun d' ps j hd' hp hj=>?_,fun s hs1 hs2=>?_,S.dfr⟩,fun ps hp=>?_,h6,fun s hs hne hw=>?_⟩
  · rw [upd_ne (by simp only [vslot];omega)];exact S.tmps t ht
  · obtain ⟨ps',h8,h9⟩:=hcalm d' ps (by omega) hp
    obtain ⟨h10,vs,h11,h12⟩:=S.parts d' ps' j hd' h8 (by omega)
    have hdd:d'≠d:=fun hc=>hEd ps' (hc▸h8)
    refine ⟨h10,vs,by rw [upd_ne (by simp only [vslot];omega)];exact h11,?_⟩
    rw [upd_ne fun hc=>hdd (vslot_inj hc h10 hi).1];exact h12
  · rw [upd_ne (by omega)];exact S.hid s hs1 hs2
  · obtain ⟨ps',h8,_⟩:=hcalm d ps (by omega) hp
    exact hEd ps' h8
  · rcases h7 s hs hne with h8 | h8
    · exact h8
    · rw [h8];exact lose_none hw
theorem St.empty (S:St w0 U Φ0 nt hv a w e Φ rv E L) {d:Nat} (hd:d<nt):∃ L',St w0 U Φ0 nt hv a w (e.set d .bad) Φ rv (upd E d .bad) L':=by
  have hsm:=S.small
  have hc:=S.conf.drop fun s=>s==d
  have hE:(fun s=>if (s==d)=true then PV.bad else E s)=upd E d .bad:=by
    funext s;by_cases hs:s=d<;>simp [upd,hs]
  rw [hE] at hc
  refine ⟨_,S.turn hc (fun s hs=>?_) (fun _ _=>rfl) (fun d' ps hd' hp=>?_)⟩
  · rw [Env.get_set]
    by_cases hsd:s=d
    · subst hsd;rw [upd_at,if_pos rfl]
    · rw [upd_ne hsd,if_neg hsd];exact S.env s hs
  · by_cases hdd:d'=d
    · subst hdd;rw [upd_at] at hp;cases hp
    · rw [upd_ne hdd] at hp;exact ⟨ps,hp,rfl⟩
theorem St.mark (S:St w0 U Φ0 nt hv a w e Φ rv E L) (hb:Empty E) {d n:Nat} (hd:d<nt) (hn:n≤16) {vs:Array Value} (hs:vs.size=n) (hp:∀ i,i<n→vs[i]? = some (rv (vslot d i))) :
    Fr w0 U Φ0 nt hv (a.put (some d) (.tuple vs)) w (e.set d (.tup (List.replicate n .bad))):=by
  have hsm:=S.small
  have hrep:Rep w Φ (AlOf w rv E) (.tup (List.replicate n .bad)) (.tuple vs) []:=by
    refine ⟨vs,rfl,?_⟩
    have key:∀ (n:Nat) (us:List Value),us.length=n→Reps w Φ (AlOf w rv E) (List.replicate n .bad) us []:=by
      intro n
      induction n with
      | zero=>intro us h;rw [List.eq_nil_of_length_eq_zero h];exact ⟨rfl,rfl⟩
      | succ n ih =>
        intro us h
        match us,h with
        | u::us,h=>exact ⟨u,us,[],[],rfl,rfl,rfl,ih us (by simpa using h)⟩
    exact key n vs.toList (by simpa using hs)
  have hlight:(PV.tup (List.replicate n .bad)).heavy=false:=by
    have key:∀ n,heavys (List.replicate n .bad)=false:=by
      intro n
      induction n with
      | zero=>rfl
      | succ n ih=>simp [List.replicate_succ,heavys,PV.heavy,ih]
    exact key n
  have hc:=S.conf.put (s:=d) hlight hrep
  have hds:d<a.tmps.size:=by rw [S.size];exact hd
  refine ⟨_,_,_,_,⟨hc,fun s hs=>?_,by simp only [Act.put,Array.size_setIfInBounds];exact S.size,S.small,fun t ht=>?_,fun d' ps j hd' hp' hj=>?_,fun s hs1 hs2=>?_,S.dfr⟩,fun g hg=>?_⟩
  · rw [Env.get_set]
    by_cases hsd:s=d
    · subst hsd;rw [upd_at,if_pos rfl]
    · rw [upd_ne hsd,if_neg hsd];exact S.env s hs
  · rw [Act.put_tmps a hds]
    by_cases htd:t=d
    · subst htd;simp [upd_at]
    · rw [if_neg htd,upd_ne htd];exact S.tmps t ht
  · by_cases hdd:d'=d
    · subst hdd
      rw [upd_at] at hp'
      simp only [PV.tup.injEq] at hp'
      rw [← hp'] at hj
      simp only [List.length_replicate] at hj
      exact ⟨by omega,vs,upd_at,by rw [upd_ne (by simp only [vslot];omega)];exact hp j hj⟩
    · rw [upd_ne hdd] at hp'
      obtain ⟨h10,us,h11,h12⟩:=S.parts d' ps j hd' hp' hj
      exact ⟨h10,us,by rw [upd_ne hdd];exact h11,by rw [upd_ne (by simp only [vslot];omega)];exact h12⟩
  · rw [upd_ne (by simp only [hidBase] at hs1;omega)];exact S.hid s hs1 hs2
  · rw [upd_ne (by simp only [ghost] at hg;omega)];exact hb g hg
theorem moveParts_ok {s d:Nat} (hd:d<nt) (hs:s<nt) {vs:Array Value}:∀ (n i:Nat) {e:Env} {rv:Nat→Value} {E:Nat→PV} {L:Nat→List Nat},St w0 U Φ0 nt hv a w e Φ rv E L→Empty E→(∀ ps,E d ≠ .tup ps)→i+n≤16→vs.size=i+n →
    (∀ j,j<i→vs[j]? = some (rv (vslot d j)))→(∀ j,i≤j→j<i+n→vs[j]? = some (rv (vslot s j)))→(moveParts s d i n).run o e=some e'→Fr w0 U Φ0 nt hv (a.put (some d) (.tuple vs)) w e'
  | 0,i,e,rv,E,L,S,hb,hE,h16,hsz,h1,h2,h=>by
    simp only [moveParts,PM.run,Option.some.injEq] at h;subst h
    exact S.mark hb hd (by omega) (by simpa using hsz) h1
  | n + 1,i,e,rv,E,L,S,hb,hE,h16,hsz,h1,h2,h=>by
    have hsm:=S.small
    have hvg:vslot s i<ghost:=by simp only [vslot,ghost];omega
    simp only [moveParts,PM.run] at h
    split at h
    · cases h
    · have hc:=S.conf.take (s:=vslot s i) (g:=ghost) hvg (Nat.le_refl _)
      have S1:=S.turn (e':=e.set (vslot s i) .bad) hc (fun t ht=>by
        rw [upd_ne (by omega),Env.get_set]
        by_cases hts:t=vslot s i
        · subst hts;rw [upd_at,if_pos rfl]
        · rw [upd_ne hts,if_neg hts];exact S.env t ht) (fun t ht=>upd_ne (by omega)) (fun d ps hd hp=>by
        rw [upd_ne (by simp only [ghost];omega),upd_ne (by simp only [vslot];omega)] at hp;exact ⟨ps,hp,rfl⟩)
      obtain ⟨e2,E2,L2,k1,S2,k2,k3,k4⟩:=S1.layPart (i:=i) (g:=ghost) hd (by omega) (Nat.le_refl _) (fun ps hp=>by
        rw [upd_ne (by simp only [ghost];omega),upd_ne (by simp only [vslot];omega)] at hp;exact hE ps hp) (by rw [upd_at,S.env _ hvg];exact h)
      have hrv:∀ t,t<ghost→upd (upd rv ghost (rv (vslot s i))) (vslot d i) (upd rv ghost (rv (vslot s i)) ghost) t=if t=vslot d i then rv (vslot s i) else rv t:=by
        intro t ht
        by_cases htd:t=vslot d i
        · subst htd;rw [upd_at,upd_at,if_pos rfl]
        · rw [upd_ne htd,upd_ne (by omega),if_neg htd]
      have hlt:∀ x j,x<nt→j<16→vslot x j<ghost:=by intro x j hx hj;simp only [vslot,ghost];omega
      refine moveParts_ok hd hs n (i+1) S2 (fun t ht=>?_) k2 (by omega) (by omega) (fun j hj=>?_) (fun j hj1 hj2=>?_) k1
      · by_cases htg:t=ghost
        · subst htg;exact k3
        · rw [k4 t ht htg (by rw [upd_ne htg,upd_ne (by omega),hb t ht];simp [PV.ways]),upd_ne htg,upd_ne (by omega)];exact hb t ht
      · rw [hrv _ (hlt d j hd (by omega))]
        by_cases hji:j=i
        · subst hji;rw [if_pos rfl];exact h2 j (by omega) (by omega)
        · rw [if_neg fun hc=>hji (vslot_inj hc (by omega) (by omega)).2];exact h1 j (by omega)
      · rw [hrv _ (hlt s j hs (by omega)),if_neg fun hc=>by have:=(vslot_inj hc (by omega) (by omega)).2;omega]
        exact h2 j (by omega) (by omega)
theorem move_ok (S:St w0 U Φ0 nt hv a w e Φ rv E L) (hb:Empty E) {d:Option Nat} (hd:∀ x,d=some x→x<nt) {t:TypeId} {x:Operand} (hx:opdOk nt x=true) (h:(opMove P d t x).run o e=some e'):Fr w0 U Φ0 nt hv (a.put d (a.eval x)) w e':=by
  have gen:(opd x (put d)).run o e=some e'→Fr w0 U Φ0 nt hv (a.put d (a.eval x)) w e':=by
    intro h
    obtain ⟨p,h1,h2⟩:=opd_ok S hx h
    exact fin_light S hb hd h1 h2
  simp only [opMove] at h
  split at h
  · simp only [opNil] at h
    split at h
    · exact fin_light S hb hd h (.inl ⟨rfl,rfl,rfl⟩)
    · cases h
  · rename_i s
    have hs:s<nt:=blt_lt hx
    have hsm:=S.small
    have hsg:(s:Nat)<ghost:=Nat.lt_of_lt_of_le hs (Nat.le_trans S.small (by decide))
    simp only [opMoveTmp] at h
    split at h
    · rename_i ts d' _
      simp only [PM.run] at h
      split at h
      · cases h
      · split at h
        · rename_i ps hps
          obtain ⟨⟨hlen,h16⟩,h1⟩:=ite_run h
          simp only [PM.run] at h1
          have hE:E s = .tup ps:=by rw [S.env s hsg,hps]
          have hrep:=S.conf.rep s
          rw [hE] at hrep
          obtain ⟨vs,hv1,hr⟩:=hrep
          have hvl:vs.size=ps.length:=by have:=hr.length;simpa using this
          have hev:a.eval (.tmp s) = .tuple vs:=by rw [← hv1];exact S.tmps s hs
          obtain ⟨L',S1⟩:=S.empty (hd d' rfl)
          rw [hev]
          refine moveParts_ok (vs:=vs) (hd d' rfl) hs ts.size 0 S1 (fun g hg=>?_) (fun ps hp=>by rw [upd_at] at hp;cases hp) (by omega) (by omega) (fun j hj=>by omega) (fun j _ hj=>?_) h1
          · rw [upd_ne (by have:=hd d' rfl;simp only [ghost] at hg;omega)];exact hb g hg
          · obtain ⟨_,us,g1,g2⟩:=S.parts s ps j hs hE (by omega)
            rw [hv1] at g1;cases g1;exact g2
        · cases h
    · exact gen h
  · exact gen h
theorem putParts_ok {d:Nat} (hd:d<nt) {vs:Array Value}:∀ (ps:List PV) (i:Nat) {e:Env} {rv:Nat→Value} {E:Nat→PV} {L:Nat→List Nat},St w0 U Φ0 nt hv a w e Φ rv E L→(∀ ps,E d ≠ .tup ps)→i+ps.length≤16→vs.size=i+ps.length →
    (∀ j p,ps[j]? = some p→E (ghost+i+j)=p∧vs[i+j]? = some (rv (ghost+i+j)))→(∀ g,ghost≤g→(∀ j,j<ps.length→g≠ghost+i+j)→E g = .bad)→(∀ x∈wayss ps,inParts d x.1=false) →
    (∀ j,j<i→vs[j]? = some (rv (vslot d j)))→(putParts d i ps .ok).run o e=some e'→Fr w0 U Φ0 nt hv (a.put (some d) (.tuple vs)) w e'
  | [],i,e,rv,E,L,S,hE,h16,hsz,hp,hb,hw,h1,h=>by
    simp only [putParts,PM.run,Option.some.injEq] at h;subst h
    exact S.mark (fun g hg=>hb g hg (by simp)) hd (by simpa using h16) (by simpa using hsz) h1
  | p :: ps,i,e,rv,E,L,S,hE,h16,hsz,hp,hb,hw,h1,h=>by
    have hsm:=S.small
    simp only [List.length_cons] at h16 hsz
    obtain ⟨q1,q2⟩:=hp 0 p rfl
    simp only [Nat.add_zero] at q1 q2
    simp only [putParts] at h
    rw [← q1] at h
    obtain ⟨e2,E2,L2,k1,S2,k2,k3,k4⟩:=S.layPart (i:=i) (g:=ghost+i) hd (by omega) (by omega) hE h
    have hvd:vslot d i<ghost:=by simp only [vslot,ghost];omega
    have hinp:∀ j,j<16→inParts d (vslot d j)=true:=by
      intro j hj
      simp only [inParts,Bool.and_eq_true]
      exact ⟨Nat.ble_eq_true_of_le (by simp only [vslot];omega),Nat.ble_eq_true_of_le (by simp only [vslot];omega)⟩
    have hkeep:∀ j p',ps[j]? = some p'→E2 (ghost+(i+1)+j)=p':=by
      intro j p' hj
      obtain ⟨q3,_⟩:=hp (j+1) p' (by simpa using hj)
      have e1:ghost+i+(j+1)=ghost+(i+1)+j:=by omega
      rw [e1] at q3
      rw [k4 _ (by omega) (by omega) (fun x hx hc=>?_),q3]
      rw [q3] at hx
      have:=hw x (by
        simp only [wayss,List.mem_append]
        exact .inr (mem_wayss (List.mem_of_getElem? hj) hx))
      rw [hc,hinp i (by omega)] at this;cases this
    refine putParts_ok hd ps (i+1) S2 k2 (by omega) (by omega) (fun j p' hj=>⟨hkeep j p' hj,?_⟩) (fun g hg hne=>?_) (fun x hx=>hw x (by simp [wayss,hx])) (fun j hj=>?_) k1
    · obtain ⟨_,q4⟩:=hp (j+1) p' (by simpa using hj)
      have e1:ghost+i+(j+1)=ghost+(i+1)+j:=by omega
      have e2:i+(j+1)=i+1+j:=by omega
      rw [e1,e2] at q4
      rw [upd_ne (by omega)];exact q4
    · by_cases hgi:g=ghost+i
      · subst hgi;exact k3
      · have hbad:E g = .bad:=hb g hg fun j hj hc=>by
          cases j with
          | zero=>exact hgi (by simpa using hc)
          | succ j=>exact hne j (by simpa using hj) (by omega)
        rw [k4 g hg hgi (by rw [hbad];simp [PV.ways]),hbad]
    · by_cases hji:j=i
      · subst hji;rw [upd_at];exact q2
      · rw [upd_ne fun hc=>hji (vslot_inj hc (by omega) (by omega)).2];exact h1 j (by omega)
end
end Go.Eng
namespace Go.Eng
open Go
section
variable {P:Program} {w:World}
theorem append_fits {t t2 ty el e2:TypeId} {i:TypeInfo} (ht:P.underlying t=some (.slice el)) (ht2:P.underlying t2=some (.slice e2)) (hi:P.info? el=some i) {a xb:Option Addr} {sLen sCap n xc:Nat} {news:List Value}
    (hnews:(Builtin.firstCells i.size n (.slice xb n xc)).run P w = .ok news.toArray w) (hroom:sLen+n≤sCap) (w':World) (hst:∀ b,a=some b→(storeCells (b.add (sLen*i.size)) news).run P w = .ok () w') (hno:a=none→w'=w) :
    (Builtin.append_ #[t,t2] ty #[.slice a sLen sCap,.slice xb n xc]).run P w = .ok (.slice a (sLen+n) sCap) w':=by
  cases a with
  | none =>
    rw [hno rfl]
    simp [Builtin.append_,run_underlying ht,run_underlying ht2,sizeOf,typeInfo,hi,Builtin.lenOf,hroom,hnews]
  | some b =>
    have:=hst b rfl
    simp [Builtin.append_,run_underlying ht,run_underlying ht2,sizeOf,typeInfo,hi,Builtin.lenOf,hroom,hnews,this]
theorem append_grows {t t2 ty el e2:TypeId} {i:TypeInfo} {z:Value} (ht:P.underlying t=some (.slice el)) (ht2:P.underlying t2=some (.slice e2)) (hi:P.info? el=some i) (hz:i.zero=some z) {a xb:Option Addr} {sLen sCap n xc:Nat} {old news:List Value}
    (hold:(Builtin.firstCells i.size sLen (.slice a sLen sCap)).run P w.drew = .ok old.toArray w.drew) (hnews:(Builtin.firstCells i.size n (.slice xb n xc)).run P w.drew = .ok news.toArray w.drew)
    (hroom:¬ sLen+n≤sCap) (h32:sLen+n≤4294967296) (hby:i.bytes≤16384) :
    (Builtin.append_ #[t,t2] ty #[.slice a sLen sCap,.slice xb n xc]).run P w =
      .ok (.slice (some ⟨w.heap.size,0,none⟩) (sLen+n) (grownCap w (sLen+n) sCap el)) (w.drew.alloc (.cells (old.toArray++news.toArray++Builtin.zeroCells z.cells (grownCap w (sLen+n) sCap el-(sLen+n))) el)):=by
  have hgr':¬ (281474976710656<Builtin.nextslicecap (sLen+n) sCap*i.bytes):=by
    have h1:(sLen+n)*i.bytes≤4294967296*16384:=Nat.mul_le_mul h32 hby
    have:=growslice_fits (need:=sLen+n) (old:=sCap) (bytes:=i.bytes) (by omega) (by omega)
    omega
  have h63':¬ (9223372036854775807<((sLen:Int)+(n:Int))):=by omega
  simp [Builtin.append_,run_underlying ht,run_underlying ht2,sizeOf,typeInfo,zeroValue,hi,hz,Builtin.lenOf,hroom,h63',hgr',Question.forced,hold,hnews,newRow,grownCap]
  congr 2
  apply Array.ext'
  simp [List.append_assoc]
end
section
variable {P:Program} {w0 w:World} {U Φ0 Φ:Nat→Prop} {nt:Nat} {hv:Hid} {a:Act} {e e':Env} {rv:Nat→Value} {E:Nat→PV} {L:Nat→List Nat} {o:Oracle}
structure Listed (w:World) (Φ:Nat→Prop) (v:Value) (ys:List PV) (us:List Value) (Ly:List Nat):Prop where
  val:∃ xb xc,v = .slice xb ys.length xc∧∀ sz,(∀ y∈ys,y.cells.length=sz)→∀ (P:Program) (w1:World),(∀ t,w1.cell? t=w.cell? t)→(Builtin.firstCells sz ys.length v).run P w1 = .ok (flat us).toArray w1
  reps:Reps w Φ noAl ys us Ly
  size:∀ sz,(∀ y∈ys,y.cells.length=sz)→∀ u∈us,u.cells.size=sz
  agg:us.map vAgg=ys.map PV.isAgg
theorem first_at {b:Addr} {n xc sz:Nat} {us:List Value} (hsp:b.spot=none) {row:Array Value} (hrow:RowAny w b.block row) (hl:us.length=n) (hsz:∀ u∈us,u.cells.size=sz) (h:seg row b.off (n*sz)=flat us) (P:Program) (w1:World) (hw:∀ t,w1.cell? t=w.cell? t) :
    (Builtin.firstCells sz n (.slice (some b) n xc)).run P w1 = .ok (flat us).toArray w1:=by
  refine run_firstCells_some w1 sz n b n xc (flat us) (by rw [flat_length hsz,hl]) fun j v hj=>?_
  rw [hw]
  exact cells_of_seg hsp hrow (by rw [flat_length hsz,hl];exact h) j v hj
theorem listed_nil {v:Value} {xb:Option Addr} {xc:Nat} (hv:v = .slice xb 0 xc):Listed w Φ v [] [] []:=by
  refine ⟨⟨xb,xc,hv,fun sz _ P w1 _=>?_⟩,⟨rfl,rfl⟩,by simp,rfl⟩
  subst hv
  cases xb with
  | none=>exact run_firstCells_none w1 sz 0 0 xc
  | some b=>exact run_firstCells_some w1 sz 0 b 0 xc [] (by simp) (by simp)
theorem plain_ok {p:PV} (h:p.plain=true):p.heavy=false∧p.ways=[]:=by
  have h0:∀ p:PV,p.plain0=true→p.heavy=false∧p.ways=[]:=by
    intro p h
    cases p<;>first | (cases h;done) | exact ⟨rfl,rfl⟩ | skip
    simp only [PV.plain0] at h
    exact ⟨rfl,by simpa [PV.ways] using h⟩
  cases p<;>first | exact h0 _ h | skip
  rename_i cs
  simp only [PV.plain] at h
  have key:∀ cs:List PV,cs.all PV.plain0=true→heavys cs=false∧wayss cs=[]:=by
    intro cs
    induction cs with
    | nil=>intro _;exact ⟨rfl,rfl⟩
    | cons c cs ih =>
      intro h
      simp only [List.all_cons,Bool.and_eq_true] at h
      obtain ⟨h1,h2⟩:=h0 c h.1
      obtain ⟨h3,h4⟩:=ih h.2
      exact ⟨by simp [heavys,h1,h3],by simp [wayss,h2,h4]⟩
  exact key cs h
theorem plains_nil {A:Al}:∀ {ys:List PV} {us:List Value} {Ly:List Nat},(∀ y∈ys,y.plain=true)→Reps w Φ A ys us Ly→Ly=[]
  | [],_,_,_,h=>h.2
  | y::ys,us,Ly,hp,h=>by
    obtain ⟨v,vs,L1,L2,rfl,rfl,h1,h2⟩:=h
    rw [light_nil _ _ _ (plain_ok (hp y (by simp))).1 h1,plains_nil (fun z hz=>hp z (by simp [hz])) h2];rfl
theorem seg_prefix {c:Array Value} {o m n:Nat} (h:m≤n):seg c o m=(seg c o n).take m:=by
  simp only [seg,List.take_take];rw [Nat.min_eq_left h]
theorem listOf_ok (S:St w0 U Φ0 nt hv a w e Φ rv E L) {p:PV} {v:Value} (hp:Rep w Φ (AlOf w rv E) p v []) {k:List PV→PM} (h:(listOf p k).run o e=some e'):∃ ys us Ly,(k ys).run o e=some e'∧Listed w Φ v ys us Ly:=by
  cases p<;>simp only [listOf] at h<;>try (cases h;done)
  case nils=>exact ⟨[],[],[],h,listed_nil hp.1⟩
  case sl xs =>
    obtain ⟨_,⟨rfl,b,n,hv'⟩ | ⟨b,n,c,us,sz,hv',hsp,hle,hΦ,hrow,hxs,⟨hu1,hu2⟩,hseg,hr⟩⟩:=hp
    · exact ⟨[],[],[],h,listed_nil hv'⟩
    · have hl:us.length=xs.length:=by have:=congrArg List.length hu2;simpa using this
      refine ⟨xs,us,[],h,⟨some b,n,hv',fun sz' hsz' P w1 hw=>?_⟩,hr,fun sz' hsz' u hu=>?_,hu2⟩
      · by_cases hx:xs=[]
        · subst hx
          have:us=[]:=List.eq_nil_of_length_eq_zero (by simpa using hl)
          subst this;subst hv'
          exact run_firstCells_some w1 sz' 0 b 0 n [] (by simp) (by simp)
        · obtain ⟨y,ys,rfl⟩:=List.exists_cons_of_ne_nil hx
          have:sz'=sz:=by rw [← hsz' y (by simp),hxs y (by simp)]
          subst this;subst hv'
          exact first_at hsp hrow hl hu1 hseg P w1 hw
      · cases xs with
        | nil => have h0:us=[]:=List.eq_nil_of_length_eq_zero (by simpa using hl)
                 rw [h0] at hu;cases hu
        | cons y ys=>rw [hu1 u hu,← hsz' y (by simp),hxs y (by simp)]
  case bor r pre z lo n =>
    obtain ⟨_,hr,_,hn⟩:=hp
    obtain ⟨q,hq,h1⟩:=deep_run h
    split at h1
    · rename_i sz xs
      obtain ⟨hle,h2⟩:=cond_run h1
      have hle:=Nat.le_of_ble_eq_true hle
      rw [← S.env r hr] at hq
      obtain ⟨nv,Li,hf,_,hrep⟩:=getNode_follow (rep_unlock (S.conf.rep r)) hq
      obtain ⟨sz2,xs2,g1,g2,g3⟩:=hn nv _ hf rfl
      cases g1;subst g2
      obtain ⟨q1,q2,q3⟩ | ⟨x,m,c,us,M,q0,q1,q2,q3,q4,q5,q6,⟨q7,q7'⟩,q8,q9⟩:=hrep
      · subst q1;subst q3
        have hn0:n=0:=by simp at hle;omega
        subst hn0
        simp only [sliceIn] at g3
        refine ⟨_,[],[],h2,?_⟩
        simp only [List.drop_nil,List.take_nil]
        exact listed_nil g3.1
      · subst q1
        simp only [sliceIn] at g3
        obtain ⟨hv',hcap⟩:=g3
        have hul:us.length=xs.length:=by have:=congrArg List.length q7';simpa using this
        obtain ⟨Ly,_,hry⟩:=part_blocks q9 lo n
        have hlen:((xs.drop lo).take n).length=n:=by simp;omega
        have hulen:((us.drop lo).take n).length=n:=by simp;omega
        refine ⟨_,(us.drop lo).take n,Ly,h2,⟨_,_,by rw [hlen];exact hv',fun sz' hsz' P w1 hw=>?_⟩,hry,fun sz' hsz' u hu=>?_,Reps.map_isAgg q7' lo n⟩
        · rw [hlen,hv']
          by_cases hn0:n=0
          · subst hn0
            simp only [List.take_zero]
            exact run_firstCells_some w1 sz' 0 _ 0 _ [] (by simp) (by simp)
          · have:sz'=z:=by
              cases hxs:(xs.drop lo).take n with
              | nil=>rw [hxs] at hlen;simp at hlen;omega
              | cons y ys =>
                have hy:y∈(xs.drop lo).take n:=by rw [hxs];simp
                rw [← hsz' y hy,q6 y (List.mem_of_mem_drop (List.mem_of_mem_take hy))]
            subst this
            exact first_at (b:=cellOf x (lo*sz')) rfl q4.any hulen (fun u hu=>q7 u (List.mem_of_mem_drop (List.mem_of_mem_take hu))) (seg_flat q7 hul q8 hle) P w1 hw
        · cases hxs:(xs.drop lo).take n with
          | nil =>
            rw [hxs] at hlen
            have h0:(us.drop lo).take n=[]:=List.eq_nil_of_length_eq_zero (by rw [hulen];simpa using hlen.symm)
            rw [h0] at hu;cases hu
          | cons y ys =>
            have hy:y∈(xs.drop lo).take n:=by rw [hxs];simp
            rw [q7 u (List.mem_of_mem_drop (List.mem_of_mem_take hu)),← hsz' y hy,q6 y (List.mem_of_mem_drop (List.mem_of_mem_take hy))]
    · cases h1
  case bsl r pre i c sz ag n =>
    obtain ⟨_,hr,b,cap,hv',hcap,hsp,hn⟩:=hp
    simp only [PM.run] at h
    split at h
    · rename_i g cs hq
      rw [← S.env r hr] at hq
      obtain ⟨nv,np,ad,us,h1,h2,h3,h4,h5,h6⟩:=S.conf.cells hr hq
      have:=hn nv np h1 ad h2;subst this
      obtain ⟨hc,h7⟩:=cond_run h
      simp only [Bool.and_eq_true,chunksOk] at hc
      obtain ⟨⟨hcl,hco⟩,hpl⟩:=hc
      have hcl:=Nat.eq_of_beq_eq_true hcl
      have hw0:∀ (cs:List PV),cs.all (fun q=>q.plain0)=true→wayss cs=[]:=by
        intro cs
        induction cs with
        | nil=>intro _;rfl
        | cons c cs ih =>
          intro h
          simp only [List.all_cons,Bool.and_eq_true] at h
          have hc0:c.ways=[]:=by
            have h0:=h.1
            cases c<;>first | (cases h0;done) | rfl | skip
            simpa [PV.plain0,PV.ways] using h0
          simp [wayss,hc0,ih h.2]
      have hr0:Reps w Φ noAl cs us []:=h6.ways _ _ _ fun a v hw hx ha=>by
        rw [hw0 cs hpl] at hx
        have h1:=al_log hw ha
        cases hay:a.ways with
        | nil=>exact absurd hay h1
        | cons z zs=>have:=hx z (by rw [hay];simp);cases this
      obtain ⟨us',q1,q2,q3,q4,q5⟩:=chunks_rep (ag:=ag) (sz:=sz) (fun a v _ h=>h.elim) n cs us hcl (fun hag=>by
        simp only [hag,Bool.false_or,Bool.and_eq_true] at hco
        exact ⟨Nat.eq_of_beq_eq_true hco.1,fun q hq=>List.all_eq_true.1 hco.2 q hq⟩) hr0
      have hlen:=chunks_length ag sz n cs
      refine ⟨_,us',[],h7,⟨some b,cap,by rw [hlen];exact hv',fun sz' hsz' P w1 hw=>?_⟩,q1,fun sz' hsz' u hu=>?_,q4⟩
      · rw [hlen,hv',q2]
        by_cases hn0:n=0
        · subst hn0
          have:us=[]:=List.eq_nil_of_length_eq_zero (by rw [h4];simp)
          subst this
          exact run_firstCells_some w1 sz' 0 b 0 cap [] (by simp) (by simp)
        · have:sz'=sz:=by
            cases hxs:chunks ag sz n cs with
            | nil=>rw [hxs] at hlen;simp at hlen;omega
            | cons y ys =>
              have hy:y∈chunks ag sz n cs:=by rw [hxs];simp
              rw [← hsz' y hy,q5 y hy]
          subst this
          exact run_firstCells_some w1 sz' n b n cap us h4 (fun j v hj=>by rw [hw];exact h5 j v hj)
      · cases hxs:chunks ag sz n cs with
        | nil =>
          have hul:us'.length=(chunks ag sz n cs).length:=q1.length
          rw [hxs] at hul
          have h0:us'=[]:=List.eq_nil_of_length_eq_zero (by simpa using hul)
          rw [h0] at hu;cases hu
        | cons y ys =>
          have hy:y∈chunks ag sz n cs:=by rw [hxs];simp
          rw [q3 u hu,← hsz' y hy,q5 y hy]
    · cases h
theorem newsM_ok (S:St w0 U Φ0 nt hv a w e Φ rv E L) {g:Nat} (hg:ghost≤g) (hEg:E g = .bad) {x:Operand} (hx:opdOk nt x=true) {k:List PV→PM} (h:(newsM x k).run o e=some e') :
    ∃ e1 rv1 E1 L1 ys us Ly,(k ys).run o e1=some e'∧St w0 U Φ0 nt hv a w e1 Φ rv1 E1 L1∧Held g rv rv1 E E1 L L1∧Listed w Φ (a.eval x) ys us Ly∧Ly.Nodup∧∀ b∈Ly,b∈L1 g:=by
  have hLg:L g=[]:=by have:=S.conf.rep g;rw [hEg] at this;exact this
  have copy:∀ {p:PV},Rep w Φ (AlOf w rv E) p (a.eval x) []→(listOf p fun xs=>if xs.all (fun x=>x.plain) then k xs else .fail).run o e=some e' →
      ∃ e1 rv1 E1 L1 ys us Ly,(k ys).run o e1=some e'∧St w0 U Φ0 nt hv a w e1 Φ rv1 E1 L1∧Held g rv rv1 E E1 L L1∧Listed w Φ (a.eval x) ys us Ly∧Ly.Nodup∧∀ b∈Ly,b∈L1 g:=by
    intro p hp h
    obtain ⟨ys,us,Ly,h1,h2⟩:=listOf_ok S hp h
    obtain ⟨h3,h4⟩:=ite_run h1
    have:Ly=[]:=plains_nil (fun y hy=>List.all_eq_true.1 h3 y hy) h2.reps
    subst this
    exact ⟨e,rv,E,L,ys,us,[],h4,S,fun _ _ _=>⟨rfl,rfl,rfl⟩,h2,List.nodup_nil,by simp⟩
  cases x with
  | const v=>simp only [newsM] at h;obtain ⟨p,h1,h2⟩:=opd_ok S hx h;exact copy h2 h1
  | func f=>simp only [newsM] at h;obtain ⟨p,h1,h2⟩:=opd_ok S hx h;exact copy h2 h1
  | global f=>cases h
  | tmp t =>
    have ht:(t:Nat)<nt:=blt_lt hx
    have htg:(t:Nat)<ghost:=Nat.lt_of_lt_of_le ht (Nat.le_trans S.small (by decide))
    have hev:a.eval (.tmp t)=rv t:=S.tmps t ht
    simp only [newsM,PM.run] at h
    split at h
    · cases h
    · split at h
      · rename_i sz xs hroot
        simp only [PM.run] at h
        have hE:E t = .own sz xs:=by rw [S.env t htg,hroot]
        have hc:=S.conf.take (s:=t) (g:=g) htg hg
        have hgt:t≠g:=by intro hc;subst hc;exact absurd htg (Nat.not_lt.2 hg)
        have S1:=S.turn (e':=e.set t .bad) hc (fun s hs=>by
          rw [upd_ne (by omega),Env.get_set]
          by_cases hst:s=t
          · subst hst;rw [upd_at,if_pos rfl]
          · rw [upd_ne hst,if_neg hst];exact S.env s hs) (fun s hs=>upd_ne (by omega)) (fun d ps hd hp=>by
          rw [upd_ne (by simp only [ghost] at hg;omega)] at hp
          by_cases hdt:d=t
          · subst hdt;rw [upd_at] at hp;cases hp
          · rw [upd_ne hdt] at hp;exact ⟨ps,hp,rfl⟩)
        have hrep:=S.conf.rep t
        rw [hE] at hrep
        have hnd:=S.conf.nodup t
        have hheld:Held g rv (upd rv g (rv t)) E (upd (upd E t .bad) g (E t)) L (upd (upd L t []) g (L t)):=by
          intro s hs hne
          have hst:s≠t:=by intro hc;subst hc;exact absurd htg (Nat.not_lt.2 hs)
          rw [upd_ne hne,upd_ne hne,upd_ne hne,upd_ne hst,upd_ne hst];exact ⟨rfl,rfl,rfl⟩
        rw [hev]
        obtain ⟨q1,q2,q3⟩ | ⟨x,m,c,us,M,q0,q1,q2,q3,q4,q5,q6,⟨q7,q7'⟩,q8,q9⟩:=hrep
        · subst q1
          exact ⟨_,_,_,_,[],[],[],h,S1,hheld,listed_nil q3,List.nodup_nil,by simp⟩
        · have hul:us.length=xs.length:=by have:=congrArg List.length q7';simpa using this
          rw [q0] at hnd
          refine ⟨_,_,_,_,xs,us,M,h,S1,hheld,⟨⟨some x,m,q1,fun sz' hsz' P w1 hw=>?_⟩,q9,fun sz' hsz' u hu=>?_,q7'⟩,(List.nodup_cons.1 hnd).2,fun b hb=>by rw [upd_at,q0];simp [hb]⟩
          · rw [q1]
            cases xs with
            | nil =>
              have h0:us=[]:=List.eq_nil_of_length_eq_zero (by simpa using hul)
              subst h0
              exact run_firstCells_some w1 sz' 0 x 0 m [] (by simp) (by simp)
            | cons y ys =>
              have:sz'=sz:=by rw [← hsz' y (by simp),q6 y (by simp)]
              subst this
              exact first_at q2 q4.any hul q7 q8 P w1 hw
          · cases xs with
            | nil =>
              have h0:us=[]:=List.eq_nil_of_length_eq_zero (by simpa using hul)
              rw [h0] at hu;cases hu
            | cons y ys=>rw [q7 u hu,← hsz' y (by simp),q6 y (by simp)]
      · simp only [PM.run] at h
        have hv:=S.conf.view htg
        rw [S.env t htg] at hv
        exact copy (by rw [hev];exact hv) h
theorem grown_rep {A:Al} {w':World} {z:Value} {sz len m cap:Nat} {xs ys:List PV} {us uys:List Value} {M Ly:List Nat} (hz:z.cells.size=sz) (hlen:us.length=len) (hm:uys.length=m) (hxl:xs.length=len) (hyl:ys.length=m)
    (hxs:∀ x∈xs,x.cells.length=sz) (hys:∀ y∈ys,y.cells.length=sz) (hus:∀ u∈us,u.cells.size=sz) (huys:∀ u∈uys,u.cells.size=sz) (hag:us.map vAgg=xs.map PV.isAgg) (hagy:uys.map vAgg=ys.map PV.isAgg)
    (hr:Reps w' Φ noAl xs us M) (hry:Reps w' Φ noAl ys uys Ly) (hcap:len+m≤cap) {b:Nat} (hrow:RowAt w' b ((flat us).toArray++(flat uys).toArray++Builtin.zeroCells z.cells (cap-(len+m)))) :
    Rep w' Φ A (.own sz (xs++ys)) (.slice (some ⟨b,0,none⟩) (len+m) cap) (b::(M++Ly)):=by
  have hfl:(flat us++flat uys).length=(len+m)*sz:=by rw [List.length_append,flat_length hus,flat_length huys,hlen,hm,Nat.add_mul]
  refine .inr ⟨⟨b,0,none⟩,cap,_,us++uys,M++Ly,rfl,by simp [hxl,hyl],rfl,by simp [hxl,hyl,hcap],hrow,?_,fun x hx=>?_,⟨fun u hu=>?_,by simp [hag,hagy]⟩,?_,hr.append hry⟩
  · simp only [Array.size_append,size_zeroCells,hz]
    have h1:=congrArg (·) hfl
    simp at hfl
    have:(len+m)*sz+(cap-(len+m))*sz=cap*sz:=by rw [← Nat.add_mul];congr 1;omega
    simp;omega
  · rcases List.mem_append.1 hx with h | h
    · exact hxs x h
    · exact hys x h
  · rcases List.mem_append.1 hu with h | h
    · exact hus u h
    · exact huys u h
  · rw [flat_append,List.length_append,hxl,hyl]
    simp only [seg,List.drop_zero,Array.toList_append]
    rw [← hfl]
    exact List.take_left
theorem flat_one:∀ {ys:List PV} {us:List Value} {Ly:List Nat},Reps w Φ noAl ys us Ly→us.map vAgg=ys.map PV.isAgg→(∀ y∈ys,∀ q∈y.cells,q.oneCell=true)→∀ u∈flat us,u.oneCell'=true
  | [],us,Ly,h,_,_,u,hu=>by rw [h.1] at hu;cases hu
  | y :: ys,us,Ly,h,ha,ho,u,hu=>by
    obtain ⟨v,vs,L1,L2,rfl,rfl,h1,h2⟩:=h
    simp only [List.map_cons,List.cons.injEq] at ha
    rw [flat_cons] at hu
    rcases List.mem_append.1 hu with hu | hu
    · have hc:=h1.cellsAll ha.1
      obtain ⟨j,hj⟩:=List.getElem?_of_mem hu
      have hjl:j<y.cells.length:=by rw [← hc.length];exact (List.getElem?_eq_some_iff.1 hj).1
      obtain ⟨v',La,Li',Lb,hv',_,hr',_⟩:=hc.split (i:=j) (List.getElem?_eq_getElem hjl)
      rw [hj] at hv';cases hv'
      exact rep_oneCell (fun a v _ h=>h.elim) hr' (ho y (by simp) _ (List.getElem_mem hjl))
    · exact flat_one h2 ha.2 (fun z hz=>ho z (by simp [hz])) u hu
theorem St.made (S:St w0 U Φ0 nt hv a w e Φ rv E L) (hb:∀ s,ghost+3≤s→E s = .bad) {d:Option Nat} (hd:∀ x,d=some x→x<nt) {w':World} {p:PV} {v:Value} {Lp:List Nat} (hr:∀ A:Al,Rep w' Φ A p v Lp) (hdn:Lp.Nodup)
    (ho:∀ b∈Lp,(∃ t,ghost≤t∧t<ghost+3∧b∈L t)∨(w.heap.size≤b∧b<w'.heap.size)) (hw:w.heap.size≤w'.heap.size)
    (hk:∀ b,b<w.heap.size→(∀ t,ghost≤t→t<ghost+3→b∉L t)→w'.heap[b]? = w.heap[b]?) (hos:w'.os=w.os∧w'.tape=w.tape∧w'.output=w.output) (h:(put d p).run o e=some e') :
    Fr w0 U Φ0 nt hv (a.put d v) w' e':=by
  have hG:∀ s,decide (ghost≤s∧s<ghost+3)=true↔ghost≤s∧s<ghost+3:=fun s=>decide_eq_true_iff
  have hc:=S.conf.make (w':=w') (fun s=>decide (ghost≤s∧s<ghost+3)) (fun s hs=>((hG s).1 hs).1) (g:=ghost+3) (by omega) (fun A _=>hr A) hdn
    (fun b hb=>(ho b hb).imp (fun ⟨t,h1,h2,h3⟩=>⟨t,h3,(hG t).2 ⟨h1,h2⟩⟩) id) hw
    (fun b hb hn=>hk b hb fun t h1 h2 h3=>by have:=hn t h3;rw [(hG t).2 ⟨h1,h2⟩] at this;cases this) hos
  have S1:=S.turn (e':=e) hc (fun s hs=>by
    rw [upd_ne (by omega)]
    have:decide (ghost≤s∧s<ghost+3)=false:=decide_eq_false (by omega)
    simp only [this,Bool.false_eq_true,if_false];exact S.env s hs) (fun s hs=>upd_ne (by omega)) (fun d ps hd hp=>by
    rw [upd_ne (by simp only [ghost];omega)] at hp
    have:decide (ghost≤d∧d<ghost+3)=false:=decide_eq_false (by simp only [ghost];omega)
    simp only [this,Bool.false_eq_true,if_false] at hp;exact ⟨ps,hp,rfl⟩)
  have:=put_ok S1 hd (g:=ghost+3) (by omega) (by rw [upd_at];exact h) (fun s hs hne=>by
    rw [upd_ne hne]
    by_cases h3:s<ghost+3
    · have:decide (ghost≤s∧s<ghost+3)=true:=(hG s).2 ⟨hs,h3⟩
      simp [this]
    · have:decide (ghost≤s∧s<ghost+3)=false:=decide_eq_false (by omega)
      simp only [this,Bool.false_eq_true,if_false];exact hb s (by omega))
  rwa [upd_at] at this
theorem St.regrown (S:St w0 U Φ0 nt hv a w e Φ rv E L) (hb:∀ s,ghost+3≤s→E s = .bad) {d:Option Nat} (hd:∀ x,d=some x→x<nt) {z:Value} {el:TypeId} {sz len m cap:Nat} {xs ys:List PV} {us uys:List Value} {M Ly:List Nat} (hz:z.cells.size=sz) (hlen:us.length=len) (hm:uys.length=m) (hxl:xs.length=len) (hyl:ys.length=m)
    (hxs:∀ x∈xs,x.cells.length=sz) (hys:∀ y∈ys,y.cells.length=sz) (hus:∀ u∈us,u.cells.size=sz) (huys:∀ u∈uys,u.cells.size=sz) (hag:us.map vAgg=xs.map PV.isAgg) (hagy:uys.map vAgg=ys.map PV.isAgg)
    (hr:Reps w Φ noAl xs us M) (hry:Reps w Φ noAl ys uys Ly) (hcap:len+m≤cap) (hML:∀ b∈M,b∈L (ghost+1)) (hLy:∀ b∈Ly,b∈L ghost) (hMn:M.Nodup) (hLn:Ly.Nodup) (h:(put d (.own sz (xs++ys))).run o e=some e') :
    Fr w0 U Φ0 nt hv (a.put d (.slice (some ⟨w.heap.size,0,none⟩) (len+m) cap)) (w.drew.alloc (.cells ((flat us).toArray++(flat uys).toArray++Builtin.zeroCells z.cells (cap-(len+m))) el)) e':=by
  have hold:∀ t,t<w.heap.size→(w.drew.alloc (.cells ((flat us).toArray++(flat uys).toArray++Builtin.zeroCells z.cells (cap-(len+m))) el)).heap[t]? = w.heap[t]?:=fun t ht=>by
    show (w.heap.push _)[t]? = _
    rw [Array.getElem?_push,if_neg (by omega)]
  have hΦ:Same w (w.drew.alloc (.cells ((flat us).toArray++(flat uys).toArray++Builtin.zeroCells z.cells (cap-(len+m))) el)) Φ Φ:=fun t ht=>⟨ht,hold t (S.conf.frz t ht).1⟩
  refine S.made hb hd (Lp:=w.heap.size::(M++Ly)) (fun A=>grown_rep hz hlen hm hxl hyl hxs hys hus huys hag hagy (hr.mono hΦ (fun _ _ _ h=>h) fun b hb=>hold b (S.conf.own _ b (hML b hb)).1) (hry.mono hΦ (fun _ _ _ h=>h) fun b hb=>hold b (S.conf.own _ b (hLy b hb)).1) hcap ⟨el,?_⟩) ?_ (fun b hb=>?_) ?_ (fun b hb _=>hold b hb) ⟨rfl,rfl,rfl⟩ h
  · show (w.heap.push _)[w.heap.size]? = _
    simp
  · refine List.nodup_cons.2 ⟨fun hm=>?_,?_⟩
    · rcases List.mem_append.1 hm with hm | hm
      · exact absurd (S.conf.own _ _ (hML _ hm)).1 (Nat.lt_irrefl _)
      · exact absurd (S.conf.own _ _ (hLy _ hm)).1 (Nat.lt_irrefl _)
    · rw [List.nodup_append]
      exact ⟨hMn,hLn,fun x hx y hy e=>S.conf.disj (ghost+1) ghost (by omega) x (hML x hx) (e▸hLy y hy)⟩
  · rcases List.mem_cons.1 hb with rfl | hb
    · exact .inr ⟨Nat.le_refl _,by show _<(w.heap.push _).size;simp⟩
    · rcases List.mem_append.1 hb with hb | hb
      · exact .inl ⟨ghost+1,by omega,by omega,hML b hb⟩
      · exact .inl ⟨ghost,by omega,by omega,hLy b hb⟩
  · show _≤(w.heap.push _).size
    simp
theorem append_ok (S:St w0 U Φ0 nt hv a w e Φ rv E L) (hb:Empty E) {d:Option Nat} (hd:∀ x,d=some x→x<nt) {t t2 ty:TypeId} {x y:Operand} (hx:opdOk nt x=true) (hy:opdOk nt y=true)
    (h:(builtinM P d .append [t,t2] [x,y]).run o e=some e'):∃ v w',(Builtin.append_ #[t,t2] ty #[a.eval x,a.eval y]).run P w = .ok v w'∧Fr w0 U Φ0 nt hv (a.put d v) w' e':=by
  simp only [builtinM] at h
  cases hn2:(elemT P t2).isNone with
  | true=>rw [hn2] at h;cases h
  | false =>
  rw [hn2] at h;simp only [cond_false] at h
  have ht2:∃ e2,P.underlying t2=some (.slice e2):=by
    cases he:elemT P t2 with
    | none=>rw [he] at hn2;cases hn2
    | some e2=>exact ⟨e2,slice_size he⟩
  obtain ⟨e2,ht2⟩:=ht2
  split at h
  · rename_i sz by_ z hsz hby hzz
    obtain ⟨⟨hby16,hzl⟩,h1⟩:=ite_run h
    cases hel:elemT P t with
    | none=>rw [hel] at hsz;cases hsz
    | some el =>
      rw [hel] at hsz hby hzz
      simp only [Option.bind_some] at hsz hby hzz
      have ht:=slice_size hel
      obtain ⟨i,hi,hisz⟩:=szT_info hsz
      have hib:i.bytes=by_:=by simp only [bytesT,hi,Option.map_some,Option.some.injEq] at hby;exact hby
      obtain ⟨i2,z0,hi2,hz0,_,hzi⟩:=zeroPV_ok hzz
      rw [hi] at hi2;cases hi2
      have hz0s:z0.cells.size=sz:=by rw [(zeroIs_rep (w:=w) (Φ:=Φ) (A:=noAl) hzi).2.1,hzl]
      obtain ⟨p,h2,hp⟩:=opd_ok S hx h1
      have S0:=S.hold (g:=ghost+2) (by omega) hp
      obtain ⟨e1,rv1,E1,L1,ys,uys,Ly,h3,S1,hheld,hlisted,hLyn,hLyg⟩:=newsM_ok S0 (g:=ghost) (Nat.le_refl _) (by rw [upd_ne (show ghost≠ghost+2 by omega)];exact hb _ (Nat.le_refl _)) hy h2
      obtain ⟨⟨xb,xc,hvy,hfirst⟩,hrys,hszs,hags⟩:=hlisted
      simp only [appendM] at h3
      obtain ⟨hc,h4⟩:=cond_run h3
      simp only [Bool.and_eq_true] at hc
      have hysz:∀ q∈ys,q.cells.length=sz:=fun q hq=>by
        have:=List.all_eq_true.1 hc.1 q hq
        simp only [Bool.and_eq_true] at this
        exact Nat.eq_of_beq_eq_true this.1
      have huysz:=hszs sz hysz
      have huyl:uys.length=ys.length:=hrys.length
      have hhp:=hheld (ghost+2) (by omega) (by omega)
      rw [upd_at,upd_at,upd_at] at hhp
      have hrepp:=S1.conf.rep (ghost+2)
      rw [hhp.1,hhp.2.1,hhp.2.2] at hrepp
      have hEb:∀ s,ghost≤s→s≠ghost→s≠ghost+2→E1 s = .bad:=fun s hs h1 h2=>by rw [(hheld s hs h1).1,upd_ne h2];exact hb s hs
      have hone:∀ u∈flat uys,u.oneCell'=true:=flat_one hrys hags fun q hq z hz=>by
        have:=List.all_eq_true.1 hc.1 q hq
        simp only [Bool.and_eq_true] at this
        exact List.all_eq_true.1 this.2 z hz
      have hrest:∀ s,ghost+3≤s→E1 s = .bad:=fun s hs=>hEb s (by omega) (by omega) (by omega)
      have hdrew:∀ t,w.drew.cell? t=w.cell? t:=fun t=>rfl
      have hfd:=hfirst sz hysz P w.drew hdrew
      have hfw:=hfirst sz hysz P w (fun _=>rfl)
      rw [hvy] at hfd hfw
      split at h4
      · rename_i r pre zz lo n
        obtain ⟨q,hq,h5⟩:=deep_run h4
        split at h5
        · rename_i s xs
          obtain ⟨hc2,h6⟩:=cond_run h5
          obtain ⟨hc3,h7⟩:=cond_run h6
          obtain ⟨hc4,h8⟩:=cond_run h7
          simp only [Bool.and_eq_true] at hc2
          have hs:=Nat.eq_of_beq_eq_true hc2.1.1
          have hlim:=Nat.le_of_ble_eq_true hc2.2
          have hln:=Nat.eq_of_beq_eq_true hc3
          have hlo:=Nat.eq_of_beq_eq_true hc4
          subst hs;subst hlo
          have hn':n=xs.length:=by omega
          subst hn'
          obtain ⟨root,hl,hm,h9⟩:=wnode_run h8
          have hr:r<ghost:=hrepp.2.1
          have hlk:=isLock_unlock hl
          rw [hlk,← S1.env r hr] at hq
          rw [← S1.env r hr] at hlk hm
          obtain ⟨kk1,kk2⟩:=modNode_kind (q' := .bad) rfl rfl hm
          obtain ⟨nv,Li,g1,g2,g3,g4,g5⟩:=S1.taken (g:=ghost+1) (by omega) hr hlk hq rfl hm kk1 kk2
          have hsl:sliceIn (a.eval x) nv s 0 xs.length:=by
            obtain ⟨_,_,_,hn⟩:=hrepp
            obtain ⟨s2,xs2,q1,q2,q3⟩:=hn nv _ (by rw [hlk];exact g1) rfl
            cases q1;subst q2;exact q3
          obtain ⟨L2,S2,hL2⟩:=g5 _ nv Li g2 g3 (fun b hb => .inl hb)
          have hrest2:∀ t,ghost+3≤t→upd (upd E1 r root) (ghost+1) (PV.own s xs) t = .bad:=fun t ht=>by
            rw [upd_ne (by omega),upd_ne (by omega)];exact hrest t ht
          have hLy2:∀ b∈Ly,b∈L2 ghost:=fun b hb=>by rw [hL2 ghost (Nat.le_refl _) (by omega)];exact hLyg b hb
          have hg1r:ghost+1≠r:=by omega
          have hLi2:Rep w Φ (AlOf w (upd rv1 (ghost+1) nv) (upd (upd E1 r root) (ghost+1) (.own s xs))) (.own s xs) nv (L2 (ghost+1)):=by
            have:=S2.conf.rep (ghost+1)
            rwa [upd_at,upd_at] at this
          have hLiE:Li=L2 (ghost+1):=Rep.uniq _ _ _ _ g2 hLi2
          obtain ⟨q1,q2,q3⟩ | ⟨b,cap,c,us,M,q0,q1,q2,q3,q4,q5,q6,⟨q7,q7'⟩,q8,q9⟩:=g2
          ·
            subst q1;subst q3
            have hv0:a.eval x = .slice none 0 0:=hsl.1
            rw [hv0,hvy]
            by_cases hy0:ys.length=0
            · have hyn:ys=[]:=List.eq_nil_of_length_eq_zero hy0
              subst hyn
              have hun:uys=[]:=List.eq_nil_of_length_eq_zero (by simpa using huyl)
              subst hun
              refine ⟨_,w,append_fits (i:=i) ht ht2 hi (by rw [hisz];exact hfw) (by simp) w (by simp) (fun _=>rfl),?_⟩
              exact fin_light (S2.clear.choose_spec.choose_spec.choose_spec.choose_spec.1) (S2.clear.choose_spec.choose_spec.choose_spec.choose_spec.2) hd h9 (v := .slice none (0+0) 0) (.inl ⟨rfl,rfl,rfl⟩)
            · have hcap:0+ys.length≤grownCap w (0+ys.length) 0 el:=grownCap_ge w _ _ _
              refine ⟨_,_,append_grows (a:=none) (old:=[]) (news:=flat uys) ht ht2 hi hz0 (by rw [hisz];exact run_firstCells_none _ _ _ _ _) (by rw [hisz];exact hfd) (by omega) (by simp only [limit,List.length_nil] at hlim;omega) (by omega),?_⟩
              have:=S2.regrown hrest2 hd (z:=z0) (el:=el) (sz:=s) (len:=0) (m:=ys.length) (xs:=[]) (us:=[]) (M:=[]) hz0s rfl huyl rfl rfl (by simp) hysz (by simp) huysz rfl hags ⟨rfl,rfl⟩ hrys hcap (by simp) hLy2 List.nodup_nil hLyn (by simpa using h9)
              simpa [flat] using this
          · have hul:us.length=xs.length:=by have:=congrArg List.length q7';simpa using this
            subst q1
            simp only [sliceIn] at hsl
            have hb0:cellOf b (0*s)=b:=by cases b;simp_all [cellOf]
            have hvx:a.eval x = .slice (some b) xs.length cap:=by rw [hsl.1,hb0];rfl
            have hML:∀ t∈M,t∈L2 (ghost+1):=fun t ht=>by rw [← hLiE,q0];simp [ht]
            have hbL:b.block∈L2 (ghost+1):=by rw [← hLiE,q0];simp
            have hMn:M.Nodup∧b.block∉M:=by rw [q0] at g3;exact ⟨(List.nodup_cons.1 g3).2,(List.nodup_cons.1 g3).1⟩
            rw [hvx,hvy]
            by_cases hroom:xs.length+ys.length≤cap
            ·
              have hmul:(xs.length+ys.length)*s≤cap*s:=Nat.mul_le_mul_right _ hroom
              rw [Nat.add_mul] at hmul
              have hful:(flat uys).length=ys.length*s:=by rw [flat_length huysz,huyl]
              have hfit:b.off+xs.length*s+(flat uys).length≤c.size:=by omega
              obtain ⟨et,hel'⟩:=q4
              have hst:=run_storeCells_at (P:=P) b.block (b.off+xs.length*s) et (flat uys) 0 c w hel' (by simpa using hfit) hone
              simp only [Nat.add_zero] at hst
              have hadd:b.add (xs.length*s)=⟨b.block,b.off+xs.length*s,none⟩:=by rw [add_cell q2];rfl
              refine ⟨_,_,append_fits (i:=i) ht ht2 hi (by rw [hisz];exact hfw) hroom (w.setRow b.block (splice c (b.off+xs.length*s) (flat uys))) (fun b' hb'=>by cases hb';rw [hisz,hadd];exact hst) (by simp),?_⟩
              have hother:∀ t,t≠b.block→(w.setRow b.block (splice c (b.off+xs.length*s) (flat uys))).heap[t]? = w.heap[t]?:=fun t ht=>setRow_other w _ t _ ht
              have hΦ:Same w (w.setRow b.block (splice c (b.off+xs.length*s) (flat uys))) Φ Φ:=fun t ht=>⟨ht,hother t fun hc=>(S2.conf.own _ _ hbL).2.1 (hc▸ht)⟩
              refine S2.made hrest2 hd (Lp:=b.block::(M++Ly)) (fun A=>?_) ?_ (fun t ht=>?_) (by rw [setRow_size];exact Nat.le_refl _) (fun t _ hn=>hother t fun hc=>hn (ghost+1) (by omega) (by omega) (hc▸hbL)) ⟨rfl,rfl,rfl⟩ h9
              · refine .inr ⟨b,cap,_,us++uys,M++Ly,rfl,by simp,q2,by simpa using hroom,⟨et,setRow_heap w _ _ _ et _ hel'⟩,?_,fun y hy=>?_,⟨fun u hu=>?_,by simp [q7',hags]⟩,?_,?_⟩
                · rw [splice_size hfit];exact q5
                · rcases List.mem_append.1 hy with h | h
                  · exact q6 y h
                  · exact hysz y h
                · rcases List.mem_append.1 hu with h | h
                  · exact q7 u h
                  · exact huysz u h
                · rw [List.length_append,Nat.add_mul,flat_append,seg_splice (by omega) (by omega) (by omega),show b.off+xs.length*s-b.off=xs.length*s by omega,← seg_prefix (by omega),q8]
                  have:(seg c b.off (xs.length*s+ys.length*s)).drop (xs.length*s+(flat uys).length)=[]:=by
                    apply List.drop_of_length_le;simp only [seg,List.length_take];omega
                  rw [this];simp
                · exact (q9.mono hΦ (fun _ _ _ h=>h) fun t ht=>hother t fun hc=>hMn.2 (hc▸ht)).append (hrys.mono hΦ (fun _ _ _ h=>h) fun t ht=>hother t fun hc=>S2.conf.disj (ghost+1) ghost (by omega) _ hbL (hc▸hLy2 t ht))
              · refine List.nodup_cons.2 ⟨fun hm=>?_,?_⟩
                · rcases List.mem_append.1 hm with hm | hm
                  · exact hMn.2 hm
                  · exact S2.conf.disj (ghost+1) ghost (by omega) _ hbL (hLy2 _ hm)
                · rw [List.nodup_append]
                  exact ⟨hMn.1,hLyn,fun t ht y hy e=>S2.conf.disj (ghost+1) ghost (by omega) t (hML t ht) (e▸hLy2 y hy)⟩
              · rcases List.mem_cons.1 ht with rfl | ht
                · exact .inl ⟨ghost+1,by omega,by omega,hbL⟩
                · rcases List.mem_append.1 ht with ht | ht
                  · exact .inl ⟨ghost+1,by omega,by omega,hML t ht⟩
                  · exact .inl ⟨ghost,by omega,by omega,hLy2 t ht⟩
            · have hcap:xs.length+ys.length≤grownCap w (xs.length+ys.length) cap el:=grownCap_ge w _ _ _
              have hold:=first_at (n:=xs.length) (xc:=cap) q2 q4.any hul q7 q8 P w.drew hdrew
              refine ⟨_,_,append_grows (a:=some b) (old:=flat us) (news:=flat uys) ht ht2 hi hz0 (by rw [hisz];exact hold) (by rw [hisz];exact hfd) hroom (by simp only [limit] at hlim;omega) (by omega),?_⟩
              exact S2.regrown hrest2 hd (z:=z0) (el:=el) (sz:=s) (len:=xs.length) (m:=ys.length) hz0s hul huyl rfl rfl q6 hysz q7 huysz q7' hags q9 hrys hcap hML hLy2 hMn.1 hLyn h9
        · cases h5
      · rename_i zz
        obtain ⟨hlim,h5⟩:=cond_run h4
        have hlim:=Nat.le_of_ble_eq_true hlim
        have hv0:a.eval x = .slice none 0 0:=hrepp.1
        rw [hv0,hvy]
        by_cases hy0:ys.length=0
        · have hyn:ys=[]:=List.eq_nil_of_length_eq_zero hy0
          subst hyn
          have hun:uys=[]:=List.eq_nil_of_length_eq_zero (by simpa using huyl)
          subst hun
          have hf:=hfirst sz (by simp) P w (fun _=>rfl)
          rw [hvy] at hf
          refine ⟨_,w,append_fits (i:=i) ht ht2 hi (by rw [hisz];exact hf) (by simp) w (by simp) (fun _=>rfl),?_⟩
          have:=fin_light (S1.clear.choose_spec.choose_spec.choose_spec.choose_spec.1) (S1.clear.choose_spec.choose_spec.choose_spec.choose_spec.2) hd h5 (v := .slice none (0+0) 0) (.inl ⟨rfl,rfl,rfl⟩)
          exact this
        · have hL1:L1 (ghost+1)=[]:=by
            have:=S1.conf.rep (ghost+1)
            rw [hEb (ghost+1) (by omega) (by omega) (by omega)] at this;exact this
          have hcap:0+ys.length≤grownCap w (0+ys.length) 0 el:=grownCap_ge w _ _ _
          refine ⟨_,_,append_grows (a:=none) (old:=[]) (news:=flat uys) ht ht2 hi hz0 (by rw [hisz];exact run_firstCells_none _ _ _ _ _) (by rw [hisz];exact hfd) (by omega) (by simp only [limit] at hlim;omega) (by omega),?_⟩
          have:=S1.regrown hrest hd (z:=z0) (el:=el) (sz:=sz) (len:=0) (m:=ys.length) (xs:=[]) (us:=[]) (M:=[]) hz0s rfl huyl rfl rfl (by simp) hysz (by simp) huysz rfl hags ⟨rfl,rfl⟩ hrys hcap (by simp) hLyg List.nodup_nil hLyn (by simpa using h5)
          simpa [flat] using this
      · cases h4
  · cases h
end
end Go.Eng
namespace Go.Eng
open Go
section
variable {P:Program} {w0 w:World} {U Φ0 Φ:Nat→Prop} {nt:Nat} {hv:Hid} {a:Act} {e e':Env} {rv:Nat→Value} {E:Nat→PV} {L:Nat→List Nat} {o:Oracle}
theorem makeMap_ok (S:St w0 U Φ0 nt hv a w e Φ rv E L) (hb:Empty E) {d:Option Nat} (hd:∀ x,d=some x→x<nt) {t:TypeId} (h:(put d (.omap [])).run o e=some e') :
    ∃ v w',(Instr.makeMap t none).run P w = .ok v w'∧Fr w0 U Φ0 nt hv (a.put d v) w' e':=by
  refine ⟨.map (some w.heap.size),{w with heap:=w.heap.push (.map #[] 0)},by simp [Instr.makeMap],?_⟩
  refine S.made (p := .omap []) (v := .map (some w.heap.size)) (fun s hs=>hb s (by omega)) hd (Lp:=[w.heap.size]) (fun A=>⟨w.heap.size,#[],rfl,rfl,by simp,rfl⟩) (by simp) (fun b hb' => .inr ?_) (by simp) (fun b hb' _=>?_) ⟨rfl,rfl,rfl⟩ h
  · simp only [List.mem_singleton] at hb';subst hb';exact ⟨Nat.le_refl _,by simp⟩
  · show (w.heap.push _)[b]? = _
    rw [Array.getElem?_push,if_neg (by omega)]
theorem replicate_flat {z:Value} {s:Nat} (hz:z.cells.size=s) {l k:Nat} {u:Value} (h:(flat (List.replicate l z))[k]? = some u):(madeCells z.cells (k+1))[k]? = some u:=by
  have hlen:(flat (List.replicate l z)).length=l*s:=by
    rw [flat_length (sz:=s) (fun u hu=>by rw [List.eq_of_mem_replicate hu];exact hz)];simp
  have hk:k<l*s:=by rw [← hlen];exact (List.getElem?_eq_some_iff.1 h).1
  have hs:0<s:=Nat.pos_of_ne_zero fun h0=>by subst h0;simp at hk
  have hdm:k / s*s+k % s=k:=Nat.div_add_mod' k s
  have hq:k / s<l:=Nat.div_lt_of_lt_mul (by rw [Nat.mul_comm];exact hk)
  have hr:k % s<s:=Nat.mod_lt _ hs
  have hzc : z.cells.toList[k % s]? = some (z.cells[k % s]'(by omega)) := by simp
  have:=flat_get (sz:=s) (us:=List.replicate l z) (fun u hu=>by rw [List.eq_of_mem_replicate hu];exact hz) (i:=k / s) (c:=k % s) (x:=z) (by simp [hq]) hzc
  rw [hdm,h] at this
  simp only [Option.some.injEq] at this
  subst this
  simp [madeCells,hz,getElem!_pos,hr]
theorem made_get {z:Array Value} {n m k:Nat} (hk:k<n) (hm:k<m):(madeCells z n)[k]? = (madeCells z m)[k]?:=by
  simp [madeCells,hk,hm]
theorem makeSlice_ok (S:St w0 U Φ0 nt hv a w e Φ rv E L) (hb:Empty E) {d:Option Nat} (hd:∀ x,d=some x→x<nt) {t:TypeId} {l c:Operand} (hl:opdOk nt l=true) (hc:opdOk nt c=true) (h:(opMakeSlice P d t l c).run o e=some e') :
    ∃ v w',(Instr.makeSlice t (a.eval l) (a.eval c)).run P w = .ok v w'∧Fr w0 U Φ0 nt hv (a.put d v) w' e':=by
  obtain ⟨p,h1,hp⟩:=opd_ok S hl h
  obtain ⟨kl,l,rfl,hl0,h2⟩:=natIdx_run h1
  obtain ⟨q,h3,hq⟩:=opd_ok S hc h2
  obtain ⟨kc,c,rfl,hc0,h4⟩:=natIdx_run h3
  split at h4
  · rename_i el hel
    split at h4
    · rename_i z s by_ hz hs hby
      obtain ⟨⟨hlc,hlim,hb16,hzl⟩,h5⟩:=ite_run h4
      obtain ⟨i,zv,hi,hzv,_,hzi⟩:=zeroPV_ok hz
      obtain ⟨i2,hi2,his⟩:=szT_info hs
      rw [hi] at hi2;cases hi2
      have hib:i.bytes=by_:=by simp only [bytesT,hi,Option.map_some,Option.some.injEq] at hby;exact hby
      have ht:=slice_size hel
      simp only [limit] at hlim
      have hbb:(i.bytes:Int)*c≤281474976710656:=by
        have h1:i.bytes*c.toNat≤16384*4294967296:=Nat.mul_le_mul (by omega) hlim
        have h2:((i.bytes*c.toNat:Nat):Int)=(i.bytes:Int)*c:=by rw [Int.natCast_mul,Int.toNat_of_nonneg hc0]
        omega
      have hrun:=run_make (P:=P) w t el i zv ht hi hzv kl kc l c hl0 (by omega) hbb (by omega)
      obtain ⟨hr0,hz1,hz2,_⟩:=zeroIs_rep (w:=w) (Φ:=Φ) (A:=noAl) hzi
      have hzs:zv.cells.size=s:=by rw [hz1,hzl]
      rw [hp.1,hq.1]
      refine ⟨_,_,hrun,?_⟩
      refine S.made (p := .own s (List.replicate l.toNat z)) (fun s hs=>hb s (by omega)) hd (Lp:=[w.heap.size]) (fun A=>?_) (by simp) (fun b hb' => .inr ?_) (by simp) (fun b hb' _=>?_) ⟨rfl,rfl,rfl⟩ h5
      · refine .inr ⟨⟨w.heap.size,0,none⟩,c.toNat,_,List.replicate l.toNat zv,[],rfl,by simp,rfl,by simpa using hlc,⟨el,by show (w.heap.push _)[w.heap.size]? = _;simp;rfl⟩,?_,fun x hx=>?_,⟨fun u hu=>?_,?_⟩,?_,?_⟩
        · rw [size_madeCells,his];simp
        · rw [List.eq_of_mem_replicate hx];exact hzl
        · rw [List.eq_of_mem_replicate hu];exact hzs
        · simp [hz2]
        · rw [List.length_replicate]
          refine seg_ext ?_ fun k u hk=>?_
          · rw [flat_length (sz:=s) (fun u hu=>by rw [List.eq_of_mem_replicate hu];exact hzs)];simp
          · have hlen:(flat (List.replicate l.toNat zv)).length=l.toNat*s:=by
              rw [flat_length (sz:=s) (fun u hu=>by rw [List.eq_of_mem_replicate hu];exact hzs)];simp
            have hkl:k<l.toNat*s:=by rw [← hlen];exact (List.getElem?_eq_some_iff.1 hk).1
            have hle:l.toNat*s≤c.toNat*s:=Nat.mul_le_mul_right _ hlc
            rw [Nat.zero_add,his,made_get (m:=k+1) (by omega) (by omega)]
            exact replicate_flat hzs hk
        · have key:∀ n,Reps (w.alloc (.cells (madeCells zv.cells (c.toNat*i.size)) el)) Φ noAl (List.replicate n z) (List.replicate n zv) []:=by
            intro n
            induction n with
            | zero=>exact ⟨rfl,rfl⟩
            | succ n ih =>
              exact ⟨zv,_,[],[],rfl,rfl,(zeroIs_rep hzi).1,ih⟩
          exact key _
      · simp only [List.mem_singleton] at hb';subst hb'
        exact ⟨Nat.le_refl _,by show _<(w.heap.push _).size;simp⟩
      · show (w.heap.push _)[b]? = _
        rw [Array.getElem?_push,if_neg (by omega)]
    · cases h4
  · cases h4
theorem bnd_ok (S:St w0 U Φ0 nt hv a w e Φ rv E L) {x:Option Operand} (hx:∀ y,x=some y→opdOk nt y=true) {n:Nat} {k:Nat→PM} (h:(bndM x n k).run o e=some e') :
    ∃ m,(k m).run o e=some e'∧((x=none∧m=n)∨∃ y ik z,x=some y∧a.eval y = .int ik z∧0≤z∧m=z.toNat):=by
  cases x with
  | none=>exact ⟨n,h,.inl ⟨rfl,rfl⟩⟩
  | some y =>
    obtain ⟨p,h1,h2⟩:=opd_ok S (hx y rfl) h
    obtain ⟨ik,z,rfl,hz,h3⟩:=natIdx_run h1
    exact ⟨z.toNat,h3,.inr ⟨y,ik,z,rfl,h2.1,hz,rfl⟩⟩
theorem run_bound {ik:IntKind} {z:Int} {y:Nat} {cd:BoundsCode} (h0:0≤z) (h:z.toNat≤y):(Instr.sliceBound (.int ik z) y cd).run P w = .ok z.toNat w:=by
  have:z≤y:=by omega
  simp [Instr.sliceBound,asIntOf,h0,this]
theorem run_bounds {isS:Bool} {len cap l h:Nat} {lo hi:Option Value} (hh:(hi=none∧h=len)∨∃ ik z,hi=some (.int ik z)∧0≤z∧h=z.toNat) (hl:(lo=none∧l=0)∨∃ ik z,lo=some (.int ik z)∧0≤z∧l=z.toNat)
    (hlh:l≤h) (hhc:hi≠none→h≤cap):(Instr.sliceBounds isS len cap lo hi none).run P w = .ok (l,h,cap) w:=by
  rcases hh with ⟨rfl,rfl⟩ | ⟨ik,z,rfl,hz,rfl⟩
  · simp only [Instr.sliceBounds,Sem.run_bind,Sem.run_pure,Result.andThen_ok,Option.isSome_none,Bool.false_eq_true,if_false]
    rcases hl with ⟨rfl,rfl⟩ | ⟨ik',z',rfl,hz',rfl⟩
    · simp
    · simp only [Sem.run_bind,run_bound hz' hlh,Result.andThen_ok,Sem.run_pure]
  · simp only [Instr.sliceBounds,Sem.run_bind,Sem.run_pure,Result.andThen_ok,Option.isSome_none,Bool.false_eq_true,if_false]
    rw [run_bound hz (hhc (by simp))]
    simp only [Result.andThen_ok]
    rcases hl with ⟨rfl,rfl⟩ | ⟨ik',z',rfl,hz',rfl⟩
    · simp
    · simp only [Sem.run_bind,run_bound hz' hlh,Result.andThen_ok,Sem.run_pure]
theorem slice_ok (S : St w0 U Φ0 nt hv a w e Φ rv E L) (hb:Empty E) {d:Option Nat} (hd:∀ x,d=some x→x<nt) {t:TypeId} {x:Operand} {lo hi mx:Option Operand} (hx:opdOk nt x=true) (hlo:∀ y,lo=some y→opdOk nt y=true) (hhi:∀ y,hi=some y→opdOk nt y=true)
    (h:(sliceM P d t x lo hi mx).run o e=some e'):∃ v,(Instr.sliceAt t (a.eval x) (lo.map a.eval) (hi.map a.eval) (mx.map a.eval)).run P w = .ok v w∧Fr w0 U Φ0 nt hv (a.put d v) w e':=by
  cases mx with
  | some m=>cases h
  | none =>
    simp only [sliceM] at h
    obtain ⟨p,h1,hp⟩:=opd_ok S hx h
    have low:∀ {m:Nat},((lo=none∧m=0)∨∃ y ik z,lo=some y∧a.eval y = .int ik z∧0≤z∧m=z.toNat)→(lo.map a.eval=none∧m=0)∨∃ ik z,lo.map a.eval=some (.int ik z)∧0≤z∧m=z.toNat:=by
      rintro m (⟨rfl,rfl⟩ | ⟨y,ik,z,rfl,h2,h3,h4⟩)
      · exact .inl ⟨rfl,rfl⟩
      · exact .inr ⟨ik,z,by simp [h2],h3,h4⟩
    have hgh:∀ {m n:Nat},((hi=none∧m=n)∨∃ y ik z,hi=some y∧a.eval y = .int ik z∧0≤z∧m=z.toNat)→(hi.map a.eval=none∧m=n)∨∃ ik z,hi.map a.eval=some (.int ik z)∧0≤z∧m=z.toNat:=by
      rintro m n (⟨rfl,rfl⟩ | ⟨y,ik,z,rfl,h2,h3,h4⟩)
      · exact .inl ⟨rfl,rfl⟩
      · exact .inr ⟨ik,z,by simp [h2],h3,h4⟩
    split at h1
    ·
      rename_i n el ht
      split at h1
      · rename_i s sh hs hsh
        obtain ⟨hm,h2,h3⟩:=bnd_ok S hhi h1
        obtain ⟨lm,h4,h5⟩:=bnd_ok S hlo h2
        obtain ⟨hc,h6⟩:=cond_run h4
        simp only [Bool.and_eq_true,Bool.or_eq_true] at hc
        obtain ⟨⟨c1,c2⟩,c3⟩:=hc
        have c1:=Nat.le_of_ble_eq_true c1
        have c2:=Nat.le_of_ble_eq_true c2
        obtain ⟨ti,hti,hsz⟩:=szT_info hs
        have hbnd:=run_bounds (P:=P) (w:=w) (isS:=false) (len:=n) (cap:=n) (hgh h3) (low h5) c1 (fun _=>c2)
        have haddr:∀ b:Addr,b.spot=none→(if n=lm then b else b.add (lm*ti.size))=cellOf b (lm*s):=by
          intro b hsp
          split
          · rename_i hnl
            have hl0:lm=0:=by
              rcases c3 with c3 | c3
              · exact Nat.eq_of_beq_eq_true c3
              · have:=blt_lt c3;omega
            rw [hl0];cases b;simp_all [cellOf]
          · rw [add_cell hsp,hsz]
        split at h6
        · rename_i r pre i c s'
          obtain ⟨_,hg,b,hb1,hsp,hn⟩:=hp
          refine ⟨.slice (some (cellOf b (lm*s))) (hm-lm) (n-lm),?_,fin_light S hb hd h6 ⟨rfl,hg,cellOf b (lm*s),n-lm,rfl,by omega,rfl,fun nv np hf a' ha'=>?_⟩⟩
          · rw [hb1]
            simp only [Instr.sliceAt,Sem.run_bind,run_underlying ht,Result.andThen_ok,Instr.sureAddr,Sem.run_pure,Option.map_none]
            rw [hbnd]
            simp only [Result.andThen_ok,run_sizeOf' hti,Sem.run_bind,Sem.run_pure]
            rw [haddr b hsp]
          · have key:∃ a0,addrIn nv np i c=some a0∧a'=cellOf a0 (lm*s):=by
              cases np<;>try (simp [addrIn] at ha';done)
              · cases nv with
                | slice x _ _ =>
                  cases x with
                  | none=>cases ha'
                  | some x=>simp only [addrIn] at ha' ⊢;cases ha';exact ⟨_,rfl,by simp [cellOf,Nat.add_assoc]⟩
                | pointer x=>cases x<;>cases ha'
                | _=>cases ha'
              · cases nv with
                | pointer x =>
                  cases x with
                  | none=>cases i<;>cases ha'
                  | some x=>cases i<;>simp only [addrIn] at ha' ⊢ <;> cases ha';exact ⟨_,rfl,by simp [cellOf,Nat.add_assoc]⟩
                | slice x _ _=>cases x<;>cases ha'
                | _=>cases ha'
            obtain ⟨a0,k1,k2⟩:=key
            rw [k2,hn nv np hf a0 k1]
        · rename_i cs
          obtain ⟨hc4,h7⟩:=cond_run h6
          simp only [Bool.and_eq_true,chunksOk] at hc4
          obtain ⟨⟨c4,⟨c5,c6⟩⟩,c7⟩:=hc4
          have c4:=Nat.le_of_ble_eq_true c4
          have c5:=Nat.eq_of_beq_eq_true c5
          obtain ⟨_,b,c,u,hb1,hsp,hΦ,hrow,hseg,⟨hul,hag⟩,hr⟩:=hp
          obtain ⟨vs,rfl,hr⟩:=hr
          have hvl:=hr.length
          have hr0:Reps w Φ noAl cs vs.toList []:=hr.ways _ _ _ fun a v hw hx ha=>by
            have h0:wayss cs=[]:=by simpa using c7
            rw [h0] at hx
            have h1:=al_log hw ha
            cases hay:a.ways with
            | nil=>exact absurd hay h1
            | cons z zs=>have:=hx z (by rw [hay];simp);cases this
          obtain ⟨us',q1,q2,q3,q4,q5⟩:=chunks_rep (ag:=sh.isSome) (sz:=s) (fun a v _ h=>h.elim) (hm-lm) _ _ c5 (fun hag=>by
            simp only [hag,Bool.false_or,Bool.and_eq_true] at c6
            exact ⟨Nat.eq_of_beq_eq_true c6.1,fun q hq=>List.all_eq_true.1 c6.2 q hq⟩) (reps_part_nil hr0 (lm*s) ((hm-lm)*s))
          have hcl:=chunks_length sh.isSome s (hm-lm) ((cs.drop (lm*s)).take ((hm-lm)*s))
          refine ⟨.slice (some (cellOf b (lm*s))) (hm-lm) (n-lm),?_,fin_light S hb hd h7 ?_⟩
          · rw [hb1]
            simp only [Instr.sliceAt,Sem.run_bind,run_underlying ht,Result.andThen_ok,Instr.sureAddr,Sem.run_pure,Option.map_none]
            rw [hbnd]
            simp only [Result.andThen_ok,run_sizeOf' hti,Sem.run_bind,Sem.run_pure]
            rw [haddr b hsp]
          · by_cases hm0:hm-lm=0
            · rw [hm0];exact ⟨rfl,.inl ⟨rfl,_,_,rfl⟩⟩
            · refine ⟨rfl,.inr ⟨cellOf b (lm*s),n-lm,c,us',s,by rw [hcl],rfl,by rw [hcl];omega,hΦ,hrow,q5,⟨q3,q4⟩,?_,q1⟩⟩
              rw [hcl,q2]
              simp only [PV.cells,Value.cells] at hseg hvl
              refine seg_ext (by simp at c5 hvl ⊢;omega) fun k y hk=>?_
              simp only [List.getElem?_take,List.getElem?_drop] at hk
              split at hk
              · have:(seg c b.off cs.length)[lm*s+k]? = some y:=by rw [hseg];exact hk
                have:=seg_get this
                simp only [cellOf,Nat.add_assoc];exact this
              · cases hk
        · cases h6
      · cases h1
    ·
      rename_i el ht
      split at h1
      · rename_i s n hs hn
        obtain ⟨hm,h2,h3⟩:=bnd_ok S hhi h1
        obtain ⟨lm,h4,h5⟩:=bnd_ok S hlo h2
        obtain ⟨ti,hti,hsz⟩:=szT_info hs
        have hrun:∀ (b:Option Addr) (cap:Nat),a.eval x = .slice b n cap→lm≤hm→hm≤cap→(Instr.sliceAt t (a.eval x) (lo.map a.eval) (hi.map a.eval) (Option.map a.eval none)).run P w = .ok (.slice (if cap=lm then b else b.map (·.add (lm*ti.size))) (hm-lm) (cap-lm)) w:=by
          intro b cap hv' k1 k2
          rw [hv']
          simp only [Instr.sliceAt,Instr.slice,Sem.run_bind,run_underlying ht,Result.andThen_ok,Option.map_none]
          rw [run_bounds (hgh h3) (low h5) k1 (fun _=>k2)]
          simp only [Result.andThen_ok,run_sizeOf' hti,Sem.run_bind,Sem.run_pure]
        cases p<;>simp only [sliceV] at h4<;>try (cases h4;done)
        case sl xs =>
          simp only [lenOf,Option.some.injEq] at hn
          obtain ⟨hc,h6⟩:=cond_run h4
          simp only [Bool.and_eq_true] at hc
          obtain ⟨⟨c1,c2⟩,c3⟩:=hc
          have c1:=Nat.le_of_ble_eq_true c1
          have c2:=Nat.le_of_ble_eq_true c2
          obtain ⟨_,⟨rfl,b,n',hv'⟩ | ⟨b,n',c,us,sz,hv',hsp,hle,hΦ,hrow,hxs,⟨hu1,hu2⟩,hseg,hr⟩⟩:=hp
          · have hm0:hm=0:=by simpa using c2
            have hl0:lm=0:=by omega
            subst hm0;subst hl0
            refine ⟨_,hrun b n' (by rw [hv',← hn];rfl) (Nat.le_refl _) (Nat.zero_le _),fin_light S hb hd h6 ?_⟩
            simp only [List.drop_nil,List.take_nil]
            exact ⟨rfl,.inl ⟨rfl,_,_,rfl⟩⟩
          · refine ⟨_,hrun (some b) n' (by rw [hv',← hn]) c1 (by omega),fin_light S hb hd h6 ?_⟩
            have hlen:((xs.drop lm).take (hm-lm)).length=hm-lm:=by simp;omega
            by_cases hm0:hm-lm=0
            · have:(xs.drop lm).take (hm-lm)=[]:=List.eq_nil_of_length_eq_zero (by rw [hlen,hm0])
              rw [this,hm0];exact ⟨rfl,.inl ⟨rfl,_,_,rfl⟩⟩
            · have hul:us.length=xs.length:=by have:=congrArg List.length hu2;simpa using this
              have hx0:∃ x,x∈xs:=by
                cases xs with
                | nil=>simp at c2;omega
                | cons x _=>exact ⟨x,by simp⟩
              obtain ⟨x0,hx0⟩:=hx0
              have hss:sz=s:=by
                have:=Nat.eq_of_beq_eq_true (List.all_eq_true.1 c3 x0 hx0)
                rw [← hxs x0 hx0,this]
              subst hss
              rw [if_neg (by omega)]
              simp only [Option.map_some]
              rw [add_cell hsp,hsz]
              refine ⟨rfl,.inr ⟨cellOf b (lm*sz),n'-lm,c,(us.drop lm).take (hm-lm),sz,by rw [hlen],rfl,by rw [hlen];omega,hΦ,hrow,fun y hy=>hxs y (List.mem_of_mem_drop (List.mem_of_mem_take hy)),⟨fun u hu=>hu1 u (List.mem_of_mem_drop (List.mem_of_mem_take hu)),Reps.map_isAgg hu2 lm (hm-lm)⟩,?_,reps_part_nil hr lm (hm-lm)⟩⟩
              rw [hlen];exact seg_flat hu1 hul hseg (by omega)
        case bor r pre z a0 n0 =>
          simp only [lenOf,Option.some.injEq] at hn
          subst hn
          obtain ⟨hc,h6⟩:=cond_run h4
          simp only [Bool.and_eq_true] at hc
          have hzs:=Nat.eq_of_beq_eq_true hc.1
          have c1:=Nat.le_of_ble_eq_true hc.2
          subst hzs
          obtain ⟨_,hg,⟨b,cap,hv',hcap,hbn,hbs⟩,hnn⟩:=hp
          have go : hm≤cap→(put d (bif Nat.beq lm 0||Nat.blt lm hm then .bor r pre z (a0+lm) (hm-lm) else .sl [])).run o e=some e'→∃ v,(Instr.sliceAt t (a.eval x) (lo.map a.eval) (hi.map a.eval) (Option.map a.eval none)).run P w = .ok v w∧Fr w0 U Φ0 nt hv (a.put d v) w e':=by
            intro k1 h6
            refine ⟨_,hrun b cap hv' c1 k1,fin_light S hb hd h6 ?_⟩
            cases hcc:(Nat.beq lm 0||Nat.blt lm hm) with
            | false =>
              simp only [Bool.or_eq_false_iff] at hcc
              have:¬ lm<hm:=fun hlt=>by rw [show Nat.blt lm hm=true from Nat.ble_eq_true_of_le hlt] at hcc;exact absurd hcc.2 (by simp)
              have:hm-lm=0:=by omega
              rw [this];exact ⟨rfl,.inl ⟨rfl,_,_,rfl⟩⟩
            | true =>
              simp only [cond_true]
              have hcase:lm=0∨lm<hm:=by
                simp only [Bool.or_eq_true] at hcc
                rcases hcc with h | h
                · exact .inl (Nat.eq_of_beq_eq_true h)
                · exact .inr (blt_lt h)
              have haddr:(if cap=lm then b else b.map (·.add (lm*ti.size)))=b.map (fun y=>cellOf y (lm*z)):=by
                cases b with
                | none=>simp
                | some y =>
                  have hy:=hbs y rfl
                  simp only [Option.map_some]
                  split
                  · have hl0:lm=0:=by omega
                    subst hl0;cases y;simp_all [cellOf]
                  · rw [add_cell hy,hsz]
              rw [haddr]
              refine ⟨rfl,hg,⟨_,cap-lm,rfl,by omega,fun hb0=>?_,fun y hy=>?_⟩,fun nv np hf hh=>?_⟩
              · have:b=none:=by cases b<;>first | rfl | cases hb0
                have:=hbn this;omega
              · cases b with
                | none=>cases hy
                | some y0=>simp only [Option.map_some,Option.some.injEq] at hy;rw [← hy];rfl
              · obtain ⟨sz2,xs2,g1,g2,g3⟩:=hnn nv np hf hh
                refine ⟨sz2,xs2,g1,g2,?_⟩
                subst g2
                rw [hv'] at g3
                cases nv<;>simp only [sliceIn] at g3
                rename_i y l c
                cases y with
                | none =>
                  simp only [sliceIn,Value.slice.injEq] at g3 ⊢
                  obtain ⟨⟨k2,k3,k4⟩,k5⟩:=g3
                  subst k2
                  refine ⟨⟨rfl,by omega,by omega⟩,by omega⟩
                | some y =>
                  simp only [sliceIn,Value.slice.injEq] at g3 ⊢
                  obtain ⟨⟨k2,_,k4⟩,k5⟩:=g3
                  subst k2
                  refine ⟨⟨?_,trivial,by omega⟩,by omega⟩
                  simp [cellOf,Nat.add_mul,Nat.add_assoc]
          cases hble:Nat.ble hm n0 with
          | true =>
            rw [hble] at h6
            exact go (Nat.le_trans (Nat.le_of_ble_eq_true hble) hcap) h6
          | false =>
            rw [hble] at h6;simp only [cond_false] at h6
            obtain ⟨q,hq,h7⟩:=deep_run h6
            split at h7
            · rename_i sz2 xs2
              obtain ⟨hle,h8⟩:=cond_run h7
              have hle:=Nat.le_of_ble_eq_true hle
              refine go ?_ h8
              rw [← S.env r hg] at hq
              obtain ⟨nv,Li,hf,_,hrep⟩:=getNode_follow (rep_unlock (S.conf.rep r)) hq
              obtain ⟨sz3,xs3,g1,g2,g3⟩:=hnn nv _ hf rfl
              cases g1;subst g2
              rw [hv'] at g3
              obtain ⟨q1,_,q3⟩ | ⟨y,m,c,us,M,_,q1,_,q3,_⟩:=hrep
              · subst q1;simp at hle;omega
              · subst q1
                simp only [sliceIn,Value.slice.injEq] at g3
                omega
            · cases h7
      · cases h1
    · cases h1
end
end Go.Eng
namespace Go.Eng
open Go
section
variable {w w':World} {Φ Φ':Nat→Prop}
mutual
theorem Rep.free {A A':Al}:∀ (p:PV) (v:Value) (L:List Nat),p.free=true→Rep w Φ A p v L→Rep w Φ' A' p v L
  | .int ..,_,_,_,h=>h
  | .bool _,_,_,_,h=>h
  | .nilp,_,_,_,h=>h
  | .nilf,_,_,_,h=>h
  | .nilm,_,_,_,h=>h
  | .nils _,_,_,_,h=>h
  | .und,_,_,_,h=>h
  | .sl [],v,L,_,h=>by
    obtain ⟨h0,⟨_,a,n,h1⟩ | ⟨a,n,c,us,sz,h1,_⟩⟩:=h
    · exact ⟨h0,.inl ⟨rfl,a,n,h1⟩⟩
    · exact ⟨h0,.inl ⟨rfl,_,n,h1⟩⟩
  | .sl (_::_),_,_,hf,_=>by cases hf
  | .agg cs,v,L,hf,h=>by
    obtain ⟨vs,rfl,h⟩:=h
    exact ⟨vs,rfl,Reps.free cs _ L hf h⟩
  | .tup cs,v,L,hf,h=>by
    obtain ⟨vs,rfl,h⟩:=h
    exact ⟨vs,rfl,Reps.free cs _ L hf h⟩
  | .own sz xs,v,L,hf,h=>by
    obtain h | ⟨a,n,c,us,L',h0,h1,h2,h3,h4,h5,h6,h7,h8,h9⟩:=h
    · exact .inl h
    · exact .inr ⟨a,n,c,us,L',h0,h1,h2,h3,h4,h5,h6,h7,h8,Reps.free xs us L' hf h9⟩
  | .box q,v,L,hf,h=>by
    obtain ⟨a,c,u,L',h0,h1,h2,h4,h5,h6,h7⟩:=h
    exact ⟨a,c,u,L',h0,h1,h2,h4,h5,h6,Rep.free q u L' hf h7⟩
  | .omap es,v,L,hf,h=>by
    obtain ⟨b,ents,h0,h1,h3,h4⟩:=h
    exact ⟨b,ents,h0,h1,h3,RepM.free es _ 0 hf h4⟩
  | .bad,_,_,hf,_=>by cases hf
  | .ref _,_,_,hf,_=>by cases hf
  | .map _,_,_,hf,_=>by cases hf
  | .func ..,_,_,hf,_=>by cases hf
  | .addr ..,_,_,hf,_=>by cases hf
  | .bor ..,_,_,hf,_=>by cases hf
  | .bsl ..,_,_,hf,_=>by cases hf
  | .bmap ..,_,_,hf,_=>by cases hf
  | .lock _,_,_,hf,_=>by cases hf
  | .yld _,_,_,hf,_=>by cases hf
  | .log ..,_,_,hf,_=>by cases hf
theorem Reps.free {A A':Al}:∀ (ps:List PV) (vs:List Value) (L:List Nat),frees ps=true→Reps w Φ A ps vs L→Reps w Φ' A' ps vs L
  | [],_,_,_,h=>h
  | p::ps,vs,L,hf,h=>by
    simp only [frees,Bool.and_eq_true] at hf
    obtain ⟨v,vs',L1,L2,h0,h1,h2,h3⟩:=h
    exact ⟨v,vs',L1,L2,h0,h1,Rep.free p v L1 hf.1 h2,Reps.free ps vs' L2 hf.2 h3⟩
theorem RepM.free:∀ (es:List (PV×PV)) (ms:List MapEntry) (i:Nat),freesM es=true→RepM w Φ es ms i→RepM w Φ' es ms i
  | [],_,_,_,h=>h
  | (k,p)::es,ms,i,hf,h=>by
    simp only [freesM,Bool.and_eq_true] at hf
    obtain ⟨m,ms',h0,h1,h2,h3,h4⟩:=h
    exact ⟨m,ms',h0,h1,Rep.free k _ [] hf.1.1 h2,Rep.free p _ [] hf.1.2 h3,RepM.free es ms' (i+1) hf.2 h4⟩
end
end
theorem tame_rename (m:List (Nat×Nat)):Tame (rename m):=by
  constructor
  · intro p
    cases p<;>simp only [rename]<;>first | rfl | (split<;>rfl)
  · intro p hp
    cases p<;>first | (cases hp;done) | skip
    all_goals
      simp only [rename]
      first | rfl | (split<;>rfl)
section
variable {w w':World} {rv rv':Nat→Value} {E E':Nat→PV}
theorem al_rename {m:List (Nat×Nat)} {Φ:Nat→Prop} {a:PV} {v:Value} (ha:AlOf w rv E a v)
    (h:∀ r h',m.lookup r=some h'→r<ghost→h'<ghost∧∀ pre nv np,follow w' (rv' h') (E' h').unlock pre=some (nv,np)→np.heavy0=true→∃ np0,follow w (rv r) (E r).unlock pre=some (nv,np0)∧alike np0 np) :
    Rep w' Φ (AlOf w' rv' E') (rename m a) v []:=by
  have hr:=al_root ha
  have key:∀ nv np i c a',addrIn nv np i c=some a'→np.heavy0=true:=by
    intro nv np i c a' h
    cases np<;>first | rfl | (simp [addrIn] at h)
  cases a<;>simp only [rename]<;>try (exact ha.elim)
  case addr r pre i c sh =>
    cases hm:m.lookup r with
    | none=>rfl
    | some h' =>
      obtain ⟨h1,h2⟩:=h r h' hm hr
      obtain ⟨_,b,h3,h4,h5⟩:=ha
      refine ⟨rfl,h1,b,h3,h4,fun nv np hn a' ha'=>?_⟩
      obtain ⟨np0,h6,h7⟩:=h2 pre nv np hn (key _ _ _ _ _ ha')
      exact h5 nv np0 h6 a' (by rw [addrIn_alike h7];exact ha')
  case bor r pre z lo n =>
    cases hm:m.lookup r with
    | none=>rfl
    | some h' =>
      obtain ⟨h1,h2⟩:=h r h' hm hr
      obtain ⟨_,h3,h5⟩:=ha
      refine ⟨rfl,h1,h3,fun nv np hn hh=>?_⟩
      obtain ⟨np0,h6,h7⟩:=h2 pre nv np hn hh
      obtain ⟨sz,xs,g1,g2,g3⟩:=h5 nv np0 h6 (alike_heavy0 h7)
      subst g1
      cases np<;>simp only [alike] at h7
      subst h7
      exact ⟨_,_,rfl,g2,g3⟩
  case bsl r pre i c sz ag n =>
    cases hm:m.lookup r with
    | none=>rfl
    | some h' =>
      obtain ⟨h1,h2⟩:=h r h' hm hr
      obtain ⟨_,b,cap,h3,h3',h4,h5⟩:=ha
      refine ⟨rfl,h1,b,cap,h3,h3',h4,fun nv np hn a' ha'=>?_⟩
      obtain ⟨np0,h6,h7⟩:=h2 pre nv np hn (key _ _ _ _ _ ha')
      exact h5 nv np0 h6 a' (by rw [addrIn_alike h7];exact ha')
  case bmap r pre =>
    cases hm:m.lookup r with
    | none=>rfl
    | some h' =>
      obtain ⟨h1,h2⟩:=h r h' hm hr
      obtain ⟨_,h3,h5⟩:=ha
      refine ⟨rfl,h1,h3,fun nv np hn es he=>?_⟩
      subst he
      obtain ⟨np0,h6,h7⟩:=h2 pre nv _ hn rfl
      cases np0<;>simp only [alike] at h7
      exact h5 nv _ h6 _ rfl
end
theorem lookup_zip {f:Nat→Nat→Nat×Nat}:∀ (R:List Nat) (k x y:Nat),((R.zipIdx k).map fun p=>f p.1 p.2).lookup x=some y→∃ j r,R[j]? = some r∧f r (k+j)=(x,y)
  | [],k,x,y,h=>by simp at h
  | r :: R,k,x,y,h=>by
    simp only [List.zipIdx_cons,List.map_cons] at h
    cases hf:f r k with
    | mk p1 p2 =>
      rw [hf,List.lookup_cons] at h
      by_cases hx:x=p1
      · have:(x==p1)=true:=by simp [hx]
        rw [this] at h
        simp only [Option.some.injEq] at h
        exact ⟨0,r,rfl,by rw [Nat.add_zero,hf,hx,h]⟩
      · have:(x==p1)=false:=by simp [hx]
        rw [this] at h
        obtain ⟨j,r',h1,h2⟩:=lookup_zip R (k+1) x y h
        exact ⟨j+1,r',by simpa using h1,by rw [show k+(j+1)=k+1+j by omega];exact h2⟩
theorem lookup_there {R:List Nat} {r h:Nat} (hl:(thereOf R).lookup r=some h):∃ j,R[j]? = some r∧h=hidBase+j:=by
  obtain ⟨j,r',h1,h2⟩:=lookup_zip (f:=fun r j=>(r,hidBase+j)) R 0 r h hl
  simp only [Nat.zero_add,Prod.mk.injEq] at h2
  exact ⟨j,h2.1▸h1,h2.2.symm⟩
theorem lookup_back {R:List Nat} {h r:Nat} (hl:(backOf R).lookup h=some r):∃ j,R[j]? = some r∧h=hidBase+j:=by
  obtain ⟨j,r',h1,h2⟩:=lookup_zip (f:=fun r j=>(hidBase+j,r)) R 0 h r hl
  simp only [Nat.zero_add,Prod.mk.injEq] at h2
  exact ⟨j,h2.2▸h1,h2.1.symm⟩
theorem distinct_nodup:∀ {R:List Nat},distinct R=true→R.Nodup
  | [],_=>List.nodup_nil
  | r::R,h=>by
    simp only [distinct,Bool.and_eq_true,Bool.not_eq_true'] at h
    exact List.nodup_cons.2 ⟨fun hm=>by have:=List.contains_iff_mem.2 hm;rw [this] at h;exact absurd h.1 (by simp),distinct_nodup h.2⟩
section
variable {o:Oracle} {e e':Env}
theorem getsM_run:∀ {R:List Nat} {k:List PV→PM},(getsM R k).run o e=some e'→(∀ r∈R,(e.get r).isLock=false)∧(k (R.map e.get)).run o e=some e'
  | [],k,h=>⟨by simp,h⟩
  | r :: R,k,h=>by
    simp only [getsM,PM.run] at h
    split at h
    · cases h
    · rename_i p hp
      obtain ⟨h1,h2⟩:=getsM_run h
      refine ⟨fun x hx=>?_,h2⟩
      rcases List.mem_cons.1 hx with rfl | hx
      · cases hl:(e.get x)<;>first | rfl | exact absurd hl (hp _)
      · exact h1 x hx
theorem closeM_run:∀ {n:Nat} {R:List Nat} {k:List Nat→PM},(closeM n R k).run o e=some e'→∃ R',(k R').run o e=some e'
  | 0,R,k,h=>⟨R,h⟩
  | n+1,R,k,h=>by
    simp only [closeM] at h
    obtain ⟨_,h1⟩:=getsM_run h
    revert h1
    cases Nat.beq _ _ with
    | true=>exact fun h=>⟨_,h⟩
    | false=>exact fun h=>closeM_run h
def killsF:List Nat→PV→PV
  | [],a=>a
  | r::R,a=>if (loseEx r [] a).isWay=true then killsF R a else loseEx r [] a
theorem loseEx_or (r:Nat) (p:PV):loseEx r [] p=p∨(p.isWay=true∧loseEx r [] p = .bad):=by
  cases p<;>first | exact .inl rfl | skip
  all_goals
    simp only [loseEx,PV.isWay,true_and]
    cases (Nat.beq _ r&&_)<;>simp
theorem killsF_or:∀ (R:List Nat) (p:PV),killsF R p=p∨(p.isWay=true∧killsF R p = .bad)
  | [],p => .inl rfl
  | r::R,p=>by
    simp only [killsF]
    split
    · exact killsF_or R p
    · exact loseEx_or r p
theorem killsM_run {k:PM}:∀ {R:List Nat} {e:Env},(killsM R k).run o e=some e'→∃ e1,k.run o e1=some e'∧∀ s,e1.get s=(e.get s).mapW (killsF R)
  | [],e,h=>⟨e,h,fun s=>by rw [show killsF []=fun x=>x from rfl,mapW_id]⟩
  | r::R,e,h=>by
    simp only [killsM,PM.run] at h
    obtain ⟨e1,h1,h2⟩:=killsM_run h
    refine ⟨e1,h1,fun s=>?_⟩
    rw [h2 s,Env.get_killEx,mapW_mapW]
    refine mapW_congr (fun a ha=>?_) _
    simp only [killsF]
    rcases loseEx_or r a with h3 | ⟨_,h3⟩
    · rw [h3,if_pos ha,way_mapW ha]
    · rw [h3];rfl
theorem nil_of {pre:Path} {y:PV} (hne:PV.bad≠y) (h:(bif !pre.isEmpty then PV.bad else y)=y):pre=[]:=by
  cases pre with
  | nil=>rfl
  | cons x xs=>exact absurd h hne
theorem killsF_root:∀ {R:List Nat} {a:PV},a.isWay=true→killsF R a=a→(∀ k,a ≠ .yld k)→(∀ xs k,a ≠ .log xs k)→(rootOf a).1∈R→(rootOf a).2=[]
  | [],_,_,_,_,_,h=>by cases h
  | r :: R,a,ha,hk,hy,hl,hm=>by
    simp only [killsF] at hk
    by_cases hr:(rootOf a).1=r
    · have hlo:loseEx r [] a=a:=by
        rcases loseEx_or r a with h3 | ⟨_,h3⟩
        · exact h3
        · rw [h3] at hk;simp only [PV.isWay,Bool.false_eq_true,if_false] at hk;rw [← hk] at ha;cases ha
      cases a<;>first | (cases ha;done) | (exact absurd rfl (hy _)) | (exact absurd rfl (hl _ _)) | skip
      all_goals
        simp only [rootOf] at hr ⊢
        subst hr
        simp only [loseEx,Nat.beq_refl,Bool.true_and,List.any_nil,Bool.or_false] at hlo
        exact nil_of (by simp) hlo
    · have hm':(rootOf a).1∈R:=(List.mem_cons.1 hm).resolve_left hr
      rcases loseEx_or r a with h3 | ⟨_,h3⟩
      · rw [h3,if_pos ha] at hk;exact killsF_root ha hk hy hl hm'
      · rw [h3] at hk;simp only [PV.isWay,Bool.false_eq_true,if_false] at hk;rw [← hk] at ha;cases ha
theorem setsM_run {k:PM}:∀ {R:List Nat} {os ps:List PV} {e:Env},R.Nodup→(setsM R os ps k).run o e=some e'→∃ e1,k.run o e1=some e'∧ps.length=R.length∧os.length=R.length∧(∀ (j:Nat) (x y:PV),os[j]? = some x→ps[j]? = some y→okRoot x y=true) ∧
      (∀ s,s∉R→e1.get s=e.get s)∧∀ (j r:Nat) (p:PV),R[j]? = some r→ps[j]? = some p→e1.get r=p
  | [],os,ps,e,hn,h=>by
    cases os<;>cases ps<;>simp only [setsM] at h<;>try (cases h;done)
    exact ⟨e,h,rfl,rfl,by simp,fun _ _=>rfl,by simp⟩
  | r :: R,os,ps,e,hn,h=>by
    cases os<;>cases ps<;>simp only [setsM] at h<;>try (cases h;done)
    rename_i x os y ps
    obtain ⟨h1,h2⟩:=cond_run h
    obtain ⟨root,_,hm,h3⟩:=wnode_run h2
    simp only [modNode,Option.some.injEq] at hm;subst hm
    obtain ⟨hnr,hnR⟩:=List.nodup_cons.1 hn
    obtain ⟨e1,g1,g2,g3,g4,g5,g6⟩:=setsM_run hnR h3
    refine ⟨e1,g1,by simp [g2],by simp [g3],fun j x' y' hx hy=>?_,fun s hs=>?_,fun j r' p hr hp=>?_⟩
    · cases j with
      | zero=>simp at hx hy;subst hx;subst hy;exact h1
      | succ j=>exact g4 j x' y' (by simpa using hx) (by simpa using hy)
    · simp only [List.mem_cons,not_or] at hs
      rw [g5 s hs.2,Env.get_set,if_neg hs.1]
    · cases j with
      | zero =>
        simp at hr hp;subst hr;subst hp
        rw [g5 _ hnr,Env.get_set,if_pos rfl]
      | succ j=>exact g6 j r' p (by simpa using hr) (by simpa using hp)
theorem get_idx (k:Nat):∀ (ps:List PV) (i:Nat) (s:Nat),Env.get ((ps.zipIdx i).map fun x=>(k+x.2,x.1)) s=if k+i≤s∧s<k+i+ps.length then ps.getD (s-k-i) .bad else .bad
  | [],i,s=>by simp [Env.get]
  | p :: ps,i,s=>by
    simp only [List.zipIdx_cons,List.map_cons,Env.get,get_idx k ps (i+1) s]
    by_cases h:s=k+i
    · subst h
      simp
    · have:Nat.beq (k+i) s=false:=by
        cases hb:Nat.beq (k+i) s with
        | false=>rfl
        | true=>exact absurd (Nat.eq_of_beq_eq_true hb).symm h
      rw [this,cond_false]
      by_cases h2:k+i≤s∧s<k+i+(p::ps).length
      · have h3:k+(i+1)≤s∧s<k+(i+1)+ps.length:=by simp at h2;omega
        rw [if_pos h2,if_pos h3]
        have e1:s-k-i=(s-k-(i+1))+1:=by omega
        rw [e1];simp
      · have h3:¬ (k+(i+1)≤s∧s<k+(i+1)+ps.length):=by simp at h2 ⊢;omega
        rw [if_neg h2,if_neg h3]
theorem get_append (a b:Env) (s:Nat):Env.get (a++b) s=bif a.any (fun x=>Nat.beq x.1 s) then Env.get a s else Env.get b s:=by
  induction a with
  | nil=>rfl
  | cons x a ih =>
    obtain ⟨k,v⟩:=x
    simp only [List.cons_append,Env.get,ih,List.any_cons]
    cases Nat.beq k s<;>rfl
end
structure Gave (v:PV) (u:Value) (rv:Nat→Value) (E:Nat→PV):Prop where
  one:(∀ ps,v ≠ .tup ps)→E outBase=v∧rv outBase=u
  many:∀ ps,v = .tup ps→∃ us:Array Value,u = .tuple us∧us.size=ps.length∧∀ (j:Nat) (p:PV),ps[j]? = some p→E (outBase+j)=p∧us[j]? = some (rv (outBase+j))
def Means (P:Program) (f:FuncId) (args hid:List PV) (v:PV) (hid':List PV):Prop :=
  ∀ (w:World) (Φ:Nat→Prop) (rv:Nat→Value) (E:Nat→PV) (L:Nat→List Nat) (vs:Array Value),(∀ s,s<ghost→E s=(enterEnv args hid).get s)→(∀ s,ghost≤s→E s = .bad)→Conf w (fun b=>∃ s,b∈L s) Φ w Φ rv E L→vs.size=args.length→(∀ i,i<args.length→vs[i]? = some (rv i))→(∀ s,args.length≤s→s<hidBase→rv s=undef) →
    Calls P f vs w fun e w'=>∃ u Φ' rv' E' L',e = .returned u∧Conf w (fun b=>∃ s,b∈L s) Φ w' Φ' rv' E' L'∧hid'.length=hid.length ∧
      (∀ j,j<hid.length→E' (hidBase+j)=hid'.getD j .bad∧rv' (hidBase+j)=rv (hidBase+j))∧Gave v u rv' E'
def Callable (P:Program) (f:FuncId):Prop:=∃ fn,P.funcs[f]? = some fn∧fn.body.isNone=false
def Sound (P:Program) (o:Oracle):Prop:=∀ f args hid v hid',o f args hid=some (v,hid')→Callable P f∧Means P f args hid v hid'
theorem enter_get {args hid:List PV} (ha:args.length≤hidBase) (s:Nat):(enterEnv args hid).get s=if s<args.length then args.getD s .bad else if hidBase≤s∧s<hidBase+hid.length then hid.getD (s-hidBase) .bad else .bad:=by
  have e1:(args.zipIdx.map fun (p,i)=>(i,p))=(args.zipIdx 0).map fun x=>(0+x.2,x.1):=by
    apply List.map_congr_left;intro x _;simp
  have e2:(hid.zipIdx.map fun (p,j)=>(hidBase+j,p))=(hid.zipIdx 0).map fun x=>(hidBase+x.2,x.1):=rfl
  have hany:∀ (ps:List PV) (i:Nat),((ps.zipIdx i).map fun x=>(0+x.2,x.1)).any (fun x=>Nat.beq x.1 s)=decide (i≤s∧s<i+ps.length):=by
    intro ps
    induction ps with
    | nil => intro i;have:¬ (i≤s∧s<i):=by omega
             simp [this]
    | cons p ps ih =>
      intro i
      simp only [List.zipIdx_cons,List.map_cons,List.any_cons,ih (i+1)]
      by_cases h:s=i
      · subst h;simp
      · have:Nat.beq (0+i) s=false:=by
          cases hb:Nat.beq (0+i) s with
          | false=>rfl
          | true=>exact absurd (Nat.eq_of_beq_eq_true hb) (by omega)
        rw [this,Bool.false_or]
        apply decide_eq_decide.2
        simp;omega
  simp only [enterEnv]
  rw [e1,e2,get_append,hany args 0,get_idx,get_idx]
  by_cases h:s<args.length
  · have h1:decide (0≤s∧s<0+args.length)=true:=decide_eq_true (by omega)
    rw [h1,cond_true,if_pos (by omega),if_pos h];simp
  · have h1:decide (0≤s∧s<0+args.length)=false:=decide_eq_false (by omega)
    rw [h1,cond_false,if_neg h];simp
section
variable {w0 w w':World} {U Φ0 Φ Φ1 Φ' Φ2:Nat→Prop} {rv rv':Nat→Value} {E E':Nat→PV} {L L':Nat→List Nat}
def ArgOk (w:World) (rv:Nat→Value) (E:Nat→PV) (Φ1:Nat→Prop) (i:Nat) (x:Arg):Prop :=
  (x.byref=true∧x.p=E (ghost+i))∨(x.byref=false∧x.p=E (ghost+i)∧(E (ghost+i)).ways=[])∨(x.byref=false∧Rep w Φ1 noAl x.p (rv (ghost+i)) [])
def argPV (R:List Nat) (x:Arg):PV:=if x.byref then renV (thereOf R) x.p else x.p
theorem noways {A A':Al} {p:PV} {v:Value} {M:List Nat} (hp:p.ways=[]) (hA:∀ a v,a.isWay=true→A a v→a.ways≠[]) (h:Rep w Φ A p v M):Rep w Φ A' p v M :=
  h.ways _ _ _ fun a v hw hx ha=>by
    rw [hp] at hx
    have h1:=hA a v hw ha
    cases hay:a.ways with
    | nil=>exact absurd hay h1
    | cons z zs=>have:=hx z (by rw [hay];simp);cases this
open Classical in
theorem enter_conf (C:Conf w0 U Φ0 w Φ rv E L) {R:List Nat} (hR:R.Nodup) (hRl:∀ r∈R,(E r).isLock=false) (hRg:∀ r∈R,r<ghost) (hRn:R.length≤1000) {as:List Arg} (hAn:as.length≤1000) (hΦ:∀ b,Φ b→Φ1 b) (hΦs:∀ b,Φ1 b→b<w.heap.size)
    (hΦR:∀ r∈R,∀ b∈L r,¬ Φ1 b) (hΦa:∀ i,i<as.length→∀ b∈L (ghost+i),¬ Φ1 b) (hA:∀ i x,as[i]? = some x→ArgOk w rv E Φ1 i x) :
    ∃ rvc Ec Lc,(∀ s,s<ghost→Ec s=(enterEnv (as.map (argPV R)) (R.map fun r=>renV (thereOf R) (E r))).get s)∧(∀ s,ghost≤s→Ec s = .bad)∧Conf w (fun b=>∃ s,b∈Lc s) Φ1 w Φ1 rvc Ec Lc ∧
      (∀ i,i<as.length→rvc i=rv (ghost+i))∧(∀ (j r:Nat),R[j]? = some r→rvc (hidBase+j)=rv r)∧(∀ s,as.length≤s→s<hidBase→rvc s=undef)∧∀ b,(∃ s,b∈Lc s)→(∃ r∈R,b∈L r)∨∃ i,i<as.length∧b∈L (ghost+i):=by
  let K:Nat→Prop:=fun i=>∃ x,as[i]? = some x∧x.byref=false∧Rep w Φ1 noAl x.p (rv (ghost+i)) []
  let src:Nat→Option Nat:=fun s=>if s<as.length then (if K s then none else some (ghost+s)) else if hidBase≤s then R[s-hidBase]? else none
  let rvc:Nat→Value:=fun s=>if s<as.length then rv (ghost+s) else match src s with | some t=>rv t | none=>undef
  let Lc:Nat→List Nat:=fun s=>match src s with | some t=>L t | none=>[]
  let Ec:Nat→PV:=fun s=>if s<ghost then (enterEnv (as.map (argPV R)) (R.map fun r=>renV (thereOf R) (E r))).get s else .bad
  have hh:hidBase=50000000:=rfl
  have hgg:ghost=1000000000:=rfl
  have hget:∀ s,s<ghost→Ec s=if s<as.length then (as.map (argPV R)).getD s .bad else if hidBase≤s∧s<hidBase+R.length then (R.map fun r=>renV (thereOf R) (E r)).getD (s-hidBase) .bad else .bad:=by
    intro s hs
    simp only [Ec,if_pos hs]
    rw [enter_get (by simp;omega)]
    simp
  have hEh:∀ (j r:Nat),R[j]? = some r→Ec (hidBase+j)=(E r).mapW (rename (thereOf R)):=by
    intro j r hj
    have hjl:j<R.length:=(List.getElem?_eq_some_iff.1 hj).1
    rw [hget _ (by omega),if_neg (by omega),if_pos (by omega)]
    simp [List.getD,hj,renV]
  have hrh:∀ (j r:Nat),R[j]? = some r→rvc (hidBase+j)=rv r:=by
    intro j r hj
    have hjl:j<R.length:=(List.getElem?_eq_some_iff.1 hj).1
    have:src (hidBase+j)=some r:=by
      simp only [src]
      rw [if_neg (by omega),if_pos (by omega),Nat.add_sub_cancel_left,hj]
    simp only [rvc,this]
    rw [if_neg (by omega)]
  have hsrc:∀ s t,src s=some t→(t∈R∧∃ j,s=hidBase+j∧R[j]? = some t)∨(s<as.length∧t=ghost+s∧¬ K s):=by
    intro s t h
    simp only [src] at h
    split at h
    · rename_i hs
      split at h
      · cases h
      · rename_i hk;cases h;exact .inr ⟨hs,rfl,hk⟩
    · split at h
      · rename_i hs
        exact .inl ⟨List.mem_of_getElem? h,s-hidBase,by omega,h⟩
      · cases h
  have hinj:∀ s s' t,src s=some t→src s'=some t→s=s':=by
    intro s s' t h h'
    rcases hsrc s t h with ⟨h1,j,h2,h3⟩ | ⟨h1,h2,_⟩<;>rcases hsrc s' t h' with ⟨h1',j',h2',h3'⟩ | ⟨h1',h2',_⟩
    · have hj:j<R.length:=(List.getElem?_eq_some_iff.1 h3).1
      have:j=j':=(List.getElem?_inj hj hR).1 (h3.trans h3'.symm)
      omega
    · have:=hRg t h1;omega
    · have:=hRg t h1';omega
    · omega
  have hal:∀ a v,a.isWay=true→AlOf w rv E a v→Rep w Φ1 (AlOf w rvc Ec) (rename (thereOf R) a) v []:=by
    intro a v _ ha
    refine al_rename ha fun r h' hl hr=>?_
    obtain ⟨j,hj,rfl⟩:=lookup_there hl
    have hjl:j<R.length:=(List.getElem?_eq_some_iff.1 hj).1
    refine ⟨by omega,fun pre nv np hn hh=>?_⟩
    rw [hrh j r hj,hEh j r hj,unlock_mapW (tame_rename _)] at hn
    exact follow_mapW (tame_rename _) hn hh
  have hS:Same w w Φ Φ1:=fun b hb=>⟨hΦ b hb,rfl⟩
  have hLs:∀ s b,b∈Lc s→∃ t,src s=some t∧b∈L t:=by
    intro s b hb
    simp only [Lc] at hb
    cases h:src s with
    | none=>rw [h] at hb;cases hb
    | some t=>rw [h] at hb;exact ⟨t,rfl,hb⟩
  have hU:∀ b,(∃ s,b∈Lc s)→(∃ r∈R,b∈L r)∨∃ i,i<as.length∧b∈L (ghost+i):=by
    rintro b ⟨s,hb⟩
    obtain ⟨t,h1,h2⟩:=hLs s b hb
    rcases hsrc s t h1 with ⟨h3,_⟩ | ⟨h3,rfl,_⟩
    · exact .inl ⟨t,h3,h2⟩
    · exact .inr ⟨s,h3,h2⟩
  have hnΦ:∀ b,(∃ s,b∈Lc s)→¬ Φ1 b:=by
    intro b hb
    rcases hU b hb with ⟨r,h1,h2⟩ | ⟨i,h1,h2⟩
    · exact hΦR r h1 b h2
    · exact hΦa i h1 b h2
  refine ⟨rvc,Ec,Lc,fun s hs=>if_pos hs,fun s hs=>if_neg (by omega),⟨fun s=>?_,fun s=>?_,fun s s' hne b hb hb'=>?_,fun s b hb=>?_,fun b hb=>⟨hΦs b hb,.inl hb⟩,fun b hb=>hb,Nat.le_refl _,fun _ _ _=>rfl,rfl,rfl,rfl⟩,fun i hi=>if_pos hi,hrh,fun s h1 h2=>by simp only [rvc,src,if_neg (by omega:¬ s<as.length),if_neg (by omega:¬ hidBase≤s)],hU⟩
  · by_cases hs:s<as.length
    · have hx:as[s]? = some (as[s]):=List.getElem?_eq_getElem hs
      have hE:Ec s=argPV R as[s]:=by rw [hget s (by omega),if_pos hs];simp [List.getD,hx]
      have hrvs:rvc s=rv (ghost+s):=if_pos hs
      rw [hE,hrvs]
      by_cases hk:K s
      · have hL:Lc s=[]:=by simp only [Lc,src,if_pos hs,if_pos hk]
        rw [hL]
        obtain ⟨x,h1,h2,h3⟩:=hk
        rw [hx] at h1;cases h1
        simp only [argPV,h2,Bool.false_eq_true,if_false]
        exact h3.mono Same.refl (fun _ _ _ h=>h.elim) (by simp)
      · have hL:Lc s=L (ghost+s):=by simp only [Lc,src,if_pos hs,if_neg hk]
        rw [hL]
        rcases hA s _ hx with ⟨h1,h2⟩ | ⟨h1,h2,h3⟩ | ⟨h1,h2⟩
        · simp only [argPV,h1,if_true,h2]
          exact Rep.map (tame_rename _).agg hS hal _ _ _ (fun _ _=>rfl) (C.rep (ghost+s))
        · simp only [argPV,h1,Bool.false_eq_true,if_false,h2]
          exact (noways h3 (fun a v hw h=>al_log hw h) (C.rep (ghost+s))).mono (A:=noAl) hS (fun _ _ _ h=>h.elim) (fun _ _=>rfl)
        · exact absurd ⟨_,hx,h1,h2⟩ hk
    · by_cases hhs:hidBase≤s∧s<hidBase+R.length
      · obtain ⟨j,rfl⟩:∃ j,s=hidBase+j:=⟨s-hidBase,by omega⟩
        have hjl:j<R.length:=by omega
        obtain ⟨r,hj⟩:∃ r,R[j]? = some r:=⟨_,List.getElem?_eq_getElem hjl⟩
        have hL:Lc (hidBase+j)=L r:=by simp only [Lc,src,if_neg hs,if_pos hhs.1,Nat.add_sub_cancel_left,hj]
        rw [hL,hEh j r hj,hrh j r hj]
        exact Rep.map (tame_rename _).agg hS hal _ _ _ (fun _ _=>rfl) (C.rep r)
      · have hL:Lc s=[]:=by
          simp only [Lc,src,if_neg hs]
          by_cases hb:hidBase≤s
          · rw [if_pos hb,List.getElem?_eq_none (by omega)]
          · rw [if_neg hb]
        have hE:Ec s = .bad:=by
          by_cases hg:s<ghost
          · rw [hget s hg,if_neg hs,if_neg hhs]
          · exact if_neg hg
        rw [hL,hE];rfl
  · simp only [Lc]
    cases h:src s with
    | none=>exact List.nodup_nil
    | some t=>exact C.nodup t
  · obtain ⟨t,h1,h2⟩:=hLs s b hb
    obtain ⟨t',h1',h2'⟩:=hLs s' b hb'
    have:t=t':=Classical.byContradiction fun h=>C.disj t t' h b h2 h2'
    subst this
    exact hne (hinj s s' t h1 h1')
  · obtain ⟨t,h1,h2⟩:=hLs s b hb
    exact ⟨(C.own t b h2).1,hnΦ b ⟨s,hb⟩,.inl ⟨s,hb⟩⟩
theorem okRoot_alike {x y:PV} (h:okRoot x y=true) (hx:x.isLock=false) (hh:y.unlock.heavy0=true):y.unlock=y∧alike x.unlock y:=by
  cases y<;>simp only [PV.unlock,PV.heavy0] at hh<;>try (cases hh;done)
  · cases x<;>simp only [okRoot] at h<;>try (cases h;done)
    exact ⟨rfl,(Nat.eq_of_beq_eq_true h).symm⟩
  · cases x<;>simp only [okRoot] at h<;>try (cases h;done)
    exact ⟨rfl,trivial⟩
  · cases x<;>simp only [okRoot] at h<;>try (cases h;done)
    exact ⟨rfl,trivial⟩
  · cases x<;>simp only [okRoot] at h<;>cases h
theorem leave_conf (C:Conf w0 U Φ0 w Φ rv E L) {R:List Nat} (hR:R.Nodup) (hRl:∀ r∈R,(E r).isLock=false) (hRg:∀ r∈R,r<ghost) (hRn:R.length≤1000) {m:Nat} {Uc:Nat→Prop}
    (hUc:∀ b,Uc b→(∃ r∈R,b∈L r)∨∃ i,i<m∧b∈L (ghost+i)) (C':Conf w Uc Φ1 w' Φ' rv' E' L') (hrv:∀ (j r:Nat),R[j]? = some r→rv' (hidBase+j)=rv r)
    (hok:∀ (j r:Nat),R[j]? = some r→okRoot (E r) (renV (backOf R) (E' (hidBase+j)))=true) {n:Nat} (hn:n≤1000)
    (hΦ2:∀ b,Φ b→Φ2 b) (hΦ2s:∀ b,Φ2 b→b<w'.heap.size∧(Φ0 b∨U b∨w0.heap.size≤b)) (hΦ2o:∀ s,s<ghost→s∉R→∀ b∈L s,¬ Φ2 b) (hΦ2n:∀ t b,b∈L' t→¬ Φ2 b)
    (hT:∀ t,((∃ j,j<R.length∧t=hidBase+j)∨∃ j,j<n∧t=outBase+j)→Rep w' Φ2 (AlOf w' rv' E') (E' t) (rv' t) (L' t)) :
    ∃ rv2 E2 L2,Conf w0 U Φ0 w' Φ2 rv2 E2 L2∧(∀ s,s<ghost→rv2 s=rv s)∧(∀ s,s<ghost→s∉R→E2 s=(E s).mapW (killsF R))∧(∀ (j r:Nat),R[j]? = some r→E2 r=renV (backOf R) (E' (hidBase+j))) ∧
      (∀ j,j<n→E2 (ghost+j)=renV (backOf R) (E' (outBase+j))∧rv2 (ghost+j)=rv' (outBase+j))∧∀ s,ghost+n≤s→E2 s = .bad:=by
  have hh:hidBase=50000000:=rfl
  have ho:outBase=60000000:=rfl
  have hgg:ghost=1000000000:=rfl
  let cal:Nat→Option Nat:=fun s=>if s<ghost then (match R.findIdx? (· == s) with | some j=>some (hidBase+j) | none=>none) else if s<ghost+n then some (outBase+(s-ghost)) else none
  let rv2:Nat→Value:=fun s=>if s<ghost then rv s else match cal s with | some t=>rv' t | none=>undef
  let E2:Nat→PV:=fun s=>match cal s with | some t=>renV (backOf R) (E' t) | none=>if s<ghost then (E s).mapW (killsF R) else .bad
  let L2:Nat→List Nat:=fun s=>match cal s with | some t=>L' t | none=>if s<ghost then L s else []
  have hcalR:∀ (j r:Nat),R[j]? = some r→cal r=some (hidBase+j):=by
    intro j r hj
    have hr:=hRg r (List.mem_of_getElem? hj)
    have:R.findIdx? (· == r)=some j:=by
      rw [List.findIdx?_eq_some_iff_getElem]
      have hjl:j<R.length:=(List.getElem?_eq_some_iff.1 hj).1
      have hjr:R[j]=r:=(List.getElem?_eq_some_iff.1 hj).2
      refine ⟨hjl,by simp [hjr],fun k hk=>?_⟩
      simp only [beq_iff_eq,Bool.not_eq_true,beq_eq_false_iff_ne]
      intro hc
      have hkl:k<R.length:=by omega
      have h1:R[k]? = R[j]?:=by rw [List.getElem?_eq_getElem hkl,hc,hj]
      have:=(List.getElem?_inj hkl hR).1 h1
      omega
    simp only [cal,if_pos hr,this]
  have hcalN:∀ s,s<ghost→s∉R→cal s=none:=by
    intro s hs hsR
    have:R.findIdx? (· == s)=none:=by
      rw [List.findIdx?_eq_none_iff]
      intro x hx
      simp only [beq_eq_false_iff_ne]
      intro hc;subst hc;exact hsR hx
    simp only [cal,if_pos hs,this]
  have hcal:∀ s t,cal s=some t→(∃ j,R[j]? = some s∧t=hidBase+j∧j<R.length∧s<ghost)∨∃ j,j<n∧s=ghost+j∧t=outBase+j:=by
    intro s t h
    by_cases hs:s<ghost
    · by_cases hsR:s∈R
      · obtain ⟨j,hj⟩:=List.getElem?_of_mem hsR
        rw [hcalR j s hj] at h;cases h
        exact .inl ⟨j,hj,rfl,(List.getElem?_eq_some_iff.1 hj).1,hs⟩
      · rw [hcalN s hs hsR] at h;cases h
    · simp only [cal,if_neg hs] at h
      split at h
      · have h:=Option.some.inj h;exact .inr ⟨s-ghost,by omega,by omega,h.symm⟩
      · cases h
  have hinj:∀ s s' t,cal s=some t→cal s'=some t→s=s':=by
    intro s s' t h h'
    rcases hcal s t h with ⟨j,h1,h2,h3,_⟩ | ⟨j,h1,h2,h3⟩<;>rcases hcal s' t h' with ⟨j',h1',h2',h3',_⟩ | ⟨j',h1',h2',h3'⟩
    · have:j=j':=by omega
      subst this
      rw [h1] at h1';simpa using h1'
    · omega
    · omega
    · omega
  have hnone:∀ s,cal s=none→s<ghost→s∉R:=by
    intro s h hs hsR
    obtain ⟨j,hj⟩:=List.getElem?_of_mem hsR
    rw [hcalR j s hj] at h;cases h
  have hnotU:∀ s,s<ghost→s∉R→∀ b∈L s,¬ Uc b:=by
    intro s hs hsR b hb hu
    rcases hUc b hu with ⟨r,h1,h2⟩ | ⟨i,h1,h2⟩
    · exact C.disj s r (fun hc=>hsR (hc▸h1)) b hb h2
    · exact C.disj s (ghost+i) (by omega) b hb h2
  have hsame:∀ s,s<ghost→s∉R→∀ b∈L s,w'.heap[b]? = w.heap[b]?:=fun s hs hsR b hb=>C'.kept b (C.own s b hb).1 (hnotU s hs hsR b hb)
  have hΦsame:Same w w' Φ Φ2:=fun b hb=>⟨hΦ2 b hb,C'.kept b (C.frz b hb).1 fun hu=>by
    rcases hUc b hu with ⟨r,_,h2⟩ | ⟨i,_,h2⟩
    · exact (C.own r b h2).2.1 hb
    · exact (C.own _ b h2).2.1 hb⟩
  have hkor:=killsF_or R
  have hown:∀ a v,a.isWay=true→AlOf w rv E a v→killsF R a=a→AlOf w' rv2 E2 a v:=by
    intro a v hw ha hk
    have hr:=al_root ha
    have hy:∀ k,a ≠ .yld k:=fun k hc=>by subst hc;exact ha.elim
    have hl:∀ xs k,a ≠ .log xs k:=fun xs k hc=>by subst hc;exact ha.elim
    by_cases hrR:(rootOf a).1∈R
    · have hp:=killsF_root hw hk hy hl hrR
      obtain ⟨j,hj⟩:=List.getElem?_of_mem hrR
      refine ha.mono fun nv np hn2 hh2=>?_
      rw [hp] at hn2 ⊢
      simp only [follow,Option.some.injEq,Prod.mk.injEq] at hn2
      obtain ⟨h1,h2⟩:=hn2
      have hE2:E2 (rootOf a).1=renV (backOf R) (E' (hidBase+j)):=by simp only [E2,hcalR j _ hj]
      rw [hE2] at h2
      obtain ⟨g1,g2⟩:=okRoot_alike (hok j _ hj) (hRl _ hrR) (by rw [h2];exact hh2)
      refine ⟨(E (rootOf a).1).unlock,?_,by rw [← h2,g1];exact g2⟩
      simp only [follow,Option.some.injEq,Prod.mk.injEq,and_true]
      rw [← h1];simp only [rv2,if_pos hr]
    · refine al_keep C (tame_or hkor) ha ?_ ?_ (hsame _ hr hrR)
      · simp only [E2,hcalN _ hr hrR,if_pos hr]
      · simp only [rv2,if_pos hr]
  have hown':∀ a v,a.isWay=true→AlOf w rv E a v→Rep w' Φ2 (AlOf w' rv2 E2) (killsF R a) v []:=by
    intro a v hw ha
    rcases hkor a with hk | ⟨_,hk⟩
    · rw [hk];exact rep_way hw (hown a v hw ha hk)
    · rw [hk];rfl
  have hback:∀ a v,a.isWay=true→AlOf w' rv' E' a v→Rep w' Φ2 (AlOf w' rv2 E2) (rename (backOf R) a) v []:=by
    intro a v _ ha
    refine al_rename ha fun r h' hl hr=>?_
    obtain ⟨j,hj,rfl⟩:=lookup_back hl
    have hr':=hRg h' (List.mem_of_getElem? hj)
    refine ⟨hr',fun pre nv np hn2 hh2=>?_⟩
    have e1:rv2 h'=rv' (hidBase+j):=by simp only [rv2,if_pos hr'];exact (hrv j h' hj).symm
    have e2:E2 h'=(E' (hidBase+j)).mapW (rename (backOf R)):=by simp only [E2,hcalR j h' hj];rfl
    rw [e1,e2,unlock_mapW (tame_rename _)] at hn2
    exact follow_mapW (tame_rename _) hn2 hh2
  have hL2:∀ s b,b∈L2 s→(∃ t,cal s=some t∧b∈L' t)∨(cal s=none∧s<ghost∧b∈L s):=by
    intro s b hb
    simp only [L2] at hb
    cases h:cal s with
    | some t=>rw [h] at hb;exact .inl ⟨t,rfl,hb⟩
    | none =>
      rw [h] at hb
      by_cases hs:s<ghost
      · simp only [if_pos hs] at hb;exact .inr ⟨rfl,hs,hb⟩
      · simp only [if_neg hs] at hb;cases hb
  have hcross:∀ t s b,b∈L' t→s<ghost→s∉R→b∉L s:=by
    intro t s b hb hs hsR hbs
    rcases (C'.own t b hb).2.2 with h1 | h1
    · exact hnotU s hs hsR b hbs h1
    · have:=(C.own s b hbs).1;omega
  refine ⟨rv2,E2,L2,⟨fun s=>?_,fun s=>?_,fun s s' hne b hb hb'=>?_,fun s b hb=>?_,hΦ2s,fun b hb=>hΦ2 b (C.frz0 b hb),Nat.le_trans C.size C'.size,fun b hb hu=>?_,C'.os.trans C.os,C'.tape.trans C.tape,C'.output.trans C.output⟩,fun s hs=>if_pos hs,fun s hs hsR=>?_,fun j r hj=>?_,fun j hj=>?_,fun s hs=>?_⟩
  · cases h:cal s with
    | some t =>
      have e1:E2 s=renV (backOf R) (E' t):=by simp only [E2,h]
      have e2:L2 s=L' t:=by simp only [L2,h]
      have e3:rv2 s=rv' t:=by
        rcases hcal s t h with ⟨j,h1,h2,_,h4⟩ | ⟨j,h1,h2,h3⟩
        · simp only [rv2,if_pos h4];rw [h2];exact (hrv j s h1).symm
        · simp only [rv2];rw [if_neg (by omega),h]
      rw [e1,e2,e3]
      refine Rep.map (tame_rename _).agg Same.refl hback _ _ _ (fun _ _=>rfl) (hT t ?_)
      rcases hcal s t h with ⟨j,_,h2,h3,_⟩ | ⟨j,h1,_,h3⟩
      · exact .inl ⟨j,h3,h2⟩
      · exact .inr ⟨j,h1,h3⟩
    | none =>
      by_cases hs:s<ghost
      · have e1:E2 s=(E s).mapW (killsF R):=by simp only [E2,h,if_pos hs]
        have e2:L2 s=L s:=by simp only [L2,h,if_pos hs]
        have e3:rv2 s=rv s:=if_pos hs
        rw [e1,e2,e3]
        exact Rep.map (tame_or hkor).agg hΦsame hown' _ _ _ (hsame s hs (hnone s h hs)) (C.rep s)
      · have e1:E2 s = .bad:=by simp only [E2,h,if_neg hs]
        have e2:L2 s=[]:=by simp only [L2,h,if_neg hs]
        rw [e1,e2];rfl
  · simp only [L2]
    cases h:cal s with
    | some t=>exact C'.nodup t
    | none => by_cases hs:s<ghost
              · simp only [if_pos hs];exact C.nodup s
              · simp only [if_neg hs];exact List.nodup_nil
  · rcases hL2 s b hb with ⟨t,h1,h2⟩ | ⟨h1,h2,h3⟩<;>rcases hL2 s' b hb' with ⟨t',h1',h2'⟩ | ⟨h1',h2',h3'⟩
    · have:t=t':=Classical.byContradiction fun h=>C'.disj t t' h b h2 h2'
      subst this;exact hne (hinj s s' t h1 h1')
    · exact hcross t s' b h2 h2' (hnone s' h1' h2') h3'
    · exact hcross t' s b h2' h2 (hnone s h1 h2) h3
    · exact C.disj s s' hne b h3 h3'
  · rcases hL2 s b hb with ⟨t,h1,h2⟩ | ⟨h1,h2,h3⟩
    · have:=C'.own t b h2
      refine ⟨this.1,hΦ2n t b h2,?_⟩
      rcases this.2.2 with h4 | h4
      · rcases hUc b h4 with ⟨r,_,h5⟩ | ⟨i,_,h5⟩
        · exact (C.own r b h5).2.2
        · exact (C.own _ b h5).2.2
      · exact .inr (Nat.le_trans C.size h4)
    · have:=C.own s b h3
      exact ⟨Nat.lt_of_lt_of_le this.1 C'.size,hΦ2o s h2 (hnone s h1 h2) b h3,this.2.2⟩
  · rw [C'.kept b (Nat.lt_of_lt_of_le hb C.size) fun h=>?_]
    · exact C.kept b hb hu
    · have hx:∀ t,b∈L t→False:=fun t ht=>by
        rcases (C.own t b ht).2.2 with h1 | h1
        · exact hu h1
        · omega
      rcases hUc b h with ⟨r,_,h5⟩ | ⟨i,_,h5⟩
      · exact hx r h5
      · exact hx _ h5
  · simp only [E2,hcalN s hs hsR,if_pos hs]
  · simp only [E2,hcalR j r hj]
  · have:cal (ghost+j)=some (outBase+j):=by
      simp only [cal];rw [if_neg (by omega),if_pos (by omega),Nat.add_sub_cancel_left]
    refine ⟨by simp only [E2,this],?_⟩
    simp only [rv2,this];rw [if_neg (by omega)]
  · have:cal s=none:=by simp only [cal];rw [if_neg (by omega),if_neg (by omega)]
    simp only [E2,this];rw [if_neg (by omega)]
end
theorem follow_getNode {w:World}:∀ {pre:Path} {v nv:Value} {p q:PV},follow w v p pre=some (nv,q)→getNode p pre=some q
  | [],v,nv,p,q,h=>by simp only [follow,Option.some.injEq,Prod.mk.injEq] at h;simp [getNode,h.2]
  | (i,c)::rest,v,nv,p,q,h=>by
    rw [follow_cons] at h
    rw [getNode_cons]
    cases hc:Eng.child p i c with
    | none=>rw [hc] at h;cases h
    | some x =>
      rw [hc] at h;simp only [Option.bind_some] at h ⊢
      cases hk:kid w v p i c with
      | none=>rw [hk] at h;cases h
      | some u=>rw [hk] at h;exact follow_getNode h
theorem killsF_tup (R:List Nat) (p:PV) (hp:p.isWay=true):(killsF R p).isTup=false:=by
  rcases killsF_or R p with h | ⟨_,h⟩
  · rw [h];cases p<;>first | rfl | cases hp
  · rw [h];rfl
theorem rename_tup (m:List (Nat×Nat)) (p:PV) (hp:p.isWay=true):(rename m p).isTup=false:=by
  cases p<;>first | (cases hp;done) | skip
  all_goals
    simp only [rename]
    first | rfl | (split<;>rfl)
section
variable {P:Program} {w0 w:World} {U Φ0 Φ:Nat→Prop} {nt:Nat} {hv:Hid} {a:Act} {e e':Env} {rv:Nat→Value} {E:Nat→PV} {L:Nat→List Nat} {o:Oracle}
def ArgAt (w:World) (Φ:Nat→Prop) (rv:Nat→Value) (E:Nat→PV) (i:Nat) (x:Arg):Prop :=
  (∀ y∈x.shared,y.1<ghost)∧((x.byref=true∧x.p=E (ghost+i))∨(x.byref=false∧x.p=E (ghost+i)∧(E (ghost+i)).ways=[]) ∨
    (x.byref=false∧∀ Φ1:Nat→Prop,(∀ b,Φ b→Φ1 b)→(∀ y∈x.shared,Cov w Φ rv E Φ1 y)→Rep w Φ1 noAl x.p (rv (ghost+i)) []))
theorem callA_ok (hso:Sound P o) (S:St w0 U Φ0 nt hv a w e Φ rv E L) {d:Option Nat} (hd:∀ x,d=some x→x<nt) {f:FuncId} {as:List Arg} {vs:Array Value} (hsz:vs.size=as.length) (hvs:∀ i,i<as.length→vs[i]? = some (rv (ghost+i)))
    (hA:∀ i x,as[i]? = some x→ArgAt w Φ rv E i x) {again:PM} (h:(callA d f as again).run o e=some e') :
    again.run o e=some e'∨Callable P f∧Calls P f vs w fun en w''=>∃ u,en = .returned u∧Fr w0 U Φ0 nt hv (a.put d u) w'' e':=by
  have hh:hidBase=50000000:=rfl
  have ho:outBase=60000000:=rfl
  have hgg:ghost=1000000000:=rfl
  have hsm:=S.small
  obtain ⟨R,h1⟩:=closeM_run h
  obtain ⟨hc,h2⟩:=cond_run h1
  simp only [Bool.and_eq_true] at hc
  obtain ⟨⟨⟨⟨hc1,hc2⟩,hc3⟩,hc4⟩,hc5⟩:=hc
  have hR:=distinct_nodup hc1
  have hRg:∀ r∈R,r<ghost:=fun r hr=>blt_lt (List.all_eq_true.1 hc2 r hr)
  have hRn:=Nat.le_of_ble_eq_true hc3
  have hAn:=Nat.le_of_ble_eq_true hc4
  obtain ⟨hRl',h3⟩:=getsM_run h2
  have hRl:∀ r∈R,(E r).isLock=false:=fun r hr=>by rw [S.env r (hRg r hr)];exact hRl' r hr
  have hmap:R.map e.get=R.map E:=List.map_congr_left fun r hr=>(S.env r (hRg r hr)).symm
  rw [hmap] at h3
  simp only [PM.run] at h3
  cases hof:o f (as.map fun a=>if a.byref then renV (thereOf R) a.p else a.p) ((R.map E).map (renV (thereOf R))) with
  | none=>rw [hof] at h3;cases h3
  | some r =>
    obtain ⟨v,hid'⟩:=r
    rw [hof] at h3;simp only at h3
    cases hb:((as.flatMap (·.shared)).isEmpty||v.free&&frees hid') with
    | false=>rw [hb] at h3;exact .inl h3
    | true =>
      rw [hb] at h3;simp only [cond_true] at h3
      refine .inr ⟨(hso f _ _ v hid' hof).1,?_⟩
      let sh:=as.flatMap (·.shared)
      let Φ1:Nat→Prop:=fun b=>Φ b∨∃ y∈sh,∃ nv q Li A,follow w (rv y.1) (E y.1).unlock y.2=some (nv,q)∧Rep w Φ A q nv Li∧b∈Li
      have hlow:∀ y∈sh,y.1∉R:=fun y hy hyR=>by
        have:=List.all_eq_true.1 hc5 y hy
        rw [List.contains_iff_mem.2 hyR] at this;cases this
      have hLi:∀ (y:Nat×Path) nv q Li A,follow w (rv y.1) (E y.1).unlock y.2=some (nv,q)→Rep w Φ A q nv Li→∀ b∈Li,b∈L y.1:=by
        intro y nv q Li A hf hr b hbL
        obtain ⟨nv',Li',h4,h5,h6⟩:=getNode_follow (rep_unlock (S.conf.rep y.1)) (follow_getNode hf)
        rw [hf] at h4;cases h4
        have:=Rep.uniq _ _ _ _ hr h6
        subst this;exact h5 b hbL
      have hshg:∀ y∈sh,y.1<ghost:=by
        intro y hy
        obtain ⟨x,hx,hyx⟩:=List.mem_flatMap.1 hy
        obtain ⟨i,hi⟩:=List.getElem?_of_mem hx
        exact (hA i x hi).1 y hyx
      have hΦ:∀ b,Φ b→Φ1 b:=fun b hb => .inl hb
      have hdis:∀ t,(∀ y∈sh,y.1≠t)→∀ b∈L t,¬ Φ1 b:=by
        intro t ht b hbt hb1
        rcases hb1 with h4 | ⟨y,hy,nv,q,Li,A,h4,h5,h6⟩
        · exact (S.conf.own t b hbt).2.1 h4
        · exact S.conf.disj y.1 t (ht y hy) b (hLi y nv q Li A h4 h5 b h6) hbt
      have hΦs:∀ b,Φ1 b→b<w.heap.size:=by
        rintro b (hb1 | ⟨y,hy,nv,q,Li,A,h4,h5,h6⟩)
        · exact (S.conf.frz b hb1).1
        · exact (S.conf.own _ b (hLi y nv q Li A h4 h5 b h6)).1
      have hA':∀ i x,as[i]? = some x→ArgOk w rv E Φ1 i x:=by
        intro i x hx
        rcases (hA i x hx).2 with h4 | h4 | ⟨h4,h5⟩
        · exact .inl h4
        · exact .inr (.inl h4)
        · refine .inr (.inr ⟨h4,h5 Φ1 hΦ fun y hy nv q Li A hf hr b hbL => .inr ⟨y,List.mem_flatMap.2 ⟨x,List.mem_of_getElem? hx,hy⟩,nv,q,Li,A,hf,hr,hbL⟩⟩)
      obtain ⟨rvc,Ec,Lc,q1,q2,q3,q4,q5,q5u,q6⟩:=enter_conf S.conf hR hRl hRg hRn hAn hΦ hΦs (fun r hr=>hdis r fun y hy hc=>hlow y hy (hc▸hr)) (fun i hi=>hdis (ghost+i) fun y hy hc=>by have:=hshg y hy;omega) hA'
      have hmeans:=(hso f _ _ v hid' hof).2 w Φ1 rvc Ec Lc vs (fun s hs=>by rw [q1 s hs,List.map_map];rfl) q2 q3 (by simpa using hsz) (fun i hi=>by
        have hi':i<as.length:=by simpa using hi
        rw [q4 i hi'];exact hvs i hi') (fun s h1 h2=>q5u s (by simpa using h1) h2)
      refine hmeans.mono fun en w' hpost=>?_
      obtain ⟨u,Φ',rv',E',L',rfl,C',hlen,hhid,hgave⟩:=hpost
      refine ⟨u,rfl,?_⟩
      obtain ⟨e1,g1,g2⟩:=killsM_run h3
      obtain ⟨e2,g3,g4,g5,g6,g7,g8⟩:=setsM_run hR g1
      simp only [List.length_map] at g4 hlen hhid
      have hE'h:∀ (j r:Nat),R[j]? = some r→∃ p,hid'[j]? = some p∧E' (hidBase+j)=p:=by
        intro j r hj
        have hjl:j<R.length:=(List.getElem?_eq_some_iff.1 hj).1
        have hjh:j<hid'.length:=by omega
        refine ⟨hid'[j],List.getElem?_eq_getElem hjh,?_⟩
        rw [(hhid j hjl).1];simp [List.getD,List.getElem?_eq_getElem hjh]
      have hrv:∀ (j r:Nat),R[j]? = some r→rv' (hidBase+j)=rv r:=fun j r hj=>by
        rw [(hhid j (List.getElem?_eq_some_iff.1 hj).1).2,q5 j r hj]
      have hok:∀ (j r:Nat),R[j]? = some r→okRoot (E r) (renV (backOf R) (E' (hidBase+j)))=true:=by
        intro j r hj
        obtain ⟨p,hp1,hp2⟩:=hE'h j r hj
        rw [hp2]
        exact g6 j _ _ (by simp [hj]) (by simp [hp1])
      have hΦ1sh:sh.isEmpty=true→∀ b,Φ1 b→Φ b:=by
        intro hs b hb1
        rcases hb1 with h4 | ⟨y,hy,_⟩
        · exact h4
        · rw [List.isEmpty_iff.1 hs] at hy;cases hy
      have hout:∀ s,s<ghost→s∉R→∀ b∈L s,¬ (∃ t,b∈Lc t):=by
        intro s hs hsR b hb hu
        rcases q6 b hu with ⟨r,h4,h5⟩ | ⟨i,h4,h5⟩
        · exact S.conf.disj s r (fun hc=>hsR (hc▸h4)) b hb h5
        · exact S.conf.disj s (ghost+i) (by omega) b hb h5
      have hhidfree:frees hid'=true→∀ j,j<R.length→(E' (hidBase+j)).free=true:=by
        intro hf j hj
        rw [(hhid j hj).1]
        have hjh:j<hid'.length:=by omega
        have key:∀ (l:List PV),frees l=true→∀ j,j<l.length→(l.getD j .bad).free=true:=by
          intro l
          induction l with
          | nil=>intro _ j hj;simp at hj
          | cons x l ih =>
            intro h j hj
            simp only [frees,Bool.and_eq_true] at h
            cases j with
            | zero=>exact h.1
            | succ j=>simpa using ih h.2 j (by simpa using hj)
        exact key hid' hf j hjh
      have back : ∀ n,n≤1000→(v.free=true→∀ j,j<n→(E' (outBase+j)).free=true) →
          ∃ Φ2 rv2 E2 L2,Conf w0 U Φ0 w' Φ2 rv2 E2 L2∧(∀ s,s<ghost→rv2 s=rv s)∧(∀ s,s<ghost→s∉R→E2 s=(E s).mapW (killsF R))∧(∀ (j r:Nat),R[j]? = some r→E2 r=renV (backOf R) (E' (hidBase+j))) ∧
          (∀ j,j<n→E2 (ghost+j)=renV (backOf R) (E' (outBase+j))∧rv2 (ghost+j)=rv' (outBase+j))∧∀ s,ghost+n≤s→E2 s = .bad:=by
        intro n hn hfr
        by_cases hse:sh.isEmpty=true
        · obtain ⟨rv2,E2,L2,hl⟩:=leave_conf (Φ2:=Φ') S.conf hR hRl hRg hRn q6 C' hrv hok hn (fun b hb1=>C'.frz0 b (hΦ b hb1))
            (fun b hb1=>by
              refine ⟨(C'.frz b hb1).1,?_⟩
              rcases (C'.frz b hb1).2 with h4 | h4 | h4
              · exact (S.conf.frz b (hΦ1sh hse b h4)).2
              · rcases q6 b h4 with ⟨r,_,h5⟩ | ⟨i,_,h5⟩
                · exact .inr (S.conf.own r b h5).2.2
                · exact .inr (S.conf.own _ b h5).2.2
              · exact .inr (.inr (Nat.le_trans S.conf.size h4)))
            (fun s hs hsR b hb1 hp=>by
              rcases (C'.frz b hp).2 with h4 | h4 | h4
              · exact (S.conf.own s b hb1).2.1 (hΦ1sh hse b h4)
              · exact hout s hs hsR b hb1 h4
              · have:=(S.conf.own s b hb1).1;omega)
            (fun t b hb1=>(C'.own t b hb1).2.1) (fun t _=>C'.rep t)
          exact ⟨Φ',rv2,E2,L2,hl⟩
        · have hvf:v.free=true∧frees hid'=true:=by
            have hse':sh.isEmpty=false:=by simpa using hse
            rw [show (as.flatMap (·.shared)).isEmpty=false from hse'] at hb
            simpa using hb
          obtain ⟨rv2,E2,L2,hl⟩:=leave_conf (Φ2:=Φ) S.conf hR hRl hRg hRn q6 C' hrv hok hn (fun b hb1=>hb1)
            (fun b hb1=>⟨Nat.lt_of_lt_of_le (S.conf.frz b hb1).1 C'.size,(S.conf.frz b hb1).2⟩)
            (fun s _ _ b hb1=>(S.conf.own s b hb1).2.1)
            (fun t b hb1 hp=>(C'.own t b hb1).2.1 (C'.frz0 b (hΦ b hp)))
            (fun t ht=>by
              refine Rep.free _ _ _ ?_ (C'.rep t)
              rcases ht with ⟨j,hj,rfl⟩ | ⟨j,hj,rfl⟩
              · exact hhidfree hvf.2 j hj
              · exact hfr hvf.1 j hj)
          exact ⟨Φ,rv2,E2,L2,hl⟩
      have st:∀ {Φ2:Nat→Prop} {rv2:Nat→Value} {E2:Nat→PV} {L2:Nat→List Nat},Conf w0 U Φ0 w' Φ2 rv2 E2 L2→(∀ s,s<ghost→rv2 s=rv s)→(∀ s,s<ghost→s∉R→E2 s=(E s).mapW (killsF R)) →
          (∀ (j r:Nat),R[j]? = some r→E2 r=renV (backOf R) (E' (hidBase+j)))→St w0 U Φ0 nt hv a w' e2 Φ2 rv2 E2 L2:=by
        intro Φ2 rv2 E2 L2 C2 k1 k2 k3
        refine S.turn C2 (fun s hs=>?_) k1 (fun d ps hd hp=>?_)
        · by_cases hsR:s∈R
          · obtain ⟨j,hj⟩:=List.getElem?_of_mem hsR
            obtain ⟨p,hp1,hp2⟩:=hE'h j s hj
            rw [k3 j s hj,g8 j s (renV (backOf R) p) hj (by simp [hp1]),hp2]
          · rw [k2 s hs hsR,g7 s hsR,g2 s,S.env s hs]
        · have hdg:d<ghost:=by omega
          by_cases hdR:d∈R
          · obtain ⟨j,hj⟩:=List.getElem?_of_mem hdR
            have:=hok j d hj
            rw [k3 j d hj] at hp
            rw [hp] at this
            cases E d<;>cases this
          · rw [k2 d hdg hdR] at hp
            exact dull_tup (killsF_tup R) hp
      cases d with
      | none =>
        obtain ⟨Φ2,rv2,E2,L2,C2,k1,k2,k3,k4,k5⟩:=back 0 (by omega) (fun _ j hj=>by omega)
        have hput:(put none (renV (backOf R) v)).run o e2=some e':=by
          revert g3;cases renV (backOf R) v<;>exact fun h=>h
        simp only [put,PM.run,Option.some.injEq] at hput
        subst hput
        exact ⟨Φ2,rv2,E2,L2,st C2 k1 k2 k3,fun g hg=>k5 g hg⟩
      | some d =>
        have hdn:=hd d rfl
        cases hvt:v.isTup with
        | false =>
          have hnt:∀ ps,v ≠ .tup ps:=fun ps hc=>by rw [hc] at hvt;cases hvt
          obtain ⟨o1,o2⟩:=hgave.one hnt
          obtain ⟨Φ2,rv2,E2,L2,C2,k1,k2,k3,k4,k5⟩:=back 1 (by omega) (fun hf j hj=>by
            have:j=0:=by omega
            subst this;rw [Nat.add_zero,o1];exact hf)
          obtain ⟨m1,m2⟩:=k4 0 (by omega)
          simp only [Nat.add_zero] at m1 m2
          have hput:(put (some d) (renV (backOf R) v)).run o e2=some e':=by
            have hnt2:∀ ps,renV (backOf R) v ≠ .tup ps:=fun ps hc=>by
              obtain ⟨ps',hp',_⟩:=dull_tup (rename_tup _) hc
              exact hnt ps' hp'
            revert g3
            simp only [putRes]
            split
            · rename_i hc;exact absurd hc (hnt2 _)
            · exact fun h=>h
          have:=put_ok (st C2 k1 k2 k3) hd (g:=ghost) (Nat.le_refl _) (by rw [m1,o1];exact hput) (fun s hs hne=>k5 s (by omega))
          rw [m2,o2] at this;exact this
        | true =>
          cases hv1:v<;>rw [hv1] at hvt<;>try (cases hvt;done)
          rename_i ps
          subst hv1
          obtain ⟨us,rfl,o2,o3⟩:=hgave.many ps rfl
          have e1:renV (backOf R) (.tup ps) = .tup (mapWs (rename (backOf R)) ps):=rfl
          rw [e1] at g3
          simp only [putRes] at g3
          obtain ⟨hcc,g9⟩:=cond_run g3
          simp only [Bool.and_eq_true] at hcc
          have hl16:=Nat.le_of_ble_eq_true hcc.1
          rw [mapWs_length] at hl16
          obtain ⟨Φ2,rv2,E2,L2,C2,k1,k2,k3,k4,k5⟩:=back ps.length (by omega) (fun hf j hj=>by
            obtain ⟨p,hp⟩:∃ p,ps[j]? = some p:=⟨_,List.getElem?_eq_getElem hj⟩
            rw [(o3 j p hp).1]
            have key:∀ (l:List PV),frees l=true→∀ p∈l,p.free=true:=by
              intro l
              induction l with
              | nil=>intro _ p hp;cases hp
              | cons x l ih =>
                intro h p hp
                simp only [frees,Bool.and_eq_true] at h
                rcases List.mem_cons.1 hp with rfl | hp
                · exact h.1
                · exact ih h.2 p hp
            exact key ps hf p (List.mem_of_getElem? hp))
          simp only [PM.run] at g9
          obtain ⟨L3,S3⟩:=(st C2 k1 k2 k3).empty hdn
          have hdne:∀ g,ghost≤g→g≠d:=fun g hg=>by omega
          refine putParts_ok hdn (vs:=us) (mapWs (rename (backOf R)) ps) 0 S3 (fun ps hp=>by rw [upd_at] at hp;cases hp) (by rw [mapWs_length];omega) (by rw [mapWs_length];omega) (fun j p hp=>?_) (fun g hg hne=>?_) (fun x hx=>?_) (fun j hj=>by omega) g9
          · rw [mapWs_get] at hp
            cases hpj:ps[j]? with
            | none=>rw [hpj] at hp;cases hp
            | some p0 =>
              rw [hpj] at hp;simp only [Option.map_some,Option.some.injEq] at hp
              have hj:j<ps.length:=(List.getElem?_eq_some_iff.1 hpj).1
              obtain ⟨m1,m2⟩:=k4 j hj
              obtain ⟨m3,m4⟩:=o3 j p0 hpj
              simp only [Nat.add_zero,Nat.zero_add]
              rw [upd_ne (hdne _ (by omega)),m1,m3,m2]
              exact ⟨hp,m4⟩
          · rw [upd_ne (hdne g hg)]
            refine k5 g ?_
            refine Nat.le_of_not_lt fun hlt=>hne (g-ghost) (by rw [mapWs_length];omega) (by omega)
          · have:=List.all_eq_true.1 hcc.2 x hx
            simpa using this
end
end Go.Eng
