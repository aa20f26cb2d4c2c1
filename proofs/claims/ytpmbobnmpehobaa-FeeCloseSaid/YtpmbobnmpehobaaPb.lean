/- No zAk that is tried has a lesser spread than the closest one; a settled zAk where all may cry all. -/
import Derived.Test.YtpmbobnmpehobaaPa
import Derived.Laws.StructEq
import Derived.Laws.Cover3
import Derived.Laws.Slices
import Derived.Laws.MakeOwn
import Derived.Laws.CopyRow
import Derived.Laws.AppendOwn
set_option linter.unusedVariables false
set_option linter.unusedSimpArgs false
set_option linter.unusedSectionVars false
namespace Go.Eng
open Go
theorem zBD {α:Type} {x:Option α} {k:α→PM} {o:zAF} {e e':Env} (h:(zID x k).run o e=some e'):∃ a,x=some a∧(k a).run o e=some e':=by
 cases x with
 | none=>cases h
 | some a=>exact ⟨a,rfl,h⟩
theorem zEN {p:PV} {k:Nat→PM} {o:zAF} {e e':Env} (h:(zHi p k).run o e=some e'):∃ ik n,p = .int ik n∧0≤n∧(k n.toNat).run o e=some e':=by
 cases p<;>try (cases h;done)
 rename_i ik n
 simp only [zHi] at h
 split at h
 ·exact ⟨ik,n,rfl,‹_›,h⟩
 ·cases h
theorem zDk {c:Prop} [Decidable c] {k:PM} {o:zAF} {e e':Env} (h:(if c then k else .fail).run o e=some e'):c∧k.run o e=some e':=by
 split at h
 ·exact ⟨‹_›,h⟩
 ·cases h
theorem zAV {c:Bool} {k:PM} {o:zAF} {e e':Env} (h:(bif c then k else .fail).run o e=some e'):c=true∧k.run o e=some e':=by
 cases c
 ·cases h
 ·exact ⟨rfl,h⟩
section
variable {P:Program} {w0 w:World} {U Φ0 Φ:Nat→Prop} {nt:Nat} {hv:Hid} {a:Act} {e e':Env} {rv rv':Nat→Value} {E E':Nat→PV} {L L':Nat→List Nat} {o:zAF} {A:Al}
def zBw (E:Nat→PV):Prop:=∀ g,zAb≤g→E g = .bad
theorem zAw (S:St w0 U Φ0 nt hv a w e Φ rv E L) (hb:zBw E) {d:Option Nat} (hd:∀ x,d=some x→x<nt) {p:PV} {v:Value} (h:(put d p).run o e=some e') (hr:Rep w Φ (zA2 w rv E) p v []) :
  Fr w0 U Φ0 nt hv (a.put d v) w e':=by
 have:=zFy (S.hold (Nat.le_refl zAb) hr) hd (Nat.le_refl zAb) (by rw [zAh];exact h) (fun s hs hH=>by rw [zAf hH];exact hb s hs)
 rwa [zAh] at this
theorem zUg (S:St w0 U Φ0 nt hv a w e Φ rv E L) (hb:zBw E) {d:Option Nat} (hd:∀ x,d=some x→x<nt) {c x y:Operand} (hc:zAW nt c=true) (hx:zAW nt x=true) (hy:zAW nt y=true)
  (h:(zTm d c x y).run o e=some e'):∃ t,a.eval c = .bool t∧Fr w0 U Φ0 nt hv (a.put d (if t then a.eval x else a.eval y)) w e':=by
 obtain ⟨p,h1,h2⟩:=zBz S hc h
 cases p<;>simp only [zTe] at h1<;>try (cases h1;done)
 rename_i t
 refine ⟨t,h2.1,?_⟩
 cases t
 ·obtain ⟨q,h3,h4⟩:=zBz S hy h1;exact zAw S hb hd h3 h4
 ·obtain ⟨q,h3,h4⟩:=zBz S hx h1;exact zAw S hb hd h3 h4
theorem zUU (S:St w0 U Φ0 nt hv a w e Φ rv E L) (hb:zBw E) {d:Option Nat} (hd:∀ x,d=some x→x<nt) {x:Operand} (hx:zAW nt x=true) (h:(opd x (zVV d)).run o e=some e') :
  (match a.eval x with | .pointer none | .nilIface | .nilFunc | .func (.method _) _ _=>False | _=>True)∧Fr w0 U Φ0 nt hv (a.put d (a.eval x)) w e':=by
 obtain ⟨p,h1,h2⟩:=zBz S hx h
 cases p<;>simp only [zVV] at h1<;>try (cases h1;done)
 case ref q=>refine ⟨?_,zAw S hb hd h1 h2⟩;obtain ⟨_,b,c,u,h3,_⟩:=h2;rw [h3];trivial
 case func=>refine ⟨?_,zAw S hb hd h1 h2⟩;obtain ⟨_,fs,cs,h3,_⟩:=h2;rw [h3];trivial
 case addr=>refine ⟨?_,zAw S hb hd h1 h2⟩;obtain ⟨_,_,b,h3,_⟩:=h2;rw [h3];trivial
 case yld=>refine ⟨?_,zAw S hb hd h1 h2⟩;rw [h2.2];trivial
theorem zVM (S:St w0 U Φ0 nt hv a w e Φ rv E L) (hb:zBw E) {d:Option Nat} (hd:∀ x,d=some x→x<nt) {op:UnOp} {x:Operand} (hx:zAW nt x=true) (h:(opd x (unV d op)).run o e=some e') :
  ∃ v,(Op.unary op (a.eval x)).run P w = .ok v w∧Fr w0 U Φ0 nt hv (a.put d v) w e':=by
 obtain ⟨p,h1,h2⟩:=zBz S hx h
 simp only [unV] at h1
 split at h1
 ·rename_i b;exact ⟨.bool !b,by rw [h2.1];rfl,zAw S hb hd h1 ⟨rfl,rfl⟩⟩
 ·rename_i k n;exact ⟨.int k (k.wrap (0-n)),by rw [h2.1];rfl,zAw S hb hd h1 ⟨rfl,rfl⟩⟩
 ·cases h1
theorem zUe (S:St w0 U Φ0 nt hv a w e Φ rv E L) (hb:zBw E) {d:Option Nat} (hd:∀ x,d=some x→x<nt) {s t:TypeId} (hs:(P.underlying s).isSome=true) {x:Operand} (hx:zAW nt x=true) (h:(opd x (zRl P d t)).run o e=some e') :
  ∃ v,(convert s t (a.eval x)).run P w = .ok v w∧Fr w0 U Φ0 nt hv (a.put d v) w e':=by
 obtain ⟨p,h1,h2⟩:=zBz S hx h
 simp only [zRl] at h1
 split at h1
 ·rename_i k k' n ht
  refine ⟨.int k (k.wrap n),?_,zAw S hb hd h1 ⟨rfl,rfl⟩⟩
  obtain ⟨ds,hds⟩:=Option.isSome_iff_exists.1 hs
  rw [h2.1]
  simp only [convert,Sem.run_bind,run_underlying ht,run_underlying hds,Result.andThen_ok]
  rfl
 ·cases h1
theorem zTH (S:St w0 U Φ0 nt hv a w e Φ rv E L) (hb:zBw E) {d:Option Nat} (hd:∀ x,d=some x→x<nt) {f:FuncId} {fs cs:Array Operand} (hf:∀ x∈fs.toList,zAW nt x=true) (hc:∀ x∈cs.toList,zAW nt x=true)
  (h:(zJ1 d f fs.toList cs.toList).run o e=some e'):Fr w0 U Φ0 nt hv (a.put d (.func (.func f) (fs.map a.eval) (cs.map a.eval))) w e':=by
 obtain ⟨ps,h1,h2⟩:=zHu S hf h
 obtain ⟨qs,h3,h4⟩:=zHu S hc h1
 exact zAw S hb hd h3 ⟨rfl,_,_,rfl,by simpa using h2,by simpa using h4⟩
theorem zE7 {t:TypeId} {sh:Option Nat} (h:shT P t=some sh):∃ i,P.info? t=some i∧(isAgg t).run P w = .ok sh.isSome w∧(∀ n,sh=some n→n=i.size)∧(sh=none→i.size=1):=by
 simp only [shT] at h
 cases hu:P.underlying t with
 | none=>rw [hu] at h;cases h
 | some td =>
  have hr:=run_underlying (w:=w) hu
  cases hi:P.info? t with
  | none=>rw [hu,hi] at h;cases td<;>cases h
  | some i =>
   rw [hu,hi] at h
   refine ⟨i,rfl,?_⟩
   cases td<;>simp only at h<;>first | (cases h;exact ⟨by simp only [isAgg,Sem.run_bind,hr,Result.andThen_ok];rfl,fun n hn=>by cases hn;rfl,fun hn=>by cases hn⟩) | skip
   all_goals
    split at h
    ·rename_i h1
     cases h;exact ⟨by simp only [isAgg,Sem.run_bind,hr,Result.andThen_ok];rfl,(by intro n hn;cases hn),fun _=>h1⟩
    ·cases h
theorem zAX {t:TypeId} {i:TypeInfo} (h:P.info? t=some i):(sizeOf t).run P w = .ok i.size w:=by
 simp [sizeOf,typeInfo,h]
theorem zFz {t:TypeId} {sh:Option Nat} (hs:shT P t=some sh) {p q:PV} {cs:Array Value} {off:Nat} (hp:Rep w Φ A p (.agg cs) []) (h:sub p off sh=some q) :
  ∃ u,(part t cs off).run P w = .ok u w∧Rep w Φ A q u []:=by
 obtain ⟨i,hi,yt,h1,h2⟩:=zE7 (w:=w) hs
 cases p<;>try (cases sh<;>cases h;done)
 rename_i ps
 obtain ⟨vs,hv,hr⟩:=hp
 cases hv
 have hO:=hr.length
 cases sh with
 | some n =>
  simp only [sub] at h
  split at h
  ·rename_i yK
   cases h
   have hn:=h1 n rfl;subst hn
   refine ⟨.agg (cs.extract off (off+i.size)),?_,?_⟩
   ·simp only [part,Sem.run_bind,yt,Result.andThen_ok,Option.isSome_some,if_true,zAX hi];rfl
   ·refine ⟨_,rfl,?_⟩
    rw [Array.toList_extract]
    have:=zBR hr off i.size
    simpa [List.extract] using this
  ·cases h
 | none =>
  simp only [sub] at h
  obtain ⟨u,La,Li,Lb,hu,hL,ke,_,_⟩:=hr.split h
  have hu':cs[off]? = some u:=by simpa using hu
  have:Li=[]:=by
   have:=congrArg List.length hL;simp at this
   exact List.eq_nil_of_length_eq_zero (by omega)
  subst this
  refine ⟨u,?_,ke⟩
  simp only [part,Sem.run_bind,yt,Result.andThen_ok,Option.isSome_none,Bool.false_eq_true,if_false,hu']
  rfl
theorem zNz {eq:TypeId→PV→PV→Option Bool} {d:Nat} {p q:PV} {xs ys:Array Value} (hp:Rep w Φ A p (.agg xs) []) (hq:Rep w Φ A q (.agg ys) [])
  (hd:∀ t p q b x y,eq t p q=some b→Rep w Φ A p x []→Rep w Φ A q y []→(Op.equalIn d t x y).run P w = .ok b w) :
  ∀ (fs:List Field) (b:Bool),zTa eq (shT P) p q fs=some b→(Op.eqFields d xs ys fs).run P w = .ok b w
 | [],b,h=>by simp only [zTa,Option.some.injEq] at h;subst h;rfl
 | f :: fs,b,h=>by
  simp only [zTa] at h
  simp only [Op.eqFields]
  split at h
  ·rename_i hn
   rw [if_neg (by simp [hn])]
   exact zNz hp hq hd fs b h
  ·rename_i hn
   rw [if_pos hn]
   cases hs:shT P f.type with
   | none=>rw [hs] at h;cases h
   | some sh =>
    rw [hs] at h;simp only at h
    split at h
    ·rename_i a1 b1 h1 h2
     obtain ⟨u1,h3,h4⟩:=zFz hs hp h1
     obtain ⟨u2,h5,h6⟩:=zFz hs hq h2
     simp only [Sem.run_bind,h3,h5,Result.andThen_ok]
     cases he:eq f.type a1 b1 with
     | none=>rw [he] at h;cases h
     | some r =>
      rw [hd _ _ _ _ _ _ he h4 h6]
      rw [he] at h
      simp only [Result.andThen_ok]
      cases r with
      | true =>
       simp only [Bool.not_true,Bool.false_eq_true,if_false]
       exact zNz hp hq hd fs b h
      | false =>
       simp only [Option.some.injEq] at h;subst h
       simp
    ·cases h
theorem zP6 {eq:PV→PV→Option Bool} {d:Nat} {e:TypeId} {sh:Option Nat} {i:TypeInfo} (hs:shT P e=some sh) (hi:P.info? e=some i) {p q:PV} {xs ys:Array Value} (hp:Rep w Φ A p (.agg xs) []) (hq:Rep w Φ A q (.agg ys) [])
  (hd:∀ p q b x y,eq p q=some b→Rep w Φ A p x []→Rep w Φ A q y []→(Op.equalIn d e x y).run P w = .ok b w) :
  ∀ (n k:Nat) (b:Bool),zN1 eq sh i.size p q k n=some b →
   ((forIn (List.range' k n 1) ((none,()):Option Bool×Unit) fun i' r=>do
    let a ← part e xs (i'*i.size)
    let c ← part e ys (i'*i.size)
    if !(← Op.equalIn d e a c) then pure (.done (some false,())) else pure (.yield (none,()))):Sem _).run P w = .ok (if b then (none,()) else (some false,())) w
 | 0,k,b,h=>by simp only [zN1,Option.some.injEq] at h;subst h;simp
 | n + 1,k,b,h=>by
  simp only [zN1] at h
  simp only [List.range'_succ,List.forIn_cons,Sem.run_bind]
  split at h
  ·rename_i a1 b1 h1 h2
   obtain ⟨u1,h3,h4⟩:=zFz hs hp h1
   obtain ⟨u2,h5,h6⟩:=zFz hs hq h2
   simp only [h3,h5,Result.andThen_ok]
   cases he:eq a1 b1 with
   | none=>rw [he] at h;cases h
   | some r =>
    rw [hd _ _ _ _ _ he h4 h6]
    rw [he] at h
    simp only [Result.andThen_ok]
    cases r with
    | true =>
     simp only [Bool.not_true,Bool.false_eq_true,if_false,Sem.run_pure,Result.andThen_ok]
     exact zP6 hs hi hp hq hd n (k+1) b h
    | false =>
     simp only [Option.some.injEq] at h;subst h
     simp
  ·cases h
theorem zKn:∀ (n:Nat) (t:TypeId) (p q:PV) (b:Bool) (x y:Value) (d:Nat),n≤d→eqT P n t p q=some b→Rep w Φ A p x []→Rep w Φ A q y []→(Op.equalIn d t x y).run P w = .ok b w
 | 0,t,p,q,b,x,y,d,hd,h,hp,hq=>by cases h
 | n+1,t,p,q,b,x,y,0,hd,h,hp,hq=>by omega
 | n + 1,t,p,q,b,x,y,d+1,hd,h,hp,hq=>by
  have yK:n≤d:=by omega
  simp only [eqT] at h
  split at h
  ·rename_i k0 k a1 k' b1 ht
   rw [hp.1,hq.1]
   split at h
   ·rename_i hk;subst hk
    cases h;exact run_equalIn_int w d t k k0 a1 b1 ht
   ·cases h
  ·rename_i a1 b1 ht
   rw [hp.1,hq.1];cases h
   exact run_equalIn_bool' w d t a1 b1 ht
  ·rename_i el ht
   rw [hp.1,hq.1];cases h
   simp [Op.equalIn,run_underlying ht]
  ·rename_i fs xs ys ht
   cases yZ:P.stoodInHeld t with
   | true=>rw [yZ] at h;cases h
   | false =>
    rw [yZ] at h;simp only [cond_false] at h
    obtain ⟨vs,rfl,je⟩:=hp
    obtain ⟨us,rfl,j4⟩:=hq
    have wL:P.fieldsOf t=fs:=by simp [Program.fieldsOf,ht]
    rw [run_equalIn_struct w d t vs us (by rw [wL];exact ht) yZ,wL]
    exact zNz (p := .agg xs) (q := .agg ys) ⟨vs,rfl,je⟩ ⟨us,rfl,j4⟩ (fun t p q b x y he h1 h2=>zKn n t p q b x y d yK he h1 h2) fs.toList b h
  ·rename_i len el xs ys ht
   split at h
   ·rename_i sz sh yD jU
    obtain ⟨vs,rfl,je⟩:=hp
    obtain ⟨us,rfl,j4⟩:=hq
    obtain ⟨i,hi,_⟩:=zE7 (w:=w) jU
    have qo:i.size=sz:=by simp only [szT,hi,Option.map_some,Option.some.injEq] at yD;exact yD
    subst qo
    have:=zP6 (p := .agg xs) (q := .agg ys) jU hi ⟨vs,rfl,je⟩ ⟨us,rfl,j4⟩ (fun p q b x y he h1 h2=>zKn n el p q b x y d yK he h1 h2) len 0 b h
    simp only [Op.equalIn,Sem.run_bind,run_underlying ht,Result.andThen_ok,zAX hi,Std.Legacy.Range.forIn_eq_forIn_range',Std.Legacy.Range.size,Nat.sub_zero,Nat.add_sub_cancel,Nat.div_one]
    rw [this]
    cases b<;>simp
   ·cases h
  ·cases h
theorem zSg {n:Nat} {t:TypeId} {p q:PV} {b:Bool} (h:eqT P n t p q=some b) (ha:p.isAgg=false):(∃ k n k' m,p = .int k n∧q = .int k' m)∨(∃ b,p = .bool b)∨p = .nilp:=by
 cases n with
 | zero=>cases h
 | succ n =>
  simp only [eqT] at h
  split at h
  ·exact .inl ⟨_,_,_,_,rfl,rfl⟩
  ·exact .inr (.inl ⟨_,rfl⟩)
  ·exact .inr (.inr rfl)
  ·cases ha
  ·cases ha
  ·cases h
theorem zRC {t:TypeId} {p q:PV} (hn:∀ z,q ≠ .nils z) (ha:∀ ys,q ≠ .agg ys):eqV P t p q=bif p.isAgg then none else eqT P 20 t p q:=by
 cases q<;>first | rfl | exact absurd rfl (hn _) | exact absurd rfl (ha _)
def zWd:Value→Bool
 | .bool _ | .pointer _ | .slice .. | .agg _=>true
 | _=>false
theorem zQb {t:TypeId} {x y:Value} {b:Bool} (hx:zWd x=true) (h:(Op.equal t x y).run P w = .ok b w):(binOp .eql t x y).run P w = .ok (.bool b) w∧(binOp .neq t x y).run P w = .ok (.bool !b) w:=by
 have h1:binOp .eql t x y=(do pure (.bool (← Op.equal t x y))):=by cases x<;>first | (cases hx;done) | rfl
 have h2:binOp .neq t x y=(do pure (.bool (!(← Op.equal t x y)))):=by cases x<;>first | (cases hx;done) | rfl
 rw [h1,h2]
 simp only [Sem.run_bind,h,Result.andThen_ok]
 exact ⟨rfl,rfl⟩
theorem zSA {t:TypeId} {p:PV} {z:Nat} {b:Bool} {x:Value} (h:eqV P t p (.nils z)=some b) (hA:∀ a v,a.isWay=true→A a v→∀ r pre z lo n,a = .bor r pre z lo n→∃ b c,v = .slice b n c∧n≤c∧(b=none→c=0))
  (hp:Rep w Φ A p x []):(∃ a n c,x = .slice a n c)∧(Op.equal t x (.slice none 0 0)).run P w = .ok b w:=by
 cases ht:P.underlying t with
 | none=>simp [eqV,ht] at h
 | some td =>
 by_cases jK:∃ e,td = .slice e
 ·obtain ⟨e,rfl⟩:=jK
  by_cases ga:∃ z',p = .nils z'
  ·obtain ⟨z',rfl⟩:=ga
   simp only [eqV,ht,Option.some.injEq] at h
   subst h
   rw [hp.1]
   exact ⟨⟨_,_,_,rfl⟩,run_equal_slice_nil w t e none 0 0 ht⟩
  have hh:(bif zEr p then some false else none)=some b:=by
   rw [← h]
   cases p<;>first | (simp only [eqV,ht];done) | exact absurd ⟨_,rfl⟩ ga
  have key:∀ a n c,x = .slice (some a) n c→b=false→(∃ a n c,x = .slice a n c)∧(Op.equal t x (.slice none 0 0)).run P w = .ok b w:=by
   intro a n c hx hb
   subst hx;subst hb
   exact ⟨⟨_,_,_,rfl⟩,run_equal_slice_nil w t e (some a) n c ht⟩
  cases j3:zEr p with
  | false=>rw [j3] at hh;cases hh
  | true =>
   rw [j3] at hh;simp only [cond_true,Option.some.injEq] at hh
   cases p<;>simp only [zEr] at j3<;>try (cases j3;done)
   case nn =>
    obtain ⟨_,a,n,h1⟩:=hp
    exact key a 0 n h1 hh.symm
   case sl xs =>
    cases xs with
    | nil=>cases j3
    | cons x0 xs =>
     obtain ⟨_,⟨h1,_⟩ | ⟨a,n,c,us,sz,h1,_⟩⟩:=hp
     ·cases h1
     ·exact key a _ n h1 hh.symm
   case own sz xs =>
    cases xs with
    | nil=>cases j3
    | cons x0 xs =>
     obtain ⟨h1,_⟩ | ⟨a,n,c,us,L',h0,_⟩:=hp
     ·cases h1
     ·cases h0
   case bor r pre z lo n =>
    cases n with
    | zero=>cases j3
    | succ n =>
     obtain ⟨b',c,h1,h2,h3⟩:=hA _ _ rfl hp.2 r pre z lo (n+1) rfl
     cases b' with
     | none=>have:=h3 rfl;omega
     | some a=>exact key a _ c h1 hh.symm
 ·cases td<;>first | exact absurd ⟨_,rfl⟩ jK | simp [eqV,ht] at h
theorem zTf {t:TypeId} {p q:PV} {b:Bool} {x y:Value} (h:eqV P t p q=some b) (hA:∀ a v,a.isWay=true→A a v→∀ r pre z lo n,a = .bor r pre z lo n→∃ b c,v = .slice b n c∧n≤c∧(b=none→c=0))
  (hp:Rep w Φ A p x []) (hq:Rep w Φ A q y []) (hni:∀ k n k' m,p = .int k n→q = .int k' m→False) (op:BinOp) (xo yo:Operand) :
  (eqGuard op t xo yo x y).run P w = .ok () w∧(Op.equal t x y).run P w = .ok b w∧zWd x=true:=by
 by_cases hn:∃ z,q = .nils z
 ·obtain ⟨z,rfl⟩:=hn
  have hy:y = .slice none 0 0:=hq.1
  subst hy
  obtain ⟨⟨a,n,c,rfl⟩,h2⟩:=zSA h hA hp
  exact ⟨by rw [eqGuard_at_slice];rfl,h2,rfl⟩
 ·by_cases ha:∃ ys,q = .agg ys
  ·obtain ⟨ys,rfl⟩:=ha
   simp only [eqV] at h
   split at h
   ·rename_i xs
    cases hg:P.eqGuardType P.depth t with
    | true=>rw [hg] at h;cases h
    | false =>
     rw [hg] at h;simp only [cond_false] at h
     have:=zKn 20 t _ _ b x y 10000 (by decide) h hp hq
     obtain ⟨vs,rfl,_⟩:=hp
     obtain ⟨us,rfl,_⟩:=hq
     exact ⟨run_eqGuard_agg w op t xo yo vs us hg,this,rfl⟩
   ·cases h
  ·rw [zRC (fun z hz=>hn ⟨z,hz⟩) (fun ys hy=>ha ⟨ys,hy⟩)] at h
   cases v8:p.isAgg with
   | true=>rw [v8] at h;cases h
   | false =>
    rw [v8] at h;simp only [cond_false] at h
    have h2:=zKn 20 t _ _ b x y 10000 (by decide) h hp hq
    rcases zSg h v8 with ⟨k,n,k',m,h3,h4⟩ | ⟨b',h3⟩ | h3
    ·exact absurd h4 fun h4=>hni k n k' m h3 h4
    ·subst h3;have hx:x = .bool b':=hp.1
     subst hx;exact ⟨by rw [eqGuard_at_bool];rfl,h2,rfl⟩
    ·subst h3;have hx:x = .pointer none:=hp.1
     subst hx;exact ⟨by rw [eqGuard_at_pointer];rfl,h2,rfl⟩
theorem zS6:∀ a v,a.isWay=true→zA2 w rv E a v→∀ r pre z lo n,a = .bor r pre z lo n→∃ b c,v = .slice b n c∧n≤c∧(b=none→c=0):=by
 intro a v _ h r pre z lo n ha
 subst ha
 obtain ⟨_,⟨b,c,h1,h2,h3,_⟩,_⟩:=h
 exact ⟨b,c,h1,h2,h3⟩
theorem zRJ {op:BinOp} {t:TypeId} {k:IntKind} {x y:Int} {r:PV} (h:zR3 op k x y=some r) (hs:op ≠ .shl∧op ≠ .shr):∃ v,(binOp op t (.int k x) (.int k y)).run P w = .ok v w∧Rep w Φ A r v []:=by
  cases op<;>simp only [zR3] at h<;>try (cases h;done)
  case quo => split at h
              · cases h
              · rename_i hy;cases h;exact ⟨.int k (k.wrap (x.tdiv y)),by simp [binOp,Op.intDiv,hy],rfl,rfl⟩
  case rem => split at h
              · cases h
              · rename_i hy;cases h;exact ⟨.int k (x.tmod y),by simp [binOp,Op.intDiv,hy],rfl,rfl⟩
  all_goals
    simp only [Option.some.injEq] at h
    subst h
    first
    | exact ⟨_,by simp [binOp,Op.intArith];rfl,rfl,rfl⟩
    | exact ⟨_,by simp [binOp,Op.intCmp];rfl,rfl,rfl⟩
    | exact ⟨_,by simp [binOp,Op.intBits];rfl,rfl,rfl⟩
theorem zVa (S:St w0 U Φ0 nt hv a w e Φ rv E L) (hb:zBw E) {d:Option Nat} (hd:∀ x,d=some x→x<nt) {op:BinOp} {t:TypeId} {x y:Operand} (hx:zAW nt x=true) (hy:zAW nt y=true) (h:(zSF P d op t x y).run o e=some e') :
  ∃ v,(do eqGuard op t x y (a.eval x) (a.eval y);binOp op t (a.eval x) (a.eval y)).run P w = .ok v w∧Fr w0 U Φ0 nt hv (a.put d v) w e':=by
 obtain ⟨p,h1,hp⟩:=zBz S hx h
 obtain ⟨q,h2,hq⟩:=zBz S hy h1
 obtain ⟨r,h3,h4⟩:=zBD h2
 have fin:∀ v,(eqGuard op t x y (a.eval x) (a.eval y)).run P w = .ok () w→(binOp op t (a.eval x) (a.eval y)).run P w = .ok v w→Rep w Φ (zA2 w rv E) r v []→∃ v,(do eqGuard op t x y (a.eval x) (a.eval y);binOp op t (a.eval x) (a.eval y)).run P w = .ok v w∧Fr w0 U Φ0 nt hv (a.put d v) w e':=by
  intro v g1 g2 g3
  refine ⟨v,?_,zAw S hb hd h4 g3⟩
  simp only [Sem.run_bind,g1,Result.andThen_ok];exact g2
 simp only [zNB] at h3
 split at h3
 ·rename_i k n _ m
  split at h3
  ·cases h3
  ·rename_i hm;cases h3
   refine fin (.int k (k.wrap (n*2 ^ (min m.toNat k.bits)))) ?_ ?_ ⟨rfl,rfl⟩
   ·rw [hp.1,eqGuard_at_int];rfl
   ·rw [hp.1,hq.1];simp [binOp,Op.shift,hm]
 ·rename_i k n _ m
  split at h3
  ·cases h3
  ·rename_i hm;cases h3
   refine fin (.int k (n.fdiv (2 ^ (min m.toNat k.bits)))) ?_ ?_ ⟨rfl,rfl⟩
   ·rw [hp.1,eqGuard_at_int];rfl
   ·rw [hp.1,hq.1];simp [binOp,Op.shift,hm]
 ·rename_i k n k' m hns1 hns2
  split at h3
  ·rename_i hk;subst hk
   obtain ⟨v,g1,g2⟩:=zRJ (P:=P) (w:=w) (Φ:=Φ) (A:=zA2 w rv E) (t:=t) h3 ⟨fun hc=>hns1 hc,fun hc=>hns2 hc⟩
   refine fin v ?_ ?_ g2
   ·rw [hp.1,eqGuard_at_int];rfl
   ·rw [hp.1,hq.1];exact g1
  ·cases h3
 ·rename_i wM
  simp only [Option.map_eq_some_iff] at h3
  obtain ⟨b,h5,rfl⟩:=h3
  obtain ⟨g1,g2,g3⟩:=zTf h5 zS6 hp hq (fun k n k' m h1 h2=>wM k n k' m h1 h2) .eql x y
  exact fin (.bool b) g1 (zQb g3 g2).1 ⟨rfl,rfl⟩
 ·rename_i wM
  simp only [Option.map_eq_some_iff] at h3
  obtain ⟨b,h5,rfl⟩:=h3
  obtain ⟨g1,g2,g3⟩:=zTf h5 zS6 hp hq (fun k n k' m h1 h2=>wM k n k' m h1 h2) .neq x y
  exact fin (.bool !b) g1 (zQb g3 g2).2 ⟨rfl,rfl⟩
 ·cases h3
theorem zSd (S:St w0 U Φ0 nt hv a w e Φ rv E L) (hb:zBw E) {d:Option Nat} (hd:∀ x,d=some x→x<nt) {t:TypeId} {x:Operand} {i:Nat} (hx:zAW nt x=true) (h:(zRc P d t x i).run o e=some e') :
  ∃ v,(Instr.field t (a.eval x) i).run P w = .ok v w∧Fr w0 U Φ0 nt hv (a.put d v) w e':=by
 obtain ⟨p,h1,hp⟩:=zBz S hx h
 obtain ⟨f,h2,h3⟩:=zBD h1
 obtain ⟨sh,h4,h5⟩:=zBD h3
 obtain ⟨q,h6,h7⟩:=zBD h5
 have v8:∃ cs,p = .agg cs:=by cases p<;>first | exact ⟨_,rfl⟩ | (cases sh<;>cases h6)
 obtain ⟨cs,rfl⟩:=v8
 obtain ⟨vs,hv,hr⟩:=hp
 obtain ⟨u,h8,h9⟩:=zFz (P:=P) h4 (p := .agg cs) ⟨vs,rfl,hr⟩ h6
 refine ⟨u,?_,zAw S hb hd h7 h9⟩
 simp only [zKJ] at h2
 cases ht:P.underlying t with
 | none=>rw [ht] at h2;cases h2
 | some td =>
  rw [ht] at h2
  cases td<;>simp only at h2<;>try (cases h2;done)
  rw [hv]
  simp only [Instr.field,Sem.run_bind,run_underlying ht,Result.andThen_ok,h2,asAgg,Sem.run_pure]
  exact h8
theorem zSZ (S:St w0 U Φ0 nt hv a w e Φ rv E L) (hb:zBw E) {d:Option Nat} (hd:∀ x,d=some x→x<nt) {t:TypeId} {x i:Operand} (hx:zAW nt x=true) (hi:zAW nt i=true) (h:(zK6 P d t x i).run o e=some e') :
  ∃ v,(Instr.index t (a.eval x) (a.eval i)).run P w = .ok v w∧Fr w0 U Φ0 nt hv (a.put d v) w e':=by
 obtain ⟨p,h1,hp⟩:=zBz S hx h
 obtain ⟨pi,h2,hpi⟩:=zBz S hi h1
 obtain ⟨ik,n,rfl,hn,h3⟩:=zEN h2
 split at h3
 ·rename_i len el ht
  split at h3
  ·rename_i s sh hs jU
   obtain ⟨yL,h4⟩:=zDk h3
   obtain ⟨q,h5,h6⟩:=zBD h4
   have v8:∃ cs,p = .agg cs:=by cases p<;>first | exact ⟨_,rfl⟩ | (cases sh<;>cases h5)
   obtain ⟨cs,rfl⟩:=v8
   obtain ⟨vs,hv,hr⟩:=hp
   obtain ⟨u,h8,h9⟩:=zFz (P:=P) jU (p := .agg cs) ⟨vs,rfl,hr⟩ h5
   refine ⟨u,?_,zAw S hb hd h6 h9⟩
   obtain ⟨ti,jP,_⟩:=zE7 (w:=w) jU
   have yD:ti.size=s:=by simp only [szT,jP,Option.map_some,Option.some.injEq] at hs;exact hs
   subst yD
   rw [hv,hpi.1]
   simp only [Instr.index,Sem.run_bind,asIntOf,Sem.run_pure,Result.andThen_ok,run_underlying ht,zAX jP]
   rw [if_pos ⟨hn,by omega⟩]
   simp only [Sem.run_bind,zAX jP,Result.andThen_ok]
   exact h8
  ·cases h3
 ·cases h3
theorem zQk {p q:PV} {off:Nat} {sh:Option Nat} {v:Value} (h:zDY p off sh=some q) (hp:Rep w Φ (zA2 w rv E) p v []) :
  ∃ b,v = .pointer (some b)∧b.spot=none∧sh≠some 0∧Rep w Φ (zA2 w rv E) q (.pointer (some (zAs b off))) []:=by
 have h0:sh≠some 0:=by intro hc;subst hc;cases h
 replace h:zOu p off sh=some q:=by
  cases sh with
  | none=>exact h
  | some n=>cases n with
   | zero=>exact absurd rfl h0
   | succ n=>exact h
 cases p<;>simp only [zOu] at h<;>try (cases h;done)
 case ref q0 =>
  obtain ⟨_,b,c,u,rfl,yS,hΦ,yB,j7,⟨yD,j6⟩,hr⟩:=hp
  refine ⟨b,rfl,yS,h0,?_⟩
  cases hs:sub q0 off sh with
  | none=>rw [hs] at h;cases h
  | some x =>
   rw [hs] at h;simp only at h
   have qG:∀ n,off+n≤q0.cells.length→seg c (b.off+off) n=(u.cells.toList.drop off).take n:=by
    intro n hn
    rw [← j7]
    apply List.ext_getElem?
    intro k
    simp only [seg,List.getElem?_take,List.getElem?_drop]
    by_cases hk:k<n
    ·rw [if_pos hk,if_pos hk,if_pos (by omega),Nat.add_assoc]
    ·rw [if_neg hk,if_neg hk]
   cases q0<;>try (cases sh<;>cases hs;done)
   rename_i cs
   obtain ⟨vs,rfl,hr⟩:=hr
   have hO:=hr.length
   cases sh with
   | some n =>
    simp only [sub] at hs
    split at hs
    ·rename_i yK
     cases hs
     simp only [Option.isSome_some,Bool.true_or,cond_true,Option.some.injEq] at h
     subst h
     refine ⟨rfl,zAs b off,c,.agg ((vs.toList.drop off).take n).toArray,rfl,rfl,hΦ,yB,?_,⟨?_,rfl⟩,_,rfl,by simpa using zBR hr off n⟩
     ·simp only [zAs,PV.cells,Value.cells]
      rw [show ((cs.drop off).take n).length=n by simp;omega]
      exact qG n yK
     ·simp only [Value.cells,PV.cells];simp at hO ⊢;omega
    ·cases hs
   | none =>
    simp only [sub] at hs
    obtain ⟨u2,La,Li,Lb,hu,hL,ke,_,_⟩:=hr.split hs
    have:Li=[]:=by
     have:=congrArg List.length hL;simp at this
     exact List.eq_nil_of_length_eq_zero (by omega)
    subst this
    simp only [Option.isSome_none,Bool.false_or] at h
    cases jZ:x.oneCell with
    | false=>rw [jZ] at h;cases h
    | true =>
     rw [jZ] at h;simp only [cond_true,Option.some.injEq] at h;subst h
     have h1:=zBC (zB7 (fun a v hw h=>zC4 hw h) ke jZ)
     have h2:=zBj jZ
     have yL:off<cs.length:=(List.getElem?_eq_some_iff.1 hs).1
     refine ⟨rfl,zAs b off,c,u2,rfl,rfl,hΦ,yB,?_,⟨by rw [h1.1,h2.1];rfl,by rw [h1.2,h2.2]⟩,ke⟩
     rw [h1.1,h2.1]
     have:=qG 1 (by simp only [PV.cells];omega)
     simp only [zAs,List.length_singleton]
     rw [this]
     simp only [Value.cells]
     have wZ:off<vs.toList.length:=by omega
     rw [List.drop_eq_getElem_cons wZ]
     rw [List.getElem?_eq_getElem wZ] at hu
     simp only [Option.some.injEq] at hu
     simp [← hu]
 case addr r pre i c s =>
  cases s with
  | none=>cases h
  | some s =>
   simp only [Option.some.injEq] at h;subst h
   obtain ⟨_,hg,b,rfl,yS,hn⟩:=hp
   refine ⟨b,rfl,yS,h0,rfl,hg,zAs b off,rfl,rfl,fun nv np hf a' ha=>?_⟩
   have key:∃ a0,zA3 nv np i c=some a0∧a'=zAs a0 off:=by
    cases np<;>try (simp [zA3] at ha;done)
    ·cases nv with
     | slice x _ _ =>
      cases x with
      | none=>cases ha
      | some x=>simp only [zA3] at ha ⊢;cases ha;exact ⟨_,rfl,by simp [zAs,Nat.add_assoc]⟩
     | pointer x=>cases x<;>cases ha
     | _=>cases ha
    ·cases nv with
     | pointer x =>
      cases x with
      | none=>cases i<;>cases ha
      | some x=>cases i<;>simp only [zA3] at ha ⊢ <;> cases ha;exact ⟨_,rfl,by simp [zAs,Nat.add_assoc]⟩
     | slice x _ _=>cases x<;>cases ha
     | _=>cases ha
   obtain ⟨a0,h1,h2⟩:=key
   rw [h2,hn nv np hf a0 h1]
theorem zMu (S:St w0 U Φ0 nt hv a w e Φ rv E L) (hb:zBw E) {d:Option Nat} (hd:∀ x,d=some x→x<nt) {t:TypeId} {x:Operand} {i:Nat} (hx:zAW nt x=true) (h:(zJf P d t x i).run o e=some e') :
  ∃ v,(Instr.fieldAt t (a.eval x) i).run P w = .ok v w∧Fr w0 U Φ0 nt hv (a.put d v) w e':=by
 obtain ⟨p,h1,hp⟩:=zBz S hx h
 obtain ⟨f,h2,h3⟩:=zBD h1
 obtain ⟨sh,h4,h5⟩:=zBD h3
 obtain ⟨q,h6,h7⟩:=zBD h5
 obtain ⟨b,h8,h9,h10,h11⟩:=zQk h6 hp
 obtain ⟨ti,jP,_,uh,kK⟩:=zE7 (w:=w) h4
 refine ⟨_,?_,zAw S hb hd h7 h11⟩
 have yD:ti.size≠0:=by
  cases sh with
  | none=>rw [kK rfl];decide
  | some n=>rw [← uh n rfl];intro hc;subst hc;exact h10 rfl
 simp only [zKJ] at h2
 cases ht:P.underlying t with
 | none=>rw [ht] at h2;cases h2
 | some td =>
  rw [ht] at h2
  cases td<;>simp only at h2<;>try (cases h2;done)
  rw [h8]
  simp only [Instr.fieldAt,Sem.run_bind,run_underlying ht,Result.andThen_ok,h2,Instr.sureAddr,Sem.run_pure,fieldPlace,zAX jP,yD,if_false,Sem.run_ite]
  rw [zBS h9]
theorem zCh {t:TypeId} {n:Nat} (h:szT P t=some n):∃ i,P.info? t=some i∧i.size=n:=by
 simp only [szT] at h
 cases hi:P.info? t with
 | none=>rw [hi] at h;cases h
 | some i=>rw [hi] at h;simp only [Option.map_some,Option.some.injEq] at h;exact ⟨i,rfl,h⟩
theorem zSp {el:TypeId} {p q:PV} {i:Nat} {v:Value} {d:Option Nat} {k:PV→PM} (h:(zRb P d el p i).run o e=some e') (hp:Rep w Φ (zA2 w rv E) p v []) :
  ∃ ti b n c q,P.info? el=some ti∧v = .slice (some b) n c∧i<n∧(put d q).run o e=some e'∧Rep w Φ (zA2 w rv E) q (.pointer (some (b.add (i*ti.size)))) []:=by
 cases p<;>simp only [zRb] at h<;>try (cases h;done)
 case sl xs =>
  obtain ⟨x,hx,h1⟩:=zBD h
  obtain ⟨hs,h2⟩:=zDk h1
  obtain ⟨ti,jP,yD⟩:=zCh hs
  obtain ⟨_,⟨h3,_⟩ | ⟨b,n,c,us,sz,rfl,yS,yK,hΦ,yB,j0,⟨kW,wU⟩,j7,hr⟩⟩:=hp
  ·subst h3;simp at hx
  ·have yL:i<xs.length:=(List.getElem?_eq_some_iff.1 hx).1
   obtain ⟨u,La,Li,Lb,hu,hL,ke,_,_⟩:=hr.split hx
   have uJ:Li=[]:=by
    have:=congrArg List.length hL;simp at this
    exact List.eq_nil_of_length_eq_zero (by omega)
   subst uJ
   have v9:=j0 x (List.mem_of_getElem? hx)
   have yz:=kW u (List.mem_of_getElem? hu)
   have hg:zCf u=x.isAgg:=by
    have h1:(us.map zCf)[i]? = some (zCf u):=by simp [hu]
    have h2:(xs.map PV.isAgg)[i]? = some x.isAgg:=by simp [hx]
    rw [wU] at h1;rw [h1] at h2;simpa using h2
   refine ⟨ti,b,xs.length,n,.ref x,jP,rfl,yL,h2,rfl,zAs b (i*sz),c,u,?_,rfl,hΦ,yB,?_,⟨by omega,hg⟩,ke.mono zDo.refl (fun _ _ _ h=>h.elim) (by simp)⟩
   ·rw [zBS yS,yD,v9]
   ·rw [v9]
    refine zHG (by simpa using yz) fun k y hy=>?_
    have hf:=zDT kW hu hy
    rw [← j7] at hf
    have:=zDv hf
    simp only [zAs,Nat.add_assoc];exact this
 case bor r pre z lo n =>
  cases jU:shT P el with
  | none=>rw [jU] at h;cases h
  | some sh =>
   rw [jU] at h;simp only at h
   obtain ⟨⟨yL,hs⟩,h2⟩:=zDk h
   obtain ⟨ti,jP,yD⟩:=zCh hs
   obtain ⟨_,hg,⟨x,cap,rfl,yQ,yW,y8⟩,hn⟩:=hp
   cases x with
   | none=>have:=yW rfl;omega
   | some b =>
    refine ⟨ti,b,n,cap,_,jP,rfl,yL,h2,rfl,hg,b.add (i*ti.size),rfl,by rw [zBS (y8 b rfl)];rfl,fun nv np hf a' ha=>?_⟩
    have hh:np.heavy0=true:=by cases np<;>first | rfl | (simp [zA3] at ha;done)
    obtain ⟨sz,xs,h3,h4,h5⟩:=hn nv np hf hh
    subst h3;subst h4
    cases nv<;>simp only [zBV] at h5
    rename_i y l c
    cases y with
    | none=>cases ha
    | some y =>
     simp only [zBV,Value.slice.injEq,Option.some.injEq] at h5
     simp only [zA3,Option.some.injEq] at ha
     rw [← ha,zBS (y8 b rfl),h5.1.1,yD]
     simp [zAs,Nat.add_mul,Nat.add_assoc]
 case bsl r pre j c0 s ag n =>
  obtain ⟨⟨yL,hs⟩,h2⟩:=zDk h
  obtain ⟨ti,jP,yD⟩:=zCh hs
  obtain ⟨_,hg,b,cap,rfl,yQ,y8,hn⟩:=hp
  refine ⟨ti,b,n,cap,_,jP,rfl,yL,h2,rfl,hg,b.add (i*ti.size),rfl,by rw [zBS y8];rfl,fun nv np hf a' ha=>?_⟩
  have key:∃ a0,zA3 nv np j c0=some a0∧a'=zAs a0 (i*s):=by
   cases np<;>try (simp [zA3] at ha;done)
   ·cases nv with
    | slice x _ _ =>
     cases x with
     | none=>cases ha
     | some x=>simp only [zA3] at ha ⊢;cases ha;exact ⟨_,rfl,by simp [zAs,Nat.add_assoc]⟩
    | pointer x=>cases x<;>cases ha
    | _=>cases ha
   ·cases nv with
    | pointer x =>
     cases x with
     | none=>cases j<;>cases ha
     | some x=>cases j<;>simp only [zA3] at ha ⊢ <;> cases ha;exact ⟨_,rfl,by simp [zAs,Nat.add_assoc]⟩
    | slice x _ _=>cases x<;>cases ha
    | _=>cases ha
  obtain ⟨a0,h3,h4⟩:=key
  rw [h4,zBS y8,hn nv np hf a0 h3,yD]
theorem zLL (S:St w0 U Φ0 nt hv a w e Φ rv E L) (hb:zBw E) {d:Option Nat} (hd:∀ x,d=some x→x<nt) {t:TypeId} {x i:Operand} (hx:zAW nt x=true) (hi:zAW nt i=true) (h:(zE2 P d t x i).run o e=some e') :
  ∃ v,(Instr.indexAt t (a.eval x) (a.eval i)).run P w = .ok v w∧Fr w0 U Φ0 nt hv (a.put d v) w e':=by
 obtain ⟨p,h1,hp⟩:=zBz S hx h
 obtain ⟨pi,h2,hpi⟩:=zBz S hi h1
 obtain ⟨ik,n,rfl,hn,h3⟩:=zEN h2
 rw [hpi.1]
 split at h3
 ·rename_i len el ht
  simp only [zNL] at h3
  split at h3
  ·rename_i s sh hs jU
   obtain ⟨yL,h4⟩:=zDk h3
   obtain ⟨q,h5,h6⟩:=zBD h4
   obtain ⟨b,h7,h8,h9,h10⟩:=zQk h5 hp
   obtain ⟨ti,jP,yD⟩:=zCh hs
   refine ⟨_,?_,zAw S hb hd h6 h10⟩
   rw [h7]
   simp only [Instr.indexAt,Sem.run_bind,asIntOf,Sem.run_pure,Result.andThen_ok,run_underlying ht,Instr.sureAddr]
   rw [if_pos ⟨hn,by omega⟩]
   simp only [Sem.run_bind,zAX jP,Result.andThen_ok,Sem.run_pure]
   rw [zBS h8,yD]
  ·cases h3
 ·rename_i el ht
  obtain ⟨ti,b,m,c,q,jP,yC,yL,h4,h5⟩:=zSp (q := .bad) (k:=fun _ => .ok) h3 hp
  refine ⟨_,?_,zAw S hb hd h4 h5⟩
  rw [yC]
  simp only [Instr.indexAt,Sem.run_bind,asIntOf,Sem.run_pure,Result.andThen_ok,run_underlying ht]
  rw [if_pos ⟨hn,by omega⟩]
  simp only [Sem.run_bind,zAX jP,Result.andThen_ok,Sem.run_pure]
 ·cases h3
theorem zSD {p:PV} {n:Nat} {v:Value} (h:lenOf p=some n) (hp:Rep w Φ (zA2 w rv E) p v []):∃ b c,v = .slice b n c:=by
 cases p<;>simp only [lenOf] at h<;>try (cases h;done)
 case nils=>cases h;exact ⟨_,_,hp.1⟩
 case nn=>cases h;obtain ⟨_,b,c,h1⟩:=hp;exact ⟨_,_,h1⟩
 case sl xs =>
  cases h
  obtain ⟨_,⟨rfl,b,c,rfl,_⟩ | ⟨b,c,_,_,_,rfl,_⟩⟩:=hp
  ·exact ⟨_,_,rfl⟩
  ·exact ⟨_,_,rfl⟩
 case bor=>cases h;obtain ⟨_,_,⟨b,c,rfl,_⟩,_⟩:=hp;exact ⟨_,_,rfl⟩
 case bsl=>cases h;obtain ⟨_,_,b,c,rfl,_⟩:=hp;exact ⟨_,_,rfl⟩
theorem zVy (S:St w0 U Φ0 nt hv a w e Φ rv E L) (hb:zBw E) {d:Option Nat} (hd:∀ x,d=some x→x<nt) {ty:TypeId} {ts:Array TypeId} {xs:Array Operand} (hx:∀ x∈xs.toList,zAW nt x=true)
  (h:(zBr P d .len ts.toList xs.toList).run o e=some e') :
  ∃ v,(Builtin.len_ ts ty (xs.map a.eval)).run P w = .ok v w∧Fr w0 U Φ0 nt hv (a.put d v) w e':=by
 obtain ⟨ts⟩:=ts;obtain ⟨xs⟩:=xs
 simp only at h hx
 rcases xs with _ | ⟨x,_ | ⟨y,xs⟩⟩<;>rcases ts with _ | ⟨t,ts⟩<;>try (cases h;done)
 obtain ⟨p,h1,hp⟩:=zBz S (hx x (by simp)) h
 split at h1
 ·rename_i n el ht
  refine ⟨_,?_,zAw S hb hd h1 ⟨rfl,rfl⟩⟩
  simp only [Builtin.len_,List.map_toArray,List.map_cons,List.map_nil,List.getElem?_toArray,List.getElem?_cons_zero,Sem.run_bind,run_underlying ht,Result.andThen_ok]
  cases a.eval x<;>rfl
 ·rename_i el ht
  split at h1
  ·rename_i n hn
   obtain ⟨b,c,yC⟩:=zSD hn hp
   refine ⟨_,?_,zAw S hb hd h1 ⟨rfl,rfl⟩⟩
   simp only [Builtin.len_,List.map_toArray,List.map_cons,List.map_nil,List.getElem?_toArray,List.getElem?_cons_zero,Sem.run_bind,run_underlying ht,Result.andThen_ok,yC]
   rfl
  ·cases h1
 ·cases h1
theorem zQF {k:IntKind}:∀ (ps:List PV) (vs:List Value) (m:Int) (r:Option Int),zAZ w Φ A ps vs [] →
  (ps.foldl (fun m p=>match m,p with
   | some m,.int k' b=>if k=k' then some (if b>m then b else m) else none
   | _,_=>none) (some m))=r→∀ z,r=some z→(vs.foldlM Builtin.max2 (.int k m)).run P w = .ok (.int k z) w
 | [],vs,m,r,hr,h,z,hz=>by rw [hr.1];simp only [List.foldl_nil] at h;rw [← h] at hz;cases hz;rfl
 | p :: ps,vs,m,r,hr,h,z,hz=>by
  obtain ⟨v,vs',L1,L2,rfl,hL,h1,h2⟩:=hr
  obtain ⟨rfl,rfl⟩:L1=[]∧L2=[]:=by simpa using hL.symm
  have dead:∀ qs:List PV,qs.foldl (fun m p=>match m,p with
   | some m,.int k' b=>if k=k' then some (if b>m then b else m) else none
   | _,_=>none) (none:Option Int)=none:=by
   intro qs;induction qs with
   | nil=>rfl
   | cons q qs ih=>simp only [List.foldl_cons];exact ih
  simp only [List.foldl_cons] at h
  cases p<;>try (simp only at h;rw [dead] at h;rw [← h] at hz;cases hz;done)
  rename_i k' b
  simp only at h
  split at h
  ·rename_i hk;subst hk
   rw [h1.1]
   simp only [List.foldlM_cons,Builtin.max2,Sem.run_bind,Sem.run_pure,Result.andThen_ok]
   exact zQF ps vs' _ r h2 h z hz
  ·rw [dead] at h;rw [← h] at hz;cases hz
theorem zPU {k:IntKind}:∀ (ps:List PV) (vs:List Value) (m:Int) (r:Option Int),zAZ w Φ A ps vs [] →
  (ps.foldl (fun m p=>match m,p with
   | some m,.int k' b=>if k=k' then some (if b<m then b else m) else none
   | _,_=>none) (some m))=r→∀ z,r=some z→(vs.foldlM Builtin.min2 (.int k m)).run P w = .ok (.int k z) w
 | [],vs,m,r,hr,h,z,hz=>by rw [hr.1];simp only [List.foldl_nil] at h;rw [← h] at hz;cases hz;rfl
 | p :: ps,vs,m,r,hr,h,z,hz=>by
  obtain ⟨v,vs',L1,L2,rfl,hL,h1,h2⟩:=hr
  obtain ⟨rfl,rfl⟩:L1=[]∧L2=[]:=by simpa using hL.symm
  have dead:∀ qs:List PV,qs.foldl (fun m p=>match m,p with
   | some m,.int k' b=>if k=k' then some (if b<m then b else m) else none
   | _,_=>none) (none:Option Int)=none:=by
   intro qs;induction qs with
   | nil=>rfl
   | cons q qs ih=>simp only [List.foldl_cons];exact ih
  simp only [List.foldl_cons] at h
  cases p<;>try (simp only at h;rw [dead] at h;rw [← h] at hz;cases hz;done)
  rename_i k' b
  simp only at h
  split at h
  ·rename_i hk;subst hk
   rw [h1.1]
   simp only [List.foldlM_cons,Builtin.min2,Sem.run_bind,Sem.run_pure,Result.andThen_ok]
   exact zPU ps vs' _ r h2 h z hz
  ·rw [dead] at h;rw [← h] at hz;cases hz
theorem zUC (S:St w0 U Φ0 nt hv a w e Φ rv E L) (hb:zBw E) {d:Option Nat} (hd:∀ x,d=some x→x<nt) {ty:TypeId} {ts:Array TypeId} {xs:Array Operand} (hx:∀ x∈xs.toList,zAW nt x=true)
  (h:(zBr P d .max ts.toList xs.toList).run o e=some e'):∃ v,(Builtin.max_ ts ty (xs.map a.eval)).run P w = .ok v w∧Fr w0 U Φ0 nt hv (a.put d v) w e':=by
 simp only [zBr] at h
 obtain ⟨ps,h1,hp⟩:=zHu S hx h
 cases hm:zUX ps with
 | none=>rw [hm] at h1;cases h1
 | some r =>
  rw [hm] at h1;simp only at h1
  rcases ps with _ | ⟨p,ps⟩<;>simp only [zUX] at hm<;>try (cases hm;done)
  cases p<;>simp only at hm<;>try (cases hm;done)
  rename_i k x0
  simp only [Option.map_eq_some_iff] at hm
  obtain ⟨z,hz,rfl⟩:=hm
  obtain ⟨v,vs',L1,L2,yq,hL,g1,g2⟩:=hp
  obtain ⟨rfl,rfl⟩:L1=[]∧L2=[]:=by simpa using hL.symm
  refine ⟨.int k z,?_,zAw S hb hd h1 ⟨rfl,rfl⟩⟩
  simp only [Builtin.max_,Array.toList_map,yq]
  rw [g1.1]
  exact zQF ps vs' x0 _ g2 hz z rfl
theorem zU4 (S:St w0 U Φ0 nt hv a w e Φ rv E L) (hb:zBw E) {d:Option Nat} (hd:∀ x,d=some x→x<nt) {ty:TypeId} {ts:Array TypeId} {xs:Array Operand} (hx:∀ x∈xs.toList,zAW nt x=true)
  (h:(zBr P d .min ts.toList xs.toList).run o e=some e'):∃ v,(Builtin.min_ ts ty (xs.map a.eval)).run P w = .ok v w∧Fr w0 U Φ0 nt hv (a.put d v) w e':=by
 simp only [zBr] at h
 obtain ⟨ps,h1,hp⟩:=zHu S hx h
 cases hm:zVu ps with
 | none=>rw [hm] at h1;cases h1
 | some r =>
  rw [hm] at h1;simp only at h1
  rcases ps with _ | ⟨p,ps⟩<;>simp only [zVu] at hm<;>try (cases hm;done)
  cases p<;>simp only at hm<;>try (cases hm;done)
  rename_i k x0
  simp only [Option.map_eq_some_iff] at hm
  obtain ⟨z,hz,rfl⟩:=hm
  obtain ⟨v,vs',L1,L2,yq,hL,g1,g2⟩:=hp
  obtain ⟨rfl,rfl⟩:L1=[]∧L2=[]:=by simpa using hL.symm
  refine ⟨.int k z,?_,zAw S hb hd h1 ⟨rfl,rfl⟩⟩
  simp only [Builtin.min_,Array.toList_map,yq]
  rw [g1.1]
  exact zPU ps vs' x0 _ g2 hz z rfl
end
end Go.Eng
namespace Go.Eng
open Go
section
variable {P:Program} {w0 w w':World} {U Φ0 Φ:Nat→Prop} {nt:Nat} {hv:Hid} {a:Act} {e e':Env} {rv rv':Nat→Value} {E E':Nat→PV} {L L':Nat→List Nat} {o:zAF} {A:Al}
def zGG (w:World) (c:Array Value) (t:TypeId):World:={w with heap:=w.heap.push (.cells c t)}
theorem zFd (t:TypeId) (c:Array Value):(newRow t c).run P w = .ok ⟨w.heap.size,0,none⟩ (zGG w c t):=by
 simp [newRow,zGG]
theorem zG6 {c:Array Value} {t:TypeId} {b:Nat} (h:b<w.heap.size):(zGG w c t).heap[b]? = w.heap[b]?:=by
 simp only [zGG,Array.getElem?_push];rw [if_neg (by omega)]
theorem zME {c:Array Value} {t:TypeId}:zFf (zGG w c t) w.heap.size c:=⟨t,by show (w.heap.push (.cells c t))[w.heap.size]? = _;simp⟩
theorem zF9 {c:Array Value} {t:TypeId}:(zGG w c t).heap.size=w.heap.size+1:=by simp [zGG]
theorem zMl {p:PV} {v:Value} (h:zJT p v=true):Rep w Φ A p v []∧p.oneCell=true∧v.oneCell'=true:=by
 cases p<;>cases v<;>simp only [zJT] at h<;>try (cases h;done)
 case int=>simp only [Bool.and_eq_true,decide_eq_true_eq] at h;obtain ⟨rfl,rfl⟩:=h;exact ⟨⟨rfl,rfl⟩,rfl,rfl⟩
 case bool=>simp only [beq_iff_eq] at h;subst h;exact ⟨⟨rfl,rfl⟩,rfl,rfl⟩
 case nilp.pointer a=>cases a<;>simp only [zJT] at h<;>first | (cases h;done) | exact ⟨⟨rfl,rfl⟩,rfl,rfl⟩
 case nilf=>exact ⟨⟨rfl,rfl⟩,rfl,rfl⟩
 case nilm.map a=>cases a<;>simp only [zJT] at h<;>first | (cases h;done) | exact ⟨⟨rfl,rfl⟩,rfl,rfl⟩
 case own.slice sz xs a n c =>
  cases xs with
  | cons _ _=>simp only [zJT] at h;cases h
  | nil =>
   cases a with
   | some _=>simp only [zJT] at h;cases h
   | none=>cases n<;>cases c<;>simp only [zJT] at h<;>first | (cases h;done) | exact ⟨.inl ⟨rfl,rfl,rfl⟩,rfl,rfl⟩
theorem zLC:∀ {ps:List PV} {vs:List Value},zSm ps vs=true→zAZ w Φ A ps vs []∧(∀ v∈vs,v.oneCell'=true)∧∀ p∈ps,p.oneCell=true
 | [],[],_=>⟨⟨rfl,rfl⟩,by simp,by simp⟩
 | [],_::_,h=>by cases h
 | _::_,[],h=>by cases h
 | p::ps,v::vs,h=>by
  simp only [zSm,Bool.and_eq_true] at h
  obtain ⟨h1,h2,h3⟩:=zMl (w:=w) (Φ:=Φ) (A:=A) h.1
  obtain ⟨h4,h5,h6⟩:=zLC h.2
  exact ⟨⟨v,vs,[],[],rfl,rfl,h1,h4⟩,fun x hx=>(List.mem_cons.1 hx).elim (fun e=>e▸h3) (h5 x),fun x hx=>(List.mem_cons.1 hx).elim (fun e=>e▸h2) (h6 x)⟩
theorem zCD {p:PV} {v:Value} (h:zMM p v=true):Rep w Φ A p v []∧v.cells.size=p.cells.length∧zCf v=p.isAgg∧(∀ u∈v.cells.toList,u.oneCell'=true)∧∀ q∈p.cells,q.oneCell=true:=by
 by_cases hp:∃ cs,p = .agg cs
 ·obtain ⟨cs,rfl⟩:=hp
  cases v<;>simp only [zMM] at h<;>try (cases h;done)
  rename_i vs
  obtain ⟨h1,h2,h3⟩:=zLC (w:=w) (Φ:=Φ) (A:=A) h
  have:=h1.length
  exact ⟨⟨vs,rfl,h1⟩,by simpa [Value.cells,PV.cells] using this,rfl,h2,h3⟩
 ·have h:zJT p v=true:=by
   rw [← h];cases p<;>first | rfl | exact absurd ⟨_,rfl⟩ hp
  obtain ⟨h1,h2,h3⟩:=zMl (w:=w) (Φ:=Φ) (A:=A) h
  have h4:=zBC h3
  have h5:=zBj h2
  exact ⟨h1,by rw [h4.1,h5.1];rfl,by rw [h4.2,h5.2],by rw [h4.1];simpa using h3,by rw [h5.1];simpa using h2⟩
theorem zEf {t:TypeId} {z:PV} (h:zDc P t=some z):∃ i v,P.info? t=some i∧i.zero=some v∧(∀ w:World,(zeroValue t).run P w = .ok v w)∧zMM z v=true:=by
 simp only [zDc] at h
 split at h
 ·rename_i cs sh v _ _ hv
  cases hi:P.info? t with
  | none=>rw [hi] at hv;cases hv
  | some i =>
   rw [hi] at hv;simp only [Option.bind_some] at hv
   cases hz:zMM (zM8 sh cs) v with
   | false=>rw [hz] at h;cases h
   | true =>
    rw [hz] at h;simp only [cond_true,Option.some.injEq] at h
    subst h
    refine ⟨i,v,rfl,hv,fun w=>?_,hz⟩
    simp [zeroValue,typeInfo,hi,hv]
 ·cases h
theorem St.boxed (S:St w0 U Φ0 nt hv a w e Φ rv E L) {g0 g:Nat} (hg0:zAb≤g0) (hg:zAb≤g) (hH:g≠g0) (uK:E g = .bad) {v:Value} (yC:rv g0=v) (t:TypeId) (yD:v.cells.size=(E g0).cells.length∧zCf v=(E g0).isAgg) :
  ∃ rv1 E1 L1,St w0 U Φ0 nt hv a (zGG w v.cells t) e Φ rv1 E1 L1∧E1 g = .box (E g0)∧rv1 g = .pointer (some ⟨w.heap.size,0,none⟩)∧E1 g0 = .bad∧∀ s,zAb≤s→s≠g→s≠g0→E1 s=E s:=by
 have hI:=S.conf.rep g0
 rw [yC] at hI
 have hold:∀ b∈L g0,(zGG w v.cells t).heap[b]? = w.heap[b]?:=fun b hb=>zG6 (S.conf.own g0 b hb).1
 have hΦ:zDo w (zGG w v.cells t) Φ Φ:=fun b hb=>⟨hb,zG6 (S.conf.frz b hb).1⟩
 have hc:=S.conf.make (w':=zGG w v.cells t) (fun s=>s==g0) (fun s hs=>by have:=eq_of_beq hs;omega) hg (p := .box (E g0)) (v := .pointer (some ⟨w.heap.size,0,none⟩)) (Lp:=w.heap.size::L g0)
  (fun A hA=>⟨_,v.cells,v,L g0,rfl,rfl,rfl,zME,by show (v.cells.toList.drop 0).take _=_;rw [← yD.1];exact List.take_of_length_le (by simp),yD,hI.mono hΦ hA hold⟩)
  (List.nodup_cons.2 ⟨fun hm=>absurd (S.conf.own g0 _ hm).1 (Nat.lt_irrefl _),S.conf.nodup g0⟩)
  (fun b hb=>by
   rcases List.mem_cons.1 hb with rfl | hb
   ·exact .inr ⟨Nat.le_refl _,by rw [zF9];omega⟩
   ·exact .inl ⟨g0,hb,by simp⟩)
  (by rw [zF9];omega) (fun b hb _=>zG6 hb) ⟨rfl,rfl,rfl⟩
 refine ⟨_,_,_,S.turn hc (fun s hs=>?_) (fun s hs=>zAf (by omega)) (fun d ps hd hp=>?_),zAh,zAh,?_,fun s h1 h2 h3=>?_⟩
 ·rw [zAf (by omega)]
  have:(s==g0)=false:=by simp;omega
  simp only [this,Bool.false_eq_true,if_false];exact S.env s hs
 ·simp only [zAb] at hg hg0
  rw [zAf (by omega)] at hp
  have:(d==g0)=false:=by simp;omega
  simp only [this,Bool.false_eq_true,if_false] at hp;exact ⟨ps,hp,rfl⟩
 ·rw [zAf (Ne.symm hH)];simp
 ·rw [zAf h2]
  have:(s==g0)=false:=by simp [h3]
  simp [this]
theorem zSQ (S:St w0 U Φ0 nt hv a w e Φ rv E L) (hb:zBw E) {d:Option Nat} (hd:∀ x,d=some x→x<nt) {t:TypeId} (h:(zQJ P d t).run o e=some e') :
  ∃ v w',(Instr.alloc t true (.tuple #[])).run P w = .ok v w'∧Fr w0 U Φ0 nt hv (a.put d v) w' e':=by
 obtain ⟨z,hz,h1⟩:=zBD h
 obtain ⟨i,v,hi,hiz,hZ,kg⟩:=zEf hz
 have kL:=zCD (w:=w) (Φ:=Φ) (A:=zA2 w rv E) kg
 obtain ⟨hr,h2,h3⟩:Rep w Φ (zA2 w rv E) (zP2 P t z) v []∧v.cells.size=(zP2 P t z).cells.length∧zCf v=(zP2 P t z).isAgg:=by
  cases z with
  | nils k =>
   simp only [zP2]
   split
   ·exact ⟨.inl ⟨rfl,rfl,kL.1.1⟩,kL.2.1,kL.2.2.1⟩
   ·exact ⟨kL.1,kL.2.1,kL.2.2.1⟩
  | _=>exact ⟨kL.1,kL.2.1,kL.2.2.1⟩
 have S1:=S.hold (Nat.le_refl zAb) hr
 obtain ⟨rv1,E1,L1,S2,h4,h5,h6,h7⟩:=S1.boxed (g0:=zAb) (g:=zAb+1) (Nat.le_refl _) (by omega) (by omega) (by rw [zAf (by omega)];exact hb _ (by omega)) zAh t (by rw [zAh];exact ⟨h2,h3⟩)
 have:=zFy S2 hd (g:=zAb+1) (by omega) (by rw [h4,zAh];exact h1) (fun s hs hH=>by
   by_cases h8:s=zAb
   ·subst h8;exact h6
   ·rw [h7 s hs hH h8,zAf h8];exact hb s hs)
 rw [h5] at this
 refine ⟨_,_,?_,this⟩
 simp only [Instr.alloc,Sem.run_bind,hZ,Result.andThen_ok,newVar,zFd,Sem.run_pure]
theorem zVf (S:St w0 U Φ0 nt hv a w e Φ rv E L) (hb:zBw E) {d:Option Nat} (hd:∀ x,d=some x→x<nt) {t:TypeId} {x:Operand} (hx:zAW nt x=true) (h:(zST P d t x).run o e=some e') :
  ∃ v w',(Instr.box t (a.eval x)).run P w = .ok v w'∧Fr w0 U Φ0 nt hv (a.put d v) w' e':=by
 obtain ⟨e1,rv1,E1,L1,h1,S1,h2,h3⟩:=zHI S hx (Nat.le_refl zAb) h
 split at h1
 ·rename_i sh n _ _
  obtain ⟨h4,h5⟩:=zDk h1
  simp only [Bool.and_eq_true,decide_eq_true_eq] at h4
  have hI:=S1.conf.rep zAb
  rw [h2] at hI
  have yD:(a.eval x).cells.size=(E1 zAb).cells.length∧zCf (a.eval x)=(E1 zAb).isAgg:=by
   have hw:=h4.2
   simp only [PV.whole,Bool.or_eq_true] at hw
   rcases hw with hw | hw
   ·cases hE:E1 zAb<;>rw [hE] at hw<;>simp [PV.isAgg] at hw
    rw [hE] at hI
    obtain ⟨vs,yC,hr⟩:=hI
    have:=hr.length
    rw [yC];exact ⟨by simpa [Value.cells,PV.cells] using this,rfl⟩
   ·have g1:=zBC (zB7 (fun a v hw h=>zC4 hw h) hI hw)
    have g2:=zBj hw
    exact ⟨by rw [g1.1,g2.1];rfl,by rw [g1.2,g2.2]⟩
  obtain ⟨rv2,E2,L2,S2,h6,h7,h8,h9⟩:=S1.boxed (g0:=zAb) (g:=zAb+1) (Nat.le_refl _) (by omega) (by omega) (by rw [(h3 (zAb+1) (by omega) (by omega)).1];exact hb _ (by omega)) h2 t yD
  have:=zFy S2 hd (g:=zAb+1) (by omega) (by rw [h6];exact h5) (fun s hs hH=>by
    by_cases h10:s=zAb
    ·subst h10;exact h8
    ·rw [h9 s hs hH h10,(h3 s hs h10).1];exact hb s hs)
  rw [h7] at this
  refine ⟨_,_,?_,this⟩
  simp only [Instr.box,Sem.run_bind,newVar,zFd,Result.andThen_ok,Sem.run_pure]
 ·cases h1
theorem zKd {t:TypeId} {sh:Option Nat} (hs:shT P t=some sh) {b:Addr} {u:Value} (hc:∀ j y,u.cells.toList[j]? = some y→w.cell? (b.add j)=some y) (hu:zCf u=sh.isSome) (hn:u.cells.size=sh.getD 1) :
  (loadVar t b).run P w = .ok u w:=by
 obtain ⟨ti,jP,yt,h1,h2⟩:=zE7 (w:=w) hs
 cases sh with
 | some n =>
  have:=h1 n rfl;subst this
  cases u<;>simp [zCf] at hu
  rename_i vs
  simp only [Option.getD_some,Value.cells] at hn
  have hl:=run_loadCells_list (P:=P) w b vs.toList hc
  have vG:(loadCells b ti.size).run P w = .ok vs w:=by rw [← hn];simpa using hl
  simp only [loadVar,Sem.run_bind,yt,Result.andThen_ok,Option.isSome_some,if_true,zAX jP,vG,Sem.run_pure,Sem.run_ite]
 | none =>
  have kW:u.cells=#[u]:=by cases u<;>first | rfl | simp [zCf] at hu
  have:=hc 0 u (by rw [kW];rfl)
  have h0:b.add 0=b:=by simp [Addr.add]
  rw [h0] at this
  simp only [loadVar,Sem.run_bind,yt,Result.andThen_ok,Option.isSome_none,Bool.false_eq_true,if_false,Sem.run_ite,run_load,this]
theorem zH1 {b:Addr} {c:Array Value} {l:List Value} (yS:b.spot=none) (hr:zIO w b.block c) (h:seg c b.off l.length=l):∀ j y,l[j]? = some y→w.cell? (b.add j)=some y:=by
 intro j y hy
 rw [zBS yS]
 simp only [zAs]
 rw [zDn hr]
 rw [← h] at hy
 exact zDv hy
theorem zSJ {q:List PV} {u:Value} {us:List Value} (h:zAZ w Φ A q us []) (hl:us=[u]):Rep w Φ A (q.headD .bad) u []:=by
 subst hl
 cases q with
 | nil=>exact absurd h.1 (by simp)
 | cons p ps =>
  obtain ⟨v,vs',L1,L2,h1,h2,h3,_⟩:=h
  obtain ⟨rfl,rfl⟩:L1=[]∧L2=[]:=by simpa using h2.symm
  simp only [List.cons.injEq] at h1
  rw [h1.1];exact h3
theorem zKS (S:St w0 U Φ0 nt hv a w e Φ rv E L) {t:TypeId} {sh:Option Nat} (hs:shT P t=some sh) {r:Nat} {pre:zAS} {i c:Nat} {s':Option Nat} {v:Value} (hp:Rep w Φ (zA2 w rv E) (.addr r pre i c s') v [])
  {k:PV→PM} (h:(zLM r pre i c sh k).run o e=some e'):∃ b u q,v = .pointer (some b)∧(loadVar t b).run P w = .ok u w∧(k q).run o e=some e'∧Rep w Φ (zA2 w rv E) q u []:=by
 obtain ⟨_,hg,b,rfl,yS,hn⟩:=hp
 refine ⟨b,?_⟩
 cases sh with
 | some n =>
  simp only [zLM,PM.run] at h
  split at h
  ·rename_i ag qs hq
   rw [← S.env r hg] at hq
   obtain ⟨nv,np,ad,us,h1,h2,h3,h4,h5,h6⟩:=S.conf.cells hg hq
   have:=hn nv np h1 ad h2;subst this
   cases ag with
   | false=>cases h
   | true =>
    refine ⟨.agg us.toArray,.agg qs,rfl,zKd hs (fun j y hy=>h5 j y (by simpa [Value.cells] using hy)) rfl (by simpa [Value.cells] using h4),h,_,rfl,by simpa using h6⟩
  ·cases h
 | none =>
  simp only [zLM,PM.run] at h
  split at h
  ·rename_i ag qs hq
   rw [← S.env r hg] at hq
   obtain ⟨nv,np,ad,us,h1,h2,h3,h4,h5,h6⟩:=S.conf.cells hg hq
   have:=hn nv np h1 ad h2;subst this
   match us,h4 with
   | [u],_ =>
    refine ⟨u,qs.headD .bad,rfl,?_,h,zSJ h6 rfl⟩
    have:=h5 0 u rfl
    rw [show b.add 0=b by simp [Addr.add]] at this
    obtain ⟨ti,jP,yt,_⟩:=zE7 (w:=w) hs
    simp only [loadVar,Sem.run_bind,yt,Result.andThen_ok,Option.isSome_none,Bool.false_eq_true,if_false,Sem.run_ite,run_load,this]
  ·cases h
theorem zOF (S:St w0 U Φ0 nt hv a w e Φ rv E L) (hb:zBw E) {d:Option Nat} (hd:∀ x,d=some x→x<nt) {t:TypeId} {sh:Option Nat} (hs:shT P t=some sh) {p:PV} {v:Value} (hp:Rep w Φ (zA2 w rv E) p v []) (h:(zPr d sh p).run o e=some e') :
  ∃ u,(Instr.loadAt t v).run P w = .ok u w∧Fr w0 U Φ0 nt hv (a.put d u) w e':=by
 cases p<;>simp only [zPr] at h<;>try (cases h;done)
 case ref q =>
  obtain ⟨h1,h2⟩:=zDk h
  simp only [Bool.and_eq_true,decide_eq_true_eq] at h1
  obtain ⟨_,b,c,u,rfl,yS,hΦ,yB,j7,⟨yD,j6⟩,hr⟩:=hp
  refine ⟨u,?_,zAw S hb hd h2 hr⟩
  simp only [Instr.loadAt,Instr.sureAddr,Sem.run_bind,Sem.run_pure,Result.andThen_ok]
  refine zKd hs (zH1 yS yB ?_) ?_ ?_
  ·rw [show u.cells.toList.length=q.cells.length by simpa using yD];exact j7
  ·rw [j6,h1.1]
  ·rw [yD,h1.2]
 case addr r pre i c s' =>
  obtain ⟨b,u,q,rfl,h1,h2,h3⟩:=zKS S hs hp h
  refine ⟨u,?_,zAw S hb hd h2 h3⟩
  simp only [Instr.loadAt,Instr.sureAddr,Sem.run_bind,Sem.run_pure,Result.andThen_ok]
  exact h1
end
end Go.Eng
namespace Go.Eng
open Go
section
variable {P:Program} {w0 w w':World} {U Φ0 Φ:Nat→Prop} {nt:Nat} {hv:Hid} {a:Act} {e e':Env} {rv rv':Nat→Value} {E E':Nat→PV} {L L':Nat→List Nat} {o:zAF} {A:Al}
def Cov (w:World) (Φ:Nat→Prop) (rv:Nat→Value) (E:Nat→PV) (Φ1:Nat→Prop) (x:Nat×zAS):Prop :=
 ∀ nv q Li A,zAU w (rv x.1) (E x.1).unlock x.2=some (nv,q)→Rep w Φ A q nv Li→∀ b∈Li,Φ1 b
def zMc (hb:Nat) (A:Al):Al:=fun a v=>A a v∧∀ x∈a.ways,hb≤x.1
structure Shown (w:World) (Φ:Nat→Prop) (rv:Nat→Value) (E:Nat→PV) (hb:Nat) (p:PV) (v:Value) (Lp:List Nat) (q:PV) (l:List (Nat×zAS)):Prop where
 low:∀ x∈l,x.1<zAb∧x.1<hb
 agg:q.isAgg=p.isAgg
 len:q.cells.length=p.cells.length
 rep:∀ Φ1:Nat→Prop,(∀ b,Φ b→Φ1 b)→(∀ x∈l,Cov w Φ rv E Φ1 x)→(∀ b∈Lp,Φ1 b)→Rep w Φ1 (zMc hb (zA2 w rv E)) q v []
structure Showns (w:World) (Φ:Nat→Prop) (rv:Nat→Value) (E:Nat→PV) (hb:Nat) (ps:List PV) (vs:List Value) (Lp:List Nat) (qs:List PV) (l:List (Nat×zAS)):Prop where
 low:∀ x∈l,x.1<zAb∧x.1<hb
 len:qs.length=ps.length
 rep:∀ Φ1:Nat→Prop,(∀ b,Φ b→Φ1 b)→(∀ x∈l,Cov w Φ rv E Φ1 x)→(∀ b∈Lp,Φ1 b)→zAZ w Φ1 (zMc hb (zA2 w rv E)) qs vs []
theorem zBT {r:Nat} {pre:zAS} {k:PV→PM} (h:(PM.deep r pre k).run o e=some e'):∃ q,zAC (e.get r).unlock pre=some q∧(k q).run o e=some e':=by
 simp only [PM.run] at h
 cases hq:zAC (e.get r).unlock pre with
 | none=>rw [hq] at h;cases h
 | some q=>rw [hq] at h;exact ⟨q,rfl,h⟩
theorem zE0 {hb:Nat} {res:PV→(PV→List (Nat×zAS)→PM)→PM}
  (ya:∀ p v Lp k,Rep w Φ (zA2 w rv E) p v Lp→(res p k).run o e=some e'→∃ q l,(k q l).run o e=some e'∧Shown w Φ rv E hb p v Lp q l) :
  ∀ (ps:List PV) (vs:List Value) (Lp:List Nat) (k:List PV→List (Nat×zAS)→PM),zAZ w Φ (zA2 w rv E) ps vs Lp→(zEm res ps k).run o e=some e'→∃ qs l,(k qs l).run o e=some e'∧Showns w Φ rv E hb ps vs Lp qs l
 | [],vs,Lp,k,h,hr=>⟨[],[],hr,⟨by simp,rfl,fun _ _ _ _=>⟨h.1,rfl⟩⟩⟩
 | p::ps,vs,Lp,k,h,hr=>by
  obtain ⟨v,vs',L1,L2,rfl,rfl,h1,h2⟩:=h
  simp only [zEm] at hr
  obtain ⟨q,l,h3,h4⟩:=ya p v L1 _ h1 hr
  obtain ⟨qs,m,h5,h6⟩:=zE0 ya ps vs' L2 _ h2 h3
  refine ⟨q::qs,l++m,h5,⟨fun x hx=>?_,by simp [h6.len],fun Φ1 g1 g2 g3=>⟨v,vs',[],[],rfl,rfl,h4.rep Φ1 g1 (fun x hx=>g2 x (by simp [hx])) (fun b hb=>g3 b (by simp [hb])),h6.rep Φ1 g1 (fun x hx=>g2 x (by simp [hx])) (fun b hb=>g3 b (by simp [hb]))⟩⟩⟩
  rcases List.mem_append.1 hx with hx | hx
  ·exact h4.low x hx
  ·exact h6.low x hx
theorem zND {hb:Nat} {p:PV} {v:Value} {Lp:List Nat} (hp:Rep w Φ (zA2 w rv E) p v Lp) (hw:∀ x∈p.ways,hb≤x.1):Shown w Φ rv E hb p v Lp (zA0 p) [] :=
 ⟨by simp,zC5 p,zC6 p,fun Φ1 g1 _ g3=>(zD2 g1 p v Lp g3 hp).ways _ _ _ fun a v _ hx ha=>⟨ha,fun x qp=>hw x (zGv p x (hx x qp))⟩⟩
theorem zHJ {hb:Nat} {p:PV} {v:Value} (hp:Rep w Φ (zA2 w rv E) p v []) (hw:∀ x∈p.ways,hb≤x.1):Shown w Φ rv E hb p v [] p [] :=
 ⟨by simp,rfl,rfl,fun Φ1 g1 _ g3=>(hp.mono (fun b hb=>⟨g1 b hb,rfl⟩) (fun _ _ _ h=>h) (by simp)).ways _ _ _ fun a v _ hx ha=>⟨ha,fun x qp=>hw x (hx x qp)⟩⟩
theorem zHC {hb:Nat} {l:List (Nat×zAS)} (h:l.isEmpty=true):∀ x∈l,hb≤x.1:=by
 cases l with
 | nil=>simp
 | cons _ _=>cases h
theorem zJ2 (S:St w0 U Φ0 nt hv a w e Φ rv E L) {hb:Nat}:∀ (n:Nat) (p:PV) (v:Value) (Lp:List Nat) (k:PV→List (Nat×zAS)→PM),Rep w Φ (zA2 w rv E) p v Lp→(resolve hb n p k).run o e=some e' →
  ∃ q l,(k q l).run o e=some e'∧Shown w Φ rv E hb p v Lp q l
 | 0,p,v,Lp,k,hp,h=>by cases h
 | n + 1, p, v,Lp,k,hp,h=>by
  have ih:=zJ2 S (hb:=hb) n
  have node:∀ r pre x,r<zAb→zAC (e.get r).unlock pre=some x→∃ nv Li,zAU w (rv r) (E r).unlock pre=some (nv,x)∧Rep w Φ (zA2 w rv E) x nv Li∧∀ Φ1,Cov w Φ rv E Φ1 (r,pre)→∀ b∈Li,Φ1 b:=by
   intro r pre x hr hx
   rw [← S.env r hr] at hx
   obtain ⟨nv,Li,h1,_,h3⟩:=zBG (zBZ (S.conf.rep r)) hx
   exact ⟨nv,Li,h1,h3.mono zDo.refl (fun _ _ _ h=>zEB h) (fun _ _=>rfl),fun Φ1 hc b hb=>hc nv x Li _ h1 h3 b hb⟩
  have dflt:(∀ x∈p.ways,hb≤x.1)→(k (zA0 p) []).run o e=some e'→∃ q l,(k q l).run o e=some e'∧Shown w Φ rv E hb p v Lp q l :=
   fun hw h=>⟨_,_,h,zND hp hw⟩
  have dflt2:(bif p.ways.all (fun w=>Nat.ble hb w.1) then k (zA0 p) [] else .fail).run o e=some e'→∃ q l,(k q l).run o e=some e'∧Shown w Φ rv E hb p v Lp q l:=by
   intro h
   obtain ⟨h1,h2⟩:=zAV h
   exact dflt (fun x hx=>Nat.le_of_ble_eq_true (List.all_eq_true.1 h1 x hx)) h2
  have keep:∀ r,(∀ x∈p.ways,x.1=r)→Lp=[]→(k p []).run o e=some e'→Nat.ble hb r=true→∃ q l,(k q l).run o e=some e'∧Shown w Φ rv E hb p v Lp q l:=by
   intro r hw hL hk hr
   subst hL
   exact ⟨_,_,hk,zHJ hp fun x hx=>by rw [hw x hx];exact Nat.le_of_ble_eq_true hr⟩
  have yu:∀ r,Nat.ble hb r=false→r<hb:=by
   intro r hr
   exact Nat.lt_of_not_le fun yK=>by rw [Nat.ble_eq_true_of_le yK] at hr;cases hr
  cases p<;>simp only [resolve] at h<;>try (exact dflt2 h)
  case agg cs =>
   cases hw:(PV.agg cs).ways.isEmpty with
   | true=>rw [hw] at h;exact dflt (zHC hw) h
   | false =>
    rw [hw] at h;simp only [cond_false] at h
    obtain ⟨vs,rfl,hr⟩:=hp
    obtain ⟨qs,l,h1,h2⟩:=zE0 ih cs _ Lp _ hr h
    exact ⟨_,_,h1,⟨h2.low,rfl,by simpa [PV.cells] using h2.len,fun Φ1 g1 g2 g3=>⟨vs,rfl,h2.rep Φ1 g1 g2 g3⟩⟩⟩
  case ref q =>
   have hL:=hp.1
   subst hL
   cases hw:q.ways.isEmpty with
   | true=>rw [hw] at h;exact ⟨_,_,h,zHJ hp (zHC hw)⟩
   | false =>
    rw [hw] at h;simp only [cond_false] at h
    obtain ⟨_,b,c,u,h1,h2,h3,h4,h5,h6,h7⟩:=hp
    obtain ⟨q',l,h8,h9⟩:=ih q u [] _ h7 h
    refine ⟨_,_,h8,⟨h9.low,rfl,rfl,fun Φ1 g1 g2 g3=>⟨rfl,b,c,u,h1,h2,g1 _ h3,h4,by rw [h9.len];exact h5,by rw [h9.len,h9.agg];exact h6,h9.rep Φ1 g1 g2 (by simp)⟩⟩⟩
  case func f x y =>
   have hL:=hp.1
   subst hL
   cases hw:(PV.func f x y).ways.isEmpty with
   | true=>rw [hw] at h;exact ⟨_,_,h,zHJ hp (zHC hw)⟩
   | false =>
    rw [hw] at h;simp only [cond_false] at h
    obtain ⟨_,fs,cs,h1,h2,h3⟩:=hp
    obtain ⟨qs,l,h4,h5⟩:=zE0 ih x _ [] _ h2 h
    obtain ⟨qs',m,h6,h7⟩:=zE0 ih y _ [] _ h3 h4
    refine ⟨_,_,h6,⟨fun z hz=>?_,rfl,rfl,fun Φ1 g1 g2 g3=>⟨rfl,fs,cs,h1,h5.rep Φ1 g1 (fun z hz=>g2 z (by simp [hz])) (by simp),h7.rep Φ1 g1 (fun z hz=>g2 z (by simp [hz])) (by simp)⟩⟩⟩
    rcases List.mem_append.1 hz with hz | hz
    ·exact h5.low z hz
    ·exact h7.low z hz
  case addr r pre i c sh =>
   have hL:=hp.1
   have ha:=hp.2
   cases jm:Nat.ble hb r with
   | true=>rw [jm] at h;exact keep r (by simp [PV.ways]) hL h jm
   | false =>
    rw [jm] at h;simp only [cond_false] at h
    obtain ⟨x,hx,h1⟩:=zBT h
    obtain ⟨hg,ad,rfl,yS,hn⟩:=ha
    obtain ⟨nv,Li,hf,v5,jt⟩:=node r pre x hg hx
    cases hh:zA9 x with
    | none=>rw [hh] at h1;cases h1
    | some xs =>
     rw [hh] at h1;simp only at h1
     cases hi:xs[i]? with
     | none=>rw [hi] at h1;cases h1
     | some y =>
      rw [hi] at h1;simp only at h1
      obtain ⟨ux,row,ad0,Lx,k1,k2,k3,k4,k5,k6,k7,k8,k9⟩:=zK2 v5 hh hi
      have jL:=hn nv x hf _ (k5 c)
      subst jL
      have k9':=k9.mono (A':=zA2 w rv E) zDo.refl (fun _ _ _ h=>zFW h) (fun _ _=>rfl)
      cases sh with
      | some m =>
       simp only at h1
       obtain ⟨hc,h2⟩:=zAV h1
       simp only [Bool.and_eq_true] at hc
       have yK:=Nat.le_of_ble_eq_true hc.1
       cases hya:y<;>rw [hya] at hc<;>try (simp [PV.isAgg] at hc;done)
       rename_i cs
       subst hya
       obtain ⟨vs,rfl,hr⟩:=k9'
       obtain ⟨Ly,hly,wY⟩:=zGq hr c m
       have hO:=hr.length
       obtain ⟨q',l,h3,h4⟩:=ih (.agg ((cs.drop c).take m)) (.agg ((vs.toList.drop c).take m).toArray) Ly _ ⟨_,rfl,by simpa using wY⟩ h2
       have j4:q'.cells.length=m:=by rw [h4.len];simp [PV.cells] at yK ⊢;omega
       refine ⟨_,_,h3,⟨fun z hz=>?_,rfl,rfl,fun Φ1 g1 g2 g3=>?_⟩⟩
       ·rcases List.mem_cons.1 hz with rfl | hz
        ·exact ⟨hg,yu r jm⟩
        ·exact h4.low z hz
       ·have j1:=jt Φ1 (g2 _ (by simp))
        refine ⟨rfl,zAs ad0 c,row,_,rfl,rfl,j1 _ k1,k3.any,?_,⟨?_,?_⟩,h4.rep Φ1 g1 (fun z hz=>g2 z (by simp [hz])) fun b hb=>j1 b (k4 b (hly b hb))⟩
        ·rw [j4];simp only [zAs,Value.cells];rw [k6 c m yK];rfl
        ·rw [j4];simp [Value.cells,PV.cells] at yK hO ⊢;omega
        ·rw [h4.agg];rfl
      | none =>
       simp only at h1
       cases hc:y.cells[c]? with
       | none=>rw [hc] at h1;cases h1
       | some z =>
        rw [hc] at h1;simp only at h1
        obtain ⟨uL,h2⟩:=zAV h1
        obtain ⟨u,La,Lu,Lb,hu,v4,ke,_,_⟩:=k9'.cell hc k7
        obtain ⟨q',l,h3,h4⟩:=ih z u Lu _ ke h2
        have kW:=zBC (zB7 (fun a v hw h=>zC4 hw h) ke uL)
        have uC:=zBj uL
        have yP:c<y.cells.length:=(List.getElem?_eq_some_iff.1 hc).1
        refine ⟨_,_,h3,⟨fun z hz=>?_,rfl,rfl,fun Φ1 g1 g2 g3=>?_⟩⟩
        ·rcases List.mem_cons.1 hz with rfl | hz
         ·exact ⟨hg,yu r jm⟩
         ·exact h4.low z hz
        ·have j1:=jt Φ1 (g2 _ (by simp))
         refine ⟨rfl,zAs ad0 c,row,u,rfl,rfl,j1 _ k1,k3.any,?_,⟨?_,?_⟩,h4.rep Φ1 g1 (fun z hz=>g2 z (by simp [hz])) fun b hb=>j1 b (k4 b (by rw [v4];simp [hb]))⟩
         ·rw [h4.len,uC.1,kW.1]
          have:=k6 c 1 (by omega)
          simp only [zAs,List.length_singleton]
          rw [this]
          have yL:c<ux.cells.toList.length:=by simpa [k8] using yP
          rw [List.drop_eq_getElem_cons yL]
          have:ux.cells.toList[c]=u:=by rw [List.getElem?_eq_getElem yL] at hu;simpa using hu
          simp [this]
         ·rw [h4.len,uC.1,kW.1];rfl
         ·rw [h4.agg,uC.2,kW.2]
  case bor r pre z lo m =>
   have hL:=hp.1
   have ha:=hp.2
   cases jm:Nat.ble hb r with
   | true=>rw [jm] at h;exact keep r (by simp [PV.ways]) hL h jm
   | false =>
    rw [jm] at h;simp only [cond_false] at h
    obtain ⟨x,hx,h1⟩:=zBT h
    obtain ⟨hg,_,hn⟩:=ha
    obtain ⟨nv,Li,hf,v5,jt⟩:=node r pre x hg hx
    split at h1
    ·rename_i sz xs
     obtain ⟨hc,h2⟩:=zAV h1
     refine ⟨_,_,h2,⟨fun z hz=>?_,rfl,rfl,fun Φ1 g1 g2 g3=>?_⟩⟩
     ·simp only [List.mem_singleton] at hz;subst hz;exact ⟨hg,yu r jm⟩
     ·have:=zHS (A':=zMc hb (zA2 w rv E)) g1 v5 (jt Φ1 (g2 _ (by simp))) (z:=z) (lo:=lo) (n:=m) (v:=v) fun sz' xs' uH=>by
       obtain ⟨sz2,xs2,h7,h8,h9⟩:=hn nv _ hf rfl
       cases h7;cases uH;exact ⟨h8,h9⟩
      simp only [zDi,hc,cond_true] at this
      exact this
    ·cases h1
  case bmap r pre =>
   have hL:=hp.1
   have ha:=hp.2
   cases jm:Nat.ble hb r with
   | true=>rw [jm] at h;exact keep r (by simp [PV.ways]) hL h jm
   | false =>
    rw [jm] at h;simp only [cond_false] at h
    obtain ⟨x,hx,h1⟩:=zBT h
    obtain ⟨hg,_,hn⟩:=ha
    obtain ⟨nv,Li,hf,v5,jt⟩:=node r pre x hg hx
    split at h1
    ·rename_i es
     refine ⟨_,_,h1,⟨fun z hz=>?_,rfl,rfl,fun Φ1 g1 g2 g3=>?_⟩⟩
     ·simp only [List.mem_singleton] at hz;subst hz;exact ⟨hg,yu r jm⟩
     ·exact zHp (A':=zMc hb (zA2 w rv E)) g1 v5 (jt Φ1 (g2 _ (by simp))) (v:=v) fun es' uH=>hn nv _ hf _ uH
    ·cases h1
  case bsl r pre i c sz ag m =>
   have hL:=hp.1
   have ha:=hp.2
   cases jm:Nat.ble hb r with
   | true=>rw [jm] at h;exact keep r (by simp [PV.ways]) hL h jm
   | false =>
    rw [jm] at h;simp only [cond_false] at h
    obtain ⟨x,hx,h1⟩:=zBT h
    obtain ⟨hg,ad,cap,rfl,yQ,yS,hn⟩:=ha
    obtain ⟨nv,Li,hf,v5,jt⟩:=node r pre x hg hx
    cases hh:zA9 x with
    | none=>rw [hh] at h1;cases h1
    | some xs =>
     rw [hh] at h1;simp only at h1
     cases hi:xs[i]? with
     | none=>rw [hi] at h1;cases h1
     | some y =>
      rw [hi] at h1;simp only at h1
      obtain ⟨hc,h2⟩:=zAV h1
      refine ⟨_,_,h2,⟨fun z hz=>?_,rfl,rfl,fun Φ1 g1 g2 g3=>?_⟩⟩
      ·simp only [List.mem_singleton] at hz;subst hz;exact ⟨hg,yu r jm⟩
      ·have:=zHd (A':=zMc hb (zA2 w rv E)) (fun a v hw h=>zJn hw h) g1 v5 (jt Φ1 (g2 _ (by simp))) (i:=i) (c:=c) (sz:=sz) (ag:=ag) (m:=m) (v := .slice (some ad) m cap) rfl yQ fun a' kM=>hn nv x hf a' kM
       simp only [zCp,hh,hi,hc,cond_true] at this
       exact this
theorem zN4 (S:St w0 U Φ0 nt hv a w e Φ rv E L) {p:PV} {v:Value} {Lp:List Nat} {k:PV→List (Nat×zAS)→PM} (hp:Rep w Φ (zA2 w rv E) p v Lp) (h:(zAk p k).run o e=some e') :
  ∃ q l,(k q l).run o e=some e'∧(∀ x∈l,x.1<zAb)∧∀ Φ1:Nat→Prop,(∀ b,Φ b→Φ1 b)→(∀ x∈l,Cov w Φ rv E Φ1 x)→(∀ b∈Lp,Φ1 b)→Rep w Φ1 zCn q v []:=by
 obtain ⟨q,l,h1,h2⟩:=zJ2 S (hb:=zAb) depth p v Lp k hp h
 refine ⟨q,l,h1,fun x hx=>(h2.low x hx).1,fun Φ1 g1 g2 g3=>(h2.rep Φ1 g1 g2 g3).mono zDo.refl (fun a v hw ha=>?_) (fun _ _=>rfl)⟩
 have hr:=zCX ha.1
 have:=ha.2 (zA4 a)
 cases a<;>first | (cases hw;done) | (exact ha.1.elim) | skip
 all_goals
  have:=this (by simp [PV.ways,zA4])
  omega
theorem zL9 {p q' p':PV} {i c:Nat} (hp:zBU p i c q'=some p'):p'.unlock=p'∧p'.isTup=false:=by
 simp only [zBU] at hp
 cases p<;>simp only [zAY,Option.bind_none,Option.bind_some] at hp<;>try cases hp
 case own sz xs =>
  cases hx:xs[i]?<;>rw [hx] at hp<;>simp [zAy] at hp
  subst hp;exact ⟨rfl,rfl⟩
 case box q =>
  cases i with
  | zero=>simp [zAy] at hp;subst hp;exact ⟨rfl,rfl⟩
  | succ i=>simp at hp
 case agg cs =>
  cases i with
  | zero=>simp [zAy,zAB] at hp;subst hp;exact ⟨rfl,rfl⟩
  | succ i=>simp at hp
theorem zBJ {q' p p':PV} (h1:q'.unlock=q') (h2:q'.isTup=false):∀ {pre:zAS},zAv (fun _=>some q') p pre=some p'→p'.unlock=p'∧p'.isTup=false
 | [],h=>by simp only [zAv,Option.some.injEq] at h;subst h;exact ⟨h1,h2⟩
 | (i,c)::rest,h=>by
  rw [zBp] at h
  cases hc:Eng.child p i c with
  | none=>rw [hc] at h;cases h
  | some q =>
   rw [hc] at h;simp only [Option.bind_some] at h
   cases hm:zAv (fun _=>some q') q rest with
   | none=>rw [hm] at h;cases h
   | some q1=>rw [hm] at h;exact zL9 (by simpa using h)
theorem zE4 (q:PV):(zA0 q).unlock=zA0 q∧(zA0 q).isTup=false:=by cases q<;>exact ⟨rfl,rfl⟩
theorem zBA {p:PV} (h:p.isLock=false):p.unlock=p:=by cases p<;>first | rfl | cases h
theorem zPX (r:Nat) (pre:zAS) (q p:PV) (hp:p.isWay=true):(inl r pre q p).isTup=false:=by
 have h:=(zIf r pre q).dull p hp
 have h1 : ∀ i c sh x,(zDB i c sh x).isTup=false:=by
  intro i c sh x
  simp only [zDB]
  split
  ·split
   ·split
    ·cases (Nat.ble _ _&&PV.isAgg _)<;>rfl
    ·split
     ·rename_i q _;cases q.oneCell<;>rfl
     ·rfl
   ·rfl
  ·rfl
 have h2:∀ lo n x,(zDi lo n x).isTup=false:=by
  intro lo n x
  cases x<;>try rfl
  simp only [zDi];cases Nat.ble _ _<;>rfl
 have h5:∀ i c sz ag m x,(zCp i c sz ag m x).isTup=false:=by
  intro i c sz ag m x
  simp only [zCp]
  split
  ·split
   ·cases (zCg ag sz m _&&_)<;>rfl
   ·rfl
  ·rfl
 have h3:∀ x,(zEL x).isTup=false:=by intro x;cases x<;>rfl
 have h4:∀ (o:Option PV) (f:PV→PV),(∀ x,(f x).isTup=false)→(zHV o f).isTup=false:=by
  intro o f hf;cases o with
  | none=>rfl
  | some x=>exact hf x
 cases p<;>first | (cases hp;done) | skip
 all_goals
  simp only [inl]
  first | rfl | skip
 all_goals
  cases zAQ r pre _ _<;>first | rfl | exact h4 _ _ (h1 _ _ _) | exact h4 _ _ (h2 _ _) | exact h4 _ _ h3 | exact h4 _ _ (h5 _ _ _ _ _)
theorem zUW (S:St w0 U Φ0 nt hv a w e Φ rv E L) (M:Nat→Bool) {r:Nat} {pre:zAS} {q:PV} (hr:r<zAb) (hq:zAC (e.get r).unlock pre=some q) {k:PM} (h:(PM.frz r pre k).run o e=some e') :
  ∃ e1 Φ1 E1 L1,k.run o e1=some e'∧St w0 U Φ0 nt hv a w e1 Φ1 rv E1 L1∧(∀ b,Φ b→Φ1 b)∧(∀ s,zAb≤s→E1 s=(if M s then (E s).mapW (inl r pre q) else E s)∧L1 s=L s):=by
 simp only [PM.run] at h
 cases hf:e.frz r pre with
 | none=>rw [hf] at h;cases h
 | some e1 =>
  rw [hf] at h;simp only at h
  obtain ⟨q0,root,hl,hn,hm,yT⟩:=Env.frz_eq hf
  have yG:=zBA hl
  rw [yG,hn] at hq;simp only [Option.some.injEq] at hq;subst hq
  have hE:=S.env r hr
  obtain ⟨k1,k2⟩:=zBJ (zE4 q0).1 (zE4 q0).2 hm
  obtain ⟨nv,Li,L',h1,h2,h3,h4⟩:=S.conf.ice M hr (pre:=pre) (q:=q0) (root':=root) (by rw [hE];exact yG) (by rw [hE];exact hn) (by rw [hE];exact hm) k1
  refine ⟨e1,_,_,L',h,S.turn h4 (fun s hs=>?_) (fun _ _=>rfl) (fun d ps hd hp=>?_),fun b hb => .inl hb,fun s hs=>⟨?_,h3 s (by omega)⟩⟩
  ·simp only [hs,true_or,if_true]
   rw [yT s]
   by_cases yV:s=r
   ·subst yV;simp
   ·rw [if_neg yV,if_neg yV,S.env s hs]
  ·have uc:d<zAb:=by simp only [zAb];omega
   simp only [uc,true_or,if_true] at hp
   obtain ⟨ps',h5,h6⟩:=zDS (zPX r pre q0) hp
   by_cases jn:d=r
   ·rw [if_pos jn] at h5;rw [h5] at k2;cases k2
   ·rw [if_neg jn] at h5;exact ⟨ps',h5,h6⟩
  ·have:¬ s<zAb:=by omega
   simp only [this,false_or]
   have yV:s≠r:=by omega
   rw [if_neg yV]
theorem zQ6 {l:List (Nat×zAS)} {hb:Nat} (h:l.find? (fun w=>Nat.blt w.1 hb)=none):∀ x∈l,hb≤x.1:=by
 intro x hx
 have:=List.find?_eq_none.1 h x hx
 exact Nat.le_of_not_lt fun yL=>this (Nat.ble_eq_true_of_le yL)
theorem zIz {hb g:Nat} (hg:zAb≤g) (jm:hb≤zAb) {k:PV→PM}:∀ (n:Nat) {e:Env} {Φ:Nat→Prop} {E:Nat→PV} {L:Nat→List Nat},St w0 U Φ0 nt hv a w e Φ rv E L→(zMs hb n (E g) k).run o e=some e' →
  ∃ e1 Φ1 E1 L1,(k (E1 g)).run o e1=some e'∧St w0 U Φ0 nt hv a w e1 Φ1 rv E1 L1∧(∀ b,Φ b→Φ1 b)∧(∀ s,zAb≤s→s≠g→E1 s=E s)∧(∀ s,zAb≤s→L1 s=L s) ∧
   (∀ x∈(E1 g).ways,hb≤x.1)∧(E1 g).isAgg=(E g).isAgg∧(E1 g).cells.length=(E g).cells.length
 | 0,e,Φ,E,L,S,h=>by cases h
 | n + 1,e,Φ,E,L,S,h=>by
  simp only [zMs] at h
  split at h
  ·rename_i hf
   exact ⟨e,Φ,E,L,h,S,fun _ h=>h,fun _ _ _=>rfl,fun _ _=>rfl,zQ6 hf,rfl,rfl⟩
  ·rename_i r pre hf
   have hr:r<zAb:=by
    have:=List.find?_some hf
    have:r<hb:=Nat.le_of_ble_eq_true this
    omega
   obtain ⟨q,hq,h1⟩:=zBT h
   obtain ⟨e1,Φ1,E1,L1,h2,S1,h3,h4⟩:=zUW S (fun s=>s==g) hr hq h1
   have uK:E1 g=(E g).mapW (inl r pre q):=by simpa using (h4 g hg).1
   rw [← uK] at h2
   obtain ⟨e2,Φ2,E2,L2,h5,S2,h6,h7,h8,h9,h10,h11⟩:=zIz hg jm n S1 h2
   refine ⟨e2,Φ2,E2,L2,h5,S2,fun b hb=>h6 b (h3 b hb),fun s hs hH=>?_,fun s hs=>(h8 s hs).trans (h4 s hs).2,h9,?_,?_⟩
   ·rw [h7 s hs hH,(h4 s hs).1];simp [hH]
   ·rw [h10,uK,zF4 (zIf r pre q).agg]
   ·rw [h11,uK,zHA (zIf r pre q).agg]
end
end Go.Eng
namespace Go.Eng
open Go
section
variable {w w':World} {Φ Φ':Nat→Prop} {A A':Al}
theorem zAZ.append:∀ {ps qs:List PV} {us vs:List Value} {L M:List Nat},zAZ w Φ A ps us L→zAZ w Φ A qs vs M→zAZ w Φ A (ps++qs) (us++vs) (L++M)
 | [],qs,us,vs,L,M,h,h'=>by obtain ⟨rfl,rfl⟩:=h;simpa using h'
 | p::ps,qs,us,vs,L,M,h,h'=>by
  obtain ⟨v,us',L1,L2,rfl,rfl,h1,h2⟩:=h
  exact ⟨v,us'++vs,L1,L2++M,rfl,by simp,h1,h2.append h'⟩
theorem zAZ.cut:∀ {ps:List PV} {us:List Value} {L:List Nat} (n:Nat),zAZ w Φ A ps us L→∃ L1 L2,L=L1++L2∧zAZ w Φ A (ps.take n) (us.take n) L1∧zAZ w Φ A (ps.drop n) (us.drop n) L2
 | ps,us,L,0,h=>⟨[],L,rfl,by simp [zAZ],by simpa using h⟩
 | [],us,L,n+1,h=>by obtain ⟨rfl,rfl⟩:=h;exact ⟨[],[],rfl,by simp [zAZ],by simp [zAZ]⟩
 | p::ps,us,L,n+1,h=>by
  obtain ⟨v,us',L1,L2,rfl,rfl,h1,h2⟩:=h
  obtain ⟨M1,M2,rfl,h3,h4⟩:=h2.cut n
  exact ⟨L1++M1,M2,by simp,⟨v,_,L1,M1,rfl,rfl,h1,h3⟩,by simpa using h4⟩
theorem zAZ.replace {ps:List PV} {us:List Value} {L:List Nat} (h:zAZ w Φ A ps us L) (c n:Nat):∃ L1 L2 L3,L=L1++L2++L3 ∧
  ∀ {w':World} {Φ':Nat→Prop} {A':Al} {qs:List PV} {vs:List Value} {Lq:List Nat},(∀ a v,a.isWay=true→A a v→A' a v)→zDo w w' Φ Φ'→(∀ b∈L1++L3,w'.heap[b]? = w.heap[b]?)→zAZ w' Φ' A' qs vs Lq →
   zAZ w' Φ' A' (ps.take c++qs++ps.drop (c+n)) (us.take c++vs++us.drop (c+n)) (L1++Lq++L3):=by
 obtain ⟨L1,L23,rfl,h1,h2⟩:=h.cut c
 obtain ⟨L2,L3,rfl,_,h3⟩:=h2.cut n
 rw [List.drop_drop,List.drop_drop] at h3
 refine ⟨L1,L2,L3,by simp,fun hA hs hb hq=>?_⟩
 exact ((h1.mono hs hA fun b h=>hb b (by simp [h])).append hq).append (h3.mono hs hA fun b h=>hb b (by simp [h]))
end
def zBe (c:Array Value) (o:Nat) (vs:List Value):Array Value:=(c.toList.take o++vs++c.toList.drop (o+vs.length)).toArray
theorem zGC {c:Array Value} {o:Nat} {vs:List Value} (h:o+vs.length≤c.size):(zBe c o vs).size=c.size:=by
 simp [zBe];omega
theorem zCU {α:Type} {l:List α} {o:Nat} {vs:List α} (h:o+vs.length≤l.length) (k:Nat) :
  (l.take o++vs++l.drop (o+vs.length))[k]? = if k<o then l[k]? else if k<o+vs.length then vs[k-o]? else l[k]?:=by
 have ho:(l.take o).length=o:=by simp;omega
 have hov:(l.take o++vs).length=o+vs.length:=by simp;omega
 by_cases h1:k<o
 ·rw [if_pos h1,List.getElem?_append_left (by omega),List.getElem?_append_left (by omega),List.getElem?_take,if_pos h1]
 ·rw [if_neg h1]
  by_cases h2:k<o+vs.length
  ·rw [if_pos h2,List.getElem?_append_left (by omega),List.getElem?_append_right (by omega),ho]
  ·rw [if_neg h2,List.getElem?_append_right (by omega),hov,List.getElem?_drop,show o+vs.length+(k-(o+vs.length))=k by omega]
theorem zHL {c:Array Value} {o off m:Nat} {vs:List Value} (h1:off≤o) (h2:o+vs.length≤off+m) (h3:off+m≤c.size) :
  seg (zBe c o vs) off m=(seg c off m).take (o-off)++vs++(seg c off m).drop (o-off+vs.length):=by
 have jK:(seg c off m).length=m:=by simp [seg];omega
 apply List.ext_getElem?
 intro k
 rw [zCU (by rw [jK];omega)]
 simp only [seg,zBe,List.getElem?_take,List.getElem?_drop]
 rw [zCU (by simp;omega)]
 by_cases hk:k<m
 ·simp only [hk,if_true]
  by_cases h4:off+k<o
  ·have h6:k<o-off:=by omega
   simp only [h4,h6,if_true]
  ·have h6:¬ k<o-off:=by omega
   simp only [h4,h6,if_false]
   by_cases h5:off+k<o+vs.length
   ·have h7:k<o-off+vs.length:=by omega
    simp only [h5,h7,if_true]
    rw [show off+k-o=k-(o-off) by omega]
   ·have h7:¬ k<o-off+vs.length:=by omega
    simp only [h5,h7,if_false]
 ·have h6:¬ k<o-off:=by omega
  have h7:¬ k<o-off+vs.length:=by omega
  simp only [hk,h6,h7,if_false]
theorem zTC {c:Array Value} {off m:Nat} {l:List Value} (h:seg c off m=l) (hl:l.length=m) (hm:m≠0):off+m≤c.size:=by
 rw [← h] at hl
 simp [seg] at hl;omega
theorem zCZ (us vs:List Value):flat (us++vs)=flat us++flat vs:=by simp [flat]
section
variable {w w':World} {Φ Φ':Nat→Prop} {A A':Al}
theorem zOp {x:PV} {u:Value} {L:List Nat} (h:Rep w Φ A x u L) (hn:zCf u=x.isAgg) {c:Nat} {qs:List PV} {vs:List Value} (hq:∀ q∈qs,q.oneCell=true) (yq:∀ v∈vs,v.oneCell'=true) (hO:vs.length=qs.length) (hc:c+qs.length≤x.cells.length) :
  ∃ u' L1 L2 L3,u'.cells.toList=u.cells.toList.take c++vs++u.cells.toList.drop (c+vs.length)∧zCf u'=zCf u∧L=L1++L2++L3∧(zAB x c qs).isAgg=x.isAgg∧(zAB x c qs).cells.length=x.cells.length ∧
   ∀ {w':World} {Φ':Nat→Prop} {A':Al} {Lq:List Nat},(∀ a v,a.isWay=true→A a v→A' a v)→zDo w w' Φ Φ'→(∀ b∈L1++L3,w'.heap[b]? = w.heap[b]?)→zAZ w' Φ' A' qs vs Lq →
    Rep w' Φ' A' (zAB x c qs) u' (L1++Lq++L3):=by
 cases hx:x.isAgg with
 | true =>
  cases x<;>simp [PV.isAgg] at hx
  rename_i cs
  obtain ⟨us,rfl,hr⟩:=h
  obtain ⟨L1,L2,L3,rfl,hk⟩:=hr.replace c qs.length
  have yz:=hr.length
  refine ⟨.agg (us.toList.take c++vs++us.toList.drop (c+vs.length)).toArray,L1,L2,L3,by simp [Value.cells],rfl,rfl,rfl,?_,fun hA hs hb hq=>⟨_,rfl,?_⟩⟩
  ·simp [zAB,PV.cells] at hc ⊢;omega
  ·have:=hk hA hs hb hq
   rw [hO];simpa using this
 | false =>
  have j2:x.cells=[x]:=by cases x<;>first | rfl | simp [PV.isAgg] at hx
  have hv:u.cells=#[u]:=by rw [hx] at hn;cases u<;>first | rfl | simp [zCf] at hn
  rw [j2] at hc ⊢
  match qs,vs,hO,hq,yq with
  | [],[],_,_,_ =>
   have he:zAB x c []=x:=by cases x<;>first | rfl | simp [PV.isAgg] at hx
   refine ⟨u,L,[],[],by simp,rfl,by simp,by rw [he];exact hx,by rw [he,j2],fun hA hs hb hq=>?_⟩
   obtain ⟨_,rfl⟩:=hq
   rw [he];simpa using h.mono hs hA (fun b yF=>hb b (by simp [yF]))
  | [q],[v],_,hq,yq =>
   have vb:c=0:=by simp at hc;exact hc
   subst vb
   have he:zAB x 0 [q]=q:=by cases x<;>first | rfl | simp [PV.isAgg] at hx
   have h1:=zBj (hq q (by simp))
   have h2:=zBC (yq v (by simp))
   refine ⟨v,[],L,[],by simp [hv,h2.1],by rw [h2.2,hn,hx],by simp,by rw [he];exact h1.2,by rw [he,h1.1];rfl,fun hA hs hb hq=>?_⟩
   obtain ⟨v',vs',L1,L2,h3,h4,h5,h6⟩:=hq
   obtain ⟨h7,h8⟩:=h6
   cases h3;subst h8
   rw [he,h4];simpa using h5
  | _::_::_,_,_,_,_=>simp only [List.length_cons,List.length_nil] at hc;omega
theorem zEQ {α:Type} {l:List α} {i:Nat} {x:α} (h:i<l.length):l.set i x=l.take i++[x]++l.drop (i+1):=by
 rw [List.set_eq_take_append_cons_drop,if_pos h];simp
theorem zSl {np q':PV} {nv:Value} {Li:List Nat} (h:Rep w Φ A np nv Li) {xs:List PV} (hx:zA9 np=some xs) {i c:Nat} {x:PV} (hi:xs[i]? = some x) {qs:List PV} {vs:List Value}
  (hq:∀ q∈qs,q.oneCell=true) (yq:∀ v∈vs,v.oneCell'=true) (hO:vs.length=qs.length) (hH:qs.length≠0) (hc:c+qs.length≤x.cells.length) (hw:zAy np (xs.set i (zAB x c qs))=some q') :
  ∃ ad row La Lm Lb,zA3 nv np i c=some ad∧ad.spot=none∧zFf w ad.block row∧ad.off+vs.length≤row.size∧Li=ad.block::(La++Lm++Lb) ∧
   ∀ {w':World} {Φ':Nat→Prop} {A':Al} {Lq:List Nat},(∀ a v,a.isWay=true→A a v→A' a v)→zDo w w' Φ Φ'→(∀ b∈La++Lb,w'.heap[b]? = w.heap[b]?)→zFf w' ad.block (zBe row ad.off vs)→zAZ w' Φ' (zGF A' np) qs vs Lq →
    Rep w' Φ' A' q' nv (ad.block::(La++Lq++Lb)):=by
 have vH:i<xs.length:=(List.getElem?_eq_some_iff.1 hi).1
 cases np<;>simp only [zA9] at hx<;>try cases hx
 case own sz =>
  obtain ⟨h1,h2,h3⟩ | ⟨a,n,r,us,L',rfl,h1,h2,h3,h4,h5,h6,⟨h7,uA⟩,h8,h9⟩:=h
  ·subst h1;simp at hi
  ·simp only [zAy,Option.some.injEq] at hw;subst hw
   have husl:us.length=xs.length:=by have:=congrArg List.length uA;simpa using this
   obtain ⟨Ka,K23,rfl,hA1,hB⟩:=h9.cut i
   have w5:i<us.length:=by omega
   have hxe:xs[i]=x:=by rw [List.getElem?_eq_getElem vH] at hi;simpa using hi
   rw [List.drop_eq_getElem_cons vH,List.drop_eq_getElem_cons w5,hxe] at hB
   obtain ⟨u,us2,Lx,Kb,hue,rfl,hr,hB⟩:=hB
   simp only [List.cons.injEq] at hue
   obtain ⟨hu0,rfl⟩:=hue
   have hu:us[i]? = some u:=by rw [List.getElem?_eq_getElem w5,hu0]
   have hg:zCf u=x.isAgg:=by
    have h1:(us.map zCf)[i]? = some (zCf u):=by simp [hu]
    have h2:(xs.map PV.isAgg)[i]? = some x.isAgg:=by simp [hi]
    rw [uA] at h1;rw [h1] at h2;simpa using h2
   have v9:=h6 x (List.mem_of_getElem? hi)
   have yz:=h7 u (List.mem_of_getElem? hu)
   obtain ⟨u',L1,L2,L3,k1,k2,rfl,k4,k5,k6⟩:=zOp hr hg hq yq hO hc
   have w6:i*sz+sz≤xs.length*sz:=by rw [← Nat.succ_mul];exact Nat.mul_le_mul_right _ vH
   have hnsz:xs.length*sz≤n*sz:=Nat.mul_le_mul_right _ h3
   have yA:a.off+(i*sz+c)+vs.length≤r.size:=by rw [hO];omega
   refine ⟨zAs a (i*sz+c),r,Ka++L1,L2,L3++Kb,by rw [h1];rfl,rfl,h4,yA,by simp [zAs],@fun w' Φ' A' Lq hA hs hb yB qq=>?_⟩
   have yU:xs.set i (zAB x c qs)=xs.take i++([zAB x c qs]++xs.drop (i+1)):=by rw [zEQ vH];simp
   have qH:us.set i u'=us.take i++([u']++us.drop (i+1)):=by rw [zEQ w5];simp
   refine .inr ⟨a,n,_,us.set i u',(Ka++(L1++Lq++L3)++Kb),by simp [zAs],by simpa using h1,h2,by simpa using h3,yB,?_,?_,⟨?_,?_⟩,?_,?_⟩
   ·show a.off+n*sz≤(zBe r (a.off+(i*sz+c)) vs).size
    rw [zGC yA];exact h5
   ·intro y hy
    rcases List.mem_or_eq_of_mem_set hy with hy | hy
    ·exact h6 y hy
    ·rw [hy,k5];exact v9
   ·intro y hy
    rcases List.mem_or_eq_of_mem_set hy with hy | hy
    ·exact h7 y hy
    ·rw [hy]
     have:=congrArg List.length k1
     simp at this
     omega
   ·rw [zEp hi k4,zEp hu k2,uA]
   ·have jo:flat us=flat (us.take i)++(u.cells.toList++flat (us.drop (i+1))):=by
     conv=>lhs;rw [← List.take_append_drop i us,List.drop_eq_getElem_cons w5,hu0]
     rw [zCZ,zCQ]
    have jP:(flat (us.take i)).length=i*sz:=by
     rw [zBn (fun y hy=>h7 y (List.mem_of_mem_take hy)),List.length_take,Nat.min_eq_left (by omega)]
    have w7:u.cells.toList.length=sz:=by simpa using yz
    rw [List.length_set]
    show seg (zBe r (zAs a (i*sz+c)).off vs) a.off (xs.length*sz)=_
    simp only [zAs]
    rw [zHL (by omega) (by rw [hO];omega) (by omega),h8,show a.off+(i*sz+c)-a.off=i*sz+c by omega]
    rw [qH,zCZ,zCZ,jo]
    have e1:(flat (us.take i)++(u.cells.toList++flat (us.drop (i+1)))).take (i*sz+c)=flat (us.take i)++u.cells.toList.take c:=by
     rw [List.take_append,jP,List.take_of_length_le (by omega),show i*sz+c-i*sz=c by omega,List.take_append_of_le_length (by omega)]
    have e2:(flat (us.take i)++(u.cells.toList++flat (us.drop (i+1)))).drop (i*sz+c+vs.length)=u.cells.toList.drop (c+vs.length)++flat (us.drop (i+1)):=by
     rw [List.drop_append,jP,List.drop_of_length_le (by omega),show i*sz+c+vs.length-i*sz=c+vs.length by omega,List.drop_append_of_le_length (by omega)];rfl
    rw [e1,e2]
    have e3:flat [u']=u'.cells.toList:=by simp [flat]
    rw [e3,k1];simp
   ·rw [yU,qH]
    have uH:=k6 (fun a v _ h=>h) (Φ':=_) hs (fun b h=>hb b (by simp at h ⊢;rcases h with h | h<;>simp [h])) qq
    have:=(hA1.mono hs (fun _ _ _ h=>h) (fun b h=>hb b (by simp [h]))).append ((show zAZ _ _ zCn [zAB x c qs] [u'] _ from ⟨u',[],_,[],rfl,rfl,uH,rfl,rfl⟩).append (hB.mono hs (fun _ _ _ h=>h) (fun b h=>hb b (by simp [h]))))
    simpa using this
 case box q0 =>
  obtain ⟨a,r,u0,L',rfl,h1,h2,h4,h5,⟨h6,u9⟩,h7⟩:=h
  have jr:i=0:=by simpa using vH
  subst jr;simp at hi;subst hi
  simp only [List.set_cons_zero,zAy,Option.some.injEq] at hw;subst hw
  obtain ⟨u',L1,L2,L3,k1,k2,rfl,k4,k5,k6⟩:=zOp h7 u9 hq yq hO hc
  have yz:u0.cells.toList.length=q0.cells.length:=by simpa using h6
  have yx:a.off+q0.cells.length≤r.size:=zTC h5 yz (by omega)
  refine ⟨zAs a c,r,L1,L2,L3,by rw [h1];rfl,rfl,h4,by simp only [zAs];omega,by simp [zAs],fun hA hs hb yB qq=>?_⟩
  refine ⟨a,_,u',_,rfl,h1,h2,yB,?_,⟨?_,?_⟩,k6 hA hs hb qq⟩
  ·rw [k5]
   simp only [zAs]
   rw [zHL (by omega) (by omega) (by omega),h5,show a.off+c-a.off=c by omega,k1]
  ·rw [k5]
   have:=congrArg List.length k1
   simp at this yz
   omega
  ·rw [k2,k4,u9]
theorem zPY {np:PV} {nv:Value} {Li:List Nat} (h:Rep w Φ A np nv Li) {xs:List PV} (hx:zA9 np=some xs) {i:Nat} {x:PV} (hi:xs[i]? = some x) :
  ∃ M ux Lx ad,Li=ad.block::M∧(∀ c,zA3 nv np i c=some (zAs ad c))∧Rep w Φ (zGF A np) x ux Lx∧(∀ b∈Lx,b∈M)∧zCf ux=x.isAgg∧∀ k u,ux.cells.toList[k]? = some u→kid w nv np i k=some u:=by
 cases np<;>simp only [zA9] at hx<;>try cases hx
 case own sz =>
  obtain ⟨h1,h2,h3⟩ | ⟨a,n,r,us,L',rfl,h1,h2,h3,h4,h5,h6,⟨h7,uA⟩,h8,h9⟩:=h
  ·subst h1;simp at hi
  ·obtain ⟨ux,La,Lx,Lb,hu,rfl,hr,_,_⟩:=h9.split hi
   have hg:zCf ux=x.isAgg:=by
    have h1:(us.map zCf)[i]? = some (zCf ux):=by simp [hu]
    have h2:(xs.map PV.isAgg)[i]? = some x.isAgg:=by simp [hi]
    rw [uA] at h1;rw [h1] at h2;simpa using h2
   subst h1
   refine ⟨_,ux,Lx,zAs a (i*sz),rfl,fun c=>by simp [zA3,zAs,Nat.add_assoc],hr,fun b hb=>by simp [hb],hg,fun k u hk=>?_⟩
   have hf:=zDT h7 hu hk
   rw [← h8] at hf
   have:=zDv hf
   simp only [kid,zAs]
   rw [zDn h4.any];exact this
 case box q0 =>
  obtain ⟨a,r,u0,L',rfl,h1,h2,h4,h5,⟨h6,u9⟩,h7⟩:=h
  have jr:i=0:=by
   cases i with
   | zero=>rfl
   | succ i=>simp at hi
  subst jr;simp at hi;subst hi
  subst h1
  refine ⟨L',u0,L',a,rfl,fun c=>rfl,h7,fun b hb=>hb,u9,fun k u hk=>?_⟩
  have:=zDv (c:=r) (o:=a.off) (n:=q0.cells.length) (k:=k) (u:=u) (by rw [h5];exact hk)
  simp only [kid,zAs]
  rw [zDn h4.any];exact this
end
mutual
theorem zEV {f g:PV→PV}:∀ p:PV,(p.mapW f).mapW g=p.mapW fun a=>(f a).mapW g
 | .agg cs=>by rw [PV.mapW,PV.mapW,PV.mapW,zEO]
 | .tup cs=>by rw [PV.mapW,PV.mapW,PV.mapW,zEO]
 | .func h a b=>by rw [PV.mapW,PV.mapW,PV.mapW,zEO,zEO]
 | .ref q=>by rw [PV.mapW,PV.mapW,PV.mapW,zEV]
 | .box q=>by rw [PV.mapW,PV.mapW,PV.mapW,zEV]
 | .lock q=>by rw [PV.mapW,PV.mapW,PV.mapW,zEV]
 | .addr .. => rfl
 | .bor .. => rfl
 | .bsl .. => rfl
 | .bmap .. => rfl
 | .yld .. => rfl
 | .log .. => rfl
 | .bad=>rfl
 | .und=>rfl
 | .int .. => rfl
 | .bool .. => rfl
 | .nilp=>rfl
 | .nilf=>rfl
 | .nilm=>rfl
 | .nn=>rfl
 | .nils _=>rfl
 | .sl _=>rfl
 | .own .. => rfl
 | .map _=>rfl
 | .omap _=>rfl
theorem zEO {f g:PV→PV}:∀ ps:List PV,zCK g (zCK f ps)=zCK (fun a=>(f a).mapW g) ps
 | []=>rfl
 | p::ps=>by rw [zCK,zCK,zCK,zEV,zEO]
end
mutual
theorem zDy {f g:PV→PV} (h:∀ a,a.isWay=true→f a=g a):∀ p:PV,p.mapW f=p.mapW g
 | .agg cs=>by rw [PV.mapW,PV.mapW,zEb h]
 | .tup cs=>by rw [PV.mapW,PV.mapW,zEb h]
 | .func k a b=>by rw [PV.mapW,PV.mapW,zEb h,zEb h b]
 | .ref q=>by rw [PV.mapW,PV.mapW,zDy h]
 | .box q=>by rw [PV.mapW,PV.mapW,zDy h]
 | .lock q=>by rw [PV.mapW,PV.mapW,zDy h]
 | .addr .. => h _ rfl
 | .bor .. => h _ rfl
 | .bsl .. => h _ rfl
 | .bmap .. => h _ rfl
 | .yld .. => rfl
 | .log .. => h _ rfl
 | .bad=>rfl
 | .und=>rfl
 | .int .. => rfl
 | .bool .. => rfl
 | .nilp=>rfl
 | .nilf=>rfl
 | .nilm=>rfl
 | .nn=>rfl
 | .nils _=>rfl
 | .sl _=>rfl
 | .own .. => rfl
 | .map _=>rfl
 | .omap _=>rfl
theorem zEb {f g:PV→PV} (h:∀ a,a.isWay=true→f a=g a):∀ ps:List PV,zCK f ps=zCK g ps
 | []=>rfl
 | p::ps=>by rw [zCK,zCK,zDy h,zEb h]
end
def zDG (r:Nat) (pre:zAS) (i:Nat):Nat→List PV→PV→PV
 | _,[],a=>a
 | c,q::qs,a=>bif q.heavy then (if (lose r (pre++[(i,c)]) a).isWay=true then zDG r pre i (c+1) qs a else lose r (pre++[(i,c)]) a) else zDG r pre i (c+1) qs a
theorem zKK (r:Nat) (pre:zAS) (i:Nat):∀ (qs:List PV) (c:Nat) (p:PV),zDG r pre i c qs p=p∨(p.isWay=true∧zDG r pre i c qs p = .bad)
 | [],c,p => .inl rfl
 | q :: qs,c,p=>by
  simp only [zDG]
  cases hq:q.heavy with
  | false=>exact zKK r pre i qs (c+1) p
  | true =>
   simp only [cond_true]
   split
   ·exact zKK r pre i qs (c+1) p
   ·exact zGu r (pre++[(i,c)]) p
theorem zGH {o:zAF} {r:Nat} {pre:zAS} {i:Nat} {k:PM} {e':Env}:∀ (qs:List PV) (c:Nat) {e:Env},(zDM r pre i c qs k).run o e=some e' →
  ∃ e1,k.run o e1=some e'∧∀ s,e1.get s=(e.get s).mapW (zDG r pre i c qs)
 | [],c,e,h=>⟨e,h,fun s=>by rw [show zDG r pre i c []=fun x=>x from rfl,zBg]⟩
 | q :: qs,c,e,h=>by
  simp only [zDM] at h
  cases hq:q.heavy with
  | false =>
   rw [hq] at h
   obtain ⟨e1,h1,h2⟩:=zGH qs (c+1) h
   refine ⟨e1,h1,fun s=>?_⟩
   rw [h2 s];exact zDy (fun a _=>by simp [zDG,hq]) _
  | true =>
   rw [hq] at h;simp only [cond_true,PM.run] at h
   obtain ⟨e1,h1,h2⟩:=zGH qs (c+1) h
   refine ⟨e1,h1,fun s=>?_⟩
   rw [h2 s,Env.get_kill,zEV]
   refine zDy (fun a ha=>?_) _
   simp only [zDG,hq,cond_true]
   rcases zGu r (pre++[(i,c)]) a with h3 | ⟨_,h3⟩
   ·rw [h3,if_pos ha,zF2 ha]
   ·rw [h3];rfl
theorem zJB {r:Nat} {pre:zAS} {i:Nat}:∀ (qs:List PV) (c j:Nat) {q:PV},qs[j]? = some q→q.heavy=true→∀ a,a.isWay=true→∀ rest,zA4 a=(r,pre++(i,c+j)::rest)→(∀ h,a ≠ .yld h)→(∀ xs k,a ≠ .log xs k)→zDG r pre i c qs a≠a
 | [],_,_,_,h,_,_,_,_,_,_,_=>by simp at h
 | q0::qs,c,0,q,h,hh,a,ha,rest,hr,hy,hl=>by
  simp at h;subst h
  simp only [zDG,hh,cond_true]
  have hlose:lose r (pre++[(i,c)]) a = .bad:=by
   have hp:(pre++[(i,c)]).isPrefixOf (pre++(i,c)::rest)=true:=by
    rw [List.isPrefixOf_iff_prefix];exact ⟨rest,by simp⟩
   cases a<;>first | (cases ha;done) | (exact absurd rfl (hy _)) | (exact absurd rfl (hl _ _)) | skip
   all_goals
    simp only [zA4,Nat.add_zero,Prod.mk.injEq] at hr
    obtain ⟨rfl,rfl⟩:=hr
    simp [lose,hp]
  rw [hlose];simp only [PV.isWay,Bool.false_eq_true,if_false]
  intro he;rw [← he] at ha;cases ha
 | q0::qs,c,j+1,q,h,hh,a,ha,rest,hr,hy,hl=>by
  have ih:=zJB (r:=r) (pre:=pre) (i:=i) qs (c+1) j (by simpa using h) hh a ha rest (by rw [hr];congr 4;omega) hy hl
  simp only [zDG]
  cases hq:q0.heavy with
  | false=>exact ih
  | true =>
   simp only [cond_true]
   rcases zGu r (pre++[(i,c)]) a with h3 | ⟨_,h3⟩
   ·rw [h3,if_pos ha];exact ih
   ·rw [h3];simp only [PV.isWay,Bool.false_eq_true,if_false]
    intro he;rw [← he] at ha;cases ha
theorem zIR {r:Nat} {pre:zAS} {i:Nat}:∀ (qs:List PV) (c:Nat) {a:PV},(∀ x∈a.ways,zAQ r pre x.1 x.2=false∨x.2.length≤pre.length)→zDG r pre i c qs a=a
 | [],_,_,_=>rfl
 | q :: qs,c,a,h=>by
  have ih:=zIR (r:=r) (pre:=pre) (i:=i) qs (c+1) h
  have hl : lose r (pre++[(i,c)]) a=a:=by
   have key:∀ r' p,(zAQ r pre r' p=false∨p.length≤pre.length)→(Nat.beq r' r&&(pre++[(i,c)]).isPrefixOf p)=false:=by
    intro r' p hp
    cases hb:(Nat.beq r' r&&(pre++[(i,c)]).isPrefixOf p) with
    | false=>rfl
    | true =>
     simp only [Bool.and_eq_true,List.isPrefixOf_iff_prefix] at hb
     obtain ⟨h1,rest,h2⟩:=hb
     rcases hp with hp | hp
     ·have:zAQ r pre r' p=true:=zD6.2 ⟨Nat.eq_of_beq_eq_true h1,(i,c)::rest,by rw [← h2];simp⟩
      rw [this] at hp;cases hp
     ·rw [← h2] at hp;simp at hp;omega
   cases a<;>first | rfl | skip
   all_goals
    simp only [lose]
    rw [key _ _ (h (_,_) (List.mem_singleton.2 rfl))];rfl
  simp only [zDG]
  cases hq:q.heavy with
  | false=>exact ih
  | true=>simp only [cond_true,hl];split<;>first | exact ih | rfl
theorem zMJ {f:PV→Option PV}:∀ {pre:zAS} {p p':PV},zAv f p pre=some p'→∃ q q',zAC p pre=some q∧f q=some q'∧zAv (fun _=>some q') p pre=some p'
 | [],p,p',h=>⟨p,p',rfl,h,rfl⟩
 | (i, c)::rest,p,p',h=>by
  rw [zBp] at h
  cases hc:Eng.child p i c with
  | none=>rw [hc] at h;cases h
  | some q =>
   rw [hc] at h;simp only [Option.bind_some] at h
   cases hm:zAv f q rest with
   | none=>rw [hm] at h;cases h
   | some q1 =>
    rw [hm] at h;simp only [Option.bind_some] at h
    obtain ⟨x,x',h1,h2,h3⟩:=zMJ hm
    exact ⟨x,x',by rw [zB6,hc];exact h1,h2,by rw [zBp,hc];simp only [Option.bind_some];rw [h3];exact h⟩
theorem zJO:∀ {pre:zAS} {p q:PV},zAC p pre=some q→q.unlock=q→p.unlock=p
 | [],p,q,h,hq=>by simp only [zAC,Option.some.injEq] at h;subst h;exact hq
 | (i,c)::rest,p,q,h,_=>by
  rw [zB6] at h
  cases p<;>first | rfl | (simp [Eng.child,zAY] at h;done)
theorem zJK {r:Nat} {pre:zAS} {i:Nat} {p:PV} (hh:p.heavy=false→∀ q∈p.cells,q.heavy=false) (h:p.heavy=false) {c:Nat} (a:PV):zDG r pre i c p.cells a=a:=by
 have key:∀ (qs:List PV) (c:Nat),(∀ q∈qs,q.heavy=false)→zDG r pre i c qs a=a:=by
  intro qs
  induction qs with
  | nil=>intro c _;rfl
  | cons q qs ih=>intro c h;simp only [zDG,h q (by simp),cond_false];exact ih (c+1) fun x hx=>h x (by simp [hx])
 exact key _ _ (hh h)
theorem zOL {p:PV} {x:Nat×zAS} (h:x∈zBy p.cells):x∈p.ways:=by
 cases p<;>simp only [PV.cells,zBy,List.append_nil] at h<;>exact h
theorem zKO (p:PV) (i c:Nat) (rest:zAS):zDA p ((i,c)::rest)=match p with
  | .own .. => true
  | p=>match Eng.child p i c with | some q=>zDA q rest | none=>false:=by
 cases p<;>simp only [zDA,Eng.child,zAY,Option.bind_none,Option.bind_some]
 ·cases i with
  | zero=>simp only [List.getElem?_cons_zero,Option.bind_some];split<;>simp_all
  | succ i=>simp
 ·cases i with
  | zero=>simp only [List.getElem?_cons_zero,Option.bind_some];split<;>simp_all
  | succ i=>simp
theorem zMw:∀ {pre:zAS} {p q:PV} {A:Al},zDA p pre=false→zAC p pre=some q→∀ a v,A a v→zGF (zIk A p pre) q a v
 | [],p,q,A,hc,hq,a,v,h=>by
  simp only [zAC,Option.some.injEq] at hq;subst hq
  simp only [zIk]
  cases p<;>first | exact h | (simp [zDA] at hc;done)
 | (i,c)::rest,p,q,A,hc,hq,a,v,h=>by
  rw [zB6] at hq
  rw [zKO] at hc
  cases yi:Eng.child p i c with
  | none=>rw [yi] at hq;cases hq
  | some q1 =>
   rw [yi] at hq;simp only [Option.bind_some] at hq
   simp only [zIk,yi]
   cases p<;>simp only [yi] at hc<;>first | (cases hc;done) | exact zMw hc hq a v h
section
variable {P:Program} {w0 w:World} {U Φ0 Φ:Nat→Prop} {nt:Nat} {hv:Hid} {a:Act} {e e':Env} {rv:Nat→Value} {E:Nat→PV} {L:Nat→List Nat} {o:zAF}
theorem zKw {p:PV} (h:p.heavy=false):∀ q∈p.cells,q.heavy=false:=by
 intro q hq
 cases p<;>simp only [PV.cells,List.mem_singleton] at hq<;>try (subst hq;exact h)
 obtain ⟨i,hi⟩:=List.getElem?_of_mem hq
 exact zEs h hi
theorem zGn {x:PV} {c:Nat} {qs:List PV} (hq:∀ q∈qs,q.oneCell=true) (hH:qs.length≠0) (yK:c+qs.length≤x.cells.length):(zAB x c qs).cells=x.cells.take c++qs++x.cells.drop (c+qs.length):=by
 cases hx:x.isAgg with
 | true=>cases x<;>simp [PV.isAgg] at hx;rfl
 | false =>
  have j2:x.cells=[x]:=by cases x<;>first | rfl | simp [PV.isAgg] at hx
  rw [j2] at yK ⊢
  match qs,hq,hH with
  | [],_,hH=>exact absurd rfl hH
  | [q],hq,_ =>
   have vb:c=0:=by simp at yK;exact yK
   subst vb
   have he:zAB x 0 [q]=q:=by cases x<;>first | rfl | simp [PV.isAgg] at hx
   rw [he,(zBj (hq q (by simp))).1];simp
  | _::_::_,_,_=>simp only [List.length_cons,List.length_nil] at yK;omega
theorem zIA {b o k:Nat} {row:Array Value} {vs:List Value} (yB:zFf w b row) (yA:o+vs.length≤row.size) (hk:k<o∨o+vs.length≤k):(w.setRow b (zBe row o vs)).cell? ⟨b,k,none⟩=w.cell? ⟨b,k,none⟩:=by
 obtain ⟨el,jG⟩:=yB
 have j8:zIO (w.setRow b (zBe row o vs)) b (zBe row o vs):=⟨el,_,setRow_heap w _ _ _ el _ jG⟩
 rw [zDn j8,zDn ⟨el,_,jG⟩]
 have:(zBe row o vs)[k]? = (row.toList.take o++vs++row.toList.drop (o+vs.length))[k]?:=by simp [zBe]
 rw [this,zCU (by simpa using yA)]
 rcases hk with hk | hk
 ·rw [if_pos hk];simp
 ·rw [if_neg (by omega),if_neg (by omega)];simp
theorem zL3 {A:Al} {np q':PV} {nv:Value} {Li:List Nat} (h:Rep w Φ A np nv Li) (yY:Li.Nodup) {xs:List PV} (hx:zA9 np=some xs) {i c:Nat} {x:PV} (hi:xs[i]? = some x) {qs:List PV} {vs:List Value}
  (hq:∀ q∈qs,q.oneCell=true) (hO:vs.length=qs.length) (hH:qs.length≠0) (hc:c+qs.length≤x.cells.length) (hw:zAy np (xs.set i (zAB x c qs))=some q') {ad:Addr} {row:Array Value}
  (jL:zA3 nv np i c=some ad) (yB:zFf w ad.block row) (yA:ad.off+vs.length≤row.size) :
  ∀ (rest:zAS) (nv2:Value) (np2:PV),zAU (w.setRow ad.block (zBe row ad.off vs)) nv q' rest=some (nv2,np2)→np2.heavy0=true →
   (∃ j q rest',qs[j]? = some q∧q.heavy=true∧rest=(i,c+j)::rest')∨∃ np0,zAU w nv np rest=some (nv2,np0)∧zCd np0 np2:=by
 intro rest nv2 np2 hf hh
 have uD:zCd np q'∧zAY q'=some (xs.set i (zAB x c qs)):=by
  cases np<;>simp only [zA9] at hx<;>try cases hx
  ·simp only [zAy,Option.some.injEq] at hw;subst hw;exact ⟨rfl,rfl⟩
  ·have jr:i=0:=by have:=(List.getElem?_eq_some_iff.1 hi).1;simpa using this
   subst jr
   simp only [List.set_cons_zero,zAy,Option.some.injEq] at hw ⊢;subst hw;exact ⟨trivial,rfl⟩
 cases rest with
 | nil =>
  simp only [zAU,Option.some.injEq,Prod.mk.injEq] at hf
  obtain ⟨rfl,rfl⟩:=hf
  exact .inr ⟨np,rfl,uD.1⟩
 | cons y rest =>
  obtain ⟨i2,c2⟩:=y
  rw [zA1] at hf
  cases yi:Eng.child q' i2 c2 with
  | none=>rw [yi] at hf;cases hf
  | some q2 =>
   rw [yi] at hf;simp only [Option.bind_some] at hf
   cases hk:kid (w.setRow ad.block (zBe row ad.off vs)) nv q' i2 c2 with
   | none=>rw [hk] at hf;cases hf
   | some u2 =>
    rw [hk] at hf;simp only [Option.bind_some] at hf
    have vH:i<xs.length:=(List.getElem?_eq_some_iff.1 hi).1
    simp only [Eng.child,uD.2,Option.bind_some] at yi
    by_cases hin:i2=i∧c≤c2∧c2<c+qs.length
    ·obtain ⟨rfl,h1,h2⟩:=hin
     rw [List.getElem?_set_self vH] at yi
     simp only [Option.bind_some] at yi
     rw [zGn hq hH hc,zCU hc,if_neg (by omega),if_pos h2] at yi
     cases qI:q2.heavy with
     | true=>exact .inl ⟨c2-c,q2,rest,yi,qI,by rw [show c+(c2-c)=c2 by omega]⟩
     | false =>
      have:=zEu qI hf
      rw [zFG hh] at this;cases this
    ·
     have hold:∃ x2,xs[i2]? = some x2∧x2.cells[c2]? = some q2:=by
      by_cases kU:i2=i
      ·subst kU
       rw [List.getElem?_set_self vH] at yi
       simp only [Option.bind_some] at yi
       rw [zGn hq hH hc,zCU hc] at yi
       refine ⟨x,hi,?_⟩
       by_cases h1:c2<c
       ·rw [if_pos h1] at yi;exact yi
       ·rw [if_neg h1,if_neg (fun h2=>hin ⟨rfl,by omega,h2⟩)] at yi;exact yi
      ·rw [List.getElem?_set_ne (Ne.symm kU)] at yi
       cases jY:xs[i2]? with
       | none=>rw [jY] at yi;cases yi
       | some x2=>rw [jY] at yi;exact ⟨x2,rfl,yi⟩
     obtain ⟨x2,jY,wW⟩:=hold
     obtain ⟨M,ux,Lx,ad2,g1,g2,g3,g4,g5,g6⟩:=zPY h hx jY
     obtain ⟨u,La,Lu,Lb,hu,hLx,ke,_,_⟩:=g3.cell wW g5
     have jq:=g6 c2 u hu
     have hblk:ad2.block=ad.block:=by
      have:=g2
      cases np<;>simp only [zA9] at hx<;>try cases hx
      ·cases nv<;>try (simp [zA3] at jL;done)
       rename_i sa _ _
       cases sa with
       | none=>cases jL
       | some sa =>
        simp only [zA3,Option.some.injEq] at jL
        have:=this 0
        simp only [zA3,Option.some.injEq] at this
        rw [← jL]
        exact (congrArg Addr.block this).symm
      ·cases nv<;>try (cases i<;>simp [zA3] at jL;done)
       rename_i sa
       cases sa with
       | none=>cases i<;>cases jL
       | some sa =>
        have jr:i=0:=by have:=(List.getElem?_eq_some_iff.1 hi).1;simpa using this
        have qr:i2=0:=by have:=(List.getElem?_eq_some_iff.1 jY).1;simpa using this
        subst jr;subst qr
        simp only [zA3,Option.some.injEq] at jL
        have:=this 0
        simp only [zA3,Option.some.injEq] at this
        rw [← jL]
        exact (congrArg Addr.block this).symm
     have yy:kid (w.setRow ad.block (zBe row ad.off vs)) nv q' i2 c2=kid w nv np i2 c2:=by
      have hc2l:c2<x2.cells.length:=(List.getElem?_eq_some_iff.1 wW).1
      cases np<;>simp only [zA9] at hx<;>try cases hx
      case own sz =>
       simp only [zAy,Option.some.injEq] at hw;subst hw
       cases nv<;>try (simp [zA3] at jL;done)
       rename_i sa _ _
       cases sa with
       | none=>cases jL
       | some sa =>
        simp only [zA3,Option.some.injEq] at jL;subst jL
        simp only [kid]
        refine zIA yB yA ?_
        obtain ⟨hh1,_⟩ | ⟨_,_,_,_,_,_,_,_,_,_,_,yD,_⟩:=h
        ·subst hh1;simp at hi
        ·have e1:=yD x (List.mem_of_getElem? hi)
         have e2:=yD x2 (List.mem_of_getElem? jY)
         simp only [zAs]
         rw [hO]
         by_cases kU:i2=i
         ·subst kU
          have:¬ (c≤c2∧c2<c+qs.length):=fun h=>hin ⟨rfl,h⟩
          omega
         ·rcases Nat.lt_or_gt_of_ne kU with yL | hgt
          ·have:=Nat.mul_le_mul_right x.cells.length (Nat.succ_le_of_lt yL)
           rw [Nat.succ_mul,e1] at this;left;omega
          ·have:=Nat.mul_le_mul_right x.cells.length (Nat.succ_le_of_lt hgt)
           rw [Nat.succ_mul,e1] at this;right;omega
      case box q0 =>
       have jr:i=0:=by have:=(List.getElem?_eq_some_iff.1 hi).1;simpa using this
       have qr:i2=0:=by have:=(List.getElem?_eq_some_iff.1 jY).1;simpa using this
       subst jr;subst qr
       simp only [List.set_cons_zero,zAy,Option.some.injEq] at hw;subst hw
       cases nv<;>try (simp [zA3] at jL;done)
       rename_i sa
       cases sa with
       | none=>cases jL
       | some sa =>
        simp only [zA3,Option.some.injEq] at jL;subst jL
        simp only [kid]
        refine zIA yB yA ?_
        simp only [zAs]
        rw [hO]
        have:¬ (c≤c2∧c2<c+qs.length):=fun h=>hin ⟨rfl,h⟩
        omega
     rw [yy,jq] at hk;cases hk
     have wL:=zE1 (w':=w.setRow ad.block (zBe row ad.off vs)) (pre:=rest) ke fun t ht=>setRow_other w _ t _ fun hc=>by
      rw [g1,hblk] at yY
      exact (List.nodup_cons.1 yY).1 (g4 _ (by rw [hLx,← hc];simp [ht]))
     rw [wL] at hf
     refine .inr ⟨np2,?_,zCd.refl hh⟩
     rw [zA1]
     have:Eng.child np i2 c2=some q2:=by simp only [Eng.child,zG8 hx,Option.bind_some,jY,wW]
     rw [this];simp only [Option.bind_some];rw [jq];exact hf
theorem St.write (S:St w0 U Φ0 nt hv a w e Φ rv E L) {g r:Nat} {pre:zAS} {i c:Nat} {sh:Option Nat} (hg:zAb≤g) {va:Value} (ha:Rep w Φ (zA2 w rv E) (.addr r pre i c sh) va [])
  (j1:(E g).heavy=false∨∀ x∈(E g).ways,zAQ r pre x.1 x.2=false∨x.2.length≤pre.length) (yI:∀ q∈(E g).cells,q.oneCell=true) (hH:(E g).cells.length≠0)
  (hva:zCf (rv g)=(E g).isAgg) {k:PM} (h:(zDM r pre i c (E g).cells (.wcells r pre i c (E g).cells k)).run o e=some e') :
  ∃ b row e1 E1 L1,va = .pointer (some b)∧b.spot=none∧zFf w b.block row∧b.off+(rv g).cells.size≤row.size∧(∀ v∈(rv g).cells.toList,v.oneCell'=true)∧k.run o e1=some e' ∧
   St w0 U Φ0 nt hv a (w.setRow b.block (zBe row b.off (rv g).cells.toList)) e1 Φ rv E1 L1∧E1 g = .bad∧(∀ s,zAb≤s→s≠g→E s = .bad→E1 s = .bad)∧(∀ s,zAb≤s→s≠g→E1 s=(E s).mapW (zDG r pre i c (E g).cells))∧b.block∈L r:=by
 obtain ⟨e1,h1,yT⟩:=zGH _ _ h
 have hf:=zKK r pre i (E g).cells c
 have jI:=ha.2
 obtain ⟨hr,b,rfl,yS,hn⟩:=ha.2
 simp only [PM.run] at h1
 cases w8:zBL (e1.get r) pre i c (E g).cells with
 | none=>rw [w8] at h1;cases h1
 | some root =>
  rw [w8] at h1;simp only at h1
  have vc:e1.get r=(E r).mapW (zDG r pre i c (E g).cells):=by rw [yT r,S.env r hr]
  rw [vc] at w8
  simp only [zBL] at w8
  cases yP:(zDA ((E r).mapW (zDG r pre i c (E g).cells)) pre && !(zBy (E g).cells).isEmpty) with
  | true=>rw [yP] at w8;cases w8
  | false =>
   rw [yP] at w8;simp only [cond_false] at w8
   obtain ⟨np,q',ga,kA,ju⟩:=zMJ w8
   cases hx:zA9 np with
   | none=>rw [hx] at kA;cases kA
   | some xs =>
    rw [hx] at kA;simp only at kA
    cases hi:xs[i]? with
    | none=>rw [hi] at kA;cases kA
    | some x =>
     rw [hi] at kA;simp only at kA
     cases yK:Nat.ble (c+(E g).cells.length) x.cells.length with
     | false=>rw [yK] at kA;cases kA
     | true =>
      rw [yK] at kA;simp only [cond_true] at kA
      have yK:=Nat.le_of_ble_eq_true yK
      have jT:((E r).mapW (zDG r pre i c (E g).cells)).unlock=(E r).mapW (zDG r pre i c (E g).cells):=zJO ga (by cases np<;>first | rfl | cases hx)
      obtain ⟨nv,Li,ud,hI,qt,ul,vd⟩:=S.conf.mod hr hf jT ga
      have js:=(S.conf.rep g).cellsAll hva
      have vI:(rv g).cells.toList.length=(E g).cells.length:=js.length
      have qJ:∀ v∈(rv g).cells.toList,v.oneCell'=true:=by
       intro v hv
       obtain ⟨j,hj⟩:=List.getElem?_of_mem hv
       have jf:j<(E g).cells.length:=by rw [← vI];exact (List.getElem?_eq_some_iff.1 hj).1
       obtain ⟨v',La,Li',Lb,yC,_,yx,_⟩:=js.split (i:=j) (List.getElem?_eq_getElem jf)
       rw [hj] at yC;cases yC
       exact zB7 (fun a v hw h=>zC4 hw h) yx (yI _ (List.getElem_mem jf))
      have qu:=zKw (p:=E g)
      have w9:q'.isAgg=false∧q'.unlock=q'∧q'.isTup=false∧np.isAgg=false∧zCd np q':=by
       cases np<;>simp only [zA9] at hx<;>try cases hx
       ·simp only [zAy,Option.some.injEq] at kA;subst kA;exact ⟨rfl,rfl,rfl,rfl,rfl⟩
       ·simp only [zAy] at kA
        split at kA<;>first | (cases kA;done) | skip
        ·simp_all
        ·cases kA;exact ⟨rfl,rfl,rfl,rfl,trivial⟩
        ·simp_all
      obtain ⟨ad,row,La,Lm,Lb,k1,k2,k3,k4,uJ,jv⟩:=zSl hI hx hi yI qJ vI hH yK kA
      have hfo':∃ np0,zAU w (rv r) (E r).unlock pre=some (nv,np0)∧zCd np0 np:=by
       rw [← jT,zDr (zDx hf)] at ud
       exact zCV (zDx hf) ud (by cases np<;>first | rfl | cases hx)
      obtain ⟨np0,hfo0,uD⟩:=hfo'
      have kN:=hn nv np0 hfo0 ad (by rw [zEn uD];exact k1)
      subst kN
      have jO:b.block∈L r:=ul _ (by rw [uJ];simp)
      have qv:r≠g:=by omega
      have yk:∀ t,t≠b.block→(w.setRow b.block (zBe row b.off (rv g).cells.toList)).heap[t]? = w.heap[t]?:=fun t ht=>setRow_other w _ t _ ht
      have j8:zFf (w.setRow b.block (zBe row b.off (rv g).cells.toList)) b.block (zBe row b.off (rv g).cells.toList):=by
       obtain ⟨el,jG⟩:=k3;exact ⟨el,setRow_heap w _ _ _ el _ jG⟩
      have hnotL:∀ t,t≠r→b.block∉L t:=fun t ht hm=>S.conf.disj t r ht _ hm jO
      have hΦ:zDo w (w.setRow b.block (zBe row b.off (rv g).cells.toList)) Φ Φ:=fun t ht=>⟨ht,yk t fun hc=>(S.conf.own r _ jO).2.1 (hc▸ht)⟩
      have ve:=qt
      rw [uJ] at ve
      have qw:∀ t∈La++Lb,t≠b.block:=by
       intro t ht hc
       subst hc
       refine (List.nodup_cons.1 ve).1 ?_
       simp at ht ⊢;rcases ht with h | h<;>simp [h]
      have hstay:∀ a v,a.isWay=true→(∀ x∈a.ways,x∈(E g).ways)→zA2 w rv E a v→Eng.stays (zDG r pre i c (E g).cells) (zA2 w rv E) a v:=by
       intro a v hw hx ha
       refine ⟨ha,?_⟩
       rcases j1 with j1 | j1
       ·exact zJK qu j1 a
       ·exact zIR _ _ fun x qp=>j1 x (hx x qp)
      have hcont:∀ A:Al,(∀ a u,a.isWay=true→Eng.stays (zDG r pre i c (E g).cells) (zA2 w rv E) a u→A a u) →
        zAZ (w.setRow b.block (zBe row b.off (rv g).cells.toList)) Φ (zGF (zIk A ((E r).mapW (zDG r pre i c (E g).cells)) pre) np) (E g).cells (rv g).cells.toList (L g):=by
       intro A hA
       have h1:zAZ (w.setRow b.block (zBe row b.off (rv g).cells.toList)) Φ (zA2 w rv E) (E g).cells (rv g).cells.toList (L g) :=
        js.mono hΦ (fun _ _ _ h=>h) fun t ht=>yk t fun hc=>hnotL g (Ne.symm qv) (hc▸ht)
       refine h1.ways _ _ _ fun a v hw hx ha=>?_
       simp only [Bool.and_eq_false_iff] at yP
       rcases yP with yP | yP
       ·exact zMw yP ga a v (hA a v hw (hstay a v hw (fun y hy=>zOL (hx y hy)) ha))
       ·have h0:zBy (E g).cells=[]:=by simpa using yP
        rw [h0] at hx
        have h1:=zJn hw ha
        cases ui:a.ways with
        | nil=>exact absurd ui h1
        | cons z zs=>have:=hx z (by rw [ui];simp);cases this
      obtain ⟨kk1,kk2⟩:=zBJ w9.2.1 w9.2.2.1 ju
      obtain ⟨L1,hL1,hconf⟩:=vd (fun s=>s==g) (w.setRow b.block (zBe row b.off (rv g).cells.toList)) q' root (b.block::(La++L g++Lb)) (fun s hs=>by have:=eq_of_beq hs;omega)
       (fun _=>by rw [w9.1,w9.2.2.2.1]) ju kk1
       (fun A hA=>jv (zMg hA) hΦ (fun t ht=>yk t (qw t ht)) j8 (hcont A hA))
       (by
        have uc:∀ t∈L g,t∉L r:=fun t ht=>S.conf.disj g r (Ne.symm qv) t ht
        have hin:∀ t,t=b.block∨t∈La++Lb→t∈L r:=by
         intro t ht
         rcases ht with rfl | ht
         ·exact jO
         ·exact ul t (by rw [uJ];simp at ht ⊢;rcases ht with h | h<;>simp [h])
        have vV:=(List.nodup_cons.1 ve).2
        simp only [List.nodup_append] at vV
        refine List.nodup_cons.2 ⟨fun hm=>?_,?_⟩
        ·simp only [List.mem_append] at hm
         rcases hm with (hm | hm) | hm
         ·exact qw _ (by simp [hm]) rfl
         ·exact uc _ hm jO
         ·exact qw _ (by simp [hm]) rfl
        ·simp only [List.nodup_append]
         refine ⟨⟨vV.1.1,S.conf.nodup g,fun x hx y hy e=>uc y hy (e▸hin x (.inr (by simp [hx])))⟩,vV.2.1,fun x hx y hy e=>?_⟩
         simp only [List.mem_append] at hx
         rcases hx with hx | hx
         ·exact vV.2.2 x (by simp [hx]) y hy e
         ·exact uc x hx (e▸hin y (.inr (by simp [hy]))))
       (fun t ht=>by
        simp only [List.mem_cons,List.mem_append] at ht
        rcases ht with rfl | (ht | ht) | ht
        ·exact .inl (by rw [uJ];simp)
        ·exact .inl (by rw [uJ];simp [ht])
        ·exact .inr (.inl ⟨g,ht,by simp⟩)
        ·exact .inl (by rw [uJ];simp [ht]))
       (by rw [setRow_size];exact Nat.le_refl _)
       (fun t _ ht _=>yk t fun hc=>ht (by rw [uJ,hc];simp))
       (fun rest nv2 np2 jk qI=>by
        rcases zL3 hI qt hx hi yI vI hH yK kA k1 k3 k4 rest nv2 np2 jk qI with ⟨j,q,rest',h1,h2,h3⟩ | h3
        ·refine .inl fun a ha um=>?_
         subst h3
         refine zJB _ _ _ h1 h2 a ha rest' um (fun y hy=>?_) (fun ys k hy=>?_)
         ·subst hy;simp only [zA4,Prod.mk.injEq] at um;have:=um.2;simp at this
         ·subst hy;simp only [zA4,Prod.mk.injEq] at um;have:=um.2;simp at this
        ·exact .inr h3)
       ⟨rfl,rfl,rfl⟩
      refine ⟨b,row,e1.set r root,_,L1,rfl,yS,k3,by rw [show (rv g).cells.size=(rv g).cells.toList.length by simp];exact k4,qJ,h1,S.turn hconf (fun s hs=>?_) (fun _ _=>rfl) (fun d ps hd hp=>?_),?_,?_⟩
      ·rw [Env.get_set]
       by_cases yV:s=r
       ·subst yV;simp
       ·have:(s==g)=false:=by simp;omega
        simp only [yV,if_false,this,Bool.false_eq_true]
        rw [yT s,S.env s hs]
      ·by_cases jn:d=r
       ·simp only [jn,if_true] at hp;rw [hp] at kk2;cases kk2
       ·have:(d==g)=false:=by simp only [zAb] at hg;simp;omega
        simp only [jn,if_false,this,Bool.false_eq_true] at hp
        refine zDS (fun p hp=>?_) hp
        rcases hf p with h | ⟨_,h⟩
        ·rw [h];cases p<;>first | rfl | cases hp
        ·rw [h];rfl
      ·simp [Ne.symm qv]
      ·refine ⟨fun s hs yb hb=>?_,fun s hs yb=>?_,jO⟩
       ·have:s≠r:=by omega
        simp [this,yb,hb,PV.mapW]
       ·have:s≠r:=by omega
        simp [this,yb]
end
end Go.Eng
namespace Go.Eng
open Go
section
variable {P:Program} {w0 w:World} {U Φ0 Φ:Nat→Prop} {nt:Nat} {hv:Hid} {a:Act} {e e':Env} {rv:Nat→Value} {E:Nat→PV} {L:Nat→List Nat} {o:zAF}
theorem zCt {r:Nat} {pre:zAS} {q:PV} {k:PM} (h:(PM.wnode r pre q k).run o e=some e'):∃ root,(e.get r).isLock=false∧zAv (fun _=>some q) (e.get r) pre=some root∧k.run o (e.set r root)=some e':=by
 simp only [PM.run] at h
 cases hl:(e.get r).isLock with
 | true=>rw [hl] at h;cases h
 | false =>
  rw [hl] at h;simp only [cond_false] at h
  cases hm:zAv (fun _=>some q) (e.get r) pre with
  | none=>rw [hm] at h;cases h
  | some root=>rw [hm] at h;exact ⟨root,rfl,rfl,h⟩
theorem zN3 (S:St w0 U Φ0 nt hv a w e Φ rv E L) {p:PV} {v:Value} (hp:Rep w Φ (zA2 w rv E) p v []) {k:PV→PM} {k2:PM} (h:(zM3 p k k2).run o e=some e') :
  k2.run o e=some e'∨(k p).run o e=some e'∨∃ r pre q root,r<zAb∧(E r).unlock=E r∧zAC (E r) pre=some q∧q.oneCell=true∧p.oneCell=true∧zAv (fun _=>some .bad) (E r) pre=some root∧root.unlock=root∧root.isTup=false ∧
   (k q).run o (e.set r root)=some e'∧∀ nv,zAU w (rv r) (E r) pre=some (nv,q)→nv=v:=by
 cases p<;>simp only [zM3] at h<;>try (exact .inr (.inl h))
 case bor r pre z lo n =>
  obtain ⟨q,hq,h1⟩:=zBT h
  obtain ⟨_,hr,⟨b,cap,yC,_⟩,hn⟩:=hp
  split at h1
  ·rename_i sz xs
   cases hc:(Nat.beq lo 0&&Nat.beq n xs.length) with
   | false=>rw [hc] at h1;exact .inl h1
   | true =>
    rw [hc] at h1;simp only [cond_true] at h1
    simp only [Bool.and_eq_true] at hc
    have uM:=Nat.eq_of_beq_eq_true hc.1
    have gb:=Nat.eq_of_beq_eq_true hc.2
    subst uM
    obtain ⟨root,hl,hm,h2⟩:=zCt h1
    have yG:=zBA hl
    rw [yG,← S.env r hr] at hq
    rw [← S.env r hr] at yG hm
    obtain ⟨k1,k2'⟩:=zBJ (q' := .bad) rfl rfl hm
    refine .inr (.inr ⟨r,pre,_,root,hr,yG,hq,rfl,rfl,hm,k1,k2',h2,fun nv hf=>?_⟩)
    obtain ⟨sz2,xs2,g1,g2,g3⟩:=hn nv _ (by rw [yG];exact hf) rfl
    cases g1;subst g2
    obtain ⟨nv',Li,yn,_,hI⟩:=zBG (S.conf.rep r) hq
    rw [hf] at yn;cases yn
    obtain ⟨q1,q2,q3⟩ | ⟨x,m,c,us,M,q0,q1,q2,_⟩:=hI
    ·subst q3;exact g3.1.symm
    ·subst q1
     simp only [zBV] at g3
     rw [g3.1,gb]
     congr 2
     ·cases x;simp_all [zAs]
  ·exact .inl h1
 case bmap r pre =>
  obtain ⟨q,hq,h1⟩:=zBT h
  obtain ⟨_,hr,⟨b,yC⟩,hn⟩:=hp
  split at h1
  ·rename_i es
   obtain ⟨root,hl,hm,h2⟩:=zCt h1
   have yG:=zBA hl
   rw [yG,← S.env r hr] at hq
   rw [← S.env r hr] at yG hm
   obtain ⟨k1,k2'⟩:=zBJ (q' := .bad) rfl rfl hm
   exact .inr (.inr ⟨r,pre,_,root,hr,yG,hq,rfl,rfl,hm,k1,k2',h2,fun nv hf=>(hn nv _ (by rw [yG];exact hf) _ rfl).symm⟩)
  ·exact .inl h1
theorem St.taken (S:St w0 U Φ0 nt hv a w e Φ rv E L) {g r:Nat} (hg:zAb≤g) (hr:r<zAb) {pre:zAS} {q root:PV} (yG:(E r).unlock=E r) (hq:zAC (E r) pre=some q) (h1:q.oneCell=true)
  (hm:zAv (fun _=>some .bad) (E r) pre=some root) (hk:root.unlock=root) (ua:root.isTup=false) :
  ∃ nv Li,zAU w (rv r) (E r) pre=some (nv,q)∧Rep w Φ (zA2 w rv E) q nv Li∧Li.Nodup∧(∀ b∈Li,b∉L g)∧∀ (p':PV) (v':Value) (Lg:List Nat),Rep w Φ (zA2 w rv E) p' v' Lg→Lg.Nodup→(∀ b∈Lg,b∈Li∨b∈L g) →
   ∃ L',St w0 U Φ0 nt hv a w (e.set r root) Φ (upd rv g v') (upd (upd E r root) g p') L'∧∀ s,zAb≤s→s≠g→L' s=L s:=by
 obtain ⟨nv,Li,g1,g2,g3,g4,g5⟩:=S.conf.takeNode hr hg yG hq (zBj h1).2 hm hk
 refine ⟨nv,Li,g1,g2,g3,fun b hb jS=>S.conf.disj r g (by omega) b (g4 b hb) jS,fun p' v' Lg q1 q2 q3=>?_⟩
 obtain ⟨L',hc,hL⟩:=g5 p' v' Lg q1 q2 q3
 refine ⟨L',S.turn hc (fun s hs=>?_) (fun s hs=>zAf (by omega)) (fun d ps hd hp=>?_),fun s hs yb=>hL s (by omega) yb⟩
 ·rw [zAf (by omega),Env.get_set]
  by_cases yV:s=r
  ·subst yV;rw [zAh,if_pos rfl]
  ·rw [zAf yV,if_neg yV];exact S.env s hs
 ·rw [zAf (by simp only [zAb] at hg;omega)] at hp
  by_cases jn:d=r
  ·subst jn;rw [zAh] at hp;rw [hp] at ua;cases ua
  ·rw [zAf jn] at hp;exact ⟨ps,hp,rfl⟩
structure Worked (w0:World) (U Φ0:Nat→Prop) (nt:Nat) (hv:Hid) (a:Act) (w:World) (rv:Nat→Value) (E:Nat→PV) (g:Nat) (e1:Env) (rv1:Nat→Value) (E1:Nat→PV):Prop where
 st:∃ Φ1 L1,St w0 U Φ0 nt hv a w e1 Φ1 rv1 E1 L1
 val:rv1 g=rv g
 low:∀ s,s<zAb→rv1 s=rv s
 rest:∀ s,zAb≤s→s≠g→E1 s=E s∧rv1 s=rv s
 agg:(E1 g).isAgg=(E g).isAgg
 len:(E1 g).cells.length=(E g).cells.length
theorem zMe {p:PV} (h:p.isWay=true):p.heavy=false:=by cases p<;>first | rfl | cases h
theorem zOy (S:St w0 U Φ0 nt hv a w e Φ rv E L) {g:Nat} (hg:zAb≤g) {k:PV→PM} (h:(zMq (E g) k).run o e=some e'):∃ e1 rv1 E1,(k (E1 g)).run o e1=some e'∧Worked w0 U Φ0 nt hv a w rv E g e1 rv1 E1:=by
 have vf:Worked w0 U Φ0 nt hv a w rv E g e rv E:=⟨⟨Φ,L,S⟩,rfl,fun _ _=>rfl,fun _ _ _=>⟨rfl,rfl⟩,rfl,rfl⟩
 by_cases vJ:(E g).isWay=true
 ·have hI:=S.conf.rep g
  have hL:L g=[]:=zDl _ _ _ (zMe vJ) hI
  rw [hL] at hI
  rcases zN3 S hI h with h1 | h1 | ⟨r,pre,q,root,c1,c2,c3,c4,c5,c6,c7,c8,c9,c10⟩
  ·obtain ⟨e1,Φ1,E1,L1,h2,S1,_,h3,_,_,h4,h5⟩:=zIz hg (Nat.le_refl _) zDL S h1
   exact ⟨e1,rv,E1,h2,⟨Φ1,L1,S1⟩,rfl,fun _ _=>rfl,fun s hs hH=>⟨h3 s hs hH,rfl⟩,h4,h5⟩
  ·exact ⟨e,rv,E,h1,vf⟩
  ·obtain ⟨nv,Li,g1,g2,g3,g4,g5⟩:=S.taken hg c1 c2 c3 c4 c6 c7 c8
   have hnv:=c10 nv g1
   obtain ⟨L',S',v4⟩:=g5 q nv Li g2 g3 (fun b hb => .inl hb)
   have js:r≠g:=by omega
   refine ⟨_,_,_,by rw [zAh];exact c9,⟨Φ,L',S'⟩,by rw [zAh,hnv],fun s hs=>zAf (by omega),fun s hs hH=>?_,?_,?_⟩
   ·rw [zAf hH,zAf hH,zAf (by omega)];exact ⟨rfl,rfl⟩
   ·rw [zAh,(zBj c4).2,(zBj c5).2]
   ·rw [zAh,(zBj c4).1,(zBj c5).1];rfl
 ·have:(k (E g)).run o e=some e':=by
   revert h
   simp only [zMq,zM3]
   cases hE:E g<;>first | (rw [hE] at vJ;exact absurd rfl vJ) | exact fun h=>h
  exact ⟨e,rv,E,this,vf⟩
theorem Worked.self (S:St w0 U Φ0 nt hv a w e Φ rv E L) {g:Nat}:Worked w0 U Φ0 nt hv a w rv E g e rv E:=⟨⟨Φ,L,S⟩,rfl,fun _ _=>rfl,fun _ _ _=>⟨rfl,rfl⟩,rfl,rfl⟩
theorem Worked.trans {g:Nat} {e1 e2:Env} {rv1 rv2:Nat→Value} {E1 E2:Nat→PV} (h1:Worked w0 U Φ0 nt hv a w rv E g e1 rv1 E1) (h2:Worked w0 U Φ0 nt hv a w rv1 E1 g e2 rv2 E2):Worked w0 U Φ0 nt hv a w rv E g e2 rv2 E2 :=
 ⟨h2.st,h2.val.trans h1.val,fun s hs=>(h2.low s hs).trans (h1.low s hs),fun s hs hH=>⟨(h2.rest s hs hH).1.trans (h1.rest s hs hH).1,(h2.rest s hs hH).2.trans (h1.rest s hs hH).2⟩,h2.agg.trans h1.agg,h2.len.trans h1.len⟩
theorem zQW (S:St w0 U Φ0 nt hv a w e Φ rv E L) {g:Nat} (hg:zAb≤g) {k:PV→PM} (h:(zMs zAb zDL (E g) k).run o e=some e'):∃ e1 rv1 E1,(k (E1 g)).run o e1=some e'∧Worked w0 U Φ0 nt hv a w rv E g e1 rv1 E1:=by
 obtain ⟨e1,Φ1,E1,L1,h2,S1,_,h3,_,_,h4,h5⟩:=zIz hg (Nat.le_refl _) zDL S h
 exact ⟨e1,rv,E1,h2,⟨Φ1,L1,S1⟩,rfl,fun _ _=>rfl,fun s hs hH=>⟨h3 s hs hH,rfl⟩,h4,h5⟩
theorem zG5 {g:Nat} (hg:zAb≤g) {k:PV→PM}:∀ (ps done:List PV) {e:Env} {Φ:Nat→Prop} {rv:Nat→Value} {E:Nat→PV} {L:Nat→List Nat},St w0 U Φ0 nt hv a w e Φ rv E L→E g = .agg (done++ps) →
  (zIV ps fun qs=>k (.agg (done++qs))).run o e=some e'→∃ e1 rv1 E1,(k (E1 g)).run o e1=some e'∧Worked w0 U Φ0 nt hv a w rv E g e1 rv1 E1
 | [],done,e,Φ,rv,E,L,S,hE,h=>by
  refine ⟨e,rv,E,?_,.self S⟩
  rw [hE];exact h
 | p :: ps,done,e,Φ,rv,E,L,S,hE,h=>by
  have hI:=S.conf.rep g
  rw [hE] at hI
  obtain ⟨vs,yC,hr⟩:=hI
  have hpi:(done++p::ps)[done.length]? = some p:=by simp
  obtain ⟨v,La,Lp,Lb,hvi,hL,uN,yU,_⟩:=hr.split hpi
  simp only [zIV] at h
  by_cases vJ:p.isWay=true
  ·have hLp:=zDl _ _ _ (zMe vJ) uN
   subst hLp
   rcases zN3 S uN h with h1 | h1 | ⟨r,pre,q,root,c1,c2,c3,c4,c5,c6,c7,c8,c9,c10⟩
   ·cases h1
   ·exact zG5 hg ps (done++[p]) S (by rw [hE];simp) (by simpa using h1)
   ·obtain ⟨nv,Li,g1,g2,g3,g4,g5⟩:=S.taken hg c1 c2 c3 c4 c6 c7 c8
    have hnv:=c10 nv g1
    subst hnv
    have yY:=S.conf.nodup g
    rw [hL] at yY
    simp only [List.append_nil,List.nodup_append] at yY
    have j8:=yU w Φ (zA2 w rv E) q Li (fun _ _ _ h=>h) zDo.refl (fun _ _=>rfl) g2
    have jA:∀ b∈La++Lb,b∈L g:=fun b hb=>by rw [hL];simpa using hb
    obtain ⟨L',S',v4⟩:=g5 (.agg ((done++p::ps).set done.length q)) (rv g) (La++Li++Lb) ⟨vs,yC,j8⟩
     (by
      simp only [List.nodup_append]
      refine ⟨⟨yY.1,g3,fun x hx y hy e=>g4 y hy (jA y (by rw [← e];simp [hx]))⟩,yY.2.1,fun x hx y hy e=>?_⟩
      rcases List.mem_append.1 hx with hx | hx
      ·exact yY.2.2 x hx y hy e
      ·exact g4 x hx (jA x (by rw [e];simp [hy])))
     (fun b hb=>by
      simp only [List.mem_append] at hb
      rcases hb with (hb | hb) | hb
      ·exact .inr (jA b (by simp [hb]))
      ·exact .inl hb
      ·exact .inr (jA b (by simp [hb])))
    have js:r≠g:=by omega
    have hEq:(done++p::ps).set done.length q=done++q::ps:=by simp
    obtain ⟨e1,rv1,E1,h2,W⟩:=zG5 hg ps (done++[q]) S' (by rw [zAh,hEq];simp) (by simpa using c9)
    refine ⟨e1,rv1,E1,h2,?_⟩
    have W0:Worked w0 U Φ0 nt hv a w rv E g (e.set r root) (upd rv g (rv g)) (upd (upd E r root) g (.agg ((done++p::ps).set done.length q))):=by
     refine ⟨⟨Φ,L',S'⟩,zAh,fun s hs=>zAf (by omega),fun s hs hH=>?_,?_,?_⟩
     ·rw [zAf hH,zAf hH,zAf (by omega)];exact ⟨rfl,rfl⟩
     ·rw [zAh,hE];rfl
     ·rw [zAh,hE];simp [PV.cells]
    exact W0.trans W
  ·have:(zIV ps fun qs=>k (.agg (done++p::qs))).run o e=some e':=by
    revert h
    cases p<;>first | (exact absurd rfl vJ) | exact fun h=>h
   exact zG5 hg ps (done++[p]) S (by rw [hE];simp) (by simpa using this)
theorem zMQ (S:St w0 U Φ0 nt hv a w e Φ rv E L) {g:Nat} (hg:zAb≤g) {tk:Bool} {k:PV→PM} (h:(zFI tk (E g) k).run o e=some e'):∃ e1 rv1 E1,(k (E1 g)).run o e1=some e'∧Worked w0 U Φ0 nt hv a w rv E g e1 rv1 E1:=by
 have plain:(k (E g)).run o e=some e'→∃ e1 rv1 E1,(k (E1 g)).run o e1=some e'∧Worked w0 U Φ0 nt hv a w rv E g e1 rv1 E1:=fun h=>⟨e,rv,E,h,.self S⟩
 have ice:(zMs zAb zDL (E g) k).run o e=some e'→∃ e1 rv1 E1,(k (E1 g)).run o e1=some e'∧Worked w0 U Φ0 nt hv a w rv E g e1 rv1 E1:=zQW S hg
 have take:(zMq (E g) k).run o e=some e'→∃ e1 rv1 E1,(k (E1 g)).run o e1=some e'∧Worked w0 U Φ0 nt hv a w rv E g e1 rv1 E1:=zOy S hg
 cases hE:E g<;>rw [hE] at h plain ice take<;>simp only [zFI] at h<;>try (exact plain h)
 case agg cs =>
  cases tk with
  | true=>exact zG5 hg cs [] S (by rw [hE];rfl) (by simpa using h)
  | false =>
   simp only [cond_false] at h
   revert h
   cases cs.any _ with
   | true=>exact ice
   | false=>exact plain
 case bor=>cases tk<;>first | exact take h | exact ice h
 case bmap=>cases tk<;>first | exact take h | exact ice h
 case bsl=>exact ice h
theorem St.iced (S:St w0 U Φ0 nt hv a w e Φ rv E L) {g:Nat} (hg:zAb≤g):∃ Φ1 L1,St w0 U Φ0 nt hv a w e Φ1 rv (upd E g (zA0 (E g))) L1:=by
 have hA:∀ a u,a.isWay=true→zA2 w rv E a u→zA2 w rv (upd E g (zA0 (E g))) a u:=by
  intro a u _ ha
  have:=zCX ha
  exact zCF S.conf zCe ha (by rw [zAf (by omega),zBg]) rfl (fun _ _=>rfl)
 have hΦ:zDo w w Φ (fun b=>Φ b∨b∈L g):=fun b hb=>⟨.inl hb,rfl⟩
 have hc:Conf w0 U Φ0 w (fun b=>Φ b∨b∈L g) rv (upd E g (zA0 (E g))) (upd L g []):=by
  refine ⟨fun s=>?_,fun s=>?_,fun s s' hH b hb yF=>?_,fun s b hb=>?_,fun b hb=>?_,fun b hb => .inl (S.conf.frz0 b hb),S.conf.size,S.conf.kept,S.conf.os,S.conf.tape,S.conf.output⟩
  ·by_cases hs:s=g
   ·subst hs;rw [zAh,zAh]
    exact (zD2 (fun b hb => .inl hb) _ _ _ (fun b hb => .inr hb) (S.conf.rep s)).mono zDo.refl hA (by simp)
   ·rw [zAf hs,zAf hs];exact (S.conf.rep s).mono hΦ hA (fun _ _=>rfl)
  ·by_cases hs:s=g
   ·subst hs;rw [zAh];exact List.nodup_nil
   ·rw [zAf hs];exact S.conf.nodup s
  ·by_cases hs:s=g
   ·subst hs;rw [zAh] at hb;cases hb
   ·rw [zAf hs] at hb
    by_cases jN:s'=g
    ·subst jN;rw [zAh] at yF;cases yF
    ·rw [zAf jN] at yF;exact S.conf.disj s s' hH b hb yF
  ·by_cases hs:s=g
   ·subst hs;rw [zAh] at hb;cases hb
   ·rw [zAf hs] at hb
    have:=S.conf.own s b hb
    exact ⟨this.1,fun hp=>hp.elim this.2.1 fun hbg=>S.conf.disj s g hs b hb hbg,this.2.2⟩
  ·rcases hb with hb | hb
   ·exact S.conf.frz b hb
   ·have:=S.conf.own g b hb;exact ⟨this.1,.inr this.2.2⟩
 exact ⟨_,_,S.turn hc (fun s hs=>by rw [zAf (by omega)];exact S.env s hs) (fun _ _=>rfl) fun d ps hd hp=>by
  rw [zAf (by simp only [zAb] at hg;omega)] at hp;exact ⟨ps,hp,rfl⟩⟩
theorem St.clear (S:St w0 U Φ0 nt hv a w e Φ rv E L):Fr w0 U Φ0 nt hv a w e:=by
 have hc:=S.conf.drop fun s=>decide (zAb≤s)
 refine ⟨_,_,_,_,S.turn hc (fun s hs=>?_) (fun _ _=>rfl) (fun d ps hd hp=>?_),fun s hs=>?_⟩
 ·have:decide (zAb≤s)=false:=by simp;omega
  simp only [this,Bool.false_eq_true,if_false];exact S.env s hs
 ·have:decide (zAb≤d)=false:=decide_eq_false (by simp only [zAb];omega)
  simp only [this,Bool.false_eq_true,if_false] at hp;exact ⟨ps,hp,rfl⟩
 ·simp [hs]
theorem zIm {A:Al} {sz lo n:Nat} {xs:List PV} {nv v:Value} {Li:List Nat} (h:Rep w Φ A (.own sz xs) nv Li) (yK:lo+n≤xs.length) (hs:zBV v nv sz lo n) :
  ∃ Lg,Rep w Φ A (.own sz ((xs.drop lo).take n)) v Lg∧(∀ b∈Lg,b∈Li)∧(Li.Nodup→Lg.Nodup):=by
 obtain ⟨h1,h2,h3⟩ | ⟨x,m,c,us,M,rfl,h1,h2,h3,h4,h5,h6,⟨h7,uA⟩,h8,h9⟩:=h
 ·subst h1;subst h3
  exact ⟨[],.inl ⟨by simp,rfl,hs.1⟩,by simp,fun _=>List.nodup_nil⟩
 ·subst h1
  simp only [zBV] at hs
  obtain ⟨rfl,yQ⟩:=hs
  have yz:us.length=xs.length:=by have:=congrArg List.length uA;simpa using this
  obtain ⟨M1,M23,rfl,_,hB⟩:=h9.cut lo
  obtain ⟨M2,M3,rfl,hC,_⟩:=hB.cut n
  have hO:((xs.drop lo).take n).length=n:=by simp;omega
  refine ⟨x.block::M2,.inr ⟨zAs x (lo*sz),m-lo,c,(us.drop lo).take n,M2,rfl,by rw [hO],rfl,by rw [hO];omega,h4,?_,fun y hy=>h6 y (List.mem_of_mem_drop (List.mem_of_mem_take hy)),⟨fun u hu=>h7 u (List.mem_of_mem_drop (List.mem_of_mem_take hu)),zAZ.map_isAgg uA lo n⟩,?_,hC⟩,?_,?_⟩
  ·simp only [zAs]
   have:lo*sz+(m-lo)*sz=m*sz:=by rw [← Nat.add_mul];congr 1;omega
   omega
  ·rw [hO];exact zIg h7 yz h8 yK
  ·intro b hb;simp only [List.mem_cons,List.mem_append] at hb ⊢;rcases hb with h | h<;>simp [h]
  ·intro hn
   simp only [List.nodup_cons,List.mem_append,not_or,List.nodup_append] at hn ⊢
   exact ⟨hn.1.2.1,hn.2.2.1.1⟩
theorem zL8 {t:TypeId} {n:Nat} (hn:szT P t=some n) {b:Addr} (yS:b.spot=none) {row:Array Value} (yB:zFf w b.block row) {v:Value} (hv:v.cells.size=n) (yA:b.off+v.cells.size≤row.size) (yI:∀ u∈v.cells.toList,u.oneCell'=true) :
  (Instr.storeAt t (.pointer (some b)) v).run P w = .ok () (w.setRow b.block (zBe row b.off v.cells.toList)):=by
 obtain ⟨ti,jP,yD⟩:=zCh hn
 obtain ⟨el,jG⟩:=yB
 have hb:b=⟨b.block,b.off,none⟩:=by cases b;simp_all
 simp only [Instr.storeAt,Instr.sureAddr,Sem.run_bind,Sem.run_pure,Result.andThen_ok,storeVar,zAX jP]
 rw [if_neg (by simp only [ne_eq,Decidable.not_not];omega)]
 have:=run_storeCells_at (P:=P) b.block b.off el v.cells.toList 0 row w jG (by simpa using yA) yI
 rw [← hb] at this
 simp only [Nat.add_zero] at this
 exact this
theorem zKT (S:St w0 U Φ0 nt hv a w e Φ rv E L) {g r:Nat} (hg:zAb≤g) {pre:zAS} {i c:Nat} {sh:Option Nat} {t:TypeId} {va:Value} (ha:Rep w Φ (zA2 w rv E) (.addr r pre i c sh) va [])
  (hn:szT P t=some (E g).cells.length) (h:(zH8 r pre i c (E g)).run o e=some e') :
  ∃ w',(Instr.storeAt t va (rv g)).run P w = .ok () w'∧Fr w0 U Φ0 nt hv a w' e':=by
 simp only [zH8] at h
 obtain ⟨hc,h1⟩:=zAV h
 simp only [Bool.and_eq_true,Bool.or_eq_true,Bool.not_eq_true'] at hc
 obtain ⟨⟨j1,jJ⟩,uO⟩:=hc
 have yI:∀ q∈(E g).cells,q.oneCell=true:=fun q hq=>List.all_eq_true.1 jJ q hq
 have hva:zCf (rv g)=(E g).isAgg:=by
  have hI:=S.conf.rep g
  cases hx:(E g).isAgg with
  | true =>
   cases hE:E g<;>rw [hE] at hx<;>simp [PV.isAgg] at hx
   rw [hE] at hI;obtain ⟨vs,yC,_⟩:=hI;rw [yC];rfl
  | false =>
   have j2:(E g).cells=[E g]:=by cases hE:E g<;>first | rfl | (rw [hE] at hx;simp [PV.isAgg] at hx)
   have:=yI (E g) (by rw [j2];simp)
   exact (zBC (zB7 (fun a v hw h=>zC4 hw h) hI this)).2
 have yu:(E g).heavy=false∨∀ x∈(E g).ways,zAQ r pre x.1 x.2=false∨x.2.length≤pre.length:=by
  rcases j1 with h | h
  ·exact .inl h
  ·refine .inr fun x hx=>?_
   have:=List.all_eq_true.1 h x hx
   simp only [Bool.not_eq_true',Bool.and_eq_false_iff] at this
   rcases this with h | h
   ·exact .inl h
   ·refine .inr (Nat.le_of_not_lt fun yL=>?_)
    rw [show Nat.blt pre.length x.2.length=true from Nat.ble_eq_true_of_le yL] at h;cases h
 have hH:(E g).cells.length≠0:=by
  intro h0;rw [List.eq_nil_of_length_eq_zero h0] at uO;cases uO
 obtain ⟨b,row,e1,E1,L1,rfl,k1,k2,k3,k4,k5,k6,_,_⟩:=S.write hg ha yu yI hH hva h1
 simp only [PM.run,Option.some.injEq] at k5;subst k5
 have yD:(rv g).cells.size=(E g).cells.length:=by
  have:=((S.conf.rep g).cellsAll hva).length
  simpa using this
 exact ⟨_,zL8 hn k1 k2 yD k3 k4,k6.clear⟩
theorem zHm (S:St w0 U Φ0 nt hv a w e Φ rv E L) {g:Nat} (hg:zAb≤g) (hE2:E (g+1) = .bad) {r:Nat} {pre:zAS} {i c:Nat} {sh:Option Nat} {t:TypeId} {va:Value} (ha:Rep w Φ (zA2 w rv E) (.addr r pre i c sh) va [])
  (hn:szT P t=some (E g).cells.length) {tk:Bool} (h:(zHR tk r pre i c (E g)).run o e=some e') :
  ∃ w',(Instr.storeAt t va (rv g)).run P w = .ok () w'∧Fr w0 U Φ0 nt hv a w' e':=by
 have S1:=S.hold (g:=g+1) (by omega) ha
 have kX:g≠g+1:=by omega
 simp only [zHR] at h
 split at h
 ·rename_i m kO
  cases uK:E g<;>rw [uK] at kO<;>simp only [zPQ] at kO<;>try (cases kO;done)
  rename_i r' q z lo n
  cases lo with
  | succ lo=>cases kO
  | zero =>
   simp only [zPQ] at kO
   split at kO
   ·rename_i hrq
    simp only [Bool.and_eq_true,decide_eq_true_eq] at hrq
    obtain ⟨rfl,rfl⟩:=hrq
    simp only [Option.some.injEq] at kO;subst kO
    obtain ⟨x,hx,h1⟩:=zBT h
    split at h1
    ·rename_i s xs
     obtain ⟨yK,h2⟩:=zAV h1
     have yK:=Nat.le_of_ble_eq_true yK
     obtain ⟨root,hl,hm,h3⟩:=zCt h2
     have hr:r'<zAb:=ha.2.1
     have yG:=zBA hl
     rw [yG,← S.env r' hr] at hx
     rw [← S.env r' hr] at yG hm
     have hr1:r'≠g+1:=by omega
     obtain ⟨kk1,kk2⟩:=zBJ (q' := .bad) rfl rfl hm
     have vc:upd E (g+1) (.addr r' pre i c sh) r'=E r':=zAf hr1
     obtain ⟨nv,Li,g1,g2,g3,g4,g5⟩:=S1.taken (g:=g) hg hr (by rw [vc];exact yG) (by rw [vc];exact hx) rfl (by rw [vc];exact hm) kk1 kk2
     have qK:=S.conf.rep g
     rw [uK] at qK
     obtain ⟨_,_,_,vg⟩:=qK
     have jK:zBV (rv g) nv s 0 n:=by
      obtain ⟨s2,xs2,q1,q2,q3⟩:=vg nv _ (by rw [yG];rw [vc,zAf hr1] at g1;exact g1) rfl
      cases q1;subst q2;exact q3
     obtain ⟨Lg,p1,p2,p3⟩:=zIm g2 (by omega) jK
     obtain ⟨L',S2,_⟩:=g5 _ (rv g) Lg p1 (p3 g3) (fun b hb => .inl (p2 b hb))
     have j9:=S2.conf.rep (g+1)
     rw [zAf (Ne.symm kX),zAf (Ne.symm hr1),zAh,zAf (Ne.symm kX),zAh] at j9
     have un:L' (g+1)=[]:=j9.1
     rw [un] at j9
     have:=zKT (P:=P) (t:=t) S2 hg j9 (by rw [zAh];rw [uK] at hn;exact hn) (by rw [zAh];exact h3)
     rw [zAh] at this;exact this
    ·cases h1
   ·cases kO
 ·have key:(zFI tk (E g) fun v=>zH8 r pre i c v).run o e=some e'∨(zH8 r pre i c (E g)).run o e=some e':=by
   simp only [zIl] at h
   cases hb:(pre.isEmpty && !tk) with
   | false=>rw [hb] at h;exact .inl h
   | true =>
    rw [hb] at h;simp only [cond_true,PM.run] at h
    split at h
    ·exact .inr h
    ·exact .inl h
  rcases key with h | h
  ·have hEg1:upd E (g+1) (.addr r pre i c sh) g=E g:=zAf kX
   obtain ⟨e1,rv1,E1,h1,W⟩:=zMQ S1 (g:=g) hg (by rw [hEg1];exact h)
   obtain ⟨Φ1,L1,S2⟩:=W.st
   have j9:=S2.conf.rep (g+1)
   obtain ⟨q1,q2⟩:=W.rest (g+1) (by omega) (Ne.symm kX)
   rw [q1,q2,zAh,zAh] at j9
   have un:L1 (g+1)=[]:=j9.1
   rw [un] at j9
   have hO:=W.len
   rw [hEg1] at hO
   have:=zKT (P:=P) (t:=t) S2 hg j9 (by rw [hO];exact hn) h1
   rw [W.val,zAf kX] at this;exact this
  ·exact zKT S hg ha hn h
theorem zT9 {t el:TypeId} {s:Nat} (h:(zBX P t).bind (szT P)=some s):∃ el,zBX P t=some el∧szT P el=some s:=by
 cases he:zBX P t with
 | none=>rw [he] at h;cases h
 | some el=>rw [he] at h;exact ⟨el,rfl,h⟩
theorem zCz {t:TypeId} {el:TypeId} (h:zBX P t=some el):P.underlying t=some (.slice el):=by
 simp only [zBX] at h
 split at h
 ·cases h;assumption
 ·cases h
theorem zR1 (S:St w0 U Φ0 nt hv a w e Φ rv E L) (hb:zBw E) {fz tk:Bool} {t:TypeId} {x y:Operand} (hx:zAW nt x=true) (hy:zAW nt y=true) (h:(zNO P fz tk t x y).run o e=some e') :
  ∃ w',(Instr.storeAt t (a.eval x) (a.eval y)).run P w = .ok () w'∧Fr w0 U Φ0 nt hv a w' e':=by
 obtain ⟨pa,h1,v8⟩:=zBz S hx h
 have gen:(match pa,shT P t,szT P t with
   | .addr r pre i c _,some sh,some n=>(bif fz&&tk then opd y else zOM y) fun v=>bif Nat.beq v.cells.length n&&v.isAgg==sh.isSome then zHR (tk && !fz) r pre i c (bif fz && !tk then zA0 v else v) else .fail
   | _,_,_ => .fail).run o e=some e'→∃ w',(Instr.storeAt t (a.eval x) (a.eval y)).run P w = .ok () w'∧Fr w0 U Φ0 nt hv a w' e':=by
  intro h2
  clear h1
  split at h2
  ·rename_i r pre i c s' sh n jU hn
   have S1:=S.hold (g:=zAb+2) (by omega) v8
   cases hfk:(fz&&tk) with
   | true =>
    rw [Bool.and_eq_true] at hfk
    obtain ⟨rfl,rfl⟩:=hfk
    simp only [Bool.and_self,cond_true,Bool.not_true,Bool.and_false,cond_false] at h2
    obtain ⟨v,h2,hv⟩:=zBz S1 hy h2
    obtain ⟨hc,h5⟩:=zAV h2
    simp only [Bool.and_eq_true] at hc
    have hO:=Nat.eq_of_beq_eq_true hc.1
    have S2:=S1.hold (g:=zAb) (Nat.le_refl _) hv
    have j9:=S2.conf.rep (zAb+2)
    rw [zAf (show zAb+2≠zAb by omega),zAf (show zAb+2≠zAb by omega),zAf (show zAb+2≠zAb by omega),zAh,zAh,zAh] at j9
    have:=zHm (P:=P) (t:=t) S2 (Nat.le_refl zAb) (by rw [zAf (show zAb+1≠zAb by omega),zAf (show zAb+1≠zAb+2 by omega)];exact hb _ (by omega)) j9 (by rw [zAh,hO];exact hn) (by rw [zAh];exact h5)
    rwa [zAh] at this
   | false =>
   rw [hfk,cond_false] at h2
   obtain ⟨e1,rv1,E1,L1,h2,S2,h3,h4⟩:=zHI S1 hy (g:=zAb) (Nat.le_refl _) h2
   obtain ⟨hc,h5⟩:=zAV h2
   simp only [Bool.and_eq_true] at hc
   have hO:=Nat.eq_of_beq_eq_true hc.1
   have h6:=h4 (zAb+2) (by omega) (by omega)
   rw [zAh,zAh,zAh] at h6
   have h7:=h4 (zAb+1) (by omega) (by omega)
   rw [zAf (show zAb+1≠zAb+2 by omega)] at h7
   have vc:E1 (zAb+1) = .bad:=by rw [h7.1];exact hb _ (by omega)
   cases fz with
   | false =>
    simp only [Bool.false_and,cond_false] at h5
    have j9:=S2.conf.rep (zAb+2)
    rw [h6.1,h6.2.1,h6.2.2] at j9
    have:=zHm (P:=P) (t:=t) S2 (Nat.le_refl zAb) vc j9 (by rw [hO];exact hn) h5
    rwa [h3] at this
   | true =>
    simp only [Bool.true_and] at hfk
    subst hfk
    simp only [Bool.not_false,Bool.and_self,cond_true] at h5
    obtain ⟨Φ2,L2,S3⟩:=S2.iced (g:=zAb) (Nat.le_refl _)
    have j9:=S3.conf.rep (zAb+2)
    rw [zAf (show zAb+2≠zAb by omega),h6.1,h6.2.1] at j9
    have un:L2 (zAb+2)=[]:=j9.1
    rw [un] at j9
    have:=zHm (P:=P) (t:=t) S3 (Nat.le_refl zAb) (by rw [zAf (show zAb+1≠zAb by omega)];exact vc) j9 (by rw [zAh,zC6,hO];exact hn) (by rw [zAh];exact h5)
    rwa [h3] at this
  ·cases h2
 split at h1
 ·rename_i r pre i c s'
  obtain ⟨s,hs,jF⟩:=zBD h1
  obtain ⟨jK,h2⟩:=zDk jF
  have S1:=S.hold (g:=zAb) (p := .own s []) (v := .slice none 0 0) (Nat.le_refl _) (.inl ⟨rfl,rfl,rfl⟩)
  have hpa':Rep w Φ (zA2 w (upd rv zAb (.slice none 0 0)) (upd E zAb (.own s []))) (.addr r pre i c s') (a.eval x) []:=by
   have hr:=zCX v8.2
   refine ⟨rfl,zCF S.conf zCe v8.2 ?_ ?_ (fun _ _=>rfl)⟩
   ·rw [zAf (Nat.ne_of_lt hr),zBg]
   ·rw [zAf (Nat.ne_of_lt hr)]
  have:=zHm (P:=P) (t:=t) S1 (Nat.le_refl zAb) (by rw [zAf (show zAb+1≠zAb by omega)];exact hb _ (by omega)) hpa' (by rw [zAh];exact jK) (by rw [zAh];exact h2)
  rwa [zAh] at this
 ·exact gen h1
theorem Fr.congr {e1 e2:Env} (h:∀ s,e1.get s=e2.get s) (hf:Fr w0 U Φ0 nt hv a w e1):Fr w0 U Φ0 nt hv a w e2:=by
 obtain ⟨Φ,rv,E,L,S,hb⟩:=hf
 exact ⟨Φ,rv,E,L,{S with env:=fun s hs=>(S.env s hs).trans (h s)},hb⟩
theorem zJ6 (S:St w0 U Φ0 nt hv a w e Φ rv E L) {g:Nat} (hg:zAb≤g) {d:Option Nat} (hd:∀ x,d=some x→x<nt) (hb:∀ s,zAb≤s→s≠g→E s = .bad) (h:(zFU d (E g)).run o e=some e'):Fr w0 U Φ0 nt hv (a.put d (rv g)) w e':=by
 have plain:(put d (E g)).run o e=some e'→Fr w0 U Φ0 nt hv (a.put d (rv g)) w e':=fun h=>zFy S hd hg h hb
 have jc:=S.small
 simp only [zFU] at h
 split at h
 ·rename_i d' r z lo n uK
  split at h
  ·rename_i hrd
   subst hrd
   have hr:r<nt:=hd r rfl
   have js:r<zAb:=by simp only [zAb];omega
   simp only [PM.run] at h
   split at h
   ·cases h
   ·rename_i root gb
    split at h
    ·rename_i sz xs kh
     obtain ⟨yK,h1⟩:=zAV h
     have yK:=Nat.le_of_ble_eq_true yK
     simp only [PM.run,Option.some.injEq] at h1
     have hE:E r = .own sz xs:=by rw [S.env r js,kh]
     obtain ⟨nv,Li,g1,g2,g3,g4,g5⟩:=S.taken (g:=g) hg js (pre:=[]) (q := .own sz xs) (root := .bad) (by rw [hE];rfl) (by rw [hE];rfl) rfl rfl rfl rfl
     have hI:=S.conf.rep g
     rw [uK] at hI
     obtain ⟨_,_,_,hn⟩:=hI
     have jK:zBV (rv g) nv sz lo n:=by
      obtain ⟨s2,xs2,q1,q2,q3⟩:=hn nv _ (by rw [hE];rw [hE] at g1;exact g1) rfl
      cases q1;subst q2;exact q3
     obtain ⟨Lg,p1,p2,p3⟩:=zIm g2 yK jK
     obtain ⟨L',S2,_⟩:=g5 _ (rv g) Lg p1 (p3 g3) (fun b hb => .inl (p2 b hb))
     have jv:(put (some r) (upd (upd E r .bad) g (.own sz ((xs.drop lo).take n)) g)).run o (e.set r .bad)=some (((e.set r .bad).kill r []).set r (.own sz ((xs.drop lo).take n))):=by
      rw [zAh];rfl
     have:=zFy S2 hd hg jv (fun s hs hH=>by rw [zAf hH,zAf (by omega)];exact hb s hs hH)
     rw [zAh] at this
     refine this.congr fun s=>?_
     rw [← h1,Env.get_set,Env.get_set,Env.get_kill,Env.get_kill,Env.get_set]
     by_cases hs:s=r
     ·simp [hs]
     ·simp [hs]
    ·cases h
  ·exact plain h
 ·exact plain h
theorem zPD (S:St w0 U Φ0 nt hv a w e Φ rv E L) (hb:zBw E) {d:Option Nat} (hd:∀ x,d=some x→x<nt) {tk nl:Bool} {t:TypeId} {x:Operand} (hx:zAW nt x=true) (h:(zF3 P tk nl d t x).run o e=some e'):Fr w0 U Φ0 nt hv (a.put d (a.eval x)) w e':=by
 have gen:(zOM x fun p=>bif tk then zMq p (zFU d) else zFU d p).run o e=some e'→Fr w0 U Φ0 nt hv (a.put d (a.eval x)) w e':=by
  intro h
  obtain ⟨e1,rv1,E1,L1,h1,S1,h2,h3⟩:=zHI S hx (g:=zAb) (Nat.le_refl _) h
  have yX:∀ s,zAb≤s→s≠zAb→E1 s = .bad:=fun s hs hH=>by rw [(h3 s hs hH).1];exact hb s hs
  cases tk with
  | false =>
   have:=zJ6 S1 (Nat.le_refl zAb) hd yX h1
   rwa [h2] at this
  | true =>
   obtain ⟨e2,rv2,E2,h4,W⟩:=zOy S1 (Nat.le_refl zAb) h1
   obtain ⟨Φ2,L2,S2⟩:=W.st
   have:=zJ6 S2 (Nat.le_refl zAb) hd (fun s hs hH=>by rw [(W.rest s hs hH).1];exact yX s hs hH) h4
   rw [W.val,h2] at this;exact this
 simp only [zF3] at h
 split at h
 ·have nilR:∀ s,Rep w Φ (zA2 w rv E) (.own s []) (.slice none 0 0) []:=fun s => .inl ⟨rfl,rfl,rfl⟩
  cases nl with
  | true=>obtain ⟨s,_,h1⟩:=zBD h;exact zAw S hb hd h1 ⟨rfl,rfl⟩
  | false =>
   simp only [cond_false,zRF] at h
   split at h
   ·exact zAw S hb hd h (nilR _)
   ·cases h
 ·exact gen h
theorem zGY {d i d' i':Nat} (h:zBq d i=zBq d' i') (hi:i<16) (qL:i'<16):d=d'∧i=i':=by
 simp only [zBq] at h;omega
theorem zO5 (S:St w0 U Φ0 nt hv a w e Φ rv E L) (hb:zBw E) {d:Option Nat} (hd:∀ x,d=some x→x<nt) {s i:Nat} (hs:s<nt) (h:(zJq d s i).run o e=some e') :
  ∃ v,(Instr.extract (a.eval (.tmp s)) i).run P w = .ok v w∧Fr w0 U Φ0 nt hv (a.put d v) w e':=by
 have jc:=S.small
 have yb:s<zAb:=by simp only [zAb];omega
 simp only [zJq,PM.run] at h
 split at h
 ·cases h
 ·rename_i m gb
  split at h
  ·rename_i ps yc
   obtain ⟨hi,h1⟩:=zAV h
   have hi:=zBY hi
   have hE:E s = .tup ps:=by rw [S.env s yb,yc]
   obtain ⟨h16,vs,uo,ka⟩:=S.parts s ps i hs hE hi
   have gc:zBq s i<zAb:=by simp only [zBq,zAb];omega
   have v6:a.eval (.tmp s) = .tuple vs:=by rw [← uo];exact S.tmps s hs
   have hZ:(Instr.extract (a.eval (.tmp s)) i).run P w = .ok (rv (zBq s i)) w:=by
    rw [v6];simp only [Instr.extract,ka];rfl
   refine ⟨_,hZ,?_⟩
   simp only [PM.run] at h1
   split at h1
   ·cases h1
   ·rename_i p hnl2
    have hI:=S.conf.rep (zBq s i)
    rw [S.env _ gc] at hI
    cases hh:(e.get (zBq s i)).heavy with
    | false =>
     rw [hh] at h1;simp only [cond_false] at h1
     rw [zDl _ _ _ hh hI] at hI
     exact zAw S hb hd h1 hI
    | true =>
     rw [hh] at h1;simp only [cond_true,PM.run] at h1
     have hc:=S.conf.take (s:=zBq s i) (g:=zAb) gc (Nat.le_refl _)
     have S1:=S.turn (e':=e.set (zBq s i) .bad) hc (fun t ht=>by
      rw [zAf (by omega),Env.get_set]
      by_cases uq:t=zBq s i
      ·subst uq;rw [zAh,if_pos rfl]
      ·rw [zAf uq,if_neg uq];exact S.env t ht) (fun t ht=>zAf (by omega)) (fun d ps hd hp=>by
      rw [zAf (by simp only [zAb];omega),zAf (by simp only [zBq];omega)] at hp;exact ⟨ps,hp,rfl⟩)
     have:=zFy S1 hd (g:=zAb) (Nat.le_refl _) (by rw [zAh,S.env _ gc];exact h1) (fun t ht hH=>by rw [zAf hH,zAf (by omega)];exact hb t ht)
     rwa [zAh] at this
  ·cases h
end
end Go.Eng
namespace Go.Eng
open Go
mutual
theorem zDK {f:PV→PV}:∀ p:PV,(∀ a,a.isWay=true→(∀ x∈a.ways,x∈p.ways)→(∀ xs k,a ≠ .log xs k)→f a=a)→(∀ xs k,f (.log xs k) = .log xs k)→p.mapW f=p
 | .agg cs,h,hl=>by rw [PV.mapW,zEE cs h hl]
 | .tup cs,h,hl=>by rw [PV.mapW,zEE cs h hl]
 | .func k a b,h,hl=>by rw [PV.mapW,zEE a (fun x hx hw hn=>h x hx (fun y hy=>List.mem_append.2 (.inl (hw y hy))) hn) hl,zEE b (fun x hx hw hn=>h x hx (fun y hy=>List.mem_append.2 (.inr (hw y hy))) hn) hl]
 | .ref q,h,hl=>by rw [PV.mapW,zDK q h hl]
 | .box q,h,hl=>by rw [PV.mapW,zDK q h hl]
 | .lock q,h,hl=>by rw [PV.mapW,zDK q h hl]
 | .addr ..,h,_=>h _ rfl (fun _ h=>h) (fun _ _=>by simp)
 | .bor ..,h,_=>h _ rfl (fun _ h=>h) (fun _ _=>by simp)
 | .bsl ..,h,_=>h _ rfl (fun _ h=>h) (fun _ _=>by simp)
 | .bmap ..,h,_=>h _ rfl (fun _ h=>h) (fun _ _=>by simp)
 | .yld ..,_,_=>rfl
 | .log ..,_,hl=>hl _ _
 | .bad,_,_=>rfl
 | .und,_,_=>rfl
 | .int ..,_,_=>rfl
 | .bool ..,_,_=>rfl
 | .nilp,_,_=>rfl
 | .nilf,_,_=>rfl
 | .nilm,_,_=>rfl
 | .nn,_,_=>rfl
 | .nils _,_,_=>rfl
 | .sl _,_,_=>rfl
 | .own ..,_,_=>rfl
 | .map _,_,_=>rfl
 | .omap _,_,_=>rfl
theorem zEE {f:PV→PV}:∀ ps:List PV,(∀ a,a.isWay=true→(∀ x∈a.ways,x∈zBy ps)→(∀ xs k,a ≠ .log xs k)→f a=a)→(∀ xs k,f (.log xs k) = .log xs k)→zCK f ps=ps
 | [],_,_=>rfl
 | p::ps,h,hl=>by
  rw [zCK,zDK p (fun x hx hw hn=>h x hx (fun y hy=>List.mem_append.2 (.inl (hw y hy))) hn) hl,zEE ps (fun x hx hw hn=>h x hx (fun y hy=>List.mem_append.2 (.inr (hw y hy))) hn) hl]
end
theorem zMP {p:PV} {x:Nat×zAS}:∀ {ps:List PV},p∈ps→x∈p.ways→x∈zBy ps
 | y::ys,h,hx=>by
  simp only [zBy,List.mem_append]
  rcases List.mem_cons.1 h with rfl | hm
  ·exact .inl hx
  ·exact .inr (zMP hm hx)
theorem zQg {r:Nat} {p:PV} (h:∀ x∈p.ways,x.1≠r):p.mapW (lose r [])=p:=by
 refine zDK p (fun a ha hw hn=>?_) (fun _ _=>rfl)
 have key:∀ r',(∀ x∈a.ways,x.1=r')→a.ways≠[]→Nat.beq r' r=false:=by
  intro r' h1 h2
  cases hb:Nat.beq r' r with
  | false=>rfl
  | true =>
   have hr:=Nat.eq_of_beq_eq_true hb
   cases hy:a.ways with
   | nil=>exact absurd hy h2
   | cons z zs =>
    have hz:z∈a.ways:=by rw [hy];simp
    exact absurd ((h1 z hz).trans hr) (h z (hw z hz))
 cases a<;>first | (cases ha;done) | (exact absurd rfl (hn _ _)) | skip
 all_goals
  simp only [lose]
  rw [key _ (by simp [PV.ways];done) (by simp [PV.ways])]
  rfl
section
variable {P:Program} {w0 w:World} {U Φ0 Φ:Nat→Prop} {nt:Nat} {hv:Hid} {a:Act} {e e':Env} {rv:Nat→Value} {E:Nat→PV} {L:Nat→List Nat} {o:zAF}
theorem zQQ (S:St w0 U Φ0 nt hv a w e Φ rv E L) (hb:zBw E) {d:Option Nat} (hd:∀ x,d=some x→x<nt) {tk:Bool} {t:TypeId} {x:Operand} (hx:zAW nt x=true) (h:(zN8 P tk d t x).run o e=some e') :
  ∃ v,(Instr.loadAt t (a.eval x)).run P w = .ok v w∧Fr w0 U Φ0 nt hv (a.put d v) w e':=by
 obtain ⟨sh,jU,h1⟩:=zBD h
 obtain ⟨p,h2,hp⟩:=zBz S hx h1
 cases tk with
 | false=>exact zOF S hb hd jU hp h2
 | true =>
  simp only [cond_true] at h2
  split at h2
  ·rename_i r pre i c s'
   obtain ⟨b,u,q,yF,h3,h4,h5⟩:=zKS S jU hp h2
   have S1:=S.hold (Nat.le_refl zAb) h5
   obtain ⟨e1,rv1,E1,h6,W⟩:=zQW S1 (g:=zAb) (Nat.le_refl _) (by rw [zAh];exact h4)
   obtain ⟨Φ1,L1,S2⟩:=W.st
   have:=zFy S2 hd (g:=zAb) (Nat.le_refl _) h6 (fun s hs hH=>by rw [(W.rest s hs hH).1,zAf hH];exact hb s hs)
   rw [W.val,zAh] at this
   refine ⟨u,?_,this⟩
   rw [yF]
   simp only [Instr.loadAt,Instr.sureAddr,Sem.run_bind,Sem.run_pure,Result.andThen_ok]
   exact h3
  ·exact zOF S hb hd jU hp h2
theorem St.layPart (S:St w0 U Φ0 nt hv a w e Φ rv E L) {d i g:Nat} (hd:d<nt) (hi:i<16) (hg:zAb≤g) (hEd:∀ ps,E d ≠ .tup ps) {k:PM} (h:(lay (zBq d i) (E g) k).run o e=some e') :
  ∃ e1 E1 L1,k.run o e1=some e'∧St w0 U Φ0 nt hv a w e1 Φ (upd rv (zBq d i) (rv g)) E1 L1∧(∀ ps,E1 d ≠ .tup ps)∧E1 g = .bad∧∀ s,zAb≤s→s≠g→(∀ x∈(E s).ways,x.1≠zBq d i)→E1 s=E s:=by
 have jc:=S.small
 have yq:zBq d i<zAl:=by simp only [zBq,zAl];omega
 obtain ⟨e1,E1,L1,h1,h2,h3,h4,h5,h6,h7⟩:=zTs S yq hg h
 have qM:∀ d' ps,d'<2000000→E1 d' = .tup ps→∃ ps',E d' = .tup ps'∧ps'.length=ps.length:=by
  intro d' ps wK hp
  have hH:d'≠zBq d i:=by simp only [zBq];omega
  rcases h4 d' hH (by simp only [zAb];omega) with h8 | h8
  ·exact ⟨ps,by rw [← h8];exact hp,rfl⟩
  ·rw [h8] at hp;exact zDS (zIp _ _) hp
 refine ⟨e1,E1,L1,h1,⟨h2,h3,S.size,S.small,fun t ht=>?_,fun d' ps j wK hp hj=>?_,fun s uh kK=>?_,S.dfr⟩,fun ps hp=>?_,h6,fun s hs hH hw=>?_⟩
 ·rw [zAf (by simp only [zBq];omega)];exact S.tmps t ht
 ·obtain ⟨ps',h8,h9⟩:=qM d' ps (by omega) hp
  obtain ⟨h10,vs,h11,h12⟩:=S.parts d' ps' j wK h8 (by omega)
  have wI:d'≠d:=fun hc=>hEd ps' (hc▸h8)
  refine ⟨h10,vs,by rw [zAf (by simp only [zBq];omega)];exact h11,?_⟩
  rw [zAf fun hc=>wI (zGY hc h10 hi).1];exact h12
 ·rw [zAf (by omega)];exact S.hid s uh kK
 ·obtain ⟨ps',h8,_⟩:=qM d ps (by omega) hp
  exact hEd ps' h8
 ·rcases h7 s hs hH with h8 | h8
  ·exact h8
  ·rw [h8];exact zQg hw
theorem St.empty (S:St w0 U Φ0 nt hv a w e Φ rv E L) {d:Nat} (hd:d<nt):∃ L',St w0 U Φ0 nt hv a w (e.set d .bad) Φ rv (upd E d .bad) L':=by
 have jc:=S.small
 have hc:=S.conf.drop fun s=>s==d
 have hE:(fun s=>if (s==d)=true then PV.bad else E s)=upd E d .bad:=by
  funext s;by_cases hs:s=d<;>simp [upd,hs]
 rw [hE] at hc
 refine ⟨_,S.turn hc (fun s hs=>?_) (fun _ _=>rfl) (fun d' ps wK hp=>?_)⟩
 ·rw [Env.get_set]
  by_cases wa:s=d
  ·subst wa;rw [zAh,if_pos rfl]
  ·rw [zAf wa,if_neg wa];exact S.env s hs
 ·by_cases wI:d'=d
  ·subst wI;rw [zAh] at hp;cases hp
  ·rw [zAf wI] at hp;exact ⟨ps,hp,rfl⟩
theorem St.mark (S:St w0 U Φ0 nt hv a w e Φ rv E L) (hb:zBw E) {d n:Nat} (hd:d<nt) (hn:n≤16) {vs:Array Value} (hs:vs.size=n) (hp:∀ i,i<n→vs[i]? = some (rv (zBq d i))) :
  Fr w0 U Φ0 nt hv (a.put (some d) (.tuple vs)) w (e.set d (.tup (List.replicate n .bad))):=by
 have jc:=S.small
 have hI:Rep w Φ (zA2 w rv E) (.tup (List.replicate n .bad)) (.tuple vs) []:=by
  refine ⟨vs,rfl,?_⟩
  have key:∀ (n:Nat) (us:List Value),us.length=n→zAZ w Φ (zA2 w rv E) (List.replicate n .bad) us []:=by
   intro n
   induction n with
   | zero=>intro us h;rw [List.eq_nil_of_length_eq_zero h];exact ⟨rfl,rfl⟩
   | succ n ih =>
    intro us h
    match us,h with
    | u::us,h=>exact ⟨u,us,[],[],rfl,rfl,rfl,ih us (by simpa using h)⟩
  exact key n vs.toList (by simpa using hs)
 have kP:(PV.tup (List.replicate n .bad)).heavy=false:=by
  have key:∀ n,zC3 (List.replicate n .bad)=false:=by
   intro n
   induction n with
   | zero=>rfl
   | succ n ih=>simp [List.replicate_succ,zC3,PV.heavy,ih]
  exact key n
 have hc:=S.conf.put (s:=d) kP hI
 have hds:d<a.tmps.size:=by rw [S.size];exact hd
 refine ⟨_,_,_,_,⟨hc,fun s hs=>?_,by simp only [Act.put,Array.size_setIfInBounds];exact S.size,S.small,fun t ht=>?_,fun d' ps j wK je hj=>?_,fun s uh kK=>?_,S.dfr⟩,fun g hg=>?_⟩
 ·rw [Env.get_set]
  by_cases wa:s=d
  ·subst wa;rw [zAh,if_pos rfl]
  ·rw [zAf wa,if_neg wa];exact S.env s hs
 ·rw [Act.put_tmps a hds]
  by_cases v7:t=d
  ·subst v7;simp [zAh]
  ·rw [if_neg v7,zAf v7];exact S.tmps t ht
 ·by_cases wI:d'=d
  ·subst wI
   rw [zAh] at je
   simp only [PV.tup.injEq] at je
   rw [← je] at hj
   simp only [List.length_replicate] at hj
   exact ⟨by omega,vs,zAh,by rw [zAf (by simp only [zBq];omega)];exact hp j hj⟩
  ·rw [zAf wI] at je
   obtain ⟨h10,us,h11,h12⟩:=S.parts d' ps j wK je hj
   exact ⟨h10,us,by rw [zAf wI];exact h11,by rw [zAf (by simp only [zBq];omega)];exact h12⟩
 ·rw [zAf (by simp only [zAl] at uh;omega)];exact S.hid s uh kK
 ·rw [zAf (by simp only [zAb] at hg;omega)];exact hb g hg
theorem zHQ {s d:Nat} (hd:d<nt) (hs:s<nt) {vs:Array Value}:∀ (n i:Nat) {e:Env} {rv:Nat→Value} {E:Nat→PV} {L:Nat→List Nat},St w0 U Φ0 nt hv a w e Φ rv E L→zBw E→(∀ ps,E d ≠ .tup ps)→i+n≤16→vs.size=i+n →
  (∀ j,j<i→vs[j]? = some (rv (zBq d j)))→(∀ j,i≤j→j<i+n→vs[j]? = some (rv (zBq s j)))→(zFT s d i n).run o e=some e'→Fr w0 U Φ0 nt hv (a.put (some d) (.tuple vs)) w e'
 | 0,i,e,rv,E,L,S,hb,hE,h16,yD,h1,h2,h=>by
  simp only [zFT,PM.run,Option.some.injEq] at h;subst h
  exact S.mark hb hd (by omega) (by simpa using yD) h1
 | n + 1,i,e,rv,E,L,S,hb,hE,h16,yD,h1,h2,h=>by
  have jc:=S.small
  have gc:zBq s i<zAb:=by simp only [zBq,zAb];omega
  simp only [zFT,PM.run] at h
  split at h
  ·cases h
  ·have hc:=S.conf.take (s:=zBq s i) (g:=zAb) gc (Nat.le_refl _)
   have S1:=S.turn (e':=e.set (zBq s i) .bad) hc (fun t ht=>by
    rw [zAf (by omega),Env.get_set]
    by_cases uq:t=zBq s i
    ·subst uq;rw [zAh,if_pos rfl]
    ·rw [zAf uq,if_neg uq];exact S.env t ht) (fun t ht=>zAf (by omega)) (fun d ps hd hp=>by
    rw [zAf (by simp only [zAb];omega),zAf (by simp only [zBq];omega)] at hp;exact ⟨ps,hp,rfl⟩)
   obtain ⟨e2,E2,L2,k1,S2,k2,k3,k4⟩:=S1.layPart (i:=i) (g:=zAb) hd (by omega) (Nat.le_refl _) (fun ps hp=>by
    rw [zAf (by simp only [zAb];omega),zAf (by simp only [zBq];omega)] at hp;exact hE ps hp) (by rw [zAh,S.env _ gc];exact h)
   have ja:∀ t,t<zAb→upd (upd rv zAb (rv (zBq s i))) (zBq d i) (upd rv zAb (rv (zBq s i)) zAb) t=if t=zBq d i then rv (zBq s i) else rv t:=by
    intro t ht
    by_cases v7:t=zBq d i
    ·subst v7;rw [zAh,zAh,if_pos rfl]
    ·rw [zAf v7,zAf (by omega),if_neg v7]
   have yL:∀ x j,x<nt→j<16→zBq x j<zAb:=by intro x j hx hj;simp only [zBq,zAb];omega
   refine zHQ hd hs n (i+1) S2 (fun t ht=>?_) k2 (by omega) (by omega) (fun j hj=>?_) (fun j hj1 hj2=>?_) k1
   ·by_cases yj:t=zAb
    ·subst yj;exact k3
    ·rw [k4 t ht yj (by rw [zAf yj,zAf (by omega),hb t ht];simp [PV.ways]),zAf yj,zAf (by omega)];exact hb t ht
   ·rw [ja _ (yL d j hd (by omega))]
    by_cases vh:j=i
    ·subst vh;rw [if_pos rfl];exact h2 j (by omega) (by omega)
    ·rw [if_neg fun hc=>vh (zGY hc (by omega) (by omega)).2];exact h1 j (by omega)
   ·rw [ja _ (yL s j hs (by omega)),if_neg fun hc=>by have:=(zGY hc (by omega) (by omega)).2;omega]
    exact h2 j (by omega) (by omega)
theorem zT7 (S:St w0 U Φ0 nt hv a w e Φ rv E L) (hb:zBw E) {d:Option Nat} (hd:∀ x,d=some x→x<nt) {t:TypeId} {x:Operand} (hx:zAW nt x=true) (h:(zQO P d t x).run o e=some e'):Fr w0 U Φ0 nt hv (a.put d (a.eval x)) w e':=by
 have gen:(opd x (put d)).run o e=some e'→Fr w0 U Φ0 nt hv (a.put d (a.eval x)) w e':=by
  intro h
  obtain ⟨p,h1,h2⟩:=zBz S hx h
  exact zAw S hb hd h1 h2
 simp only [zQO] at h
 split at h
 ·simp only [zRF] at h
  split at h
  ·exact zAw S hb hd h (.inl ⟨rfl,rfl,rfl⟩)
  ·cases h
 ·rename_i s
  have hs:s<nt:=zBY hx
  have jc:=S.small
  have yb:(s:Nat)<zAb:=Nat.lt_of_lt_of_le hs (Nat.le_trans S.small (by decide))
  simp only [zLI] at h
  split at h
  ·rename_i ts d' _
   simp only [PM.run] at h
   split at h
   ·cases h
   ·split at h
    ·rename_i ps yc
     obtain ⟨⟨hO,h16⟩,h1⟩:=zDk h
     simp only [PM.run] at h1
     have hE:E s = .tup ps:=by rw [S.env s yb,yc]
     have hI:=S.conf.rep s
     rw [hE] at hI
     obtain ⟨vs,uo,hr⟩:=hI
     have vI:vs.size=ps.length:=by have:=hr.length;simpa using this
     have v6:a.eval (.tmp s) = .tuple vs:=by rw [← uo];exact S.tmps s hs
     obtain ⟨L',S1⟩:=S.empty (hd d' rfl)
     rw [v6]
     refine zHQ (vs:=vs) (hd d' rfl) hs ts.size 0 S1 (fun g hg=>?_) (fun ps hp=>by rw [zAh] at hp;cases hp) (by omega) (by omega) (fun j hj=>by omega) (fun j _ hj=>?_) h1
     ·rw [zAf (by have:=hd d' rfl;simp only [zAb] at hg;omega)];exact hb g hg
     ·obtain ⟨_,us,g1,g2⟩:=S.parts s ps j hs hE (by omega)
      rw [uo] at g1;cases g1;exact g2
    ·cases h
  ·exact gen h
 ·exact gen h
theorem zGy {d:Nat} (hd:d<nt) {vs:Array Value}:∀ (ps:List PV) (i:Nat) {e:Env} {rv:Nat→Value} {E:Nat→PV} {L:Nat→List Nat},St w0 U Φ0 nt hv a w e Φ rv E L→(∀ ps,E d ≠ .tup ps)→i+ps.length≤16→vs.size=i+ps.length →
  (∀ j p,ps[j]? = some p→E (zAb+i+j)=p∧vs[i+j]? = some (rv (zAb+i+j)))→(∀ g,zAb≤g→(∀ j,j<ps.length→g≠zAb+i+j)→E g = .bad)→(∀ x∈zBy ps,zJG d x.1=false) →
  (∀ j,j<i→vs[j]? = some (rv (zBq d j)))→(zFk d i ps .ok).run o e=some e'→Fr w0 U Φ0 nt hv (a.put (some d) (.tuple vs)) w e'
 | [],i,e,rv,E,L,S,hE,h16,yD,hp,hb,hw,h1,h=>by
  simp only [zFk,PM.run,Option.some.injEq] at h;subst h
  exact S.mark (fun g hg=>hb g hg (by simp)) hd (by simpa using h16) (by simpa using yD) h1
 | p :: ps,i,e,rv,E,L,S,hE,h16,yD,hp,hb,hw,h1,h=>by
  have jc:=S.small
  simp only [List.length_cons] at h16 yD
  obtain ⟨q1,q2⟩:=hp 0 p rfl
  simp only [Nat.add_zero] at q1 q2
  simp only [zFk] at h
  rw [← q1] at h
  obtain ⟨e2,E2,L2,k1,S2,k2,k3,k4⟩:=S.layPart (i:=i) (g:=zAb+i) hd (by omega) (by omega) hE h
  have hvd:zBq d i<zAb:=by simp only [zBq,zAb];omega
  have hinp:∀ j,j<16→zJG d (zBq d j)=true:=by
   intro j hj
   simp only [zJG,Bool.and_eq_true]
   exact ⟨Nat.ble_eq_true_of_le (by simp only [zBq];omega),Nat.ble_eq_true_of_le (by simp only [zBq];omega)⟩
  have hkeep:∀ j p',ps[j]? = some p'→E2 (zAb+(i+1)+j)=p':=by
   intro j p' hj
   obtain ⟨q3,_⟩:=hp (j+1) p' (by simpa using hj)
   have e1:zAb+i+(j+1)=zAb+(i+1)+j:=by omega
   rw [e1] at q3
   rw [k4 _ (by omega) (by omega) (fun x hx hc=>?_),q3]
   rw [q3] at hx
   have:=hw x (by
    simp only [zBy,List.mem_append]
    exact .inr (zMP (List.mem_of_getElem? hj) hx))
   rw [hc,hinp i (by omega)] at this;cases this
  refine zGy hd ps (i+1) S2 k2 (by omega) (by omega) (fun j p' hj=>⟨hkeep j p' hj,?_⟩) (fun g hg hH=>?_) (fun x hx=>hw x (by simp [zBy,hx])) (fun j hj=>?_) k1
  ·obtain ⟨_,q4⟩:=hp (j+1) p' (by simpa using hj)
   have e1:zAb+i+(j+1)=zAb+(i+1)+j:=by omega
   have e2:i+(j+1)=i+1+j:=by omega
   rw [e1,e2] at q4
   rw [zAf (by omega)];exact q4
  ·by_cases hgi:g=zAb+i
   ·subst hgi;exact k3
   ·have kN:E g = .bad:=hb g hg fun j hj hc=>by
     cases j with
     | zero=>exact hgi (by simpa using hc)
     | succ j=>exact hH j (by simpa using hj) (by omega)
    rw [k4 g hg hgi (by rw [kN];simp [PV.ways]),kN]
  ·by_cases vh:j=i
   ·subst vh;rw [zAh];exact q2
   ·rw [zAf fun hc=>vh (zGY hc (by omega) (by omega)).2];exact h1 j (by omega)
end
end Go.Eng
namespace Go.Eng
open Go
section
variable {P:Program} {w0 w:World} {U Φ0 Φ:Nat→Prop} {nt:Nat} {hv:Hid} {a:Act} {e e':Env} {rv:Nat→Value} {E:Nat→PV} {L:Nat→List Nat} {o:zAF} {A:Al}
theorem zOm {r:Nat} {pre:zAS} {z lo n i:Nat} {sh:Option Nat} {v:Value} (hp:Rep w Φ (zA2 w rv E) (.bor r pre z lo n) v []) (yL:i<n) :
  ∃ b cap,v = .slice (some b) n cap∧b.spot=none∧Rep w Φ (zA2 w rv E) (.addr r pre (lo+i) 0 sh) (.pointer (some (b.add (i*z)))) []:=by
 obtain ⟨_,hg,⟨x,cap,rfl,yQ,yW,y8⟩,hn⟩:=hp
 cases x with
 | none=>have:=yW rfl;omega
 | some b =>
  refine ⟨b,cap,rfl,y8 b rfl,rfl,hg,b.add (i*z),rfl,by rw [zBS (y8 b rfl)];rfl,fun nv np hf a' ha=>?_⟩
  have hh:np.heavy0=true:=by cases np<;>first | rfl | (simp [zA3] at ha;done)
  obtain ⟨sz,xs,h3,h4,h5⟩:=hn nv np hf hh
  subst h3;subst h4
  cases nv<;>simp only [zBV] at h5
  rename_i y l c
  cases y with
  | none=>cases ha
  | some y =>
   simp only [zBV,Value.slice.injEq,Option.some.injEq] at h5
   simp only [zA3,Option.some.injEq] at ha
   rw [← ha,zBS (y8 b rfl),h5.1.1]
   simp [zAs,Nat.add_mul,Nat.add_assoc]
theorem zJD {p:PV} (h:p.plain=true):∀ q∈p.cells,q.oneCell=true:=by
 have h0:∀ p:PV,p.plain0=true→p.oneCell=true:=by intro p h;cases p<;>first | rfl | cases h
 cases p<;>first | (intro q hq;simp only [PV.cells,List.mem_singleton] at hq;subst hq;exact h0 _ h) | skip
 rename_i cs
 intro q hq
 simp only [PV.plain,List.all_eq_true] at h
 exact h0 q (h q hq)
theorem zK9 {row:Array Value} {o:Nat} {xs ys:List Value} (h:o+xs.length+ys.length≤row.size):zBe (zBe row o xs) (o+xs.length) ys=zBe row o (xs++ys):=by
 apply Array.ext'
 simp only [zBe,List.length_append]
 rw [List.take_append_of_le_length (by simp;omega),List.take_of_length_le (by simp;omega)]
 have:List.drop (o+xs.length+ys.length) (List.take o row.toList++xs++List.drop (o+xs.length) row.toList)=List.drop (o+(xs.length+ys.length)) row.toList:=by
  rw [List.drop_append,List.drop_of_length_le (by simp;omega)]
  simp
  congr 1;omega
 rw [this];simp
theorem zKZ {p:PV} (h:p.plain=true):p.heavy=false∧p.ways=[]:=by
 have h0:∀ p:PV,p.plain0=true→p.heavy=false∧p.ways=[]:=by
  intro p h
  cases p<;>first | (cases h;done) | exact ⟨rfl,rfl⟩ | skip
  simp only [PV.plain0] at h
  exact ⟨rfl,by simpa [PV.ways] using h⟩
 cases p<;>first | exact h0 _ h | skip
 rename_i cs
 simp only [PV.plain] at h
 have key:∀ cs:List PV,cs.all PV.plain0=true→zC3 cs=false∧zBy cs=[]:=by
  intro cs
  induction cs with
  | nil=>intro _;exact ⟨rfl,rfl⟩
  | cons c cs ih =>
   intro h
   simp only [List.all_cons,Bool.and_eq_true] at h
   obtain ⟨h1,h2⟩:=h0 c h.1
   obtain ⟨h3,h4⟩:=ih h.2
   exact ⟨by simp [zC3,h1,h3],by simp [zBy,h2,h4]⟩
 exact key cs h
theorem zKL {r:Nat} {pre:zAS} {z lo n:Nat} {v:Value} {k:PM} (hz:0<z):∀ (ys:List PV) (us:List Value) (j:Nat) {w:World} {e:Env} {rv:Nat→Value} {E:Nat→PV} {L:Nat→List Nat},St w0 U Φ0 nt hv a w e Φ rv E L→E (zAb+2) = .bor r pre z lo n→rv (zAb+2)=v→(∀ s,zAb≤s→s≠zAb+2→E s = .bad) →
  (∀ y∈ys,y.plain=true∧y.cells.length=z)→(us.map zCf=ys.map PV.isAgg)→zAZ w Φ zCn ys us []→j+ys.length≤n→(zGl r pre (lo+j) ys k).run o e=some e' →
  ∃ w1 e1 rv1 E1 L1,k.run o e1=some e'∧St w0 U Φ0 nt hv a w1 e1 Φ rv1 E1 L1∧(∀ s,zAb≤s→s≠zAb+2→E1 s = .bad)∧(E1 (zAb+2) = .bor r pre z lo n∧rv1 (zAb+2)=v) ∧
   (ys=[]∧w1=w∨∃ b cap row,v = .slice (some b) n cap∧b.spot=none∧zFf w b.block row∧b.off+j*z+(flat us).length≤row.size∧(∀ u∈flat us,u.oneCell'=true)∧w1=w.setRow b.block (zBe row (b.off+j*z) (flat us)))
 | [],us,j,w,e,rv,E,L,S,hE,ja,hb,hy,j6,hr,hl,h=>⟨w,e,rv,E,L,h,S,hb,⟨hE,ja⟩,.inl ⟨rfl,rfl⟩⟩
 | y :: ys,us,j,w,e,rv,E,L,S,hE,ja,hb,hy,j6,hr,hl,h=>by
  obtain ⟨u,us',L1,L2,rfl,hL,ke,jl⟩:=hr
  have v4:=List.append_eq_nil_iff.1 hL.symm
  obtain ⟨rfl,rfl⟩:=v4
  simp only [List.map_cons,List.cons.injEq] at j6
  simp only [zGl] at h
  obtain ⟨vi,hyz⟩:=hy y (by simp)
  obtain ⟨kP,yr⟩:=zKZ vi
  have wc:=S.conf.rep (zAb+2)
  rw [hE,ja] at wc
  have un:L (zAb+2)=[]:=wc.1
  rw [un] at wc
  obtain ⟨b,cap,hv,yS,kj⟩:=zOm (sh:=none) wc (i:=j) (by simp at hl;omega)
  have S1:=S.hold (g:=zAb) (Nat.le_refl _) (p:=y) (v:=u) (ke.mono zDo.refl (fun _ _ _ h=>h.elim) (by simp))
  have qN:=S1.conf.rep (zAb+2)
  rw [zAf (show zAb+2≠zAb by omega),zAf (show zAb+2≠zAb by omega),zAf (show zAb+2≠zAb by omega),hE,ja,un] at qN
  obtain ⟨b0,cap0,wN,_,vj⟩:=zOm (sh:=none) qN (i:=j) (by simp at hl;omega)
  rw [hv] at wN
  simp only [Value.slice.injEq,Option.some.injEq] at wN
  rw [← wN.1] at vj
  obtain ⟨b',row,e1,E1,L1,yF,hsp',yB,yA,yI,h1,S2,kX,qj,hg3,jO⟩:=S1.write (g:=zAb) (Nat.le_refl _) vj (.inl (by rw [zAh];exact kP)) (by rw [zAh];exact zJD vi) (by rw [zAh,hyz];omega) (by rw [zAh,zAh];exact j6.1) (k:=zGl r pre (lo+(j+1)) ys k) (by rw [zAh];exact h)
  cases yF
  have hub:u.cells.size=z:=by
   have h1:us'.length=ys.length:=jl.length
   have:=((ke.mono (A':=zCn) zDo.refl (fun _ _ _ h=>h) (by simp)).cellsAll j6.1).length
   simpa [hyz] using this
  have jS:b.add (j*z)=⟨b.block,b.off+j*z,none⟩:=by rw [zBS yS];rfl
  rw [jS] at yB yA jO S2
  rw [zAh] at yA yI S2
  simp only at yB yA jO S2
  have hnΦ:¬ Φ b.block:=(S1.conf.own _ _ jO).2.1
  have vc:E1 (zAb+2) = .bor r pre z lo n:=by
   rw [hg3 _ (by omega) (by omega),zAf (show zAb+2≠zAb by omega),zAh,hE]
   show zDG _ _ _ _ _ _=_
   exact zJK (zKw) kP _
  obtain ⟨w1,e2,rv2,E2,L2,k1,k2,k3,k3',k4⟩:=zKL hz ys us' (j+1) S2 vc (by rw [zAf (show zAb+2≠zAb by omega),ja]) (fun s hs hH=>by
   by_cases yb:s=zAb
   ·subst yb;exact kX
   ·exact qj s hs yb (by rw [zAf yb];exact hb s hs hH)) (fun y ug=>hy y (by simp [ug])) j6.2 (jl.mono (fun b' yF=>⟨yF,setRow_other w _ _ _ (fun hc:b'=b.block=>hnΦ (hc▸yF))⟩) (fun _ _ _ h=>h) (by simp)) (by simp at hl;omega) h1
  refine ⟨w1,e2,rv2,E2,L2,k1,k2,k3,k3',.inr ⟨b,cap,row,hv,yS,yB,?_⟩⟩
  have jo:flat (u::us')=u.cells.toList++flat us':=by simp [flat]
  have w7:u.cells.toList.length=z:=by simpa using hub
  rcases k4 with ⟨rfl,rfl⟩ | ⟨b2,cap2,row2,ka,_,hrow2,uP,hone2,rfl⟩
  ·have:us'=[]:=List.eq_nil_of_length_eq_zero (by have:=jl.length;simpa using this)
   subst this
   rw [jo];simp only [flat,List.flatMap_nil,List.append_nil]
   refine ⟨by rw [w7];omega,yI,?_⟩;first | rfl | trivial
  ·rw [hv] at ka
   simp only [Value.slice.injEq,Option.some.injEq] at ka
   obtain ⟨rfl,_⟩:=ka
   have j8:zFf (w.setRow b.block (zBe row (b.off+j*z) u.cells.toList)) b.block (zBe row (b.off+j*z) u.cells.toList):=by
    obtain ⟨el,jG⟩:=yB;exact ⟨el,setRow_heap w _ _ _ el _ jG⟩
   have:row2=zBe row (b.off+j*z) u.cells.toList:=by
    obtain ⟨e1,h1⟩:=j8;obtain ⟨e2,h2⟩:=hrow2
    rw [h1] at h2;cases h2;rfl
   subst this
   rw [zGC (by rw [w7];omega)] at uP
   have qx:b.off+(j+1)*z=b.off+j*z+u.cells.toList.length:=by rw [w7,Nat.add_mul];omega
   rw [qx] at uP ⊢
   refine ⟨by rw [jo,List.length_append];omega,fun x hx=>?_,?_⟩
   ·rw [jo] at hx
    rcases List.mem_append.1 hx with h | h
    ·exact yI x h
    ·exact hone2 x h
   ·rw [setRow_setRow,zK9 uP,jo]
end
end Go.Eng
namespace Go.Eng
open Go
section
variable {P:Program} {w:World}
theorem zEd {t t2 ty el e2:TypeId} {i:TypeInfo} (ht:P.underlying t=some (.slice el)) (km:P.underlying t2=some (.slice e2)) (hi:P.info? el=some i) {a xb:Option Addr} {sLen sCap n xc:Nat} {news:List Value}
  (ur:(Builtin.firstCells i.size n (.slice xb n xc)).run P w = .ok news.toArray w) (yA:sLen+n≤sCap) (w':World) (yZ:∀ b,a=some b→(storeCells (b.add (sLen*i.size)) news).run P w = .ok () w') (jd:a=none→w'=w) :
  (Builtin.append_ #[t,t2] ty #[.slice a sLen sCap,.slice xb n xc]).run P w = .ok (.slice a (sLen+n) sCap) w':=by
 cases a with
 | none =>
  rw [jd rfl]
  simp [Builtin.append_,run_underlying ht,run_underlying km,sizeOf,typeInfo,hi,Builtin.lenOf,yA,ur]
 | some b =>
  have:=yZ b rfl
  simp [Builtin.append_,run_underlying ht,run_underlying km,sizeOf,typeInfo,hi,Builtin.lenOf,yA,ur,this]
theorem zFx {t t2 ty el e2:TypeId} {i:TypeInfo} {z:Value} (ht:P.underlying t=some (.slice el)) (km:P.underlying t2=some (.slice e2)) (hi:P.info? el=some i) (hz:i.zero=some z) {a xb:Option Addr} {sLen sCap n xc:Nat} {old news:List Value}
  (hold:(Builtin.firstCells i.size sLen (.slice a sLen sCap)).run P w.drew = .ok old.toArray w.drew) (ur:(Builtin.firstCells i.size n (.slice xb n xc)).run P w.drew = .ok news.toArray w.drew)
  (yA:¬ sLen+n≤sCap) (h32:sLen+n≤4294967296) (wg:i.bytes≤16384) :
  (Builtin.append_ #[t,t2] ty #[.slice a sLen sCap,.slice xb n xc]).run P w =
   .ok (.slice (some ⟨w.heap.size,0,none⟩) (sLen+n) (grownCap w (sLen+n) sCap el)) (w.drew.alloc (.cells (old.toArray++news.toArray++Builtin.zeroCells z.cells (grownCap w (sLen+n) sCap el-(sLen+n))) el)):=by
 have hgr':¬ (281474976710656<Builtin.nextslicecap (sLen+n) sCap*i.bytes):=by
  have h1:(sLen+n)*i.bytes≤4294967296*16384:=Nat.mul_le_mul h32 wg
  have:=growslice_fits (need:=sLen+n) (old:=sCap) (bytes:=i.bytes) (by omega) (by omega)
  omega
 have h63':¬ (9223372036854775807<((sLen:Int)+(n:Int))):=by omega
 simp [Builtin.append_,run_underlying ht,run_underlying km,sizeOf,typeInfo,zeroValue,hi,hz,Builtin.lenOf,yA,h63',hgr',Question.forced,hold,ur,newRow,grownCap]
 congr 2
 apply Array.ext'
 simp [List.append_assoc]
end
section
variable {P:Program} {w0 w:World} {U Φ0 Φ:Nat→Prop} {nt:Nat} {hv:Hid} {a:Act} {e e':Env} {rv:Nat→Value} {E:Nat→PV} {L:Nat→List Nat} {o:zAF}
structure Listed (w:World) (Φ:Nat→Prop) (v:Value) (ys:List PV) (us:List Value) (Ly:List Nat):Prop where
 val:∃ xb xc,v = .slice xb ys.length xc∧∀ sz,(∀ y∈ys,y.cells.length=sz)→∀ (P:Program) (w1:World),(∀ t,w1.cell? t=w.cell? t)→(Builtin.firstCells sz ys.length v).run P w1 = .ok (flat us).toArray w1
 reps:zAZ w Φ zCn ys us Ly
 size:∀ sz,(∀ y∈ys,y.cells.length=sz)→∀ u∈us,u.cells.size=sz
 agg:us.map zCf=ys.map PV.isAgg
theorem zIq {b:Addr} {n xc sz:Nat} {us:List Value} (yS:b.spot=none) {row:Array Value} (yB:zIO w b.block row) (hl:us.length=n) (yD:∀ u∈us,u.cells.size=sz) (h:seg row b.off (n*sz)=flat us) (P:Program) (w1:World) (hw:∀ t,w1.cell? t=w.cell? t) :
  (Builtin.firstCells sz n (.slice (some b) n xc)).run P w1 = .ok (flat us).toArray w1:=by
 refine run_firstCells_some w1 sz n b n xc (flat us) (by rw [zBn yD,hl]) fun j v hj=>?_
 rw [hw]
 exact zH1 yS yB (by rw [zBn yD,hl];exact h) j v hj
theorem zEW {v:Value} {xb:Option Addr} {xc:Nat} (hv:v = .slice xb 0 xc):Listed w Φ v [] [] []:=by
 refine ⟨⟨xb,xc,hv,fun sz _ P w1 _=>?_⟩,⟨rfl,rfl⟩,by simp,rfl⟩
 subst hv
 cases xb with
 | none=>exact run_firstCells_none w1 sz 0 0 xc
 | some b=>exact run_firstCells_some w1 sz 0 b 0 xc [] (by simp) (by simp)
theorem zF0 {A:Al}:∀ {ys:List PV} {us:List Value} {Ly:List Nat},(∀ y∈ys,y.plain=true)→zAZ w Φ A ys us Ly→Ly=[]
 | [],_,_,_,h=>h.2
 | y::ys,us,Ly,hp,h=>by
  obtain ⟨v,vs,L1,L2,rfl,rfl,h1,h2⟩:=h
  rw [zDl _ _ _ (zKZ (hp y (by simp))).1 h1,zF0 (fun z hz=>hp z (by simp [hz])) h2];rfl
theorem zPi {c:Array Value} {o m n:Nat} (h:m≤n):seg c o m=(seg c o n).take m:=by
 simp only [seg,List.take_take];rw [Nat.min_eq_left h]
theorem zMo (S:St w0 U Φ0 nt hv a w e Φ rv E L) {p:PV} {v:Value} (hp:Rep w Φ (zA2 w rv E) p v []) {k:List PV→PM} (h:(zGZ p k).run o e=some e'):∃ ys us Ly,(k ys).run o e=some e'∧Listed w Φ v ys us Ly:=by
  cases p<;>simp only [zGZ] at h<;>try (cases h;done)
  case nils=>exact ⟨[],[],[],h,zEW hp.1⟩
  case nn =>
    obtain ⟨_,b,n,yC⟩:=hp
    exact ⟨[],[],[],h,zEW yC⟩
  case sl xs =>
    obtain ⟨_,⟨rfl,b,n,yC,_⟩ | ⟨b,n,c,us,sz,yC,yS,yK,hΦ,yB,j0,⟨kW,wU⟩,j7,hr⟩⟩:=hp
    · exact ⟨[],[],[],h,zEW yC⟩
    · have hl:us.length=xs.length:=by have:=congrArg List.length wU;simpa using this
      refine ⟨xs,us,[],h,⟨some b,n,yC,fun sz' jQ P w1 hw=>?_⟩,hr,fun sz' jQ u hu=>?_,wU⟩
      · by_cases hx:xs=[]
        · subst hx
          have:us=[]:=List.eq_nil_of_length_eq_zero (by simpa using hl)
          subst this;subst yC
          exact run_firstCells_some w1 sz' 0 b 0 n [] (by simp) (by simp)
        · obtain ⟨y,ys,rfl⟩:=List.exists_cons_of_ne_nil hx
          have:sz'=sz:=by rw [← jQ y (by simp),j0 y (by simp)]
          subst this;subst yC
          exact zIq yS yB hl kW j7 P w1 hw
      · cases xs with
        | nil => have h0:us=[]:=List.eq_nil_of_length_eq_zero (by simpa using hl)
                 rw [h0] at hu;cases hu
        | cons y ys=>rw [kW u hu,← jQ y (by simp),j0 y (by simp)]
  case bor r pre z lo n =>
    obtain ⟨_,hr,_,hn⟩:=hp
    obtain ⟨q,hq,h1⟩:=zBT h
    split at h1
    · rename_i sz xs
      obtain ⟨yK,h2⟩:=zAV h1
      have yK:=Nat.le_of_ble_eq_true yK
      rw [← S.env r hr] at hq
      obtain ⟨nv,Li,hf,_,hI⟩:=zBG (zBZ (S.conf.rep r)) hq
      obtain ⟨sz2,xs2,g1,g2,g3⟩:=hn nv _ hf rfl
      cases g1;subst g2
      obtain ⟨q1,q2,q3⟩ | ⟨x,m,c,us,M,q0,q1,q2,q3,q4,q5,q6,⟨q7,q7'⟩,q8,q9⟩:=hI
      · subst q1;subst q3
        have kJ:n=0:=by simp at yK;omega
        subst kJ
        simp only [zBV] at g3
        refine ⟨_,[],[],h2,?_⟩
        simp only [List.drop_nil,List.take_nil]
        exact zEW g3.1
      · subst q1
        simp only [zBV] at g3
        obtain ⟨yC,yQ⟩:=g3
        have yz:us.length=xs.length:=by have:=congrArg List.length q7';simpa using this
        obtain ⟨Ly,_,wY⟩:=zGq q9 lo n
        have hO:((xs.drop lo).take n).length=n:=by simp;omega
        have qO:((us.drop lo).take n).length=n:=by simp;omega
        refine ⟨_,(us.drop lo).take n,Ly,h2,⟨_,_,by rw [hO];exact yC,fun sz' jQ P w1 hw=>?_⟩,wY,fun sz' jQ u hu=>?_,zAZ.map_isAgg q7' lo n⟩
        · rw [hO,yC]
          by_cases kJ:n=0
          · subst kJ
            simp only [List.take_zero]
            exact run_firstCells_some w1 sz' 0 _ 0 _ [] (by simp) (by simp)
          · have:sz'=z:=by
              cases j0:(xs.drop lo).take n with
              | nil=>rw [j0] at hO;simp at hO;omega
              | cons y ys =>
                have hy:y∈(xs.drop lo).take n:=by rw [j0];simp
                rw [← jQ y hy,q6 y (List.mem_of_mem_drop (List.mem_of_mem_take hy))]
            subst this
            exact zIq (b:=zAs x (lo*sz')) rfl q4.any qO (fun u hu=>q7 u (List.mem_of_mem_drop (List.mem_of_mem_take hu))) (zIg q7 yz q8 yK) P w1 hw
        · cases j0:(xs.drop lo).take n with
          | nil =>
            rw [j0] at hO
            have h0:(us.drop lo).take n=[]:=List.eq_nil_of_length_eq_zero (by rw [qO];simpa using hO.symm)
            rw [h0] at hu;cases hu
          | cons y ys =>
            have hy:y∈(xs.drop lo).take n:=by rw [j0];simp
            rw [q7 u (List.mem_of_mem_drop (List.mem_of_mem_take hu)),← jQ y hy,q6 y (List.mem_of_mem_drop (List.mem_of_mem_take hy))]
    · cases h1
  case bsl r pre i c sz ag n =>
    obtain ⟨_,hr,b,cap,yC,yQ,yS,hn⟩:=hp
    simp only [PM.run] at h
    split at h
    · rename_i g cs hq
      rw [← S.env r hr] at hq
      obtain ⟨nv,np,ad,us,h1,h2,h3,h4,h5,h6⟩:=S.conf.cells hr hq
      have:=hn nv np h1 ad h2;subst this
      obtain ⟨hc,h7⟩:=zAV h
      simp only [Bool.and_eq_true,zCg] at hc
      obtain ⟨⟨yP,ql⟩,vi⟩:=hc
      have yP:=Nat.eq_of_beq_eq_true yP
      have hw0:∀ (cs:List PV),cs.all (fun q=>q.plain0)=true→zBy cs=[]:=by
        intro cs
        induction cs with
        | nil=>intro _;rfl
        | cons c cs ih =>
          intro h
          simp only [List.all_cons,Bool.and_eq_true] at h
          have vb:c.ways=[]:=by
            have h0:=h.1
            cases c<;>first | (cases h0;done) | rfl | skip
            simpa [PV.plain0,PV.ways] using h0
          simp [zBy,vb,ih h.2]
      have vW:zAZ w Φ zCn cs us []:=h6.ways _ _ _ fun a v hw hx ha=>by
        rw [hw0 cs vi] at hx
        have h1:=zJn hw ha
        cases ui:a.ways with
        | nil=>exact absurd ui h1
        | cons z zs=>have:=hx z (by rw [ui];simp);cases this
      obtain ⟨us',q1,q2,q3,q4,q5⟩:=zFZ (ag:=ag) (sz:=sz) (fun a v _ h=>h.elim) n cs us yP (fun j6=>by
        simp only [j6,Bool.false_or,Bool.and_eq_true] at ql
        exact ⟨Nat.eq_of_beq_eq_true ql.1,fun q hq=>List.all_eq_true.1 ql.2 q hq⟩) vW
      have hO:=zDV ag sz n cs
      refine ⟨_,us',[],h7,⟨some b,cap,by rw [hO];exact yC,fun sz' jQ P w1 hw=>?_⟩,q1,fun sz' jQ u hu=>?_,q4⟩
      · rw [hO,yC,q2]
        by_cases kJ:n=0
        · subst kJ
          have:us=[]:=List.eq_nil_of_length_eq_zero (by rw [h4];simp)
          subst this
          exact run_firstCells_some w1 sz' 0 b 0 cap [] (by simp) (by simp)
        · have:sz'=sz:=by
            cases j0:zCk ag sz n cs with
            | nil=>rw [j0] at hO;simp at hO;omega
            | cons y ys =>
              have hy:y∈zCk ag sz n cs:=by rw [j0];simp
              rw [← jQ y hy,q5 y hy]
          subst this
          exact run_firstCells_some w1 sz' n b n cap us h4 (fun j v hj=>by rw [hw];exact h5 j v hj)
      · cases j0:zCk ag sz n cs with
        | nil =>
          have yz:us'.length=(zCk ag sz n cs).length:=q1.length
          rw [j0] at yz
          have h0:us'=[]:=List.eq_nil_of_length_eq_zero (by simpa using yz)
          rw [h0] at hu;cases hu
        | cons y ys =>
          have hy:y∈zCk ag sz n cs:=by rw [j0];simp
          rw [q3 u hu,← jQ y hy,q5 y hy]
    · cases h
theorem zRU (S:St w0 U Φ0 nt hv a w e Φ rv E L) {g:Nat} (hg:zAb≤g) (uK:E g = .bad) {x:Operand} (hx:zAW nt x=true) {k:List PV→PM} (h:(zNe x k).run o e=some e') :
  ∃ e1 rv1 E1 L1 ys us Ly,(k ys).run o e1=some e'∧St w0 U Φ0 nt hv a w e1 Φ rv1 E1 L1∧zUy g rv rv1 E E1 L L1∧Listed w Φ (a.eval x) ys us Ly∧Ly.Nodup∧∀ b∈Ly,b∈L1 g:=by
 have hLg:L g=[]:=by have:=S.conf.rep g;rw [uK] at this;exact this
 have copy:∀ {p:PV},Rep w Φ (zA2 w rv E) p (a.eval x) []→(zGZ p fun xs=>if xs.all (fun x=>x.plain) then k xs else .fail).run o e=some e' →
   ∃ e1 rv1 E1 L1 ys us Ly,(k ys).run o e1=some e'∧St w0 U Φ0 nt hv a w e1 Φ rv1 E1 L1∧zUy g rv rv1 E E1 L L1∧Listed w Φ (a.eval x) ys us Ly∧Ly.Nodup∧∀ b∈Ly,b∈L1 g:=by
  intro p hp h
  obtain ⟨ys,us,Ly,h1,h2⟩:=zMo S hp h
  obtain ⟨h3,h4⟩:=zDk h1
  have:Ly=[]:=zF0 (fun y hy=>List.all_eq_true.1 h3 y hy) h2.reps
  subst this
  exact ⟨e,rv,E,L,ys,us,[],h4,S,fun _ _ _=>⟨rfl,rfl,rfl⟩,h2,List.nodup_nil,by simp⟩
 cases x with
 | const v=>simp only [zNe] at h;obtain ⟨p,h1,h2⟩:=zBz S hx h;exact copy h2 h1
 | func f=>simp only [zNe] at h;obtain ⟨p,h1,h2⟩:=zBz S hx h;exact copy h2 h1
 | global f=>cases h
 | tmp t =>
  have ht:(t:Nat)<nt:=zBY hx
  have yj:(t:Nat)<zAb:=Nat.lt_of_lt_of_le ht (Nat.le_trans S.small (by decide))
  have v6:a.eval (.tmp t)=rv t:=S.tmps t ht
  simp only [zNe,PM.run] at h
  split at h
  ·cases h
  ·split at h
   ·rename_i sz xs kh
    simp only [PM.run] at h
    have hE:E t = .own sz xs:=by rw [S.env t yj,kh]
    have hc:=S.conf.take (s:=t) (g:=g) yj hg
    have hgt:t≠g:=by intro hc;subst hc;exact absurd yj (Nat.not_lt.2 hg)
    have S1:=S.turn (e':=e.set t .bad) hc (fun s hs=>by
     rw [zAf (by omega),Env.get_set]
     by_cases yZ:s=t
     ·subst yZ;rw [zAh,if_pos rfl]
     ·rw [zAf yZ,if_neg yZ];exact S.env s hs) (fun s hs=>zAf (by omega)) (fun d ps hd hp=>by
     rw [zAf (by simp only [zAb] at hg;omega)] at hp
     by_cases hdt:d=t
     ·subst hdt;rw [zAh] at hp;cases hp
     ·rw [zAf hdt] at hp;exact ⟨ps,hp,rfl⟩)
    have hI:=S.conf.rep t
    rw [hE] at hI
    have yY:=S.conf.nodup t
    have kn:zUy g rv (upd rv g (rv t)) E (upd (upd E t .bad) g (E t)) L (upd (upd L t []) g (L t)):=by
     intro s hs hH
     have yZ:s≠t:=by intro hc;subst hc;exact absurd yj (Nat.not_lt.2 hs)
     rw [zAf hH,zAf hH,zAf hH,zAf yZ,zAf yZ];exact ⟨rfl,rfl,rfl⟩
    rw [v6]
    obtain ⟨q1,q2,q3⟩ | ⟨x,m,c,us,M,q0,q1,q2,q3,q4,q5,q6,⟨q7,q7'⟩,q8,q9⟩:=hI
    ·subst q1
     exact ⟨_,_,_,_,[],[],[],h,S1,kn,zEW q3,List.nodup_nil,by simp⟩
    ·have yz:us.length=xs.length:=by have:=congrArg List.length q7';simpa using this
     rw [q0] at yY
     refine ⟨_,_,_,_,xs,us,M,h,S1,kn,⟨⟨some x,m,q1,fun sz' jQ P w1 hw=>?_⟩,q9,fun sz' jQ u hu=>?_,q7'⟩,(List.nodup_cons.1 yY).2,fun b hb=>by rw [zAh,q0];simp [hb]⟩
     ·rw [q1]
      cases xs with
      | nil =>
       have h0:us=[]:=List.eq_nil_of_length_eq_zero (by simpa using yz)
       subst h0
       exact run_firstCells_some w1 sz' 0 x 0 m [] (by simp) (by simp)
      | cons y ys =>
       have:sz'=sz:=by rw [← jQ y (by simp),q6 y (by simp)]
       subst this
       exact zIq q2 q4.any yz q7 q8 P w1 hw
     ·cases xs with
      | nil =>
       have h0:us=[]:=List.eq_nil_of_length_eq_zero (by simpa using yz)
       rw [h0] at hu;cases hu
      | cons y ys=>rw [q7 u hu,← jQ y (by simp),q6 y (by simp)]
   ·simp only [PM.run] at h
    have hv:=S.conf.view yj
    rw [S.env t yj] at hv
    exact copy (by rw [v6];exact hv) h
theorem zRj {A:Al} {w':World} {z:Value} {sz len m cap:Nat} {xs ys:List PV} {us uys:List Value} {M Ly:List Nat} (hz:z.cells.size=sz) (hO:us.length=len) (hm:uys.length=m) (v9:xs.length=len) (kB:ys.length=m)
  (j0:∀ x∈xs,x.cells.length=sz) (wh:∀ y∈ys,y.cells.length=sz) (wO:∀ u∈us,u.cells.size=sz) (wi:∀ u∈uys,u.cells.size=sz) (j6:us.map zCf=xs.map PV.isAgg) (qy:uys.map zCf=ys.map PV.isAgg)
  (hr:zAZ w' Φ zCn xs us M) (wY:zAZ w' Φ zCn ys uys Ly) (yQ:len+m≤cap) {b:Nat} (yB:zFf w' b ((flat us).toArray++(flat uys).toArray++Builtin.zeroCells z.cells (cap-(len+m)))) :
  Rep w' Φ A (.own sz (xs++ys)) (.slice (some ⟨b,0,none⟩) (len+m) cap) (b::(M++Ly)):=by
 have jo:(flat us++flat uys).length=(len+m)*sz:=by rw [List.length_append,zBn wO,zBn wi,hO,hm,Nat.add_mul]
 refine .inr ⟨⟨b,0,none⟩,cap,_,us++uys,M++Ly,rfl,by simp [v9,kB],rfl,by simp [v9,kB,yQ],yB,?_,fun x hx=>?_,⟨fun u hu=>?_,by simp [j6,qy]⟩,?_,hr.append wY⟩
 ·simp only [Array.size_append,size_zeroCells,hz]
  have h1:=congrArg (·) jo
  simp at jo
  have:(len+m)*sz+(cap-(len+m))*sz=cap*sz:=by rw [← Nat.add_mul];congr 1;omega
  simp;omega
 ·rcases List.mem_append.1 hx with h | h
  ·exact j0 x h
  ·exact wh x h
 ·rcases List.mem_append.1 hu with h | h
  ·exact wO u h
  ·exact wi u h
 ·rw [zCZ,List.length_append,v9,kB]
  simp only [seg,List.drop_zero,Array.toList_append]
  rw [← jo]
  exact List.take_left
theorem zN6:∀ {ys:List PV} {us:List Value} {Ly:List Nat},zAZ w Φ zCn ys us Ly→us.map zCf=ys.map PV.isAgg→(∀ y∈ys,∀ q∈y.cells,q.oneCell=true)→∀ u∈flat us,u.oneCell'=true
 | [],us,Ly,h,_,_,u,hu=>by rw [h.1] at hu;cases hu
 | y :: ys,us,Ly,h,ha,ho,u,hu=>by
  obtain ⟨v,vs,L1,L2,rfl,rfl,h1,h2⟩:=h
  simp only [List.map_cons,List.cons.injEq] at ha
  rw [zCQ] at hu
  rcases List.mem_append.1 hu with hu | hu
  ·have hc:=h1.cellsAll ha.1
   obtain ⟨j,hj⟩:=List.getElem?_of_mem hu
   have jf:j<y.cells.length:=by rw [← hc.length];exact (List.getElem?_eq_some_iff.1 hj).1
   obtain ⟨v',La,Li',Lb,yC,_,yx,_⟩:=hc.split (i:=j) (List.getElem?_eq_getElem jf)
   rw [hj] at yC;cases yC
   exact zB7 (fun a v _ h=>h.elim) yx (ho y (by simp) _ (List.getElem_mem jf))
  ·exact zN6 h2 ha.2 (fun z hz=>ho z (by simp [hz])) u hu
theorem St.made (S:St w0 U Φ0 nt hv a w e Φ rv E L) (hb:∀ s,zAb+3≤s→E s = .bad) {d:Option Nat} (hd:∀ x,d=some x→x<nt) {w':World} {p:PV} {v:Value} {Lp:List Nat} (hr:∀ A:Al,Rep w' Φ A p v Lp) (vF:Lp.Nodup)
  (ho:∀ b∈Lp,(∃ t,zAb≤t∧t<zAb+3∧b∈L t)∨(w.heap.size≤b∧b<w'.heap.size)) (hw:w.heap.size≤w'.heap.size)
  (hk:∀ b,b<w.heap.size→(∀ t,zAb≤t→t<zAb+3→b∉L t)→w'.heap[b]? = w.heap[b]?) (uB:w'.os=w.os∧w'.tape=w.tape∧w'.output=w.output) (h:(put d p).run o e=some e') :
  Fr w0 U Φ0 nt hv (a.put d v) w' e':=by
 have hG:∀ s,decide (zAb≤s∧s<zAb+3)=true↔zAb≤s∧s<zAb+3:=fun s=>decide_eq_true_iff
 have hc:=S.conf.make (w':=w') (fun s=>decide (zAb≤s∧s<zAb+3)) (fun s hs=>((hG s).1 hs).1) (g:=zAb+3) (by omega) (fun A _=>hr A) vF
  (fun b hb=>(ho b hb).imp (fun ⟨t,h1,h2,h3⟩=>⟨t,h3,(hG t).2 ⟨h1,h2⟩⟩) id) hw
  (fun b hb hn=>hk b hb fun t h1 h2 h3=>by have:=hn t h3;rw [(hG t).2 ⟨h1,h2⟩] at this;cases this) uB
 have S1:=S.turn (e':=e) hc (fun s hs=>by
  rw [zAf (by omega)]
  have:decide (zAb≤s∧s<zAb+3)=false:=decide_eq_false (by omega)
  simp only [this,Bool.false_eq_true,if_false];exact S.env s hs) (fun s hs=>zAf (by omega)) (fun d ps hd hp=>by
  rw [zAf (by simp only [zAb];omega)] at hp
  have:decide (zAb≤d∧d<zAb+3)=false:=decide_eq_false (by simp only [zAb];omega)
  simp only [this,Bool.false_eq_true,if_false] at hp;exact ⟨ps,hp,rfl⟩)
 have:=zFy S1 hd (g:=zAb+3) (by omega) (by rw [zAh];exact h) (fun s hs hH=>by
  rw [zAf hH]
  by_cases h3:s<zAb+3
  ·have:decide (zAb≤s∧s<zAb+3)=true:=(hG s).2 ⟨hs,h3⟩
   simp [this]
  ·have:decide (zAb≤s∧s<zAb+3)=false:=decide_eq_false (by omega)
   simp only [this,Bool.false_eq_true,if_false];exact hb s (by omega))
 rwa [zAh] at this
theorem St.regrown (S:St w0 U Φ0 nt hv a w e Φ rv E L) (hb:∀ s,zAb+3≤s→E s = .bad) {d:Option Nat} (hd:∀ x,d=some x→x<nt) {z:Value} {el:TypeId} {sz len m cap:Nat} {xs ys:List PV} {us uys:List Value} {M Ly:List Nat} (hz:z.cells.size=sz) (hO:us.length=len) (hm:uys.length=m) (v9:xs.length=len) (kB:ys.length=m)
  (j0:∀ x∈xs,x.cells.length=sz) (wh:∀ y∈ys,y.cells.length=sz) (wO:∀ u∈us,u.cells.size=sz) (wi:∀ u∈uys,u.cells.size=sz) (j6:us.map zCf=xs.map PV.isAgg) (qy:uys.map zCf=ys.map PV.isAgg)
  (hr:zAZ w Φ zCn xs us M) (wY:zAZ w Φ zCn ys uys Ly) (yQ:len+m≤cap) (qP:∀ b∈M,b∈L (zAb+1)) (qQ:∀ b∈Ly,b∈L zAb) (gd:M.Nodup) (hLn:Ly.Nodup) (h:(put d (.own sz (xs++ys))).run o e=some e') :
  Fr w0 U Φ0 nt hv (a.put d (.slice (some ⟨w.heap.size,0,none⟩) (len+m) cap)) (w.drew.alloc (.cells ((flat us).toArray++(flat uys).toArray++Builtin.zeroCells z.cells (cap-(len+m))) el)) e':=by
 have hold:∀ t,t<w.heap.size→(w.drew.alloc (.cells ((flat us).toArray++(flat uys).toArray++Builtin.zeroCells z.cells (cap-(len+m))) el)).heap[t]? = w.heap[t]?:=fun t ht=>by
  show (w.heap.push _)[t]? = _
  rw [Array.getElem?_push,if_neg (by omega)]
 have hΦ:zDo w (w.drew.alloc (.cells ((flat us).toArray++(flat uys).toArray++Builtin.zeroCells z.cells (cap-(len+m))) el)) Φ Φ:=fun t ht=>⟨ht,hold t (S.conf.frz t ht).1⟩
 refine S.made hb hd (Lp:=w.heap.size::(M++Ly)) (fun A=>zRj hz hO hm v9 kB j0 wh wO wi j6 qy (hr.mono hΦ (fun _ _ _ h=>h) fun b hb=>hold b (S.conf.own _ b (qP b hb)).1) (wY.mono hΦ (fun _ _ _ h=>h) fun b hb=>hold b (S.conf.own _ b (qQ b hb)).1) yQ ⟨el,?_⟩) ?_ (fun b hb=>?_) ?_ (fun b hb _=>hold b hb) ⟨rfl,rfl,rfl⟩ h
 ·show (w.heap.push _)[w.heap.size]? = _
  simp
 ·refine List.nodup_cons.2 ⟨fun hm=>?_,?_⟩
  ·rcases List.mem_append.1 hm with hm | hm
   ·exact absurd (S.conf.own _ _ (qP _ hm)).1 (Nat.lt_irrefl _)
   ·exact absurd (S.conf.own _ _ (qQ _ hm)).1 (Nat.lt_irrefl _)
  ·rw [List.nodup_append]
   exact ⟨gd,hLn,fun x hx y hy e=>S.conf.disj (zAb+1) zAb (by omega) x (qP x hx) (e▸qQ y hy)⟩
 ·rcases List.mem_cons.1 hb with rfl | hb
  ·exact .inr ⟨Nat.le_refl _,by show _<(w.heap.push _).size;simp⟩
  ·rcases List.mem_append.1 hb with hb | hb
   ·exact .inl ⟨zAb+1,by omega,by omega,qP b hb⟩
   ·exact .inl ⟨zAb,by omega,by omega,qQ b hb⟩
 ·show _≤(w.heap.push _).size
  simp
theorem zNo (S1:St w0 U Φ0 nt hv a w e Φ rv E L) (yd:∀ s,zAb≤s→s≠zAb→s≠zAb+2→E s = .bad) {d:Option Nat} (hd:∀ x,d=some x→x<nt) {t t2 ty el e2:TypeId} {i:TypeInfo} {vx vy:Value} {r:Nat} {pre:zAS} {zz lo n s sz:Nat} {xs ys:List PV} {uys:List Value} {Ly:List Nat} {xb:Option Addr} {xc:Nat}
  (hE2:E (zAb+2) = .bor r pre zz lo n) (hrv2:rv (zAb+2)=vx) (qz:(Builtin.firstCells sz ys.length (.slice xb ys.length xc)).run P w = .ok (flat uys).toArray w) (jR:zAZ w Φ zCn ys uys Ly) (jx:∀ y∈ys,y.cells.length=sz) (jy:uys.map zCf=ys.map PV.isAgg)
  (hq:zAC (E r).unlock pre=some (.own s xs)) (hs:s=sz) (ht:P.underlying t=some (.slice el)) (km:P.underlying t2=some (.slice e2)) (hi:P.info? el=some i) (yp:i.size=sz) (vK:vy = .slice xb ys.length xc) (uO:Nat.beq (lo+n) xs.length=false)
  (h:(zKI d r pre zz lo n s xs ys).run o e=some e'):∃ v w',(Builtin.append_ #[t,t2] ty #[vx,vy]).run P w = .ok v w'∧Fr w0 U Φ0 nt hv (a.put d v) w' e':=by
 subst hs
 obtain ⟨hc,h1⟩:=zAV h
 simp only [Bool.and_eq_true,List.all_eq_true] at hc
 obtain ⟨⟨⟨c1,c2⟩,c3⟩,c4⟩:=hc
 have c1:=zBY c1
 have c2:=Nat.eq_of_beq_eq_true c2
 have c3:=Nat.le_of_ble_eq_true c3
 subst c2
 have qQ:Ly=[]:=zF0 c4 jR
 subst qQ
 have h2:=S1.conf.drop fun s=>s==zAb
 have S2:=S1.turn (e':=e) h2 (fun s hs=>by
  have:(s==zAb)=false:=by simp;omega
  simp only [this,Bool.false_eq_true,if_false];exact S1.env s hs) (fun _ _=>rfl) (fun d ps hd hp=>by
  have:(d==zAb)=false:=by simp only [zAb,beq_eq_false_iff_ne];omega
  simp only [this,Bool.false_eq_true,if_false] at hp;exact ⟨ps,hp,rfl⟩)
 have hp:=S2.conf.rep (zAb+2)
 have qj:((zAb+2:Nat)==zAb)=false:=by simp
 simp only [qj,Bool.false_eq_true,if_false] at hp
 rw [hE2,hrv2] at hp
 obtain ⟨_,hr,⟨b,cap,yC,yQ,vX,uQ⟩,hn⟩:=hp
 have js:(r==zAb)=false:=by simp;omega
 obtain ⟨nv,Li,hf,_,hI⟩:=zBG (zBZ (S2.conf.rep r)) (by simp only [js,Bool.false_eq_true,if_false];exact hq)
 obtain ⟨sz2,xs2,g1,g2,g3⟩:=hn nv _ hf rfl
 cases g1
 obtain ⟨q1,q2,q3⟩ | ⟨x,m,c,us,M,q0,q1,q2,q3,q4,q5,q6,⟨q7,q7'⟩,q8,q9⟩:=hI
 ·subst q1
  have:lo+n=0:=by simp at c3;omega
  rw [this] at uO;cases uO
 ·subst q1
  simp only [zBV] at g3
  obtain ⟨g3,g4⟩:=g3
  have hO:lo+n+ys.length≤m:=by omega
  have hw:Rep w Φ (zA2 w rv fun s=>if (s==zAb)=true then .bad else E s) (.bor r pre zz lo (n+ys.length)) (.slice (some (zAs x (lo*zz))) (n+ys.length) (m-lo)) []:=by
   refine ⟨rfl,hr,⟨_,_,rfl,by omega,by simp,fun b hb=>by simp only [Option.some.injEq] at hb;rw [← hb];rfl⟩,fun nv' np' yn hh=>?_⟩
   rw [hf] at yn
   cases yn
   exact ⟨_,_,rfl,rfl,rfl,by omega⟩
  have S3:=S2.hold (g:=zAb+2) (by omega) hw
  obtain ⟨w1,e1,rv1,E1,L1,k1,S4,k3,⟨k5,k6⟩,k4⟩:=zKL (z:=zz) (lo:=lo) (n:=n+ys.length) (v := .slice (some (zAs x (lo*zz))) (n+ys.length) (m-lo)) c1 ys uys n S3 zAh zAh (fun s hs hH=>by
   rw [zAf hH]
   by_cases yb:s=zAb
   ·subst yb;simp
   ·have:(s==zAb)=false:=by simpa using yb
    simp only [this,Bool.false_eq_true,if_false];exact yd s hs yb hH) (fun y hy=>⟨c4 y hy,jx y hy⟩) jy jR (Nat.le_refl _) h1
  have yJ:=zFy S4 hd (g:=zAb+2) (by omega) (by rw [k5];exact k1) k3
  rw [k6] at yJ
  refine ⟨_,w1,?_,yJ⟩
  rw [g3,vK]
  have yA:n+ys.length≤m-lo:=by omega
  rcases k4 with ⟨rfl,rfl⟩ | ⟨b',cap',row,ka,yS,yB,hrm,yI,rfl⟩
  ·have yz:uys=[]:=List.eq_nil_of_length_eq_zero (by have:=jR.length;simpa using this)
   subst yz
   exact zEd (i:=i) ht km hi (by rw [yp];exact qz) yA w1 (fun b hb=>by simp [storeCells,flat]) (by simp)
  ·simp only [Value.slice.injEq,Option.some.injEq] at ka
   obtain ⟨rfl,_,_⟩:=ka
   obtain ⟨et,jg⟩:=yB
   have yZ:=run_storeCells_at (P:=P) (zAs x (lo*zz)).block ((zAs x (lo*zz)).off+n*zz) et (flat uys) 0 row w jg (by simpa using hrm) yI
   simp only [Nat.add_zero] at yZ
   have gA:(zAs x (lo*zz)).add (n*zz)=⟨(zAs x (lo*zz)).block,(zAs x (lo*zz)).off+n*zz,none⟩:=by rw [zBS rfl];rfl
   exact zEd (i:=i) ht km hi (by rw [yp];exact qz) yA _ (fun b hb=>by cases hb;rw [yp,gA];exact yZ) (by simp)
theorem zRg (S:St w0 U Φ0 nt hv a w e Φ rv E L) (hb:zBw E) {d:Option Nat} (hd:∀ x,d=some x→x<nt) {t t2 ty:TypeId} {x y:Operand} (hx:zAW nt x=true) (hy:zAW nt y=true)
  (h:(zBr P d .append [t,t2] [x,y]).run o e=some e'):∃ v w',(Builtin.append_ #[t,t2] ty #[a.eval x,a.eval y]).run P w = .ok v w'∧Fr w0 U Φ0 nt hv (a.put d v) w' e':=by
 simp only [zBr] at h
 cases j5:(zBX P t2).isNone with
 | true=>rw [j5] at h;cases h
 | false =>
 rw [j5] at h;simp only [cond_false] at h
 have km:∃ e2,P.underlying t2=some (.slice e2):=by
  cases he:zBX P t2 with
  | none=>rw [he] at j5;cases j5
  | some e2=>exact ⟨e2,zCz he⟩
 obtain ⟨e2,km⟩:=km
 split at h
 ·rename_i sz by_ z yD wg hzz
  obtain ⟨⟨hby16,ko⟩,h1⟩:=zDk h
  cases jG:zBX P t with
  | none=>rw [jG] at yD;cases yD
  | some el =>
   rw [jG] at yD wg hzz
   simp only [Option.bind_some] at yD wg hzz
   have ht:=zCz jG
   obtain ⟨i,hi,yp⟩:=zCh yD
   have hib:i.bytes=by_:=by simp only [zHZ,hi,Option.map_some,Option.some.injEq] at wg;exact wg
   obtain ⟨i2,z0,uG,kL,_,kg⟩:=zEf hzz
   rw [hi] at uG;cases uG
   have wj:z0.cells.size=sz:=by rw [(zCD (w:=w) (Φ:=Φ) (A:=zCn) kg).2.1,ko]
   obtain ⟨p,h2,hp⟩:=zBz S hx h1
   have S0:=S.hold (g:=zAb+2) (by omega) hp
   obtain ⟨e1,rv1,E1,L1,ys,uys,Ly,h3,S1,kn,kQ,wk,hLyg⟩:=zRU S0 (g:=zAb) (Nat.le_refl _) (by rw [zAf (show zAb≠zAb+2 by omega)];exact hb _ (Nat.le_refl _)) hy h2
   obtain ⟨⟨xb,xc,vK,yN⟩,jR,vk,jy⟩:=kQ
   simp only [zK0] at h3
   obtain ⟨hc,h4⟩:=zAV h3
   simp only [Bool.and_eq_true] at hc
   have jx:∀ q∈ys,q.cells.length=sz:=fun q hq=>by
    have:=List.all_eq_true.1 hc.1 q hq
    simp only [Bool.and_eq_true] at this
    exact Nat.eq_of_beq_eq_true this.1
   have kq:=vk sz jx
   have vL:uys.length=ys.length:=jR.length
   have uR:=kn (zAb+2) (by omega) (by omega)
   rw [zAh,zAh,zAh] at uR
   have ku:=S1.conf.rep (zAb+2)
   rw [uR.1,uR.2.1,uR.2.2] at ku
   have kY:∀ s,zAb≤s→s≠zAb→s≠zAb+2→E1 s = .bad:=fun s hs h1 h2=>by rw [(kn s hs h1).1,zAf h2];exact hb s hs
   have yI:∀ u∈flat uys,u.oneCell'=true:=zN6 jR jy fun q hq z hz=>by
    have:=List.all_eq_true.1 hc.1 q hq
    simp only [Bool.and_eq_true] at this
    exact List.all_eq_true.1 this.2 z hz
   have yd:∀ s,zAb+3≤s→E1 s = .bad:=fun s hs=>kY s (by omega) (by omega) (by omega)
   have qR:∀ t,w.drew.cell? t=w.cell? t:=fun t=>rfl
   have qS:=yN sz jx P w.drew qR
   have qz:=yN sz jx P w (fun _=>rfl)
   rw [vK] at qS qz
   split at h4
   ·rename_i r pre zz lo n
    obtain ⟨q,hq,h5⟩:=zBT h4
    split at h5
    ·rename_i s xs
     obtain ⟨jJ,h6⟩:=zAV h5
     cases uO:Nat.beq (lo+n) xs.length with
     | false =>
      rw [uO] at h6
      simp only [cond_false] at h6
      simp only [Bool.and_eq_true] at jJ
      exact zNo S1 kY hd uR.1 uR.2.1 qz jR jx jy (by rw [S1.env r ku.2.1];exact hq) (Nat.eq_of_beq_eq_true jJ.1.1) ht km hi yp vK uO h6
     | true =>
     rw [uO] at h6
     have h7:=h6
     simp only [cond_true] at h7
     obtain ⟨gg,h8⟩:=zAV h7
     simp only [Bool.and_eq_true] at jJ
     have hs:=Nat.eq_of_beq_eq_true jJ.1.1
     have kR:=Nat.le_of_ble_eq_true jJ.2
     have hln:=Nat.eq_of_beq_eq_true uO
     have uM:=Nat.eq_of_beq_eq_true gg
     subst hs;subst uM
     have vg:n=xs.length:=by omega
     subst vg
     obtain ⟨root,hl,hm,h9⟩:=zCt h8
     have hr:r<zAb:=ku.2.1
     have yG:=zBA hl
     rw [yG,← S1.env r hr] at hq
     rw [← S1.env r hr] at yG hm
     obtain ⟨kk1,kk2⟩:=zBJ (q' := .bad) rfl rfl hm
     obtain ⟨nv,Li,g1,g2,g3,g4,g5⟩:=S1.taken (g:=zAb+1) (by omega) hr yG hq rfl hm kk1 kk2
     have jK:zBV (a.eval x) nv s 0 xs.length:=by
      obtain ⟨_,_,_,hn⟩:=ku
      obtain ⟨s2,xs2,q1,q2,q3⟩:=hn nv _ (by rw [yG];exact g1) rfl
      cases q1;subst q2;exact q3
     obtain ⟨L2,S2,un⟩:=g5 _ nv Li g2 g3 (fun b hb => .inl hb)
     have uS:∀ t,zAb+3≤t→upd (upd E1 r root) (zAb+1) (PV.own s xs) t = .bad:=fun t ht=>by
      rw [zAf (by omega),zAf (by omega)];exact yd t ht
     have vM:∀ b∈Ly,b∈L2 zAb:=fun b hb=>by rw [un zAb (Nat.le_refl _) (by omega)];exact hLyg b hb
     have hg1r:zAb+1≠r:=by omega
     have hLi2:Rep w Φ (zA2 w (upd rv1 (zAb+1) nv) (upd (upd E1 r root) (zAb+1) (.own s xs))) (.own s xs) nv (L2 (zAb+1)):=by
      have:=S2.conf.rep (zAb+1)
      rwa [zAh,zAh] at this
     have hLiE:Li=L2 (zAb+1):=Rep.uniq _ _ _ _ g2 hLi2
     obtain ⟨q1,q2,q3⟩ | ⟨b,cap,c,us,M,q0,q1,q2,q3,q4,q5,q6,⟨q7,q7'⟩,q8,q9⟩:=g2
     ·
      subst q1;subst q3
      have wN:a.eval x = .slice none 0 0:=jK.1
      rw [wN,vK]
      by_cases hy0:ys.length=0
      ·have hyn:ys=[]:=List.eq_nil_of_length_eq_zero hy0
       subst hyn
       have hun:uys=[]:=List.eq_nil_of_length_eq_zero (by simpa using vL)
       subst hun
       refine ⟨_,w,zEd (i:=i) ht km hi (by rw [yp];exact qz) (by simp) w (by simp) (fun _=>rfl),?_⟩
       exact zAw (S2.clear.choose_spec.choose_spec.choose_spec.choose_spec.1) (S2.clear.choose_spec.choose_spec.choose_spec.choose_spec.2) hd h9 (v := .slice none (0+0) 0) (.inl ⟨rfl,rfl,rfl⟩)
      ·have yQ:0+ys.length≤grownCap w (0+ys.length) 0 el:=grownCap_ge w _ _ _
       refine ⟨_,_,zFx (a:=none) (old:=[]) (news:=flat uys) ht km hi kL (by rw [yp];exact run_firstCells_none _ _ _ _ _) (by rw [yp];exact qS) (by omega) (by simp only [zAI,List.length_nil] at kR;omega) (by omega),?_⟩
       have:=S2.regrown uS hd (z:=z0) (el:=el) (sz:=s) (len:=0) (m:=ys.length) (xs:=[]) (us:=[]) (M:=[]) wj rfl vL rfl rfl (by simp) jx (by simp) kq rfl jy ⟨rfl,rfl⟩ jR yQ (by simp) vM List.nodup_nil wk (by simpa using h9)
       simpa [flat] using this
     ·have yz:us.length=xs.length:=by have:=congrArg List.length q7';simpa using this
      subst q1
      simp only [zBV] at jK
      have gB:zAs b (0*s)=b:=by cases b;simp_all [zAs]
      have wV:a.eval x = .slice (some b) xs.length cap:=by rw [jK.1,gB];rfl
      have qP:∀ t∈M,t∈L2 (zAb+1):=fun t ht=>by rw [← hLiE,q0];simp [ht]
      have jO:b.block∈L2 (zAb+1):=by rw [← hLiE,q0];simp
      have gd:M.Nodup∧b.block∉M:=by rw [q0] at g3;exact ⟨(List.nodup_cons.1 g3).2,(List.nodup_cons.1 g3).1⟩
      rw [wV,vK]
      by_cases yA:xs.length+ys.length≤cap
      ·
       have w6:(xs.length+ys.length)*s≤cap*s:=Nat.mul_le_mul_right _ yA
       rw [Nat.add_mul] at w6
       have hful:(flat uys).length=ys.length*s:=by rw [zBn kq,vL]
       have zMK:b.off+xs.length*s+(flat uys).length≤c.size:=by omega
       obtain ⟨et,jg⟩:=q4
       have yZ:=run_storeCells_at (P:=P) b.block (b.off+xs.length*s) et (flat uys) 0 c w jg (by simpa using zMK) yI
       simp only [Nat.add_zero] at yZ
       have gA:b.add (xs.length*s)=⟨b.block,b.off+xs.length*s,none⟩:=by rw [zBS q2];rfl
       refine ⟨_,_,zEd (i:=i) ht km hi (by rw [yp];exact qz) yA (w.setRow b.block (zBe c (b.off+xs.length*s) (flat uys))) (fun b' yF=>by cases yF;rw [yp,gA];exact yZ) (by simp),?_⟩
       have yk:∀ t,t≠b.block→(w.setRow b.block (zBe c (b.off+xs.length*s) (flat uys))).heap[t]? = w.heap[t]?:=fun t ht=>setRow_other w _ t _ ht
       have hΦ:zDo w (w.setRow b.block (zBe c (b.off+xs.length*s) (flat uys))) Φ Φ:=fun t ht=>⟨ht,yk t fun hc=>(S2.conf.own _ _ jO).2.1 (hc▸ht)⟩
       refine S2.made uS hd (Lp:=b.block::(M++Ly)) (fun A=>?_) ?_ (fun t ht=>?_) (by rw [setRow_size];exact Nat.le_refl _) (fun t _ hn=>yk t fun hc=>hn (zAb+1) (by omega) (by omega) (hc▸jO)) ⟨rfl,rfl,rfl⟩ h9
       ·refine .inr ⟨b,cap,_,us++uys,M++Ly,rfl,by simp,q2,by simpa using yA,⟨et,setRow_heap w _ _ _ et _ jg⟩,?_,fun y hy=>?_,⟨fun u hu=>?_,by simp [q7',jy]⟩,?_,?_⟩
        ·rw [zGC zMK];exact q5
        ·rcases List.mem_append.1 hy with h | h
         ·exact q6 y h
         ·exact jx y h
        ·rcases List.mem_append.1 hu with h | h
         ·exact q7 u h
         ·exact kq u h
        ·rw [List.length_append,Nat.add_mul,zCZ,zHL (by omega) (by omega) (by omega),show b.off+xs.length*s-b.off=xs.length*s by omega,← zPi (by omega),q8]
         have:(seg c b.off (xs.length*s+ys.length*s)).drop (xs.length*s+(flat uys).length)=[]:=by
          apply List.drop_of_length_le;simp only [seg,List.length_take];omega
         rw [this];simp
        ·exact (q9.mono hΦ (fun _ _ _ h=>h) fun t ht=>yk t fun hc=>gd.2 (hc▸ht)).append (jR.mono hΦ (fun _ _ _ h=>h) fun t ht=>yk t fun hc=>S2.conf.disj (zAb+1) zAb (by omega) _ jO (hc▸vM t ht))
       ·refine List.nodup_cons.2 ⟨fun hm=>?_,?_⟩
        ·rcases List.mem_append.1 hm with hm | hm
         ·exact gd.2 hm
         ·exact S2.conf.disj (zAb+1) zAb (by omega) _ jO (vM _ hm)
        ·rw [List.nodup_append]
         exact ⟨gd.1,wk,fun t ht y hy e=>S2.conf.disj (zAb+1) zAb (by omega) t (qP t ht) (e▸vM y hy)⟩
       ·rcases List.mem_cons.1 ht with rfl | ht
        ·exact .inl ⟨zAb+1,by omega,by omega,jO⟩
        ·rcases List.mem_append.1 ht with ht | ht
         ·exact .inl ⟨zAb+1,by omega,by omega,qP t ht⟩
         ·exact .inl ⟨zAb,by omega,by omega,vM t ht⟩
      ·have yQ:xs.length+ys.length≤grownCap w (xs.length+ys.length) cap el:=grownCap_ge w _ _ _
       have hold:=zIq (n:=xs.length) (xc:=cap) q2 q4.any yz q7 q8 P w.drew qR
       refine ⟨_,_,zFx (a:=some b) (old:=flat us) (news:=flat uys) ht km hi kL (by rw [yp];exact hold) (by rw [yp];exact qS) yA (by simp only [zAI] at kR;omega) (by omega),?_⟩
       exact S2.regrown uS hd (z:=z0) (el:=el) (sz:=s) (len:=xs.length) (m:=ys.length) wj yz vL rfl rfl q6 jx q7 kq q7' jy q9 jR yQ qP vM gd.1 wk h9
    ·cases h5
   ·rename_i zz
    obtain ⟨kR,h5⟩:=zAV h4
    have kR:=Nat.le_of_ble_eq_true kR
    have wN:a.eval x = .slice none 0 0:=ku.1
    rw [wN,vK]
    by_cases hy0:ys.length=0
    ·have hyn:ys=[]:=List.eq_nil_of_length_eq_zero hy0
     subst hyn
     have hun:uys=[]:=List.eq_nil_of_length_eq_zero (by simpa using vL)
     subst hun
     have hf:=yN sz (by simp) P w (fun _=>rfl)
     rw [vK] at hf
     refine ⟨_,w,zEd (i:=i) ht km hi (by rw [yp];exact hf) (by simp) w (by simp) (fun _=>rfl),?_⟩
     have:=zAw (S1.clear.choose_spec.choose_spec.choose_spec.choose_spec.1) (S1.clear.choose_spec.choose_spec.choose_spec.choose_spec.2) hd h5 (v := .slice none (0+0) 0) (.inl ⟨rfl,rfl,rfl⟩)
     exact this
    ·have hL1:L1 (zAb+1)=[]:=by
      have:=S1.conf.rep (zAb+1)
      rw [kY (zAb+1) (by omega) (by omega) (by omega)] at this;exact this
     have yQ:0+ys.length≤grownCap w (0+ys.length) 0 el:=grownCap_ge w _ _ _
     refine ⟨_,_,zFx (a:=none) (old:=[]) (news:=flat uys) ht km hi kL (by rw [yp];exact run_firstCells_none _ _ _ _ _) (by rw [yp];exact qS) (by omega) (by simp only [zAI] at kR;omega) (by omega),?_⟩
     have:=S1.regrown yd hd (z:=z0) (el:=el) (sz:=sz) (len:=0) (m:=ys.length) (xs:=[]) (us:=[]) (M:=[]) wj rfl vL rfl rfl (by simp) jx (by simp) kq rfl jy ⟨rfl,rfl⟩ jR yQ (by simp) hLyg List.nodup_nil wk (by simpa using h5)
     simpa [flat] using this
   ·cases h4
 ·cases h
end
end Go.Eng
namespace Go.Eng
open Go
section
variable {P:Program} {w0 w:World} {U Φ0 Φ:Nat→Prop} {nt:Nat} {hv:Hid} {a:Act} {e e':Env} {rv:Nat→Value} {E:Nat→PV} {L:Nat→List Nat} {o:zAF}
theorem zPu (S:St w0 U Φ0 nt hv a w e Φ rv E L) (hb:zBw E) {d:Option Nat} (hd:∀ x,d=some x→x<nt) {t:TypeId} (h:(put d (.omap [])).run o e=some e') :
  ∃ v w',(Instr.makeMap t none).run P w = .ok v w'∧Fr w0 U Φ0 nt hv (a.put d v) w' e':=by
 refine ⟨.map (some w.heap.size),{w with heap:=w.heap.push (.map #[] 0)},by simp [Instr.makeMap],?_⟩
 refine S.made (p := .omap []) (v := .map (some w.heap.size)) (fun s hs=>hb s (by omega)) hd (Lp:=[w.heap.size]) (fun A=>⟨w.heap.size,#[],rfl,rfl,by simp,rfl⟩) (by simp) (fun b yF => .inr ?_) (by simp) (fun b yF _=>?_) ⟨rfl,rfl,rfl⟩ h
 ·simp only [List.mem_singleton] at yF;subst yF;exact ⟨Nat.le_refl _,by simp⟩
 ·show (w.heap.push _)[b]? = _
  rw [Array.getElem?_push,if_neg (by omega)]
theorem zGp {z:Value} {s:Nat} (hz:z.cells.size=s) {l k:Nat} {u:Value} (h:(flat (List.replicate l z))[k]? = some u):(madeCells z.cells (k+1))[k]? = some u:=by
 have hO:(flat (List.replicate l z)).length=l*s:=by
  rw [zBn (sz:=s) (fun u hu=>by rw [List.eq_of_mem_replicate hu];exact hz)];simp
 have hk:k<l*s:=by rw [← hO];exact (List.getElem?_eq_some_iff.1 h).1
 have hs:0<s:=Nat.pos_of_ne_zero fun h0=>by subst h0;simp at hk
 have hdm:k / s*s+k % s=k:=Nat.div_add_mod' k s
 have hq:k / s<l:=Nat.div_lt_of_lt_mul (by rw [Nat.mul_comm];exact hk)
 have hr:k % s<s:=Nat.mod_lt _ hs
 have hzc : z.cells.toList[k % s]? = some (z.cells[k % s]'(by omega)) := by simp
 have:=zDT (sz:=s) (us:=List.replicate l z) (fun u hu=>by rw [List.eq_of_mem_replicate hu];exact hz) (i:=k / s) (c:=k % s) (x:=z) (by simp [hq]) hzc
 rw [hdm,h] at this
 simp only [Option.some.injEq] at this
 subst this
 simp [madeCells,hz,getElem!_pos,hr]
theorem zNI {z:Array Value} {n m k:Nat} (hk:k<n) (hm:k<m):(madeCells z n)[k]? = (madeCells z m)[k]?:=by
 simp [madeCells,hk,hm]
theorem zL5 (S:St w0 U Φ0 nt hv a w e Φ rv E L) (hb:zBw E) {d:Option Nat} (hd:∀ x,d=some x→x<nt) {t:TypeId} {l c:Operand} (hl:zAW nt l=true) (hc:zAW nt c=true) (h:(zFh P d t l c).run o e=some e') :
  ∃ v w',(Instr.makeSlice t (a.eval l) (a.eval c)).run P w = .ok v w'∧Fr w0 U Φ0 nt hv (a.put d v) w' e':=by
 obtain ⟨p,h1,hp⟩:=zBz S hl h
 obtain ⟨kl,l,rfl,vl,h2⟩:=zEN h1
 obtain ⟨q,h3,hq⟩:=zBz S hc h2
 obtain ⟨kc,c,rfl,vb,h4⟩:=zEN h3
 split at h4
 ·rename_i el jG
  split at h4
  ·rename_i z s by_ hz hs wg
   obtain ⟨⟨hlc,kR,hb16,ko⟩,h5⟩:=zDk h4
   obtain ⟨i,zv,hi,hzv,_,kg⟩:=zEf hz
   obtain ⟨i2,uG,qT⟩:=zCh hs
   rw [hi] at uG;cases uG
   have hib:i.bytes=by_:=by simp only [zHZ,hi,Option.map_some,Option.some.injEq] at wg;exact wg
   have ht:=zCz jG
   simp only [zAI] at kR
   have wl:(i.bytes:Int)*c≤281474976710656:=by
    have h1:i.bytes*c.toNat≤16384*4294967296:=Nat.mul_le_mul (by omega) kR
    have h2:((i.bytes*c.toNat:Nat):Int)=(i.bytes:Int)*c:=by rw [Int.natCast_mul,Int.toNat_of_nonneg vb]
    omega
   have hZ:=run_make (P:=P) w t el i zv ht hi hzv kl kc l c vl (by omega) wl (by omega)
   obtain ⟨vW,uL,kC,_⟩:=zCD (w:=w) (Φ:=Φ) (A:=zCn) kg
   have ut:zv.cells.size=s:=by rw [uL,ko]
   rw [hp.1,hq.1]
   refine ⟨_,_,hZ,?_⟩
   refine S.made (p := .own s (List.replicate l.toNat z)) (fun s hs=>hb s (by omega)) hd (Lp:=[w.heap.size]) (fun A=>?_) (by simp) (fun b yF => .inr ?_) (by simp) (fun b yF _=>?_) ⟨rfl,rfl,rfl⟩ h5
   ·refine .inr ⟨⟨w.heap.size,0,none⟩,c.toNat,_,List.replicate l.toNat zv,[],rfl,by simp,rfl,by simpa using hlc,⟨el,by show (w.heap.push _)[w.heap.size]? = _;simp;rfl⟩,?_,fun x hx=>?_,⟨fun u hu=>?_,?_⟩,?_,?_⟩
    ·rw [size_madeCells,qT];simp
    ·rw [List.eq_of_mem_replicate hx];exact ko
    ·rw [List.eq_of_mem_replicate hu];exact ut
    ·simp [kC]
    ·rw [List.length_replicate]
     refine zHG ?_ fun k u hk=>?_
     ·rw [zBn (sz:=s) (fun u hu=>by rw [List.eq_of_mem_replicate hu];exact ut)];simp
     ·have hO:(flat (List.replicate l.toNat zv)).length=l.toNat*s:=by
       rw [zBn (sz:=s) (fun u hu=>by rw [List.eq_of_mem_replicate hu];exact ut)];simp
      have wm:k<l.toNat*s:=by rw [← hO];exact (List.getElem?_eq_some_iff.1 hk).1
      have yK:l.toNat*s≤c.toNat*s:=Nat.mul_le_mul_right _ hlc
      rw [Nat.zero_add,qT,zNI (m:=k+1) (by omega) (by omega)]
      exact zGp ut hk
    ·have key:∀ n,zAZ (w.alloc (.cells (madeCells zv.cells (c.toNat*i.size)) el)) Φ zCn (List.replicate n z) (List.replicate n zv) []:=by
      intro n
      induction n with
      | zero=>exact ⟨rfl,rfl⟩
      | succ n ih =>
       exact ⟨zv,_,[],[],rfl,rfl,(zCD kg).1,ih⟩
     exact key _
   ·simp only [List.mem_singleton] at yF;subst yF
    exact ⟨Nat.le_refl _,by show _<(w.heap.push _).size;simp⟩
   ·show (w.heap.push _)[b]? = _
    rw [Array.getElem?_push,if_neg (by omega)]
  ·cases h4
 ·cases h4
theorem zI3 (S:St w0 U Φ0 nt hv a w e Φ rv E L) {x:Option Operand} (hx:∀ y,x=some y→zAW nt y=true) {n:Nat} {k:Nat→PM} (h:(zRA x n k).run o e=some e') :
  ∃ m,(k m).run o e=some e'∧((x=none∧m=n)∨∃ y ik z,x=some y∧a.eval y = .int ik z∧0≤z∧m=z.toNat):=by
 cases x with
 | none=>exact ⟨n,h,.inl ⟨rfl,rfl⟩⟩
 | some y =>
  obtain ⟨p,h1,h2⟩:=zBz S (hx y rfl) h
  obtain ⟨ik,z,rfl,hz,h3⟩:=zEN h1
  exact ⟨z.toNat,h3,.inr ⟨y,ik,z,rfl,h2.1,hz,rfl⟩⟩
theorem zET {ik:IntKind} {z:Int} {y:Nat} {cd:BoundsCode} (h0:0≤z) (h:z.toNat≤y):(Instr.sliceBound (.int ik z) y cd).run P w = .ok z.toNat w:=by
 have:z≤y:=by omega
 simp [Instr.sliceBound,asIntOf,h0,this]
theorem zKi {isS:Bool} {len cap l h:Nat} {lo hi:Option Value} (hh:(hi=none∧h=len)∨∃ ik z,hi=some (.int ik z)∧0≤z∧h=z.toNat) (hl:(lo=none∧l=0)∨∃ ik z,lo=some (.int ik z)∧0≤z∧l=z.toNat)
  (hlh:l≤h) (hhc:hi≠none→h≤cap):(Instr.sliceBounds isS len cap lo hi none).run P w = .ok (l,h,cap) w:=by
 rcases hh with ⟨rfl,rfl⟩ | ⟨ik,z,rfl,hz,rfl⟩
 ·simp only [Instr.sliceBounds,Sem.run_bind,Sem.run_pure,Result.andThen_ok,Option.isSome_none,Bool.false_eq_true,if_false]
  rcases hl with ⟨rfl,rfl⟩ | ⟨ik',z',rfl,hz',rfl⟩
  ·simp
  ·simp only [Sem.run_bind,zET hz' hlh,Result.andThen_ok,Sem.run_pure]
 ·simp only [Instr.sliceBounds,Sem.run_bind,Sem.run_pure,Result.andThen_ok,Option.isSome_none,Bool.false_eq_true,if_false]
  rw [zET hz (hhc (by simp))]
  simp only [Result.andThen_ok]
  rcases hl with ⟨rfl,rfl⟩ | ⟨ik',z',rfl,hz',rfl⟩
  ·simp
  ·simp only [Sem.run_bind,zET hz' hlh,Result.andThen_ok,Sem.run_pure]
theorem zR7 (S : St w0 U Φ0 nt hv a w e Φ rv E L) (hb:zBw E) {d:Option Nat} (hd:∀ x,d=some x→x<nt) {t:TypeId} {x:Operand} {lo hi mx:Option Operand} (hx:zAW nt x=true) (uM:∀ y,lo=some y→zAW nt y=true) (hhi:∀ y,hi=some y→zAW nt y=true) (hmx:∀ y,mx=some y→zAW nt y=true)
  (h:(zJo P d t x lo hi mx).run o e=some e'):∃ v,(Instr.sliceAt t (a.eval x) (lo.map a.eval) (hi.map a.eval) (mx.map a.eval)).run P w = .ok v w∧Fr w0 U Φ0 nt hv (a.put d v) w e':=by
 cases mx with
 | some m =>
  simp only [zJo] at h
  obtain ⟨p,h1,hp⟩:=zBz S hx h
  split at h1
  ·rename_i r pre z a0 n el ht
   obtain ⟨s,hs,h2⟩:=zBD h1
   obtain ⟨ti,jP,yD⟩:=zCh hs
   obtain ⟨mm,h3,h4⟩:=zI3 S hmx h2
   obtain ⟨_,hg,⟨b,cap,yC,yQ,vX,uQ⟩,wM⟩:=hp
   rcases h4 with ⟨h4,_⟩ | ⟨ym,ikm,zm,hym,hem,hzm,rfl⟩
   ·cases h4
   cases hym
   cases hi with
   | none=>cases h3
   | some hi =>
    obtain ⟨hm,h5,h6⟩:=zI3 S hhi h3
    rcases h6 with ⟨h6,_⟩ | ⟨yh,ikh,zh,hyh,heh,hzh,rfl⟩
    ·cases h6
    cases hyh
    obtain ⟨lm,h7,h8⟩:=zI3 S uM h5
    obtain ⟨hc,h9⟩:=zAV h7
    simp only [Bool.and_eq_true] at hc
    have c1:=Nat.le_of_ble_eq_true hc.1.1
    have c2:=Nat.le_of_ble_eq_true hc.1.2
    have c3:=Nat.le_of_ble_eq_true hc.2
    refine ⟨_,?_,zAw S hb hd h9 (p := .bad) (v := .slice (if zm.toNat=lm then b else b.map (·.add (lm*ti.size))) (zh.toNat-lm) (zm.toNat-lm)) rfl⟩
    rw [yC]
    simp only [Instr.sliceAt,Instr.slice,Sem.run_bind,run_underlying ht,Result.andThen_ok,Option.map_some,hem,heh,Instr.sliceBounds,zET hzm (show zm.toNat≤cap by omega),zET hzh c2]
    rcases h8 with ⟨rfl,rfl⟩ | ⟨yl,ikl,zl,rfl,jG,ko,rfl⟩
    ·simp only [Option.map_none,Sem.run_pure,Result.andThen_ok,zAX jP,Sem.run_bind]
    ·simp only [Option.map_some,jG,zET ko c1,Sem.run_pure,Result.andThen_ok,zAX jP,Sem.run_bind]
  ·cases h1
 | none =>
  simp only [zJo] at h
  obtain ⟨p,h1,hp⟩:=zBz S hx h
  have low:∀ {m:Nat},((lo=none∧m=0)∨∃ y ik z,lo=some y∧a.eval y = .int ik z∧0≤z∧m=z.toNat)→(lo.map a.eval=none∧m=0)∨∃ ik z,lo.map a.eval=some (.int ik z)∧0≤z∧m=z.toNat:=by
   rintro m (⟨rfl,rfl⟩ | ⟨y,ik,z,rfl,h2,h3,h4⟩)
   ·exact .inl ⟨rfl,rfl⟩
   ·exact .inr ⟨ik,z,by simp [h2],h3,h4⟩
  have hgh:∀ {m n:Nat},((hi=none∧m=n)∨∃ y ik z,hi=some y∧a.eval y = .int ik z∧0≤z∧m=z.toNat)→(hi.map a.eval=none∧m=n)∨∃ ik z,hi.map a.eval=some (.int ik z)∧0≤z∧m=z.toNat:=by
   rintro m n (⟨rfl,rfl⟩ | ⟨y,ik,z,rfl,h2,h3,h4⟩)
   ·exact .inl ⟨rfl,rfl⟩
   ·exact .inr ⟨ik,z,by simp [h2],h3,h4⟩
  split at h1
  ·
   rename_i n el ht
   split at h1
   ·rename_i s sh hs jU
    obtain ⟨hm,h2,h3⟩:=zI3 S hhi h1
    obtain ⟨lm,h4,h5⟩:=zI3 S uM h2
    obtain ⟨hc,h6⟩:=zAV h4
    simp only [Bool.and_eq_true,Bool.or_eq_true] at hc
    obtain ⟨⟨c1,c2⟩,c3⟩:=hc
    have c1:=Nat.le_of_ble_eq_true c1
    have c2:=Nat.le_of_ble_eq_true c2
    obtain ⟨ti,jP,yD⟩:=zCh hs
    have hbnd:=zKi (P:=P) (w:=w) (isS:=false) (len:=n) (cap:=n) (hgh h3) (low h5) c1 (fun _=>c2)
    have kj:∀ b:Addr,b.spot=none→(if n=lm then b else b.add (lm*ti.size))=zAs b (lm*s):=by
     intro b yS
     split
     ·rename_i gb
      have vl:lm=0:=by
       rcases c3 with c3 | c3
       ·exact Nat.eq_of_beq_eq_true c3
       ·have:=zBY c3;omega
      rw [vl];cases b;simp_all [zAs]
     ·rw [zBS yS,yD]
    split at h6
    ·rename_i r pre i c s'
     obtain ⟨_,hg,b,yX,yS,hn⟩:=hp
     refine ⟨.slice (some (zAs b (lm*s))) (hm-lm) (n-lm),?_,zAw S hb hd h6 ⟨rfl,hg,zAs b (lm*s),n-lm,rfl,by omega,rfl,fun nv np hf a' kM=>?_⟩⟩
     ·rw [yX]
      simp only [Instr.sliceAt,Sem.run_bind,run_underlying ht,Result.andThen_ok,Instr.sureAddr,Sem.run_pure,Option.map_none]
      rw [hbnd]
      simp only [Result.andThen_ok,zAX jP,Sem.run_bind,Sem.run_pure]
      rw [kj b yS]
     ·have key:∃ a0,zA3 nv np i c=some a0∧a'=zAs a0 (lm*s):=by
       cases np<;>try (simp [zA3] at kM;done)
       ·cases nv with
        | slice x _ _ =>
         cases x with
         | none=>cases kM
         | some x=>simp only [zA3] at kM ⊢;cases kM;exact ⟨_,rfl,by simp [zAs,Nat.add_assoc]⟩
        | pointer x=>cases x<;>cases kM
        | _=>cases kM
       ·cases nv with
        | pointer x =>
         cases x with
         | none=>cases i<;>cases kM
         | some x=>cases i<;>simp only [zA3] at kM ⊢ <;> cases kM;exact ⟨_,rfl,by simp [zAs,Nat.add_assoc]⟩
        | slice x _ _=>cases x<;>cases kM
        | _=>cases kM
      obtain ⟨a0,k1,k2⟩:=key
      rw [k2,hn nv np hf a0 k1]
    ·rename_i cs
     obtain ⟨gg,h7⟩:=zAV h6
     simp only [Bool.and_eq_true,zCg] at gg
     obtain ⟨⟨c4,⟨c5,c6⟩⟩,c7⟩:=gg
     have c4:=Nat.le_of_ble_eq_true c4
     have c5:=Nat.eq_of_beq_eq_true c5
     obtain ⟨_,b,c,u,yX,yS,hΦ,yB,j7,⟨yz,j6⟩,hr⟩:=hp
     obtain ⟨vs,rfl,hr⟩:=hr
     have vI:=hr.length
     have vW:zAZ w Φ zCn cs vs.toList []:=hr.ways _ _ _ fun a v hw hx ha=>by
      have h0:zBy cs=[]:=by simpa using c7
      rw [h0] at hx
      have h1:=zJn hw ha
      cases ui:a.ways with
      | nil=>exact absurd ui h1
      | cons z zs=>have:=hx z (by rw [ui];simp);cases this
     obtain ⟨us',q1,q2,q3,q4,q5⟩:=zFZ (ag:=sh.isSome) (sz:=s) (fun a v _ h=>h.elim) (hm-lm) _ _ c5 (fun j6=>by
      simp only [j6,Bool.false_or,Bool.and_eq_true] at c6
      exact ⟨Nat.eq_of_beq_eq_true c6.1,fun q hq=>List.all_eq_true.1 c6.2 q hq⟩) (zBR vW (lm*s) ((hm-lm)*s))
     have yP:=zDV sh.isSome s (hm-lm) ((cs.drop (lm*s)).take ((hm-lm)*s))
     refine ⟨.slice (some (zAs b (lm*s))) (hm-lm) (n-lm),?_,zAw S hb hd h7 ?_⟩
     ·rw [yX]
      simp only [Instr.sliceAt,Sem.run_bind,run_underlying ht,Result.andThen_ok,Instr.sureAddr,Sem.run_pure,Option.map_none]
      rw [hbnd]
      simp only [Result.andThen_ok,zAX jP,Sem.run_bind,Sem.run_pure]
      rw [kj b yS]
     ·by_cases gh:hm-lm=0
      ·rw [gh];exact ⟨rfl,.inl ⟨rfl,_,_,rfl,fun h=>by cases h⟩⟩
      ·refine ⟨rfl,.inr ⟨zAs b (lm*s),n-lm,c,us',s,by rw [yP],rfl,by rw [yP];omega,hΦ,yB,q5,⟨q3,q4⟩,?_,q1⟩⟩
       rw [yP,q2]
       simp only [PV.cells,Value.cells] at j7 vI
       refine zHG (by simp at c5 vI ⊢;omega) fun k y hk=>?_
       simp only [List.getElem?_take,List.getElem?_drop] at hk
       split at hk
       ·have:(seg c b.off cs.length)[lm*s+k]? = some y:=by rw [j7];exact hk
        have:=zDv this
        simp only [zAs,Nat.add_assoc];exact this
       ·cases hk
    ·cases h6
   ·cases h1
  ·
   rename_i el ht
   split at h1
   ·rename_i s n hs hn
    obtain ⟨hm,h2,h3⟩:=zI3 S hhi h1
    obtain ⟨lm,h4,h5⟩:=zI3 S uM h2
    obtain ⟨ti,jP,yD⟩:=zCh hs
    have hZ:∀ (b:Option Addr) (cap:Nat),a.eval x = .slice b n cap→lm≤hm→hm≤cap→(Instr.sliceAt t (a.eval x) (lo.map a.eval) (hi.map a.eval) (Option.map a.eval none)).run P w = .ok (.slice (if cap=lm then b else b.map (·.add (lm*ti.size))) (hm-lm) (cap-lm)) w:=by
     intro b cap yC k1 k2
     rw [yC]
     simp only [Instr.sliceAt,Instr.slice,Sem.run_bind,run_underlying ht,Result.andThen_ok,Option.map_none]
     rw [zKi (hgh h3) (low h5) k1 (fun _=>k2)]
     simp only [Result.andThen_ok,zAX jP,Sem.run_bind,Sem.run_pure]
    cases p<;>simp only [zOb] at h4<;>try (cases h4;done)
    case sl xs =>
     simp only [lenOf,Option.some.injEq] at hn
     obtain ⟨hc,h6⟩:=zAV h4
     simp only [Bool.and_eq_true] at hc
     obtain ⟨⟨c1,c2⟩,c3⟩:=hc
     have c1:=Nat.le_of_ble_eq_true c1
     have c2:=Nat.le_of_ble_eq_true c2
     obtain ⟨_,⟨rfl,b,n',yC,vX⟩ | ⟨b,n',c,us,sz,yC,yS,yK,hΦ,yB,j0,⟨kW,wU⟩,j7,hr⟩⟩:=hp
     ·have gh:hm=0:=by simpa using c2
      have vl:lm=0:=by omega
      subst gh;subst vl
      refine ⟨_,hZ b n' (by rw [yC,← hn];rfl) (Nat.le_refl _) (Nat.zero_le _),zAw S hb hd h6 ?_⟩
      simp only [List.drop_nil,List.take_nil]
      exact ⟨rfl,.inl ⟨rfl,_,_,rfl,fun h=>by
       have gB:b=none:=by cases b<;>first | rfl | (split at h<;>cases h)
       rw [vX gB]⟩⟩
     ·refine ⟨_,hZ (some b) n' (by rw [yC,← hn]) c1 (by omega),zAw S hb hd h6 ?_⟩
      have hO:((xs.drop lm).take (hm-lm)).length=hm-lm:=by simp;omega
      by_cases gh:hm-lm=0
      ·have:(xs.drop lm).take (hm-lm)=[]:=List.eq_nil_of_length_eq_zero (by rw [hO,gh])
       rw [this,gh];exact ⟨rfl,.inl ⟨rfl,_,_,rfl,fun h=>by split at h<;>cases h⟩⟩
      ·have yz:us.length=xs.length:=by have:=congrArg List.length wU;simpa using this
       have hx0:∃ x,x∈xs:=by
        cases xs with
        | nil=>simp at c2;omega
        | cons x _=>exact ⟨x,by simp⟩
       obtain ⟨x0,hx0⟩:=hx0
       have kZ:sz=s:=by
        have:=Nat.eq_of_beq_eq_true (List.all_eq_true.1 c3 x0 hx0)
        rw [← j0 x0 hx0,this]
       subst kZ
       rw [if_neg (by omega)]
       simp only [Option.map_some]
       rw [zBS yS,yD]
       refine ⟨rfl,.inr ⟨zAs b (lm*sz),n'-lm,c,(us.drop lm).take (hm-lm),sz,by rw [hO],rfl,by rw [hO];omega,hΦ,yB,fun y hy=>j0 y (List.mem_of_mem_drop (List.mem_of_mem_take hy)),⟨fun u hu=>kW u (List.mem_of_mem_drop (List.mem_of_mem_take hu)),zAZ.map_isAgg wU lm (hm-lm)⟩,?_,zBR hr lm (hm-lm)⟩⟩
       rw [hO];exact zIg kW yz j7 (by omega)
    case bor r pre z a0 n0 =>
     simp only [lenOf,Option.some.injEq] at hn
     subst hn
     obtain ⟨hc,h6⟩:=zAV h4
     simp only [Bool.and_eq_true] at hc
     have ut:=Nat.eq_of_beq_eq_true hc.1
     have c1:=Nat.le_of_ble_eq_true hc.2
     subst ut
     obtain ⟨_,hg,⟨b,cap,yC,yQ,vX,uQ⟩,wM⟩:=hp
     have go : hm≤cap→(put d (bif Nat.beq lm 0||Nat.blt lm hm then .bor r pre z (a0+lm) (hm-lm) else .sl [])).run o e=some e'→∃ v,(Instr.sliceAt t (a.eval x) (lo.map a.eval) (hi.map a.eval) (Option.map a.eval none)).run P w = .ok v w∧Fr w0 U Φ0 nt hv (a.put d v) w e':=by
      intro k1 h6
      refine ⟨_,hZ b cap yC c1 k1,zAw S hb hd h6 ?_⟩
      cases uu:(Nat.beq lm 0||Nat.blt lm hm) with
      | false =>
       simp only [Bool.or_eq_false_iff] at uu
       have:¬ lm<hm:=fun yL=>by rw [show Nat.blt lm hm=true from Nat.ble_eq_true_of_le yL] at uu;exact absurd uu.2 (by simp)
       have:hm-lm=0:=by omega
       rw [this];exact ⟨rfl,.inl ⟨rfl,_,_,rfl,fun h=>by
        have gB:b=none:=by cases b<;>first | rfl | (split at h<;>cases h)
        have:=vX gB;omega⟩⟩
      | true =>
       simp only [cond_true]
       have jh:lm=0∨lm<hm:=by
        simp only [Bool.or_eq_true] at uu
        rcases uu with h | h
        ·exact .inl (Nat.eq_of_beq_eq_true h)
        ·exact .inr (zBY h)
       have kj:(if cap=lm then b else b.map (·.add (lm*ti.size)))=b.map (fun y=>zAs y (lm*z)):=by
        cases b with
        | none=>simp
        | some y =>
         have hy:=uQ y rfl
         simp only [Option.map_some]
         split
         ·have vl:lm=0:=by omega
          subst vl;cases y;simp_all [zAs]
         ·rw [zBS hy,yD]
       rw [kj]
       refine ⟨rfl,hg,⟨_,cap-lm,rfl,by omega,fun gB=>?_,fun y hy=>?_⟩,fun nv np hf hh=>?_⟩
       ·have:b=none:=by cases b<;>first | rfl | cases gB
        have:=vX this;omega
       ·cases b with
        | none=>cases hy
        | some y0=>simp only [Option.map_some,Option.some.injEq] at hy;rw [← hy];rfl
       ·obtain ⟨sz2,xs2,g1,g2,g3⟩:=wM nv np hf hh
        refine ⟨sz2,xs2,g1,g2,?_⟩
        subst g2
        rw [yC] at g3
        cases nv<;>simp only [zBV] at g3
        rename_i y l c
        cases y with
        | none =>
         simp only [zBV,Value.slice.injEq] at g3 ⊢
         obtain ⟨⟨k2,k3,k4⟩,k5⟩:=g3
         subst k2
         refine ⟨⟨rfl,by omega,by omega⟩,by omega⟩
        | some y =>
         simp only [zBV,Value.slice.injEq] at g3 ⊢
         obtain ⟨⟨k2,_,k4⟩,k5⟩:=g3
         subst k2
         refine ⟨⟨?_,trivial,by omega⟩,by omega⟩
         simp [zAs,Nat.add_mul,Nat.add_assoc]
     cases gC:Nat.ble hm n0 with
     | true =>
      rw [gC] at h6
      exact go (Nat.le_trans (Nat.le_of_ble_eq_true gC) yQ) h6
     | false =>
      rw [gC] at h6;simp only [cond_false] at h6
      obtain ⟨q,hq,h7⟩:=zBT h6
      split at h7
      ·rename_i sz2 xs2
       obtain ⟨yK,h8⟩:=zAV h7
       have yK:=Nat.le_of_ble_eq_true yK
       refine go ?_ h8
       rw [← S.env r hg] at hq
       obtain ⟨nv,Li,hf,_,hI⟩:=zBG (zBZ (S.conf.rep r)) hq
       obtain ⟨sz3,xs3,g1,g2,g3⟩:=wM nv _ hf rfl
       cases g1;subst g2
       rw [yC] at g3
       obtain ⟨q1,_,q3⟩ | ⟨y,m,c,us,M,_,q1,_,q3,_⟩:=hI
       ·subst q1;simp at yK;omega
       ·subst q1
        simp only [zBV,Value.slice.injEq] at g3
        omega
      ·cases h7
   ·cases h1
  ·cases h1
end
end Go.Eng
namespace Go.Eng
open Go
section
variable {w w':World} {Φ Φ':Nat→Prop}
mutual
theorem Rep.free {A A':Al}:∀ (p:PV) (v:Value) (L:List Nat),p.free=true→Rep w Φ A p v L→Rep w Φ' A' p v L
 | .int ..,_,_,_,h=>h
 | .bool _,_,_,_,h=>h
 | .nilp,_,_,_,h=>h
 | .nilf,_,_,_,h=>h
 | .nilm,_,_,_,h=>h
 | .nn,_,_,_,h=>h
 | .nils _,_,_,_,h=>h
 | .und,_,_,_,h=>h
 | .sl [],v,L,_,h=>by
  obtain ⟨h0,⟨_,a,n,h1⟩ | ⟨a,n,c,us,sz,h1,_⟩⟩:=h
  ·exact ⟨h0,.inl ⟨rfl,a,n,h1⟩⟩
  ·exact ⟨h0,.inl ⟨rfl,_,n,h1,fun h=>by cases h⟩⟩
 | .sl (_::_),_,_,hf,_=>by cases hf
 | .agg cs,v,L,hf,h=>by
  obtain ⟨vs,rfl,h⟩:=h
  exact ⟨vs,rfl,zAZ.free cs _ L hf h⟩
 | .tup cs,v,L,hf,h=>by
  obtain ⟨vs,rfl,h⟩:=h
  exact ⟨vs,rfl,zAZ.free cs _ L hf h⟩
 | .own sz xs,v,L,hf,h=>by
  obtain h | ⟨a,n,c,us,L',h0,h1,h2,h3,h4,h5,h6,h7,h8,h9⟩:=h
  ·exact .inl h
  ·exact .inr ⟨a,n,c,us,L',h0,h1,h2,h3,h4,h5,h6,h7,h8,zAZ.free xs us L' hf h9⟩
 | .box q,v,L,hf,h=>by
  obtain ⟨a,c,u,L',h0,h1,h2,h4,h5,h6,h7⟩:=h
  exact ⟨a,c,u,L',h0,h1,h2,h4,h5,h6,Rep.free q u L' hf h7⟩
 | .omap es,v,L,hf,h=>by
  obtain ⟨b,ents,h0,h1,h3,h4⟩:=h
  exact ⟨b,ents,h0,h1,h3,zEq.free es _ 0 hf h4⟩
 | .bad,_,_,hf,_=>by cases hf
 | .ref _,_,_,hf,_=>by cases hf
 | .map _,_,_,hf,_=>by cases hf
 | .func ..,_,_,hf,_=>by cases hf
 | .addr ..,_,_,hf,_=>by cases hf
 | .bor ..,_,_,hf,_=>by cases hf
 | .bsl ..,_,_,hf,_=>by cases hf
 | .bmap ..,_,_,hf,_=>by cases hf
 | .lock _,_,_,hf,_=>by cases hf
 | .yld _,_,_,hf,_=>by cases hf
 | .log ..,_,_,hf,_=>by cases hf
theorem zAZ.free {A A':Al}:∀ (ps:List PV) (vs:List Value) (L:List Nat),zFu ps=true→zAZ w Φ A ps vs L→zAZ w Φ' A' ps vs L
 | [],_,_,_,h=>h
 | p::ps,vs,L,hf,h=>by
  simp only [zFu,Bool.and_eq_true] at hf
  obtain ⟨v,vs',L1,L2,h0,h1,h2,h3⟩:=h
  exact ⟨v,vs',L1,L2,h0,h1,Rep.free p v L1 hf.1 h2,zAZ.free ps vs' L2 hf.2 h3⟩
theorem zEq.free:∀ (es:List (PV×PV)) (ms:List MapEntry) (i:Nat),zOD es=true→zEq w Φ es ms i→zEq w Φ' es ms i
 | [],_,_,_,h=>h
 | (k,p)::es,ms,i,hf,h=>by
  simp only [zOD,Bool.and_eq_true] at hf
  obtain ⟨m,ms',h0,h1,h2,h3,h4⟩:=h
  exact ⟨m,ms',h0,h1,Rep.free k _ [] hf.1.1 h2,Rep.free p _ [] hf.1.2 h3,zEq.free es ms' (i+1) hf.2 h4⟩
end
end
theorem zC0 (m:List (Nat×Nat)):Tame (zEt m):=by
 constructor
 ·intro p
  cases p<;>simp only [zEt]<;>first | rfl | (split<;>rfl)
 ·intro p hp
  cases p<;>first | (cases hp;done) | skip
  all_goals
   simp only [zEt]
   first | rfl | (split<;>rfl)
section
variable {w w':World} {rv rv':Nat→Value} {E E':Nat→PV}
theorem zMO {m:List (Nat×Nat)} {Φ:Nat→Prop} {a:PV} {v:Value} (ha:zA2 w rv E a v)
  (h:∀ r h',m.lookup r=some h'→r<zAb→h'<zAb∧∀ pre nv np,zAU w' (rv' h') (E' h').unlock pre=some (nv,np)→np.heavy0=true→∃ np0,zAU w (rv r) (E r).unlock pre=some (nv,np0)∧zCd np0 np) :
  Rep w' Φ (zA2 w' rv' E') (zEt m a) v []:=by
 have hr:=zCX ha
 have key:∀ nv np i c a',zA3 nv np i c=some a'→np.heavy0=true:=by
  intro nv np i c a' h
  cases np<;>first | rfl | (simp [zA3] at h)
 cases a<;>simp only [zEt]<;>try (exact ha.elim)
 case addr r pre i c sh =>
  cases hm:m.lookup r with
  | none=>rfl
  | some h' =>
   obtain ⟨h1,h2⟩:=h r h' hm hr
   obtain ⟨_,b,h3,h4,h5⟩:=ha
   refine ⟨rfl,h1,b,h3,h4,fun nv np hn a' kM=>?_⟩
   obtain ⟨np0,h6,h7⟩:=h2 pre nv np hn (key _ _ _ _ _ kM)
   exact h5 nv np0 h6 a' (by rw [zEn h7];exact kM)
 case bor r pre z lo n =>
  cases hm:m.lookup r with
  | none=>rfl
  | some h' =>
   obtain ⟨h1,h2⟩:=h r h' hm hr
   obtain ⟨_,h3,h5⟩:=ha
   refine ⟨rfl,h1,h3,fun nv np hn hh=>?_⟩
   obtain ⟨np0,h6,h7⟩:=h2 pre nv np hn hh
   obtain ⟨sz,xs,g1,g2,g3⟩:=h5 nv np0 h6 (zDF h7)
   subst g1
   cases np<;>simp only [zCd] at h7
   subst h7
   exact ⟨_,_,rfl,g2,g3⟩
 case bsl r pre i c sz ag n =>
  cases hm:m.lookup r with
  | none=>rfl
  | some h' =>
   obtain ⟨h1,h2⟩:=h r h' hm hr
   obtain ⟨_,b,cap,h3,vT,h4,h5⟩:=ha
   refine ⟨rfl,h1,b,cap,h3,vT,h4,fun nv np hn a' kM=>?_⟩
   obtain ⟨np0,h6,h7⟩:=h2 pre nv np hn (key _ _ _ _ _ kM)
   exact h5 nv np0 h6 a' (by rw [zEn h7];exact kM)
 case bmap r pre =>
  cases hm:m.lookup r with
  | none=>rfl
  | some h' =>
   obtain ⟨h1,h2⟩:=h r h' hm hr
   obtain ⟨_,h3,h5⟩:=ha
   refine ⟨rfl,h1,h3,fun nv np hn es he=>?_⟩
   subst he
   obtain ⟨np0,h6,h7⟩:=h2 pre nv _ hn rfl
   cases np0<;>simp only [zCd] at h7
   exact h5 nv _ h6 _ rfl
end
theorem zHr {f:Nat→Nat→Nat×Nat}:∀ (R:List Nat) (k x y:Nat),((R.zipIdx k).map fun p=>f p.1 p.2).lookup x=some y→∃ j r,R[j]? = some r∧f r (k+j)=(x,y)
 | [],k,x,y,h=>by simp at h
 | r :: R,k,x,y,h=>by
  simp only [List.zipIdx_cons,List.map_cons] at h
  cases hf:f r k with
  | mk p1 p2 =>
   rw [hf,List.lookup_cons] at h
   by_cases hx:x=p1
   ·have:(x==p1)=true:=by simp [hx]
    rw [this] at h
    simp only [Option.some.injEq] at h
    exact ⟨0,r,rfl,by rw [Nat.add_zero,hf,hx,h]⟩
   ·have:(x==p1)=false:=by simp [hx]
    rw [this] at h
    obtain ⟨j,r',h1,h2⟩:=zHr R (k+1) x y h
    exact ⟨j+1,r',by simpa using h1,by rw [show k+(j+1)=k+1+j by omega];exact h2⟩
theorem zLB {R:List Nat} {r h:Nat} (hl:(zDw R).lookup r=some h):∃ j,R[j]? = some r∧h=zAl+j:=by
 obtain ⟨j,r',h1,h2⟩:=zHr (f:=fun r j=>(r,zAl+j)) R 0 r h hl
 simp only [Nat.zero_add,Prod.mk.injEq] at h2
 exact ⟨j,h2.1▸h1,h2.2.symm⟩
theorem zMY {R:List Nat} {h r:Nat} (hl:(zB9 R).lookup h=some r):∃ j,R[j]? = some r∧h=zAl+j:=by
 obtain ⟨j,r',h1,h2⟩:=zHr (f:=fun r j=>(zAl+j,r)) R 0 h r hl
 simp only [Nat.zero_add,Prod.mk.injEq] at h2
 exact ⟨j,h2.2▸h1,h2.1.symm⟩
theorem zGk:∀ {R:List Nat},zHc R=true→R.Nodup
 | [],_=>List.nodup_nil
 | r::R,h=>by
  simp only [zHc,Bool.and_eq_true,Bool.not_eq_true'] at h
  exact List.nodup_cons.2 ⟨fun hm=>by have:=List.contains_iff_mem.2 hm;rw [this] at h;exact absurd h.1 (by simp),zGk h.2⟩
section
variable {o:zAF} {e e':Env}
theorem zJw:∀ {R:List Nat} {k:List PV→PM},(zNn R k).run o e=some e'→(∀ r∈R,(e.get r).isLock=false)∧(k (R.map e.get)).run o e=some e'
 | [],k,h=>⟨by simp,h⟩
 | r :: R,k,h=>by
  simp only [zNn,PM.run] at h
  split at h
  ·cases h
  ·rename_i p hp
   obtain ⟨h1,h2⟩:=zJw h
   refine ⟨fun x hx=>?_,h2⟩
   rcases List.mem_cons.1 hx with rfl | hx
   ·cases hl:(e.get x)<;>first | rfl | exact absurd hl (hp _)
   ·exact h1 x hx
theorem zKo:∀ {n:Nat} {R:List Nat} {k:List Nat→PM},(zJZ n R k).run o e=some e'→∃ R',(k R').run o e=some e'
 | 0,R,k,h=>⟨R,h⟩
 | n+1,R,k,h=>by
  simp only [zJZ] at h
  obtain ⟨_,h1⟩:=zJw h
  revert h1
  cases Nat.beq _ _ with
  | true=>exact fun h=>⟨_,h⟩
  | false=>exact fun h=>zKo h
def zDI:List Nat→PV→PV
 | [],a=>a
 | r::R,a=>if (zBF r [] a).isWay=true then zDI R a else zBF r [] a
theorem zHe (r:Nat) (p:PV):zBF r [] p=p∨(p.isWay=true∧zBF r [] p = .bad):=by
 cases p<;>first | exact .inl rfl | skip
 all_goals
  simp only [zBF,PV.isWay,true_and]
  cases (Nat.beq _ r&&_)<;>simp
theorem zIM:∀ (R:List Nat) (p:PV),zDI R p=p∨(p.isWay=true∧zDI R p = .bad)
 | [],p => .inl rfl
 | r::R,p=>by
  simp only [zDI]
  split
  ·exact zIM R p
  ·exact zHe r p
theorem zKc {k:PM}:∀ {R:List Nat} {e:Env},(zKt R k).run o e=some e'→∃ e1,k.run o e1=some e'∧∀ s,e1.get s=(e.get s).mapW (zDI R)
 | [],e,h=>⟨e,h,fun s=>by rw [show zDI []=fun x=>x from rfl,zBg]⟩
 | r::R,e,h=>by
  simp only [zKt,PM.run] at h
  obtain ⟨e1,h1,h2⟩:=zKc h
  refine ⟨e1,h1,fun s=>?_⟩
  rw [h2 s,Env.get_killEx,zEV]
  refine zDy (fun a ha=>?_) _
  simp only [zDI]
  rcases zHe r a with h3 | ⟨_,h3⟩
  ·rw [h3,if_pos ha,zF2 ha]
  ·rw [h3];rfl
theorem zVx {pre:zAS} {y:PV} (hH:PV.bad≠y) (h:(bif !pre.isEmpty then PV.bad else y)=y):pre=[]:=by
 cases pre with
 | nil=>rfl
 | cons x xs=>exact absurd h hH
theorem zIW:∀ {R:List Nat} {a:PV},a.isWay=true→zDI R a=a→(∀ k,a ≠ .yld k)→(∀ xs k,a ≠ .log xs k)→(zA4 a).1∈R→(zA4 a).2=[]
 | [],_,_,_,_,_,h=>by cases h
 | r :: R,a,ha,hk,hy,hl,hm=>by
  simp only [zDI] at hk
  by_cases hr:(zA4 a).1=r
  ·have uM:zBF r [] a=a:=by
    rcases zHe r a with h3 | ⟨_,h3⟩
    ·exact h3
    ·rw [h3] at hk;simp only [PV.isWay,Bool.false_eq_true,if_false] at hk;rw [← hk] at ha;cases ha
   cases a<;>first | (cases ha;done) | (exact absurd rfl (hy _)) | (exact absurd rfl (hl _ _)) | skip
   all_goals
    simp only [zA4] at hr ⊢
    subst hr
    simp only [zBF,Nat.beq_refl,Bool.true_and,List.any_nil,Bool.or_false] at uM
    exact zVx (by simp) uM
  ·have hm':(zA4 a).1∈R:=(List.mem_cons.1 hm).resolve_left hr
   rcases zHe r a with h3 | ⟨_,h3⟩
   ·rw [h3,if_pos ha] at hk;exact zIW ha hk hy hl hm'
   ·rw [h3] at hk;simp only [PV.isWay,Bool.false_eq_true,if_false] at hk;rw [← hk] at ha;cases ha
theorem zLK {k:PM}:∀ {R:List Nat} {os ps:List PV} {e:Env},R.Nodup→(zNF R os ps k).run o e=some e'→∃ e1,k.run o e1=some e'∧ps.length=R.length∧os.length=R.length∧(∀ (j:Nat) (x y:PV),os[j]? = some x→ps[j]? = some y→zGo x y=true) ∧
   (∀ s,s∉R→e1.get s=e.get s)∧∀ (j r:Nat) (p:PV),R[j]? = some r→ps[j]? = some p→e1.get r=p
 | [],os,ps,e,hn,h=>by
  cases os<;>cases ps<;>simp only [zNF] at h<;>try (cases h;done)
  exact ⟨e,h,rfl,rfl,by simp,fun _ _=>rfl,by simp⟩
 | r :: R,os,ps,e,hn,h=>by
  cases os<;>cases ps<;>simp only [zNF] at h<;>try (cases h;done)
  rename_i x os y ps
  obtain ⟨h1,h2⟩:=zAV h
  obtain ⟨root,_,hm,h3⟩:=zCt h2
  simp only [zAv,Option.some.injEq] at hm;subst hm
  obtain ⟨hnr,hnR⟩:=List.nodup_cons.1 hn
  obtain ⟨e1,g1,g2,g3,g4,g5,g6⟩:=zLK hnR h3
  refine ⟨e1,g1,by simp [g2],by simp [g3],fun j x' y' hx hy=>?_,fun s hs=>?_,fun j r' p hr hp=>?_⟩
  ·cases j with
   | zero=>simp at hx hy;subst hx;subst hy;exact h1
   | succ j=>exact g4 j x' y' (by simpa using hx) (by simpa using hy)
  ·simp only [List.mem_cons,not_or] at hs
   rw [g5 s hs.2,Env.get_set,if_neg hs.1]
  ·cases j with
   | zero =>
    simp at hr hp;subst hr;subst hp
    rw [g5 _ hnr,Env.get_set,if_pos rfl]
   | succ j=>exact g6 j r' p (by simpa using hr) (by simpa using hp)
theorem zM1 (k:Nat):∀ (ps:List PV) (i:Nat) (s:Nat),Env.get ((ps.zipIdx i).map fun x=>(k+x.2,x.1)) s=if k+i≤s∧s<k+i+ps.length then ps.getD (s-k-i) .bad else .bad
 | [],i,s=>by simp [Env.get]
 | p :: ps,i,s=>by
  simp only [List.zipIdx_cons,List.map_cons,Env.get,zM1 k ps (i+1) s]
  by_cases h:s=k+i
  ·subst h
   simp
  ·have:Nat.beq (k+i) s=false:=by
    cases hb:Nat.beq (k+i) s with
    | false=>rfl
    | true=>exact absurd (Nat.eq_of_beq_eq_true hb).symm h
   rw [this,cond_false]
   by_cases h2:k+i≤s∧s<k+i+(p::ps).length
   ·have h3:k+(i+1)≤s∧s<k+(i+1)+ps.length:=by simp at h2;omega
    rw [if_pos h2,if_pos h3]
    have e1:s-k-i=(s-k-(i+1))+1:=by omega
    rw [e1];simp
   ·have h3:¬ (k+(i+1)≤s∧s<k+(i+1)+ps.length):=by simp at h2 ⊢;omega
    rw [if_neg h2,if_neg h3]
theorem zOK (a b:Env) (s:Nat):Env.get (a++b) s=bif a.any (fun x=>Nat.beq x.1 s) then Env.get a s else Env.get b s:=by
 induction a with
 | nil=>rfl
 | cons x a ih =>
  obtain ⟨k,v⟩:=x
  simp only [List.cons_append,Env.get,ih,List.any_cons]
  cases Nat.beq k s<;>rfl
end
structure Gave (v:PV) (u:Value) (rv:Nat→Value) (E:Nat→PV):Prop where
 one:(∀ ps,v ≠ .tup ps)→E zAA=v∧rv zAA=u
 many:∀ ps,v = .tup ps→∃ us:Array Value,u = .tuple us∧us.size=ps.length∧∀ (j:Nat) (p:PV),ps[j]? = some p→E (zAA+j)=p∧us[j]? = some (rv (zAA+j))
def zGd (P:Program) (f:FuncId) (args hid:List PV) (v:PV) (hid':List PV):Prop :=
 ∀ (w:World) (Φ:Nat→Prop) (rv:Nat→Value) (E:Nat→PV) (L:Nat→List Nat) (vs:Array Value),(∀ s,s<zAb→E s=(zA5 args hid).get s)→(∀ s,zAb≤s→E s = .bad)→Conf w (fun b=>∃ s,b∈L s) Φ w Φ rv E L→vs.size=args.length→(∀ i,i<args.length→vs[i]? = some (rv i))→(∀ s,args.length≤s→s<zAl→rv s=undef) →
  Calls P f vs w fun e w'=>∃ u Φ' rv' E' L',e = .returned u∧Conf w (fun b=>∃ s,b∈L s) Φ w' Φ' rv' E' L'∧hid'.length=hid.length ∧
   (∀ j,j<hid.length→E' (zAl+j)=hid'.getD j .bad∧rv' (zAl+j)=rv (zAl+j))∧Gave v u rv' E'
def zCS (P:Program) (f:FuncId):Prop:=∃ fn,P.funcs[f]? = some fn∧fn.body.isNone=false
def zGf (P:Program) (o:zAF):Prop:=∀ f args hid v hid',o f args hid=some (v,hid')→zCS P f∧zGd P f args hid v hid'
theorem zDm {args hid:List PV} (ha:args.length≤zAl) (s:Nat):(zA5 args hid).get s=if s<args.length then args.getD s .bad else if zAl≤s∧s<zAl+hid.length then hid.getD (s-zAl) .bad else .bad:=by
  have e1:(args.zipIdx.map fun (p,i)=>(i,p))=(args.zipIdx 0).map fun x=>(0+x.2,x.1):=by
    apply List.map_congr_left;intro x _;simp
  have e2:(hid.zipIdx.map fun (p,j)=>(zAl+j,p))=(hid.zipIdx 0).map fun x=>(zAl+x.2,x.1):=rfl
  have hany:∀ (ps:List PV) (i:Nat),((ps.zipIdx i).map fun x=>(0+x.2,x.1)).any (fun x=>Nat.beq x.1 s)=decide (i≤s∧s<i+ps.length):=by
    intro ps
    induction ps with
    | nil => intro i;have:¬ (i≤s∧s<i):=by omega
             simp [this]
    | cons p ps ih =>
      intro i
      simp only [List.zipIdx_cons,List.map_cons,List.any_cons,ih (i+1)]
      by_cases h:s=i
      · subst h;simp
      · have:Nat.beq (0+i) s=false:=by
          cases hb:Nat.beq (0+i) s with
          | false=>rfl
          | true=>exact absurd (Nat.eq_of_beq_eq_true hb) (by omega)
        rw [this,Bool.false_or]
        apply decide_eq_decide.2
        simp;omega
  simp only [zA5]
  rw [e1,e2,zOK,hany args 0,zM1,zM1]
  by_cases h:s<args.length
  · have h1:decide (0≤s∧s<0+args.length)=true:=decide_eq_true (by omega)
    rw [h1,cond_true,if_pos (by omega),if_pos h];simp
  · have h1:decide (0≤s∧s<0+args.length)=false:=decide_eq_false (by omega)
    rw [h1,cond_false,if_neg h];simp
section
variable {w0 w w':World} {U Φ0 Φ Φ1 Φ' Φ2:Nat→Prop} {rv rv':Nat→Value} {E E':Nat→PV} {L L':Nat→List Nat}
def zUJ (w:World) (rv:Nat→Value) (E:Nat→PV) (Φ1:Nat→Prop) (i:Nat) (x:Arg):Prop :=
 (x.byref=true∧x.p=E (zAb+i))∨(x.byref=false∧x.p=E (zAb+i)∧(E (zAb+i)).ways=[])∨(x.byref=false∧Rep w Φ1 zCn x.p (rv (zAb+i)) [])
def zM2 (R:List Nat) (x:Arg):PV:=if x.byref then zGw (zDw R) x.p else x.p
theorem zTd {A A':Al} {p:PV} {v:Value} {M:List Nat} (hp:p.ways=[]) (hA:∀ a v,a.isWay=true→A a v→a.ways≠[]) (h:Rep w Φ A p v M):Rep w Φ A' p v M :=
 h.ways _ _ _ fun a v hw hx ha=>by
  rw [hp] at hx
  have h1:=hA a v hw ha
  cases ui:a.ways with
  | nil=>exact absurd ui h1
  | cons z zs=>have:=hx z (by rw [ui];simp);cases this
open Classical in
theorem zO2 (C:Conf w0 U Φ0 w Φ rv E L) {R:List Nat} (hR:R.Nodup) (gi:∀ r∈R,(E r).isLock=false) (vm:∀ r∈R,r<zAb) (hRn:R.length≤1000) {as:List Arg} (hAn:as.length≤1000) (hΦ:∀ b,Φ b→Φ1 b) (hΦs:∀ b,Φ1 b→b<w.heap.size)
  (hΦR:∀ r∈R,∀ b∈L r,¬ Φ1 b) (hΦa:∀ i,i<as.length→∀ b∈L (zAb+i),¬ Φ1 b) (hA:∀ i x,as[i]? = some x→zUJ w rv E Φ1 i x) :
  ∃ rvc Ec Lc,(∀ s,s<zAb→Ec s=(zA5 (as.map (zM2 R)) (R.map fun r=>zGw (zDw R) (E r))).get s)∧(∀ s,zAb≤s→Ec s = .bad)∧Conf w (fun b=>∃ s,b∈Lc s) Φ1 w Φ1 rvc Ec Lc ∧
   (∀ i,i<as.length→rvc i=rv (zAb+i))∧(∀ (j r:Nat),R[j]? = some r→rvc (zAl+j)=rv r)∧(∀ s,as.length≤s→s<zAl→rvc s=undef)∧∀ b,(∃ s,b∈Lc s)→(∃ r∈R,b∈L r)∨∃ i,i<as.length∧b∈L (zAb+i):=by
 let K:Nat→Prop:=fun i=>∃ x,as[i]? = some x∧x.byref=false∧Rep w Φ1 zCn x.p (rv (zAb+i)) []
 let src:Nat→Option Nat:=fun s=>if s<as.length then (if K s then none else some (zAb+s)) else if zAl≤s then R[s-zAl]? else none
 let rvc:Nat→Value:=fun s=>if s<as.length then rv (zAb+s) else match src s with | some t=>rv t | none=>undef
 let Lc:Nat→List Nat:=fun s=>match src s with | some t=>L t | none=>[]
 let Ec:Nat→PV:=fun s=>if s<zAb then (zA5 (as.map (zM2 R)) (R.map fun r=>zGw (zDw R) (E r))).get s else .bad
 have hh:zAl=50000000:=rfl
 have wP:zAb=1000000000:=rfl
 have yT:∀ s,s<zAb→Ec s=if s<as.length then (as.map (zM2 R)).getD s .bad else if zAl≤s∧s<zAl+R.length then (R.map fun r=>zGw (zDw R) (E r)).getD (s-zAl) .bad else .bad:=by
  intro s hs
  simp only [Ec,if_pos hs]
  rw [zDm (by simp;omega)]
  simp
 have hEh:∀ (j r:Nat),R[j]? = some r→Ec (zAl+j)=(E r).mapW (zEt (zDw R)):=by
  intro j r hj
  have jf:j<R.length:=(List.getElem?_eq_some_iff.1 hj).1
  rw [yT _ (by omega),if_neg (by omega),if_pos (by omega)]
  simp [List.getD,hj,zGw]
 have hrh:∀ (j r:Nat),R[j]? = some r→rvc (zAl+j)=rv r:=by
  intro j r hj
  have jf:j<R.length:=(List.getElem?_eq_some_iff.1 hj).1
  have:src (zAl+j)=some r:=by
   simp only [src]
   rw [if_neg (by omega),if_pos (by omega),Nat.add_sub_cancel_left,hj]
  simp only [rvc,this]
  rw [if_neg (by omega)]
 have gD:∀ s t,src s=some t→(t∈R∧∃ j,s=zAl+j∧R[j]? = some t)∨(s<as.length∧t=zAb+s∧¬ K s):=by
  intro s t h
  simp only [src] at h
  split at h
  ·rename_i hs
   split at h
   ·cases h
   ·rename_i hk;cases h;exact .inr ⟨hs,rfl,hk⟩
  ·split at h
   ·rename_i hs
    exact .inl ⟨List.mem_of_getElem? h,s-zAl,by omega,h⟩
   ·cases h
 have gE:∀ s s' t,src s=some t→src s'=some t→s=s':=by
  intro s s' t h h'
  rcases gD s t h with ⟨h1,j,h2,h3⟩ | ⟨h1,h2,_⟩<;>rcases gD s' t h' with ⟨jX,j',jF,vT⟩ | ⟨jX,jF,_⟩
  ·have hj:j<R.length:=(List.getElem?_eq_some_iff.1 h3).1
   have:j=j':=(List.getElem?_inj hj hR).1 (h3.trans vT.symm)
   omega
  ·have:=vm t h1;omega
  ·have:=vm t jX;omega
  ·omega
 have uD:∀ a v,a.isWay=true→zA2 w rv E a v→Rep w Φ1 (zA2 w rvc Ec) (zEt (zDw R) a) v []:=by
  intro a v _ ha
  refine zMO ha fun r h' hl hr=>?_
  obtain ⟨j,hj,rfl⟩:=zLB hl
  have jf:j<R.length:=(List.getElem?_eq_some_iff.1 hj).1
  refine ⟨by omega,fun pre nv np hn hh=>?_⟩
  rw [hrh j r hj,hEh j r hj,zDr (zC0 _)] at hn
  exact zCV (zC0 _) hn hh
 have hS:zDo w w Φ Φ1:=fun b hb=>⟨hΦ b hb,rfl⟩
 have hLs:∀ s b,b∈Lc s→∃ t,src s=some t∧b∈L t:=by
  intro s b hb
  simp only [Lc] at hb
  cases h:src s with
  | none=>rw [h] at hb;cases hb
  | some t=>rw [h] at hb;exact ⟨t,rfl,hb⟩
 have hU:∀ b,(∃ s,b∈Lc s)→(∃ r∈R,b∈L r)∨∃ i,i<as.length∧b∈L (zAb+i):=by
  rintro b ⟨s,hb⟩
  obtain ⟨t,h1,h2⟩:=hLs s b hb
  rcases gD s t h1 with ⟨h3,_⟩ | ⟨h3,rfl,_⟩
  ·exact .inl ⟨t,h3,h2⟩
  ·exact .inr ⟨s,h3,h2⟩
 have hnΦ:∀ b,(∃ s,b∈Lc s)→¬ Φ1 b:=by
  intro b hb
  rcases hU b hb with ⟨r,h1,h2⟩ | ⟨i,h1,h2⟩
  ·exact hΦR r h1 b h2
  ·exact hΦa i h1 b h2
 refine ⟨rvc,Ec,Lc,fun s hs=>if_pos hs,fun s hs=>if_neg (by omega),⟨fun s=>?_,fun s=>?_,fun s s' hH b hb yF=>?_,fun s b hb=>?_,fun b hb=>⟨hΦs b hb,.inl hb⟩,fun b hb=>hb,Nat.le_refl _,fun _ _ _=>rfl,rfl,rfl,rfl⟩,fun i hi=>if_pos hi,hrh,fun s h1 h2=>by simp only [rvc,src,if_neg (by omega:¬ s<as.length),if_neg (by omega:¬ zAl≤s)],hU⟩
 ·by_cases hs:s<as.length
  ·have hx:as[s]? = some (as[s]):=List.getElem?_eq_getElem hs
   have hE:Ec s=zM2 R as[s]:=by rw [yT s (by omega),if_pos hs];simp [List.getD,hx]
   have hrvs:rvc s=rv (zAb+s):=if_pos hs
   rw [hE,hrvs]
   by_cases hk:K s
   ·have hL:Lc s=[]:=by simp only [Lc,src,if_pos hs,if_pos hk]
    rw [hL]
    obtain ⟨x,h1,h2,h3⟩:=hk
    rw [hx] at h1;cases h1
    simp only [zM2,h2,Bool.false_eq_true,if_false]
    exact h3.mono zDo.refl (fun _ _ _ h=>h.elim) (by simp)
   ·have hL:Lc s=L (zAb+s):=by simp only [Lc,src,if_pos hs,if_neg hk]
    rw [hL]
    rcases hA s _ hx with ⟨h1,h2⟩ | ⟨h1,h2,h3⟩ | ⟨h1,h2⟩
    ·simp only [zM2,h1,if_true,h2]
     exact Rep.map (zC0 _).agg hS uD _ _ _ (fun _ _=>rfl) (C.rep (zAb+s))
    ·simp only [zM2,h1,Bool.false_eq_true,if_false,h2]
     exact (zTd h3 (fun a v hw h=>zJn hw h) (C.rep (zAb+s))).mono (A:=zCn) hS (fun _ _ _ h=>h.elim) (fun _ _=>rfl)
    ·exact absurd ⟨_,hx,h1,h2⟩ hk
  ·by_cases hhs:zAl≤s∧s<zAl+R.length
   ·obtain ⟨j,rfl⟩:∃ j,s=zAl+j:=⟨s-zAl,by omega⟩
    have jf:j<R.length:=by omega
    obtain ⟨r,hj⟩:∃ r,R[j]? = some r:=⟨_,List.getElem?_eq_getElem jf⟩
    have hL:Lc (zAl+j)=L r:=by simp only [Lc,src,if_neg hs,if_pos hhs.1,Nat.add_sub_cancel_left,hj]
    rw [hL,hEh j r hj,hrh j r hj]
    exact Rep.map (zC0 _).agg hS uD _ _ _ (fun _ _=>rfl) (C.rep r)
   ·have hL:Lc s=[]:=by
     simp only [Lc,src,if_neg hs]
     by_cases hb:zAl≤s
     ·rw [if_pos hb,List.getElem?_eq_none (by omega)]
     ·rw [if_neg hb]
    have hE:Ec s = .bad:=by
     by_cases hg:s<zAb
     ·rw [yT s hg,if_neg hs,if_neg hhs]
     ·exact if_neg hg
    rw [hL,hE];rfl
 ·simp only [Lc]
  cases h:src s with
  | none=>exact List.nodup_nil
  | some t=>exact C.nodup t
 ·obtain ⟨t,h1,h2⟩:=hLs s b hb
  obtain ⟨t',jX,jF⟩:=hLs s' b yF
  have:t=t':=Classical.byContradiction fun h=>C.disj t t' h b h2 jF
  subst this
  exact hH (gE s s' t h1 jX)
 ·obtain ⟨t,h1,h2⟩:=hLs s b hb
  exact ⟨(C.own t b h2).1,hnΦ b ⟨s,hb⟩,.inl ⟨s,hb⟩⟩
theorem zLD {x y:PV} (h:zGo x y=true) (hx:x.isLock=false) (hh:y.unlock.heavy0=true):y.unlock=y∧zCd x.unlock y:=by
 cases y<;>simp only [PV.unlock,PV.heavy0] at hh<;>try (cases hh;done)
 ·cases x<;>simp only [zGo] at h<;>try (cases h;done)
  exact ⟨rfl,(Nat.eq_of_beq_eq_true h).symm⟩
 ·cases x<;>simp only [zGo] at h<;>try (cases h;done)
  exact ⟨rfl,trivial⟩
 ·cases x<;>simp only [zGo] at h<;>try (cases h;done)
  exact ⟨rfl,trivial⟩
 ·cases x<;>simp only [zGo] at h<;>cases h
theorem zKy (C:Conf w0 U Φ0 w Φ rv E L) {R:List Nat} (hR:R.Nodup) (gi:∀ r∈R,(E r).isLock=false) (vm:∀ r∈R,r<zAb) (hRn:R.length≤1000) {m:Nat} {Uc:Nat→Prop}
    (hUc:∀ b,Uc b→(∃ r∈R,b∈L r)∨∃ i,i<m∧b∈L (zAb+i)) (C':Conf w Uc Φ1 w' Φ' rv' E' L') (ja:∀ (j r:Nat),R[j]? = some r→rv' (zAl+j)=rv r)
    (yE:∀ (j r:Nat),R[j]? = some r→zGo (E r) (zGw (zB9 R) (E' (zAl+j)))=true) {n:Nat} (hn:n≤1000)
    (hΦ2:∀ b,Φ b→Φ2 b) (hΦ2s:∀ b,Φ2 b→b<w'.heap.size∧(Φ0 b∨U b∨w0.heap.size≤b)) (hΦ2o:∀ s,s<zAb→s∉R→∀ b∈L s,¬ Φ2 b) (hΦ2n:∀ t b,b∈L' t→¬ Φ2 b)
    (hT:∀ t,((∃ j,j<R.length∧t=zAl+j)∨∃ j,j<n∧t=zAA+j)→Rep w' Φ2 (zA2 w' rv' E') (E' t) (rv' t) (L' t)) :
    ∃ rv2 E2 L2,Conf w0 U Φ0 w' Φ2 rv2 E2 L2∧(∀ s,s<zAb→rv2 s=rv s)∧(∀ s,s<zAb→s∉R→E2 s=(E s).mapW (zDI R))∧(∀ (j r:Nat),R[j]? = some r→E2 r=zGw (zB9 R) (E' (zAl+j))) ∧
      (∀ j,j<n→E2 (zAb+j)=zGw (zB9 R) (E' (zAA+j))∧rv2 (zAb+j)=rv' (zAA+j))∧∀ s,zAb+n≤s→E2 s = .bad:=by
  have hh:zAl=50000000:=rfl
  have ho:zAA=60000000:=rfl
  have wP:zAb=1000000000:=rfl
  let cal:Nat→Option Nat:=fun s=>if s<zAb then (match R.findIdx? (· == s) with | some j=>some (zAl+j) | none=>none) else if s<zAb+n then some (zAA+(s-zAb)) else none
  let rv2:Nat→Value:=fun s=>if s<zAb then rv s else match cal s with | some t=>rv' t | none=>undef
  let E2:Nat→PV:=fun s=>match cal s with | some t=>zGw (zB9 R) (E' t) | none=>if s<zAb then (E s).mapW (zDI R) else .bad
  let L2:Nat→List Nat:=fun s=>match cal s with | some t=>L' t | none=>if s<zAb then L s else []
  have kw:∀ (j r:Nat),R[j]? = some r→cal r=some (zAl+j):=by
    intro j r hj
    have hr:=vm r (List.mem_of_getElem? hj)
    have:R.findIdx? (· == r)=some j:=by
      rw [List.findIdx?_eq_some_iff_getElem]
      have jf:j<R.length:=(List.getElem?_eq_some_iff.1 hj).1
      have hjr:R[j]=r:=(List.getElem?_eq_some_iff.1 hj).2
      refine ⟨jf,by simp [hjr],fun k hk=>?_⟩
      simp only [beq_iff_eq,Bool.not_eq_true,beq_eq_false_iff_ne]
      intro hc
      have wm:k<R.length:=by omega
      have h1:R[k]? = R[j]?:=by rw [List.getElem?_eq_getElem wm,hc,hj]
      have:=(List.getElem?_inj wm hR).1 h1
      omega
    simp only [cal,if_pos hr,this]
  have vn:∀ s,s<zAb→s∉R→cal s=none:=by
    intro s hs jB
    have:R.findIdx? (· == s)=none:=by
      rw [List.findIdx?_eq_none_iff]
      intro x hx
      simp only [beq_eq_false_iff_ne]
      intro hc;subst hc;exact jB hx
    simp only [cal,if_pos hs,this]
  have yv:∀ s t,cal s=some t→(∃ j,R[j]? = some s∧t=zAl+j∧j<R.length∧s<zAb)∨∃ j,j<n∧s=zAb+j∧t=zAA+j:=by
    intro s t h
    by_cases hs:s<zAb
    · by_cases jB:s∈R
      · obtain ⟨j,hj⟩:=List.getElem?_of_mem jB
        rw [kw j s hj] at h;cases h
        exact .inl ⟨j,hj,rfl,(List.getElem?_eq_some_iff.1 hj).1,hs⟩
      · rw [vn s hs jB] at h;cases h
    · simp only [cal,if_neg hs] at h
      split at h
      · have h:=Option.some.inj h;exact .inr ⟨s-zAb,by omega,by omega,h.symm⟩
      · cases h
  have gE:∀ s s' t,cal s=some t→cal s'=some t→s=s':=by
    intro s s' t h h'
    rcases yv s t h with ⟨j,h1,h2,h3,_⟩ | ⟨j,h1,h2,h3⟩<;>rcases yv s' t h' with ⟨j',jX,jF,vT,_⟩ | ⟨j',jX,jF,vT⟩
    · have:j=j':=by omega
      subst this
      rw [h1] at jX;simpa using jX
    · omega
    · omega
    · omega
  have yW:∀ s,cal s=none→s<zAb→s∉R:=by
    intro s h hs jB
    obtain ⟨j,hj⟩:=List.getElem?_of_mem jB
    rw [kw j s hj] at h;cases h
  have qU:∀ s,s<zAb→s∉R→∀ b∈L s,¬ Uc b:=by
    intro s hs jB b hb hu
    rcases hUc b hu with ⟨r,h1,h2⟩ | ⟨i,h1,h2⟩
    · exact C.disj s r (fun hc=>jB (hc▸h1)) b hb h2
    · exact C.disj s (zAb+i) (by omega) b hb h2
  have yy:∀ s,s<zAb→s∉R→∀ b∈L s,w'.heap[b]? = w.heap[b]?:=fun s hs jB b hb=>C'.kept b (C.own s b hb).1 (qU s hs jB b hb)
  have hΦsame:zDo w w' Φ Φ2:=fun b hb=>⟨hΦ2 b hb,C'.kept b (C.frz b hb).1 fun hu=>by
    rcases hUc b hu with ⟨r,_,h2⟩ | ⟨i,_,h2⟩
    · exact (C.own r b h2).2.1 hb
    · exact (C.own _ b h2).2.1 hb⟩
  have gF:=zIM R
  have hown:∀ a v,a.isWay=true→zA2 w rv E a v→zDI R a=a→zA2 w' rv2 E2 a v:=by
    intro a v hw ha hk
    have hr:=zCX ha
    have hy:∀ k,a ≠ .yld k:=fun k hc=>by subst hc;exact ha.elim
    have hl:∀ xs k,a ≠ .log xs k:=fun xs k hc=>by subst hc;exact ha.elim
    by_cases hrR:(zA4 a).1∈R
    · have hp:=zIW hw hk hy hl hrR
      obtain ⟨j,hj⟩:=List.getElem?_of_mem hrR
      refine ha.mono fun nv np j5 qI=>?_
      rw [hp] at j5 ⊢
      simp only [zAU,Option.some.injEq,Prod.mk.injEq] at j5
      obtain ⟨h1,h2⟩:=j5
      have hE2:E2 (zA4 a).1=zGw (zB9 R) (E' (zAl+j)):=by simp only [E2,kw j _ hj]
      rw [hE2] at h2
      obtain ⟨g1,g2⟩:=zLD (yE j _ hj) (gi _ hrR) (by rw [h2];exact qI)
      refine ⟨(E (zA4 a).1).unlock,?_,by rw [← h2,g1];exact g2⟩
      simp only [zAU,Option.some.injEq,Prod.mk.injEq,and_true]
      rw [← h1];simp only [rv2,if_pos hr]
    · refine zCF C (zDx gF) ha ?_ ?_ (yy _ hr hrR)
      · simp only [E2,vn _ hr hrR,if_pos hr]
      · simp only [rv2,if_pos hr]
  have hown':∀ a v,a.isWay=true→zA2 w rv E a v→Rep w' Φ2 (zA2 w' rv2 E2) (zDI R a) v []:=by
    intro a v hw ha
    rcases gF a with hk | ⟨_,hk⟩
    · rw [hk];exact zCW hw (hown a v hw ha hk)
    · rw [hk];rfl
  have hback:∀ a v,a.isWay=true→zA2 w' rv' E' a v→Rep w' Φ2 (zA2 w' rv2 E2) (zEt (zB9 R) a) v []:=by
    intro a v _ ha
    refine zMO ha fun r h' hl hr=>?_
    obtain ⟨j,hj,rfl⟩:=zMY hl
    have yx:=vm h' (List.mem_of_getElem? hj)
    refine ⟨yx,fun pre nv np j5 qI=>?_⟩
    have e1:rv2 h'=rv' (zAl+j):=by simp only [rv2,if_pos yx];exact (ja j h' hj).symm
    have e2:E2 h'=(E' (zAl+j)).mapW (zEt (zB9 R)):=by simp only [E2,kw j h' hj];rfl
    rw [e1,e2,zDr (zC0 _)] at j5
    exact zCV (zC0 _) j5 qI
  have un:∀ s b,b∈L2 s→(∃ t,cal s=some t∧b∈L' t)∨(cal s=none∧s<zAb∧b∈L s):=by
    intro s b hb
    simp only [L2] at hb
    cases h:cal s with
    | some t=>rw [h] at hb;exact .inl ⟨t,rfl,hb⟩
    | none =>
      rw [h] at hb
      by_cases hs:s<zAb
      · simp only [if_pos hs] at hb;exact .inr ⟨rfl,hs,hb⟩
      · simp only [if_neg hs] at hb;cases hb
  have vo:∀ t s b,b∈L' t→s<zAb→s∉R→b∉L s:=by
    intro t s b hb hs jB uQ
    rcases (C'.own t b hb).2.2 with h1 | h1
    · exact qU s hs jB b uQ h1
    · have:=(C.own s b uQ).1;omega
  refine ⟨rv2,E2,L2,⟨fun s=>?_,fun s=>?_,fun s s' hH b hb yF=>?_,fun s b hb=>?_,hΦ2s,fun b hb=>hΦ2 b (C.frz0 b hb),Nat.le_trans C.size C'.size,fun b hb hu=>?_,C'.os.trans C.os,C'.tape.trans C.tape,C'.output.trans C.output⟩,fun s hs=>if_pos hs,fun s hs jB=>?_,fun j r hj=>?_,fun j hj=>?_,fun s hs=>?_⟩
  · cases h:cal s with
    | some t =>
      have e1:E2 s=zGw (zB9 R) (E' t):=by simp only [E2,h]
      have e2:L2 s=L' t:=by simp only [L2,h]
      have e3:rv2 s=rv' t:=by
        rcases yv s t h with ⟨j,h1,h2,_,h4⟩ | ⟨j,h1,h2,h3⟩
        · simp only [rv2,if_pos h4];rw [h2];exact (ja j s h1).symm
        · simp only [rv2];rw [if_neg (by omega),h]
      rw [e1,e2,e3]
      refine Rep.map (zC0 _).agg zDo.refl hback _ _ _ (fun _ _=>rfl) (hT t ?_)
      rcases yv s t h with ⟨j,_,h2,h3,_⟩ | ⟨j,h1,_,h3⟩
      · exact .inl ⟨j,h3,h2⟩
      · exact .inr ⟨j,h1,h3⟩
    | none =>
      by_cases hs:s<zAb
      · have e1:E2 s=(E s).mapW (zDI R):=by simp only [E2,h,if_pos hs]
        have e2:L2 s=L s:=by simp only [L2,h,if_pos hs]
        have e3:rv2 s=rv s:=if_pos hs
        rw [e1,e2,e3]
        exact Rep.map (zDx gF).agg hΦsame hown' _ _ _ (yy s hs (yW s h hs)) (C.rep s)
      · have e1:E2 s = .bad:=by simp only [E2,h,if_neg hs]
        have e2:L2 s=[]:=by simp only [L2,h,if_neg hs]
        rw [e1,e2];rfl
  · simp only [L2]
    cases h:cal s with
    | some t=>exact C'.nodup t
    | none => by_cases hs:s<zAb
              · simp only [if_pos hs];exact C.nodup s
              · simp only [if_neg hs];exact List.nodup_nil
  · rcases un s b hb with ⟨t,h1,h2⟩ | ⟨h1,h2,h3⟩<;>rcases un s' b yF with ⟨t',jX,jF⟩ | ⟨jX,jF,vT⟩
    · have:t=t':=Classical.byContradiction fun h=>C'.disj t t' h b h2 jF
      subst this;exact hH (gE s s' t h1 jX)
    · exact vo t s' b h2 jF (yW s' jX jF) vT
    · exact vo t' s b jF h2 (yW s h1 h2) h3
    · exact C.disj s s' hH b h3 vT
  · rcases un s b hb with ⟨t,h1,h2⟩ | ⟨h1,h2,h3⟩
    · have:=C'.own t b h2
      refine ⟨this.1,hΦ2n t b h2,?_⟩
      rcases this.2.2 with h4 | h4
      · rcases hUc b h4 with ⟨r,_,h5⟩ | ⟨i,_,h5⟩
        · exact (C.own r b h5).2.2
        · exact (C.own _ b h5).2.2
      · exact .inr (Nat.le_trans C.size h4)
    · have:=C.own s b h3
      exact ⟨Nat.lt_of_lt_of_le this.1 C'.size,hΦ2o s h2 (yW s h1 h2) b h3,this.2.2⟩
  · rw [C'.kept b (Nat.lt_of_lt_of_le hb C.size) fun h=>?_]
    · exact C.kept b hb hu
    · have hx:∀ t,b∈L t→False:=fun t ht=>by
        rcases (C.own t b ht).2.2 with h1 | h1
        · exact hu h1
        · omega
      rcases hUc b h with ⟨r,_,h5⟩ | ⟨i,_,h5⟩
      · exact hx r h5
      · exact hx _ h5
  · simp only [E2,vn s hs jB,if_pos hs]
  · simp only [E2,kw j r hj]
  · have:cal (zAb+j)=some (zAA+j):=by
      simp only [cal];rw [if_neg (by omega),if_pos (by omega),Nat.add_sub_cancel_left]
    refine ⟨by simp only [E2,this],?_⟩
    simp only [rv2,this];rw [if_neg (by omega)]
  · have:cal s=none:=by simp only [cal];rw [if_neg (by omega),if_neg (by omega)]
    simp only [E2,this];rw [if_neg (by omega)]
end
theorem zEC {w:World}:∀ {pre:zAS} {v nv:Value} {p q:PV},zAU w v p pre=some (nv,q)→zAC p pre=some q
 | [],v,nv,p,q,h=>by simp only [zAU,Option.some.injEq,Prod.mk.injEq] at h;simp [zAC,h.2]
 | (i,c)::rest,v,nv,p,q,h=>by
  rw [zA1] at h
  rw [zB6]
  cases hc:Eng.child p i c with
  | none=>rw [hc] at h;cases h
  | some x =>
   rw [hc] at h;simp only [Option.bind_some] at h ⊢
   cases hk:kid w v p i c with
   | none=>rw [hk] at h;cases h
   | some u=>rw [hk] at h;exact zEC h
theorem zPl (R:List Nat) (p:PV) (hp:p.isWay=true):(zDI R p).isTup=false:=by
 rcases zIM R p with h | ⟨_,h⟩
 ·rw [h];cases p<;>first | rfl | cases hp
 ·rw [h];rfl
theorem zPe (m:List (Nat×Nat)) (p:PV) (hp:p.isWay=true):(zEt m p).isTup=false:=by
 cases p<;>first | (cases hp;done) | skip
 all_goals
  simp only [zEt]
  first | rfl | (split<;>rfl)
section
variable {P:Program} {w0 w:World} {U Φ0 Φ:Nat→Prop} {nt:Nat} {hv:Hid} {a:Act} {e e':Env} {rv:Nat→Value} {E:Nat→PV} {L:Nat→List Nat} {o:zAF}
def zNj (w:World) (Φ:Nat→Prop) (rv:Nat→Value) (E:Nat→PV) (i:Nat) (x:Arg):Prop :=
 (∀ y∈x.shared,y.1<zAb)∧((x.byref=true∧x.p=E (zAb+i))∨(x.byref=false∧x.p=E (zAb+i)∧(E (zAb+i)).ways=[]) ∨
  (x.byref=false∧∀ Φ1:Nat→Prop,(∀ b,Φ b→Φ1 b)→(∀ y∈x.shared,Cov w Φ rv E Φ1 y)→Rep w Φ1 zCn x.p (rv (zAb+i)) []))
theorem zOs (jH:zGf P o) (S:St w0 U Φ0 nt hv a w e Φ rv E L) {d:Option Nat} (hd:∀ x,d=some x→x<nt) {f:FuncId} {as:List Arg} {vs:Array Value} (yD:vs.size=as.length) (yq:∀ i,i<as.length→vs[i]? = some (rv (zAb+i)))
  (hA:∀ i x,as[i]? = some x→zNj w Φ rv E i x) {again:PM} (h:(zPR d f as again).run o e=some e') :
  again.run o e=some e'∨zCS P f∧Calls P f vs w fun en w''=>∃ u,en = .returned u∧Fr w0 U Φ0 nt hv (a.put d u) w'' e':=by
 have hh:zAl=50000000:=rfl
 have ho:zAA=60000000:=rfl
 have wP:zAb=1000000000:=rfl
 have jc:=S.small
 obtain ⟨R,h1⟩:=zKo h
 obtain ⟨hc,h2⟩:=zAV h1
 simp only [Bool.and_eq_true] at hc
 obtain ⟨⟨⟨⟨j1,jJ⟩,uO⟩,gg⟩,hc5⟩:=hc
 have hR:=zGk j1
 have vm:∀ r∈R,r<zAb:=fun r hr=>zBY (List.all_eq_true.1 jJ r hr)
 have hRn:=Nat.le_of_ble_eq_true uO
 have hAn:=Nat.le_of_ble_eq_true gg
 obtain ⟨hRl',h3⟩:=zJw h2
 have gi:∀ r∈R,(E r).isLock=false:=fun r hr=>by rw [S.env r (vm r hr)];exact hRl' r hr
 have uT:R.map e.get=R.map E:=List.map_congr_left fun r hr=>(S.env r (vm r hr)).symm
 rw [uT] at h3
 simp only [PM.run] at h3
 cases hof:o f (as.map fun a=>if a.byref then zGw (zDw R) a.p else a.p) ((R.map E).map (zGw (zDw R))) with
 | none=>rw [hof] at h3;cases h3
 | some r =>
  obtain ⟨v,hid'⟩:=r
  rw [hof] at h3;simp only at h3
  cases hb:((as.flatMap (·.shared)).isEmpty||v.free&&zFu hid') with
  | false=>rw [hb] at h3;exact .inl h3
  | true =>
   rw [hb] at h3;simp only [cond_true] at h3
   refine .inr ⟨(jH f _ _ v hid' hof).1,?_⟩
   let sh:=as.flatMap (·.shared)
   let Φ1:Nat→Prop:=fun b=>Φ b∨∃ y∈sh,∃ nv q Li A,zAU w (rv y.1) (E y.1).unlock y.2=some (nv,q)∧Rep w Φ A q nv Li∧b∈Li
   have yu:∀ y∈sh,y.1∉R:=fun y hy hyR=>by
    have:=List.all_eq_true.1 hc5 y hy
    rw [List.contains_iff_mem.2 hyR] at this;cases this
   have uJ:∀ (y:Nat×zAS) nv q Li A,zAU w (rv y.1) (E y.1).unlock y.2=some (nv,q)→Rep w Φ A q nv Li→∀ b∈Li,b∈L y.1:=by
    intro y nv q Li A hf hr b jO
    obtain ⟨nv',Li',h4,h5,h6⟩:=zBG (zBZ (S.conf.rep y.1)) (zEC hf)
    rw [hf] at h4;cases h4
    have:=Rep.uniq _ _ _ _ hr h6
    subst this;exact h5 b jO
   have hshg:∀ y∈sh,y.1<zAb:=by
    intro y hy
    obtain ⟨x,hx,hyx⟩:=List.mem_flatMap.1 hy
    obtain ⟨i,hi⟩:=List.getElem?_of_mem hx
    exact (hA i x hi).1 y hyx
   have hΦ:∀ b,Φ b→Φ1 b:=fun b hb => .inl hb
   have vD:∀ t,(∀ y∈sh,y.1≠t)→∀ b∈L t,¬ Φ1 b:=by
    intro t ht b kV yX
    rcases yX with h4 | ⟨y,hy,nv,q,Li,A,h4,h5,h6⟩
    ·exact (S.conf.own t b kV).2.1 h4
    ·exact S.conf.disj y.1 t (ht y hy) b (uJ y nv q Li A h4 h5 b h6) kV
   have hΦs:∀ b,Φ1 b→b<w.heap.size:=by
    rintro b (yX | ⟨y,hy,nv,q,Li,A,h4,h5,h6⟩)
    ·exact (S.conf.frz b yX).1
    ·exact (S.conf.own _ b (uJ y nv q Li A h4 h5 b h6)).1
   have hA':∀ i x,as[i]? = some x→zUJ w rv E Φ1 i x:=by
    intro i x hx
    rcases (hA i x hx).2 with h4 | h4 | ⟨h4,h5⟩
    ·exact .inl h4
    ·exact .inr (.inl h4)
    ·refine .inr (.inr ⟨h4,h5 Φ1 hΦ fun y hy nv q Li A hf hr b jO => .inr ⟨y,List.mem_flatMap.2 ⟨x,List.mem_of_getElem? hx,hy⟩,nv,q,Li,A,hf,hr,jO⟩⟩)
   obtain ⟨rvc,Ec,Lc,q1,q2,q3,q4,q5,q5u,q6⟩:=zO2 S.conf hR gi vm hRn hAn hΦ hΦs (fun r hr=>vD r fun y hy hc=>yu y hy (hc▸hr)) (fun i hi=>vD (zAb+i) fun y hy hc=>by have:=hshg y hy;omega) hA'
   have gG:=(jH f _ _ v hid' hof).2 w Φ1 rvc Ec Lc vs (fun s hs=>by rw [q1 s hs,List.map_map];rfl) q2 q3 (by simpa using yD) (fun i hi=>by
    have qL:i<as.length:=by simpa using hi
    rw [q4 i qL];exact yq i qL) (fun s h1 h2=>q5u s (by simpa using h1) h2)
   refine gG.mono fun en w' vp=>?_
   obtain ⟨u,Φ',rv',E',L',rfl,C',hO,uU,uv⟩:=vp
   refine ⟨u,rfl,?_⟩
   obtain ⟨e1,g1,g2⟩:=zKc h3
   obtain ⟨e2,g3,g4,g5,g6,g7,g8⟩:=zLK hR g1
   simp only [List.length_map] at g4 hO uU
   have hE'h:∀ (j r:Nat),R[j]? = some r→∃ p,hid'[j]? = some p∧E' (zAl+j)=p:=by
    intro j r hj
    have jf:j<R.length:=(List.getElem?_eq_some_iff.1 hj).1
    have hjh:j<hid'.length:=by omega
    refine ⟨hid'[j],List.getElem?_eq_getElem hjh,?_⟩
    rw [(uU j jf).1];simp [List.getD,List.getElem?_eq_getElem hjh]
   have ja:∀ (j r:Nat),R[j]? = some r→rv' (zAl+j)=rv r:=fun j r hj=>by
    rw [(uU j (List.getElem?_eq_some_iff.1 hj).1).2,q5 j r hj]
   have yE:∀ (j r:Nat),R[j]? = some r→zGo (E r) (zGw (zB9 R) (E' (zAl+j)))=true:=by
    intro j r hj
    obtain ⟨p,uC,uF⟩:=hE'h j r hj
    rw [uF]
    exact g6 j _ _ (by simp [hj]) (by simp [uC])
   have hΦ1sh:sh.isEmpty=true→∀ b,Φ1 b→Φ b:=by
    intro hs b yX
    rcases yX with h4 | ⟨y,hy,_⟩
    ·exact h4
    ·rw [List.isEmpty_iff.1 hs] at hy;cases hy
   have ye:∀ s,s<zAb→s∉R→∀ b∈L s,¬ (∃ t,b∈Lc t):=by
    intro s hs jB b hb hu
    rcases q6 b hu with ⟨r,h4,h5⟩ | ⟨i,h4,h5⟩
    ·exact S.conf.disj s r (fun hc=>jB (hc▸h4)) b hb h5
    ·exact S.conf.disj s (zAb+i) (by omega) b hb h5
   have vq:zFu hid'=true→∀ j,j<R.length→(E' (zAl+j)).free=true:=by
    intro hf j hj
    rw [(uU j hj).1]
    have hjh:j<hid'.length:=by omega
    have key:∀ (l:List PV),zFu l=true→∀ j,j<l.length→(l.getD j .bad).free=true:=by
     intro l
     induction l with
     | nil=>intro _ j hj;simp at hj
     | cons x l ih =>
      intro h j hj
      simp only [zFu,Bool.and_eq_true] at h
      cases j with
      | zero=>exact h.1
      | succ j=>simpa using ih h.2 j (by simpa using hj)
    exact key hid' hf j hjh
   have back : ∀ n,n≤1000→(v.free=true→∀ j,j<n→(E' (zAA+j)).free=true) →
     ∃ Φ2 rv2 E2 L2,Conf w0 U Φ0 w' Φ2 rv2 E2 L2∧(∀ s,s<zAb→rv2 s=rv s)∧(∀ s,s<zAb→s∉R→E2 s=(E s).mapW (zDI R))∧(∀ (j r:Nat),R[j]? = some r→E2 r=zGw (zB9 R) (E' (zAl+j))) ∧
     (∀ j,j<n→E2 (zAb+j)=zGw (zB9 R) (E' (zAA+j))∧rv2 (zAb+j)=rv' (zAA+j))∧∀ s,zAb+n≤s→E2 s = .bad:=by
    intro n hn qE
    by_cases j3:sh.isEmpty=true
    ·obtain ⟨rv2,E2,L2,hl⟩:=zKy (Φ2:=Φ') S.conf hR gi vm hRn q6 C' ja yE hn (fun b yX=>C'.frz0 b (hΦ b yX))
      (fun b yX=>by
       refine ⟨(C'.frz b yX).1,?_⟩
       rcases (C'.frz b yX).2 with h4 | h4 | h4
       ·exact (S.conf.frz b (hΦ1sh j3 b h4)).2
       ·rcases q6 b h4 with ⟨r,_,h5⟩ | ⟨i,_,h5⟩
        ·exact .inr (S.conf.own r b h5).2.2
        ·exact .inr (S.conf.own _ b h5).2.2
       ·exact .inr (.inr (Nat.le_trans S.conf.size h4)))
      (fun s hs jB b yX hp=>by
       rcases (C'.frz b hp).2 with h4 | h4 | h4
       ·exact (S.conf.own s b yX).2.1 (hΦ1sh j3 b h4)
       ·exact ye s hs jB b yX h4
       ·have:=(S.conf.own s b yX).1;omega)
      (fun t b yX=>(C'.own t b yX).2.1) (fun t _=>C'.rep t)
     exact ⟨Φ',rv2,E2,L2,hl⟩
    ·have hvf:v.free=true∧zFu hid'=true:=by
      have hse':sh.isEmpty=false:=by simpa using j3
      rw [show (as.flatMap (·.shared)).isEmpty=false from hse'] at hb
      simpa using hb
     obtain ⟨rv2,E2,L2,hl⟩:=zKy (Φ2:=Φ) S.conf hR gi vm hRn q6 C' ja yE hn (fun b yX=>yX)
      (fun b yX=>⟨Nat.lt_of_lt_of_le (S.conf.frz b yX).1 C'.size,(S.conf.frz b yX).2⟩)
      (fun s _ _ b yX=>(S.conf.own s b yX).2.1)
      (fun t b yX hp=>(C'.own t b yX).2.1 (C'.frz0 b (hΦ b hp)))
      (fun t ht=>by
       refine Rep.free _ _ _ ?_ (C'.rep t)
       rcases ht with ⟨j,hj,rfl⟩ | ⟨j,hj,rfl⟩
       ·exact vq hvf.2 j hj
       ·exact qE hvf.1 j hj)
     exact ⟨Φ,rv2,E2,L2,hl⟩
   have st:∀ {Φ2:Nat→Prop} {rv2:Nat→Value} {E2:Nat→PV} {L2:Nat→List Nat},Conf w0 U Φ0 w' Φ2 rv2 E2 L2→(∀ s,s<zAb→rv2 s=rv s)→(∀ s,s<zAb→s∉R→E2 s=(E s).mapW (zDI R)) →
     (∀ (j r:Nat),R[j]? = some r→E2 r=zGw (zB9 R) (E' (zAl+j)))→St w0 U Φ0 nt hv a w' e2 Φ2 rv2 E2 L2:=by
    intro Φ2 rv2 E2 L2 C2 k1 k2 k3
    refine S.turn C2 (fun s hs=>?_) k1 (fun d ps hd hp=>?_)
    ·by_cases jB:s∈R
     ·obtain ⟨j,hj⟩:=List.getElem?_of_mem jB
      obtain ⟨p,uC,uF⟩:=hE'h j s hj
      rw [k3 j s hj,g8 j s (zGw (zB9 R) p) hj (by simp [uC]),uF]
     ·rw [k2 s hs jB,g7 s jB,g2 s,S.env s hs]
    ·have uc:d<zAb:=by omega
     by_cases hdR:d∈R
     ·obtain ⟨j,hj⟩:=List.getElem?_of_mem hdR
      have:=yE j d hj
      rw [k3 j d hj] at hp
      rw [hp] at this
      cases E d<;>cases this
     ·rw [k2 d uc hdR] at hp
      exact zDS (zPl R) hp
   cases d with
   | none =>
    obtain ⟨Φ2,rv2,E2,L2,C2,k1,k2,k3,k4,k5⟩:=back 0 (by omega) (fun _ j hj=>by omega)
    have jv:(put none (zGw (zB9 R) v)).run o e2=some e':=by
     revert g3;cases zGw (zB9 R) v<;>exact fun h=>h
    simp only [put,PM.run,Option.some.injEq] at jv
    subst jv
    exact ⟨Φ2,rv2,E2,L2,st C2 k1 k2 k3,fun g hg=>k5 g hg⟩
   | some d =>
    have vF:=hd d rfl
    cases hvt:v.isTup with
    | false =>
     have uV:∀ ps,v ≠ .tup ps:=fun ps hc=>by rw [hc] at hvt;cases hvt
     obtain ⟨o1,o2⟩:=uv.one uV
     obtain ⟨Φ2,rv2,E2,L2,C2,k1,k2,k3,k4,k5⟩:=back 1 (by omega) (fun hf j hj=>by
      have:j=0:=by omega
      subst this;rw [Nat.add_zero,o1];exact hf)
     obtain ⟨m1,m2⟩:=k4 0 (by omega)
     simp only [Nat.add_zero] at m1 m2
     have jv:(put (some d) (zGw (zB9 R) v)).run o e2=some e':=by
      have hnt2:∀ ps,zGw (zB9 R) v ≠ .tup ps:=fun ps hc=>by
       obtain ⟨ps',je,_⟩:=zDS (zPe _) hc
       exact uV ps' je
      revert g3
      simp only [zEY]
      split
      ·rename_i hc;exact absurd hc (hnt2 _)
      ·exact fun h=>h
     have:=zFy (st C2 k1 k2 k3) hd (g:=zAb) (Nat.le_refl _) (by rw [m1,o1];exact jv) (fun s hs hH=>k5 s (by omega))
     rw [m2,o2] at this;exact this
    | true =>
     cases uo:v<;>rw [uo] at hvt<;>try (cases hvt;done)
     rename_i ps
     subst uo
     obtain ⟨us,rfl,o2,o3⟩:=uv.many ps rfl
     have e1:zGw (zB9 R) (.tup ps) = .tup (zCK (zEt (zB9 R)) ps):=rfl
     rw [e1] at g3
     simp only [zEY] at g3
     obtain ⟨uu,g9⟩:=zAV g3
     simp only [Bool.and_eq_true] at uu
     have hl16:=Nat.le_of_ble_eq_true uu.1
     rw [zC1] at hl16
     obtain ⟨Φ2,rv2,E2,L2,C2,k1,k2,k3,k4,k5⟩:=back ps.length (by omega) (fun hf j hj=>by
      obtain ⟨p,hp⟩:∃ p,ps[j]? = some p:=⟨_,List.getElem?_eq_getElem hj⟩
      rw [(o3 j p hp).1]
      have key:∀ (l:List PV),zFu l=true→∀ p∈l,p.free=true:=by
       intro l
       induction l with
       | nil=>intro _ p hp;cases hp
       | cons x l ih =>
        intro h p hp
        simp only [zFu,Bool.and_eq_true] at h
        rcases List.mem_cons.1 hp with rfl | hp
        ·exact h.1
        ·exact ih h.2 p hp
      exact key ps hf p (List.mem_of_getElem? hp))
     simp only [PM.run] at g9
     obtain ⟨L3,S3⟩:=(st C2 k1 k2 k3).empty vF
     have vE:∀ g,zAb≤g→g≠d:=fun g hg=>by omega
     refine zGy vF (vs:=us) (zCK (zEt (zB9 R)) ps) 0 S3 (fun ps hp=>by rw [zAh] at hp;cases hp) (by rw [zC1];omega) (by rw [zC1];omega) (fun j p hp=>?_) (fun g hg hH=>?_) (fun x hx=>?_) (fun j hj=>by omega) g9
     ·rw [zGP] at hp
      cases vN:ps[j]? with
      | none=>rw [vN] at hp;cases hp
      | some p0 =>
       rw [vN] at hp;simp only [Option.map_some,Option.some.injEq] at hp
       have hj:j<ps.length:=(List.getElem?_eq_some_iff.1 vN).1
       obtain ⟨m1,m2⟩:=k4 j hj
       obtain ⟨m3,m4⟩:=o3 j p0 vN
       simp only [Nat.add_zero,Nat.zero_add]
       rw [zAf (vE _ (by omega)),m1,m3,m2]
       exact ⟨hp,m4⟩
     ·rw [zAf (vE g hg)]
      refine k5 g ?_
      refine Nat.le_of_not_lt fun yL=>hH (g-zAb) (by rw [zC1];omega) (by omega)
     ·have:=List.all_eq_true.1 uu.2 x hx
      simpa using this
end
end Go.Eng
