/- Payments that are returned clear balances, and are as few as can be; groups that are returned are such, and as many as can be; whether payments clear is as specified; so are the errors; arguments are not modified (at most 12 balances, and 24 payments). -/
import Derived.Test.YtpmbobnmpehobaaPa
import Derived.Laws.StructEq
import Derived.Laws.Cover3
import Derived.Laws.Slices
import Derived.Laws.MakeOwn
import Derived.Laws.CopyRow
import Derived.Laws.AppendOwn
set_option linter.unusedVariables false
set_option linter.unusedSimpArgs false
set_option linter.unusedSectionVars false
namespace Go.Eng
open Go
theorem zBK {α:Type} {x:Option α} {k:α→PM} {o:zAL} {e e':Env} (h:(zIC x k).run o e=some e'):∃ a,x=some a∧(k a).run o e=some e':=by
 cases x with
 | none=>cases h
 | some a=>exact ⟨a,rfl,h⟩
theorem zEH {p:PV} {k:Nat→PM} {o:zAL} {e e':Env} (h:(zGI p k).run o e=some e'):∃ ik n,p = .int ik n∧0≤n∧(k n.toNat).run o e=some e':=by
 cases p<;>try (cases h;done)
 rename_i ik n
 simp only [zGI] at h
 split at h
 ·exact ⟨ik,n,rfl,‹_›,h⟩
 ·cases h
theorem zDa {c:Prop} [Decidable c] {k:PM} {o:zAL} {e e':Env} (h:(if c then k else .fail).run o e=some e'):c∧k.run o e=some e':=by
 split at h
 ·exact ⟨‹_›,h⟩
 ·cases h
theorem zAU {c:Bool} {k:PM} {o:zAL} {e e':Env} (h:(bif c then k else .fail).run o e=some e'):c=true∧k.run o e=some e':=by
 cases c
 ·cases h
 ·exact ⟨rfl,h⟩
section
variable {P:Program} {w0 w:World} {U Φ0 Φ:Nat→Prop} {nt:Nat} {hv:Hid} {a:Act} {e e':Env} {rv rv':Nat→Value} {E E':Nat→PV} {L L':Nat→List Nat} {o:zAL} {A:Al}
def zBE (E:Nat→PV):Prop:=∀ g,zAd≤g→E g = .bad
theorem zAF (S:St w0 U Φ0 nt hv a w e Φ rv E L) (hb:zBE E) {d:Option Nat} (hd:∀ x,d=some x→x<nt) {p:PV} {v:Value} (h:(put d p).run o e=some e') (hr:Rep w Φ (zA7 w rv E) p v []) :
  Fr w0 U Φ0 nt hv (a.put d v) w e':=by
 have:=zFM (S.hold (Nat.le_refl zAd) hr) hd (Nat.le_refl zAd) (by rw [zAh];exact h) (fun s hs hI=>by rw [zAf hI];exact hb s hs)
 rwa [zAh] at this
theorem zTW (S:St w0 U Φ0 nt hv a w e Φ rv E L) (hb:zBE E) {d:Option Nat} (hd:∀ x,d=some x→x<nt) {c x y:Operand} (hc:zAY nt c=true) (hx:zAY nt x=true) (hy:zAY nt y=true)
  (h:(zTk d c x y).run o e=some e'):∃ t,a.eval c = .bool t∧Fr w0 U Φ0 nt hv (a.put d (if t then a.eval x else a.eval y)) w e':=by
 obtain ⟨p,h1,h2⟩:=zBG S hc h
 cases p<;>simp only [zTg] at h1<;>try (cases h1;done)
 rename_i t
 refine ⟨t,h2.1,?_⟩
 cases t
 ·obtain ⟨q,h3,h4⟩:=zBG S hy h1;exact zAF S hb hd h3 h4
 ·obtain ⟨q,h3,h4⟩:=zBG S hx h1;exact zAF S hb hd h3 h4
theorem zUM (S:St w0 U Φ0 nt hv a w e Φ rv E L) (hb:zBE E) {d:Option Nat} (hd:∀ x,d=some x→x<nt) {x:Operand} (hx:zAY nt x=true) (h:(opd x (zVT d)).run o e=some e') :
  (match a.eval x with | .pointer none | .nilIface | .nilFunc | .func (.method _) _ _=>False | _=>True)∧Fr w0 U Φ0 nt hv (a.put d (a.eval x)) w e':=by
 obtain ⟨p,h1,h2⟩:=zBG S hx h
 cases p<;>simp only [zVT] at h1<;>try (cases h1;done)
 case ref q=>refine ⟨?_,zAF S hb hd h1 h2⟩;obtain ⟨_,b,c,u,h3,_⟩:=h2;rw [h3];trivial
 case func=>refine ⟨?_,zAF S hb hd h1 h2⟩;obtain ⟨_,fs,cs,h3,_⟩:=h2;rw [h3];trivial
 case addr=>refine ⟨?_,zAF S hb hd h1 h2⟩;obtain ⟨_,_,b,h3,_⟩:=h2;rw [h3];trivial
 case yld=>refine ⟨?_,zAF S hb hd h1 h2⟩;rw [h2.2];trivial
theorem zV7 (S:St w0 U Φ0 nt hv a w e Φ rv E L) (hb:zBE E) {d:Option Nat} (hd:∀ x,d=some x→x<nt) {op:UnOp} {x:Operand} (hx:zAY nt x=true) (h:(opd x (unV d op)).run o e=some e') :
  ∃ v,(Op.unary op (a.eval x)).run P w = .ok v w∧Fr w0 U Φ0 nt hv (a.put d v) w e':=by
 obtain ⟨p,h1,h2⟩:=zBG S hx h
 simp only [unV] at h1
 split at h1
 ·rename_i b;exact ⟨.bool !b,by rw [h2.1];rfl,zAF S hb hd h1 ⟨rfl,rfl⟩⟩
 ·rename_i k n;exact ⟨.int k (k.wrap (0-n)),by rw [h2.1];rfl,zAF S hb hd h1 ⟨rfl,rfl⟩⟩
 ·cases h1
theorem zUu (S:St w0 U Φ0 nt hv a w e Φ rv E L) (hb:zBE E) {d:Option Nat} (hd:∀ x,d=some x→x<nt) {s t:TypeId} (hs:(P.underlying s).isSome=true) {x:Operand} (hx:zAY nt x=true) (h:(opd x (zRk P d t)).run o e=some e') :
  ∃ v,(convert s t (a.eval x)).run P w = .ok v w∧Fr w0 U Φ0 nt hv (a.put d v) w e':=by
 obtain ⟨p,h1,h2⟩:=zBG S hx h
 simp only [zRk] at h1
 split at h1
 ·rename_i k k' n ht
  refine ⟨.int k (k.wrap n),?_,zAF S hb hd h1 ⟨rfl,rfl⟩⟩
  obtain ⟨ds,LC⟩:=Option.isSome_iff_exists.1 hs
  rw [h2.1]
  simp only [convert,Sem.run_bind,run_underlying ht,run_underlying LC,Result.andThen_ok]
  rfl
 ·cases h1
theorem zUb (S:St w0 U Φ0 nt hv a w e Φ rv E L) (hb:zBE E) {d:Option Nat} (hd:∀ x,d=some x→x<nt) {f:FuncId} {fs cs:Array Operand} (hf:∀ x∈fs.toList,zAY nt x=true) (hc:∀ x∈cs.toList,zAY nt x=true)
  (h:(zJX d f fs.toList cs.toList).run o e=some e'):Fr w0 U Φ0 nt hv (a.put d (.func (.func f) (fs.map a.eval) (cs.map a.eval))) w e':=by
 obtain ⟨ps,h1,h2⟩:=zHz S hf h
 obtain ⟨qs,h3,h4⟩:=zHz S hc h1
 exact zAF S hb hd h3 ⟨rfl,_,_,rfl,by simpa using h2,by simpa using h4⟩
theorem zEX {t:TypeId} {sh:Option Nat} (h:shT P t=some sh):∃ i,P.info? t=some i∧(isAgg t).run P w = .ok sh.isSome w∧(∀ n,sh=some n→n=i.size)∧(sh=none→i.size=1):=by
 simp only [shT] at h
 cases hu:P.underlying t with
 | none=>rw [hu] at h;cases h
 | some td =>
  have hr:=run_underlying (w:=w) hu
  cases hi:P.info? t with
  | none=>rw [hu,hi] at h;cases td<;>cases h
  | some i =>
   rw [hu,hi] at h
   refine ⟨i,rfl,?_⟩
   cases td<;>simp only at h<;>first | (cases h;exact ⟨by simp only [isAgg,Sem.run_bind,hr,Result.andThen_ok];rfl,fun n hn=>by cases hn;rfl,fun hn=>by cases hn⟩) | skip
   all_goals
    split at h
    ·rename_i h1
     cases h;exact ⟨by simp only [isAgg,Sem.run_bind,hr,Result.andThen_ok];rfl,(by intro n hn;cases hn),fun _=>h1⟩
    ·cases h
theorem zAZ {t:TypeId} {i:TypeInfo} (h:P.info? t=some i):(sizeOf t).run P w = .ok i.size w:=by
 simp [sizeOf,typeInfo,h]
theorem zFq {t:TypeId} {sh:Option Nat} (hs:shT P t=some sh) {p q:PV} {cs:Array Value} {off:Nat} (hp:Rep w Φ A p (.agg cs) []) (h:sub p off sh=some q) :
  ∃ u,(part t cs off).run P w = .ok u w∧Rep w Φ A q u []:=by
 obtain ⟨i,hi,yk,h1,h2⟩:=zEX (w:=w) hs
 cases p<;>try (cases sh<;>cases h;done)
 rename_i ps
 obtain ⟨vs,hv,hr⟩:=hp
 cases hv
 have hO:=hr.length
 cases sh with
 | some n =>
  simp only [sub] at h
  split at h
  ·rename_i yJ
   cases h
   have hn:=h1 n rfl;subst hn
   refine ⟨.agg (cs.extract off (off+i.size)),?_,?_⟩
   ·simp only [part,Sem.run_bind,yk,Result.andThen_ok,Option.isSome_some,if_true,zAZ hi];rfl
   ·refine ⟨_,rfl,?_⟩
    rw [Array.toList_extract]
    have:=zBV hr off i.size
    simpa [List.extract] using this
  ·cases h
 | none =>
  simp only [sub] at h
  obtain ⟨u,La,Li,Lb,hu,hL,kZ,_,_⟩:=hr.split h
  have hu':cs[off]? = some u:=by simpa using hu
  have:Li=[]:=by
   have:=congrArg List.length hL;simp at this
   exact List.eq_nil_of_length_eq_zero (by omega)
  subst this
  refine ⟨u,?_,kZ⟩
  simp only [part,Sem.run_bind,yk,Result.andThen_ok,Option.isSome_none,Bool.false_eq_true,if_false,hu']
  rfl
theorem zNl {eq:TypeId→PV→PV→Option Bool} {d:Nat} {p q:PV} {xs ys:Array Value} (hp:Rep w Φ A p (.agg xs) []) (hq:Rep w Φ A q (.agg ys) [])
  (hd:∀ t p q b x y,eq t p q=some b→Rep w Φ A p x []→Rep w Φ A q y []→(Op.equalIn d t x y).run P w = .ok b w) :
  ∀ (fs:List Field) (b:Bool),zTN eq (shT P) p q fs=some b→(Op.eqFields d xs ys fs).run P w = .ok b w
 | [],b,h=>by simp only [zTN,Option.some.injEq] at h;subst h;rfl
 | f :: fs,b,h=>by
  simp only [zTN] at h
  simp only [Op.eqFields]
  split at h
  ·rename_i hn
   rw [if_neg (by simp [hn])]
   exact zNl hp hq hd fs b h
  ·rename_i hn
   rw [if_pos hn]
   cases hs:shT P f.type with
   | none=>rw [hs] at h;cases h
   | some sh =>
    rw [hs] at h;simp only at h
    split at h
    ·rename_i a1 b1 h1 h2
     obtain ⟨u1,h3,h4⟩:=zFq hs hp h1
     obtain ⟨u2,h5,h6⟩:=zFq hs hq h2
     simp only [Sem.run_bind,h3,h5,Result.andThen_ok]
     cases he:eq f.type a1 b1 with
     | none=>rw [he] at h;cases h
     | some r =>
      rw [hd _ _ _ _ _ _ he h4 h6]
      rw [he] at h
      simp only [Result.andThen_ok]
      cases r with
      | true =>
       simp only [Bool.not_true,Bool.false_eq_true,if_false]
       exact zNl hp hq hd fs b h
      | false =>
       simp only [Option.some.injEq] at h;subst h
       simp
    ·cases h
theorem zPJ {eq:PV→PV→Option Bool} {d:Nat} {e:TypeId} {sh:Option Nat} {i:TypeInfo} (hs:shT P e=some sh) (hi:P.info? e=some i) {p q:PV} {xs ys:Array Value} (hp:Rep w Φ A p (.agg xs) []) (hq:Rep w Φ A q (.agg ys) [])
  (hd:∀ p q b x y,eq p q=some b→Rep w Φ A p x []→Rep w Φ A q y []→(Op.equalIn d e x y).run P w = .ok b w) :
  ∀ (n k:Nat) (b:Bool),zVD eq sh i.size p q k n=some b →
   ((forIn (List.range' k n 1) ((none,()):Option Bool×Unit) fun i' r=>do
    let a ← part e xs (i'*i.size)
    let c ← part e ys (i'*i.size)
    if !(← Op.equalIn d e a c) then pure (.done (some false,())) else pure (.yield (none,()))):Sem _).run P w = .ok (if b then (none,()) else (some false,())) w
 | 0,k,b,h=>by simp only [zVD,Option.some.injEq] at h;subst h;simp
 | n + 1,k,b,h=>by
  simp only [zVD] at h
  simp only [List.range'_succ,List.forIn_cons,Sem.run_bind]
  split at h
  ·rename_i a1 b1 h1 h2
   obtain ⟨u1,h3,h4⟩:=zFq hs hp h1
   obtain ⟨u2,h5,h6⟩:=zFq hs hq h2
   simp only [h3,h5,Result.andThen_ok]
   cases he:eq a1 b1 with
   | none=>rw [he] at h;cases h
   | some r =>
    rw [hd _ _ _ _ _ he h4 h6]
    rw [he] at h
    simp only [Result.andThen_ok]
    cases r with
    | true =>
     simp only [Bool.not_true,Bool.false_eq_true,if_false,Sem.run_pure,Result.andThen_ok]
     exact zPJ hs hi hp hq hd n (k+1) b h
    | false =>
     simp only [Option.some.injEq] at h;subst h
     simp
  ·cases h
theorem zKe:∀ (n:Nat) (t:TypeId) (p q:PV) (b:Bool) (x y:Value) (d:Nat),n≤d→eqT P n t p q=some b→Rep w Φ A p x []→Rep w Φ A q y []→(Op.equalIn d t x y).run P w = .ok b w
 | 0,t,p,q,b,x,y,d,hd,h,hp,hq=>by cases h
 | n+1,t,p,q,b,x,y,0,hd,h,hp,hq=>by omega
 | n + 1,t,p,q,b,x,y,d+1,hd,h,hp,hq=>by
  have yJ:n≤d:=by omega
  simp only [eqT] at h
  split at h
  ·rename_i k0 k a1 k' b1 ht
   rw [hp.1,hq.1]
   split at h
   ·rename_i hk;subst hk
    cases h;exact run_equalIn_int w d t k k0 a1 b1 ht
   ·cases h
  ·rename_i a1 b1 ht
   rw [hp.1,hq.1];cases h
   exact run_equalIn_bool' w d t a1 b1 ht
  ·rename_i el ht
   rw [hp.1,hq.1];cases h
   simp [Op.equalIn,run_underlying ht]
  ·rename_i fs xs ys ht
   cases yQ:P.stoodInHeld t with
   | true=>rw [yQ] at h;cases h
   | false =>
    rw [yQ] at h;simp only [cond_false] at h
    obtain ⟨vs,rfl,jQ⟩:=hp
    obtain ⟨us,rfl,jb⟩:=hq
    have wR:P.fieldsOf t=fs:=by simp [Program.fieldsOf,ht]
    rw [run_equalIn_struct w d t vs us (by rw [wR];exact ht) yQ,wR]
    exact zNl (p := .agg xs) (q := .agg ys) ⟨vs,rfl,jQ⟩ ⟨us,rfl,jb⟩ (fun t p q b x y he h1 h2=>zKe n t p q b x y d yJ he h1 h2) fs.toList b h
  ·rename_i len el xs ys ht
   split at h
   ·rename_i sz sh yC je
    obtain ⟨vs,rfl,jQ⟩:=hp
    obtain ⟨us,rfl,jb⟩:=hq
    obtain ⟨i,hi,_⟩:=zEX (w:=w) je
    have qi:i.size=sz:=by simp only [szT,hi,Option.map_some,Option.some.injEq] at yC;exact yC
    subst qi
    have:=zPJ (p := .agg xs) (q := .agg ys) je hi ⟨vs,rfl,jQ⟩ ⟨us,rfl,jb⟩ (fun p q b x y he h1 h2=>zKe n el p q b x y d yJ he h1 h2) len 0 b h
    simp only [Op.equalIn,Sem.run_bind,run_underlying ht,Result.andThen_ok,zAZ hi,Std.Legacy.Range.forIn_eq_forIn_range',Std.Legacy.Range.size,Nat.sub_zero,Nat.add_sub_cancel,Nat.div_one]
    rw [this]
    cases b<;>simp
   ·cases h
  ·cases h
theorem zR1 {n:Nat} {t:TypeId} {p q:PV} {b:Bool} (h:eqT P n t p q=some b) (ha:p.isAgg=false):(∃ k n k' m,p = .int k n∧q = .int k' m)∨(∃ b,p = .bool b)∨p = .nilp:=by
 cases n with
 | zero=>cases h
 | succ n =>
  simp only [eqT] at h
  split at h
  ·exact .inl ⟨_,_,_,_,rfl,rfl⟩
  ·exact .inr (.inl ⟨_,rfl⟩)
  ·exact .inr (.inr rfl)
  ·cases ha
  ·cases ha
  ·cases h
theorem zSU {t:TypeId} {p q:PV} (hn:∀ z,q ≠ .nils z) (ha:∀ ys,q ≠ .agg ys):eqV P t p q=bif p.isAgg then none else eqT P 20 t p q:=by
 cases q<;>first | rfl | exact absurd rfl (hn _) | exact absurd rfl (ha _)
def zWg:Value→Bool
 | .bool _ | .pointer _ | .slice .. | .agg _=>true
 | _=>false
theorem zQS {t:TypeId} {x y:Value} {b:Bool} (hx:zWg x=true) (h:(Op.equal t x y).run P w = .ok b w):(binOp .eql t x y).run P w = .ok (.bool b) w∧(binOp .neq t x y).run P w = .ok (.bool !b) w:=by
 have h1:binOp .eql t x y=(do pure (.bool (← Op.equal t x y))):=by cases x<;>first | (cases hx;done) | rfl
 have h2:binOp .neq t x y=(do pure (.bool (!(← Op.equal t x y)))):=by cases x<;>first | (cases hx;done) | rfl
 rw [h1,h2]
 simp only [Sem.run_bind,h,Result.andThen_ok]
 exact ⟨rfl,rfl⟩
theorem zSb {t:TypeId} {p:PV} {z:Nat} {b:Bool} {x:Value} (h:eqV P t p (.nils z)=some b) (hA:∀ a v,a.isWay=true→A a v→∀ r pre z lo n,a = .bor r pre z lo n→∃ b c,v = .slice b n c∧n≤c∧(b=none→c=0))
  (hp:Rep w Φ A p x []):(∃ a n c,x = .slice a n c)∧(Op.equal t x (.slice none 0 0)).run P w = .ok b w:=by
 cases ht:P.underlying t with
 | none=>simp [eqV,ht] at h
 | some td =>
 by_cases j0:∃ e,td = .slice e
 ·obtain ⟨e,rfl⟩:=j0
  by_cases gV:∃ z',p = .nils z'
  ·obtain ⟨z',rfl⟩:=gV
   simp only [eqV,ht,Option.some.injEq] at h
   subst h
   rw [hp.1]
   exact ⟨⟨_,_,_,rfl⟩,run_equal_slice_nil w t e none 0 0 ht⟩
  have hh:(bif zFa p then some false else none)=some b:=by
   rw [← h]
   cases p<;>first | (simp only [eqV,ht];done) | exact absurd ⟨_,rfl⟩ gV
  have key:∀ a n c,x = .slice (some a) n c→b=false→(∃ a n c,x = .slice a n c)∧(Op.equal t x (.slice none 0 0)).run P w = .ok b w:=by
   intro a n c hx hb
   subst hx;subst hb
   exact ⟨⟨_,_,_,rfl⟩,run_equal_slice_nil w t e (some a) n c ht⟩
  cases jr:zFa p with
  | false=>rw [jr] at hh;cases hh
  | true =>
   rw [jr] at hh;simp only [cond_true,Option.some.injEq] at hh
   cases p<;>simp only [zFa] at jr<;>try (cases jr;done)
   case nn =>
    obtain ⟨_,a,n,h1⟩:=hp
    exact key a 0 n h1 hh.symm
   case sl xs =>
    cases xs with
    | nil=>cases jr
    | cons x0 xs =>
     obtain ⟨_,⟨h1,_⟩ | ⟨a,n,c,us,sz,h1,_⟩⟩:=hp
     ·cases h1
     ·exact key a _ n h1 hh.symm
   case own sz xs =>
    cases xs with
    | nil=>cases jr
    | cons x0 xs =>
     obtain ⟨h1,_⟩ | ⟨a,n,c,us,L',h0,_⟩:=hp
     ·cases h1
     ·cases h0
   case bor r pre z lo n =>
    cases n with
    | zero=>cases jr
    | succ n =>
     obtain ⟨b',c,h1,h2,h3⟩:=hA _ _ rfl hp.2 r pre z lo (n+1) rfl
     cases b' with
     | none=>have:=h3 rfl;omega
     | some a=>exact key a _ c h1 hh.symm
 ·cases td<;>first | exact absurd ⟨_,rfl⟩ j0 | simp [eqV,ht] at h
theorem zS3 {t:TypeId} {p q:PV} {b:Bool} {x y:Value} (h:eqV P t p q=some b) (hA:∀ a v,a.isWay=true→A a v→∀ r pre z lo n,a = .bor r pre z lo n→∃ b c,v = .slice b n c∧n≤c∧(b=none→c=0))
  (hp:Rep w Φ A p x []) (hq:Rep w Φ A q y []) (hni:∀ k n k' m,p = .int k n→q = .int k' m→False) (op:BinOp) (xo yo:Operand) :
  (eqGuard op t xo yo x y).run P w = .ok () w∧(Op.equal t x y).run P w = .ok b w∧zWg x=true:=by
 by_cases hn:∃ z,q = .nils z
 ·obtain ⟨z,rfl⟩:=hn
  have hy:y = .slice none 0 0:=hq.1
  subst hy
  obtain ⟨⟨a,n,c,rfl⟩,h2⟩:=zSb h hA hp
  exact ⟨by rw [eqGuard_at_slice];rfl,h2,rfl⟩
 ·by_cases ha:∃ ys,q = .agg ys
  ·obtain ⟨ys,rfl⟩:=ha
   simp only [eqV] at h
   split at h
   ·rename_i xs
    cases hg:P.eqGuardType P.depth t with
    | true=>rw [hg] at h;cases h
    | false =>
     rw [hg] at h;simp only [cond_false] at h
     have:=zKe 20 t _ _ b x y 10000 (by decide) h hp hq
     obtain ⟨vs,rfl,_⟩:=hp
     obtain ⟨us,rfl,_⟩:=hq
     exact ⟨run_eqGuard_agg w op t xo yo vs us hg,this,rfl⟩
   ·cases h
  ·rw [zSU (fun z hz=>hn ⟨z,hz⟩) (fun ys hy=>ha ⟨ys,hy⟩)] at h
   cases v0:p.isAgg with
   | true=>rw [v0] at h;cases h
   | false =>
    rw [v0] at h;simp only [cond_false] at h
    have h2:=zKe 20 t _ _ b x y 10000 (by decide) h hp hq
    rcases zR1 h v0 with ⟨k,n,k',m,h3,h4⟩ | ⟨b',h3⟩ | h3
    ·exact absurd h4 fun h4=>hni k n k' m h3 h4
    ·subst h3;have hx:x = .bool b':=hp.1
     subst hx;exact ⟨by rw [eqGuard_at_bool];rfl,h2,rfl⟩
    ·subst h3;have hx:x = .pointer none:=hp.1
     subst hx;exact ⟨by rw [eqGuard_at_pointer];rfl,h2,rfl⟩
theorem zS0:∀ a v,a.isWay=true→zA7 w rv E a v→∀ r pre z lo n,a = .bor r pre z lo n→∃ b c,v = .slice b n c∧n≤c∧(b=none→c=0):=by
 intro a v _ h r pre z lo n ha
 subst ha
 obtain ⟨_,⟨b,c,h1,h2,h3,_⟩,_⟩:=h
 exact ⟨b,c,h1,h2,h3⟩
theorem zRK {op:BinOp} {t:TypeId} {k:IntKind} {x y:Int} {r:PV} (h:zSn op k x y=some r) (hs:op ≠ .shl∧op ≠ .shr):∃ v,(binOp op t (.int k x) (.int k y)).run P w = .ok v w∧Rep w Φ A r v []:=by
  cases op<;>simp only [zSn] at h<;>try (cases h;done)
  case quo => split at h
              · cases h
              · rename_i hy;cases h;exact ⟨.int k (k.wrap (x.tdiv y)),by simp [binOp,Op.intDiv,hy],rfl,rfl⟩
  case rem => split at h
              · cases h
              · rename_i hy;cases h;exact ⟨.int k (x.tmod y),by simp [binOp,Op.intDiv,hy],rfl,rfl⟩
  all_goals
    simp only [Option.some.injEq] at h
    subst h
    first
    | exact ⟨_,by simp [binOp,Op.intArith];rfl,rfl,rfl⟩
    | exact ⟨_,by simp [binOp,Op.intCmp];rfl,rfl,rfl⟩
    | exact ⟨_,by simp [binOp,Op.intBits];rfl,rfl,rfl⟩
theorem zVq (S:St w0 U Φ0 nt hv a w e Φ rv E L) (hb:zBE E) {d:Option Nat} (hd:∀ x,d=some x→x<nt) {op:BinOp} {t:TypeId} {x y:Operand} (hx:zAY nt x=true) (hy:zAY nt y=true) (h:(zSf P d op t x y).run o e=some e') :
  ∃ v,(do eqGuard op t x y (a.eval x) (a.eval y);binOp op t (a.eval x) (a.eval y)).run P w = .ok v w∧Fr w0 U Φ0 nt hv (a.put d v) w e':=by
 obtain ⟨p,h1,hp⟩:=zBG S hx h
 obtain ⟨q,h2,hq⟩:=zBG S hy h1
 obtain ⟨r,h3,h4⟩:=zBK h2
 have fin:∀ v,(eqGuard op t x y (a.eval x) (a.eval y)).run P w = .ok () w→(binOp op t (a.eval x) (a.eval y)).run P w = .ok v w→Rep w Φ (zA7 w rv E) r v []→∃ v,(do eqGuard op t x y (a.eval x) (a.eval y);binOp op t (a.eval x) (a.eval y)).run P w = .ok v w∧Fr w0 U Φ0 nt hv (a.put d v) w e':=by
  intro v g1 g2 g3
  refine ⟨v,?_,zAF S hb hd h4 g3⟩
  simp only [Sem.run_bind,g1,Result.andThen_ok];exact g2
 simp only [zNV] at h3
 split at h3
 ·rename_i k n _ m
  split at h3
  ·cases h3
  ·rename_i hm;cases h3
   refine fin (.int k (k.wrap (n*2 ^ (min m.toNat k.bits)))) ?_ ?_ ⟨rfl,rfl⟩
   ·rw [hp.1,eqGuard_at_int];rfl
   ·rw [hp.1,hq.1];simp [binOp,Op.shift,hm]
 ·rename_i k n _ m
  split at h3
  ·cases h3
  ·rename_i hm;cases h3
   refine fin (.int k (n.fdiv (2 ^ (min m.toNat k.bits)))) ?_ ?_ ⟨rfl,rfl⟩
   ·rw [hp.1,eqGuard_at_int];rfl
   ·rw [hp.1,hq.1];simp [binOp,Op.shift,hm]
 ·rename_i k n k' m hns1 hns2
  split at h3
  ·rename_i hk;subst hk
   obtain ⟨v,g1,g2⟩:=zRK (P:=P) (w:=w) (Φ:=Φ) (A:=zA7 w rv E) (t:=t) h3 ⟨fun hc=>hns1 hc,fun hc=>hns2 hc⟩
   refine fin v ?_ ?_ g2
   ·rw [hp.1,eqGuard_at_int];rfl
   ·rw [hp.1,hq.1];exact g1
  ·cases h3
 ·rename_i wB
  simp only [Option.map_eq_some_iff] at h3
  obtain ⟨b,h5,rfl⟩:=h3
  obtain ⟨g1,g2,g3⟩:=zS3 h5 zS0 hp hq (fun k n k' m h1 h2=>wB k n k' m h1 h2) .eql x y
  exact fin (.bool b) g1 (zQS g3 g2).1 ⟨rfl,rfl⟩
 ·rename_i wB
  simp only [Option.map_eq_some_iff] at h3
  obtain ⟨b,h5,rfl⟩:=h3
  obtain ⟨g1,g2,g3⟩:=zS3 h5 zS0 hp hq (fun k n k' m h1 h2=>wB k n k' m h1 h2) .neq x y
  exact fin (.bool !b) g1 (zQS g3 g2).2 ⟨rfl,rfl⟩
 ·cases h3
theorem zRu (S:St w0 U Φ0 nt hv a w e Φ rv E L) (hb:zBE E) {d:Option Nat} (hd:∀ x,d=some x→x<nt) {t:TypeId} {x:Operand} {i:Nat} (hx:zAY nt x=true) (h:(zQ7 P d t x i).run o e=some e') :
  ∃ v,(Instr.field t (a.eval x) i).run P w = .ok v w∧Fr w0 U Φ0 nt hv (a.put d v) w e':=by
 obtain ⟨p,h1,hp⟩:=zBG S hx h
 obtain ⟨f,h2,h3⟩:=zBK h1
 obtain ⟨sh,h4,h5⟩:=zBK h3
 obtain ⟨q,h6,h7⟩:=zBK h5
 have v0:∃ cs,p = .agg cs:=by cases p<;>first | exact ⟨_,rfl⟩ | (cases sh<;>cases h6)
 obtain ⟨cs,rfl⟩:=v0
 obtain ⟨vs,hv,hr⟩:=hp
 obtain ⟨u,h8,h9⟩:=zFq (P:=P) h4 (p := .agg cs) ⟨vs,rfl,hr⟩ h6
 refine ⟨u,?_,zAF S hb hd h7 h9⟩
 simp only [zK6] at h2
 cases ht:P.underlying t with
 | none=>rw [ht] at h2;cases h2
 | some td =>
  rw [ht] at h2
  cases td<;>simp only at h2<;>try (cases h2;done)
  rw [hv]
  simp only [Instr.field,Sem.run_bind,run_underlying ht,Result.andThen_ok,h2,asAgg,Sem.run_pure]
  exact h8
theorem zSM (S:St w0 U Φ0 nt hv a w e Φ rv E L) (hb:zBE E) {d:Option Nat} (hd:∀ x,d=some x→x<nt) {t:TypeId} {x i:Operand} (hx:zAY nt x=true) (hi:zAY nt i=true) (h:(zKA P d t x i).run o e=some e') :
  ∃ v,(Instr.index t (a.eval x) (a.eval i)).run P w = .ok v w∧Fr w0 U Φ0 nt hv (a.put d v) w e':=by
 obtain ⟨p,h1,hp⟩:=zBG S hx h
 obtain ⟨pi,h2,LD⟩:=zBG S hi h1
 obtain ⟨ik,n,rfl,hn,h3⟩:=zEH h2
 split at h3
 ·rename_i len el ht
  split at h3
  ·rename_i s sh hs je
   obtain ⟨yI,h4⟩:=zDa h3
   obtain ⟨q,h5,h6⟩:=zBK h4
   have v0:∃ cs,p = .agg cs:=by cases p<;>first | exact ⟨_,rfl⟩ | (cases sh<;>cases h5)
   obtain ⟨cs,rfl⟩:=v0
   obtain ⟨vs,hv,hr⟩:=hp
   obtain ⟨u,h8,h9⟩:=zFq (P:=P) je (p := .agg cs) ⟨vs,rfl,hr⟩ h5
   refine ⟨u,?_,zAF S hb hd h6 h9⟩
   obtain ⟨ti,jE,_⟩:=zEX (w:=w) je
   have yC:ti.size=s:=by simp only [szT,jE,Option.map_some,Option.some.injEq] at hs;exact hs
   subst yC
   rw [hv,LD.1]
   simp only [Instr.index,Sem.run_bind,asIntOf,Sem.run_pure,Result.andThen_ok,run_underlying ht,zAZ jE]
   rw [if_pos ⟨hn,by omega⟩]
   simp only [Sem.run_bind,zAZ jE,Result.andThen_ok]
   exact h8
  ·cases h3
 ·cases h3
theorem zP0 {p q:PV} {off:Nat} {sh:Option Nat} {v:Value} (h:zDR p off sh=some q) (hp:Rep w Φ (zA7 w rv E) p v []) :
  ∃ b,v = .pointer (some b)∧b.spot=none∧sh≠some 0∧Rep w Φ (zA7 w rv E) q (.pointer (some (zAz b off))) []:=by
 have h0:sh≠some 0:=by intro hc;subst hc;cases h
 replace h:zOm p off sh=some q:=by
  cases sh with
  | none=>exact h
  | some n=>cases n with
   | zero=>exact absurd rfl h0
   | succ n=>exact h
 cases p<;>simp only [zOm] at h<;>try (cases h;done)
 case ref q0 =>
  obtain ⟨_,b,c,u,rfl,yZ,hΦ,yA,j6,⟨yC,j5⟩,hr⟩:=hp
  refine ⟨b,rfl,yZ,h0,?_⟩
  cases hs:sub q0 off sh with
  | none=>rw [hs] at h;cases h
  | some x =>
   rw [hs] at h;simp only at h
   have wt:∀ n,off+n≤q0.cells.length→seg c (b.off+off) n=(u.cells.toList.drop off).take n:=by
    intro n hn
    rw [← j6]
    apply List.ext_getElem?
    intro k
    simp only [seg,List.getElem?_take,List.getElem?_drop]
    by_cases hk:k<n
    ·rw [if_pos hk,if_pos hk,if_pos (by omega),Nat.add_assoc]
    ·rw [if_neg hk,if_neg hk]
   cases q0<;>try (cases sh<;>cases hs;done)
   rename_i cs
   obtain ⟨vs,rfl,hr⟩:=hr
   have hO:=hr.length
   cases sh with
   | some n =>
    simp only [sub] at hs
    split at hs
    ·rename_i yJ
     cases hs
     simp only [Option.isSome_some,Bool.true_or,cond_true,Option.some.injEq] at h
     subst h
     refine ⟨rfl,zAz b off,c,.agg ((vs.toList.drop off).take n).toArray,rfl,rfl,hΦ,yA,?_,⟨?_,rfl⟩,_,rfl,by simpa using zBV hr off n⟩
     ·simp only [zAz,PV.cells,Value.cells]
      rw [show ((cs.drop off).take n).length=n by simp;omega]
      exact wt n yJ
     ·simp only [Value.cells,PV.cells];simp at hO ⊢;omega
    ·cases hs
   | none =>
    simp only [sub] at hs
    obtain ⟨u2,La,Li,Lb,hu,hL,kZ,_,_⟩:=hr.split hs
    have:Li=[]:=by
     have:=congrArg List.length hL;simp at this
     exact List.eq_nil_of_length_eq_zero (by omega)
    subst this
    simp only [Option.isSome_none,Bool.false_or] at h
    cases jY:x.oneCell with
    | false=>rw [jY] at h;cases h
    | true =>
     rw [jY] at h;simp only [cond_true,Option.some.injEq] at h;subst h
     have h1:=zBL (zB8 (fun a v hw h=>zC2 hw h) kZ jY)
     have h2:=zBm jY
     have yI:off<cs.length:=(List.getElem?_eq_some_iff.1 hs).1
     refine ⟨rfl,zAz b off,c,u2,rfl,rfl,hΦ,yA,?_,⟨by rw [h1.1,h2.1];rfl,by rw [h1.2,h2.2]⟩,kZ⟩
     rw [h1.1,h2.1]
     have:=wt 1 (by simp only [PV.cells];omega)
     simp only [zAz,List.length_singleton]
     rw [this]
     simp only [Value.cells]
     have wS:off<vs.toList.length:=by omega
     rw [List.drop_eq_getElem_cons wS]
     rw [List.getElem?_eq_getElem wS] at hu
     simp only [Option.some.injEq] at hu
     simp [← hu]
 case addr r pre i c s =>
  cases s with
  | none=>cases h
  | some s =>
   simp only [Option.some.injEq] at h;subst h
   obtain ⟨_,hg,b,rfl,yZ,hn⟩:=hp
   refine ⟨b,rfl,yZ,h0,rfl,hg,zAz b off,rfl,rfl,fun nv np hf a' ha=>?_⟩
   have key:∃ a0,zA8 nv np i c=some a0∧a'=zAz a0 off:=by
    cases np<;>try (simp [zA8] at ha;done)
    ·cases nv with
     | slice x _ _ =>
      cases x with
      | none=>cases ha
      | some x=>simp only [zA8] at ha ⊢;cases ha;exact ⟨_,rfl,by simp [zAz,Nat.add_assoc]⟩
     | pointer x=>cases x<;>cases ha
     | _=>cases ha
    ·cases nv with
     | pointer x =>
      cases x with
      | none=>cases i<;>cases ha
      | some x=>cases i<;>simp only [zA8] at ha ⊢ <;> cases ha;exact ⟨_,rfl,by simp [zAz,Nat.add_assoc]⟩
     | slice x _ _=>cases x<;>cases ha
     | _=>cases ha
   obtain ⟨a0,h1,h2⟩:=key
   rw [h2,hn nv np hf a0 h1]
theorem zLj (S:St w0 U Φ0 nt hv a w e Φ rv E L) (hb:zBE E) {d:Option Nat} (hd:∀ x,d=some x→x<nt) {t:TypeId} {x:Operand} {i:Nat} (hx:zAY nt x=true) (h:(zI5 P d t x i).run o e=some e') :
  ∃ v,(Instr.fieldAt t (a.eval x) i).run P w = .ok v w∧Fr w0 U Φ0 nt hv (a.put d v) w e':=by
 obtain ⟨p,h1,hp⟩:=zBG S hx h
 obtain ⟨f,h2,h3⟩:=zBK h1
 obtain ⟨sh,h4,h5⟩:=zBK h3
 obtain ⟨q,h6,h7⟩:=zBK h5
 obtain ⟨b,h8,h9,h10,h11⟩:=zP0 h6 hp
 obtain ⟨ti,jE,_,uv,uu⟩:=zEX (w:=w) h4
 refine ⟨_,?_,zAF S hb hd h7 h11⟩
 have yC:ti.size≠0:=by
  cases sh with
  | none=>rw [uu rfl];decide
  | some n=>rw [← uv n rfl];intro hc;subst hc;exact h10 rfl
 simp only [zK6] at h2
 cases ht:P.underlying t with
 | none=>rw [ht] at h2;cases h2
 | some td =>
  rw [ht] at h2
  cases td<;>simp only at h2<;>try (cases h2;done)
  rw [h8]
  simp only [Instr.fieldAt,Sem.run_bind,run_underlying ht,Result.andThen_ok,h2,Instr.sureAddr,Sem.run_pure,fieldPlace,zAZ jE,yC,if_false,Sem.run_ite]
  rw [zBW h9]
theorem zCi {t:TypeId} {n:Nat} (h:szT P t=some n):∃ i,P.info? t=some i∧i.size=n:=by
 simp only [szT] at h
 cases hi:P.info? t with
 | none=>rw [hi] at h;cases h
 | some i=>rw [hi] at h;simp only [Option.map_some,Option.some.injEq] at h;exact ⟨i,rfl,h⟩
theorem zSC {el:TypeId} {p q:PV} {i:Nat} {v:Value} {d:Option Nat} {k:PV→PM} (h:(zQB P d el p i).run o e=some e') (hp:Rep w Φ (zA7 w rv E) p v []) :
  ∃ ti b n c q,P.info? el=some ti∧v = .slice (some b) n c∧i<n∧(put d q).run o e=some e'∧Rep w Φ (zA7 w rv E) q (.pointer (some (b.add (i*ti.size)))) []:=by
 cases p<;>simp only [zQB] at h<;>try (cases h;done)
 case sl xs =>
  obtain ⟨x,hx,h1⟩:=zBK h
  obtain ⟨hs,h2⟩:=zDa h1
  obtain ⟨ti,jE,yC⟩:=zCi hs
  obtain ⟨_,⟨h3,_⟩ | ⟨b,n,c,us,sz,rfl,yZ,yJ,hΦ,yA,jO,⟨kR,wN⟩,j6,hr⟩⟩:=hp
  ·subst h3;simp at hx
  ·have yI:i<xs.length:=(List.getElem?_eq_some_iff.1 hx).1
   obtain ⟨u,La,Li,Lb,hu,hL,kZ,_,_⟩:=hr.split hx
   have uF:Li=[]:=by
    have:=congrArg List.length hL;simp at this
    exact List.eq_nil_of_length_eq_zero (by omega)
   subst uF
   have v1:=jO x (List.mem_of_getElem? hx)
   have yu:=kR u (List.mem_of_getElem? hu)
   have hg:zCj u=x.isAgg:=by
    have h1:(us.map zCj)[i]? = some (zCj u):=by simp [hu]
    have h2:(xs.map PV.isAgg)[i]? = some x.isAgg:=by simp [hx]
    rw [wN] at h1;rw [h1] at h2;simpa using h2
   refine ⟨ti,b,xs.length,n,.ref x,jE,rfl,yI,h2,rfl,zAz b (i*sz),c,u,?_,rfl,hΦ,yA,?_,⟨by omega,hg⟩,kZ.mono zDj.refl (fun _ _ _ h=>h.elim) (by simp)⟩
   ·rw [zBW yZ,yC,v1]
   ·rw [v1]
    refine zHB (by simpa using yu) fun k y hy=>?_
    have hf:=zDS kR hu hy
    rw [← j6] at hf
    have:=zDt hf
    simp only [zAz,Nat.add_assoc];exact this
 case bor r pre z lo n =>
  cases je:shT P el with
  | none=>rw [je] at h;cases h
  | some sh =>
   rw [je] at h;simp only at h
   obtain ⟨⟨yI,hs⟩,h2⟩:=zDa h
   obtain ⟨ti,jE,yC⟩:=zCi hs
   obtain ⟨_,hg,⟨x,cap,rfl,yO,yX,y4⟩,hn⟩:=hp
   cases x with
   | none=>have:=yX rfl;omega
   | some b =>
    refine ⟨ti,b,n,cap,_,jE,rfl,yI,h2,rfl,hg,b.add (i*ti.size),rfl,by rw [zBW (y4 b rfl)];rfl,fun nv np hf a' ha=>?_⟩
    have hh:np.heavy0=true:=by cases np<;>first | rfl | (simp [zA8] at ha;done)
    obtain ⟨sz,xs,h3,h4,h5⟩:=hn nv np hf hh
    subst h3;subst h4
    cases nv<;>simp only [zBY] at h5
    rename_i y l c
    cases y with
    | none=>cases ha
    | some y =>
     simp only [zBY,Value.slice.injEq,Option.some.injEq] at h5
     simp only [zA8,Option.some.injEq] at ha
     rw [← ha,zBW (y4 b rfl),h5.1.1,yC]
     simp [zAz,Nat.add_mul,Nat.add_assoc]
 case bsl r pre j c0 s ag n =>
  obtain ⟨⟨yI,hs⟩,h2⟩:=zDa h
  obtain ⟨ti,jE,yC⟩:=zCi hs
  obtain ⟨_,hg,b,cap,rfl,yO,y4,hn⟩:=hp
  refine ⟨ti,b,n,cap,_,jE,rfl,yI,h2,rfl,hg,b.add (i*ti.size),rfl,by rw [zBW y4];rfl,fun nv np hf a' ha=>?_⟩
  have key:∃ a0,zA8 nv np j c0=some a0∧a'=zAz a0 (i*s):=by
   cases np<;>try (simp [zA8] at ha;done)
   ·cases nv with
    | slice x _ _ =>
     cases x with
     | none=>cases ha
     | some x=>simp only [zA8] at ha ⊢;cases ha;exact ⟨_,rfl,by simp [zAz,Nat.add_assoc]⟩
    | pointer x=>cases x<;>cases ha
    | _=>cases ha
   ·cases nv with
    | pointer x =>
     cases x with
     | none=>cases j<;>cases ha
     | some x=>cases j<;>simp only [zA8] at ha ⊢ <;> cases ha;exact ⟨_,rfl,by simp [zAz,Nat.add_assoc]⟩
    | slice x _ _=>cases x<;>cases ha
    | _=>cases ha
  obtain ⟨a0,h3,h4⟩:=key
  rw [h4,zBW y4,hn nv np hf a0 h3,yC]
theorem zLC (S:St w0 U Φ0 nt hv a w e Φ rv E L) (hb:zBE E) {d:Option Nat} (hd:∀ x,d=some x→x<nt) {t:TypeId} {x i:Operand} (hx:zAY nt x=true) (hi:zAY nt i=true) (h:(zE2 P d t x i).run o e=some e') :
  ∃ v,(Instr.indexAt t (a.eval x) (a.eval i)).run P w = .ok v w∧Fr w0 U Φ0 nt hv (a.put d v) w e':=by
 obtain ⟨p,h1,hp⟩:=zBG S hx h
 obtain ⟨pi,h2,LD⟩:=zBG S hi h1
 obtain ⟨ik,n,rfl,hn,h3⟩:=zEH h2
 rw [LD.1]
 split at h3
 ·rename_i len el ht
  simp only [zOs] at h3
  split at h3
  ·rename_i s sh hs je
   obtain ⟨yI,h4⟩:=zDa h3
   obtain ⟨q,h5,h6⟩:=zBK h4
   obtain ⟨b,h7,h8,h9,h10⟩:=zP0 h5 hp
   obtain ⟨ti,jE,yC⟩:=zCi hs
   refine ⟨_,?_,zAF S hb hd h6 h10⟩
   rw [h7]
   simp only [Instr.indexAt,Sem.run_bind,asIntOf,Sem.run_pure,Result.andThen_ok,run_underlying ht,Instr.sureAddr]
   rw [if_pos ⟨hn,by omega⟩]
   simp only [Sem.run_bind,zAZ jE,Result.andThen_ok,Sem.run_pure]
   rw [zBW h8,yC]
  ·cases h3
 ·rename_i el ht
  obtain ⟨ti,b,m,c,q,jE,yB,yI,h4,h5⟩:=zSC (q := .bad) (k:=fun _ => .ok) h3 hp
  refine ⟨_,?_,zAF S hb hd h4 h5⟩
  rw [yB]
  simp only [Instr.indexAt,Sem.run_bind,asIntOf,Sem.run_pure,Result.andThen_ok,run_underlying ht]
  rw [if_pos ⟨hn,by omega⟩]
  simp only [Sem.run_bind,zAZ jE,Result.andThen_ok,Sem.run_pure]
 ·cases h3
theorem zSD {p:PV} {n:Nat} {v:Value} (h:lenOf p=some n) (hp:Rep w Φ (zA7 w rv E) p v []):∃ b c,v = .slice b n c:=by
 cases p<;>simp only [lenOf] at h<;>try (cases h;done)
 case nils=>cases h;exact ⟨_,_,hp.1⟩
 case nn=>cases h;obtain ⟨_,b,c,h1⟩:=hp;exact ⟨_,_,h1⟩
 case sl xs =>
  cases h
  obtain ⟨_,⟨rfl,b,c,rfl,_⟩ | ⟨b,c,_,_,_,rfl,_⟩⟩:=hp
  ·exact ⟨_,_,rfl⟩
  ·exact ⟨_,_,rfl⟩
 case bor=>cases h;obtain ⟨_,_,⟨b,c,rfl,_⟩,_⟩:=hp;exact ⟨_,_,rfl⟩
 case bsl=>cases h;obtain ⟨_,_,b,c,rfl,_⟩:=hp;exact ⟨_,_,rfl⟩
theorem zVj (S:St w0 U Φ0 nt hv a w e Φ rv E L) (hb:zBE E) {d:Option Nat} (hd:∀ x,d=some x→x<nt) {ty:TypeId} {ts:Array TypeId} {xs:Array Operand} (hx:∀ x∈xs.toList,zAY nt x=true)
  (h:(zBz P d .len ts.toList xs.toList).run o e=some e') :
  ∃ v,(Builtin.len_ ts ty (xs.map a.eval)).run P w = .ok v w∧Fr w0 U Φ0 nt hv (a.put d v) w e':=by
 obtain ⟨ts⟩:=ts;obtain ⟨xs⟩:=xs
 simp only at h hx
 rcases xs with _ | ⟨x,_ | ⟨y,xs⟩⟩<;>rcases ts with _ | ⟨t,ts⟩<;>try (cases h;done)
 obtain ⟨p,h1,hp⟩:=zBG S (hx x (by simp)) h
 split at h1
 ·rename_i n el ht
  refine ⟨_,?_,zAF S hb hd h1 ⟨rfl,rfl⟩⟩
  simp only [Builtin.len_,List.map_toArray,List.map_cons,List.map_nil,List.getElem?_toArray,List.getElem?_cons_zero,Sem.run_bind,run_underlying ht,Result.andThen_ok]
  cases a.eval x<;>rfl
 ·rename_i el ht
  split at h1
  ·rename_i n hn
   obtain ⟨b,c,yB⟩:=zSD hn hp
   refine ⟨_,?_,zAF S hb hd h1 ⟨rfl,rfl⟩⟩
   simp only [Builtin.len_,List.map_toArray,List.map_cons,List.map_nil,List.getElem?_toArray,List.getElem?_cons_zero,Sem.run_bind,run_underlying ht,Result.andThen_ok,yB]
   rfl
  ·cases h1
 ·cases h1
theorem zRm {k:IntKind}:∀ (ps:List PV) (vs:List Value) (m:Int) (r:Option Int),zA3 w Φ A ps vs [] →
  (ps.foldl (fun m p=>match m,p with
   | some m,.int k' b=>if k=k' then some (if b>m then b else m) else none
   | _,_=>none) (some m))=r→∀ z,r=some z→(vs.foldlM Builtin.max2 (.int k m)).run P w = .ok (.int k z) w
 | [],vs,m,r,hr,h,z,hz=>by rw [hr.1];simp only [List.foldl_nil] at h;rw [← h] at hz;cases hz;rfl
 | p :: ps,vs,m,r,hr,h,z,hz=>by
  obtain ⟨v,vs',L1,L2,rfl,hL,h1,h2⟩:=hr
  obtain ⟨rfl,rfl⟩:L1=[]∧L2=[]:=by simpa using hL.symm
  have dead:∀ qs:List PV,qs.foldl (fun m p=>match m,p with
   | some m,.int k' b=>if k=k' then some (if b>m then b else m) else none
   | _,_=>none) (none:Option Int)=none:=by
   intro qs;induction qs with
   | nil=>rfl
   | cons q qs ih=>simp only [List.foldl_cons];exact ih
  simp only [List.foldl_cons] at h
  cases p<;>try (simp only at h;rw [dead] at h;rw [← h] at hz;cases hz;done)
  rename_i k' b
  simp only at h
  split at h
  ·rename_i hk;subst hk
   rw [h1.1]
   simp only [List.foldlM_cons,Builtin.max2,Sem.run_bind,Sem.run_pure,Result.andThen_ok]
   exact zRm ps vs' _ r h2 h z hz
  ·rw [dead] at h;rw [← h] at hz;cases hz
theorem zPF {k:IntKind}:∀ (ps:List PV) (vs:List Value) (m:Int) (r:Option Int),zA3 w Φ A ps vs [] →
  (ps.foldl (fun m p=>match m,p with
   | some m,.int k' b=>if k=k' then some (if b<m then b else m) else none
   | _,_=>none) (some m))=r→∀ z,r=some z→(vs.foldlM Builtin.min2 (.int k m)).run P w = .ok (.int k z) w
 | [],vs,m,r,hr,h,z,hz=>by rw [hr.1];simp only [List.foldl_nil] at h;rw [← h] at hz;cases hz;rfl
 | p :: ps,vs,m,r,hr,h,z,hz=>by
  obtain ⟨v,vs',L1,L2,rfl,hL,h1,h2⟩:=hr
  obtain ⟨rfl,rfl⟩:L1=[]∧L2=[]:=by simpa using hL.symm
  have dead:∀ qs:List PV,qs.foldl (fun m p=>match m,p with
   | some m,.int k' b=>if k=k' then some (if b<m then b else m) else none
   | _,_=>none) (none:Option Int)=none:=by
   intro qs;induction qs with
   | nil=>rfl
   | cons q qs ih=>simp only [List.foldl_cons];exact ih
  simp only [List.foldl_cons] at h
  cases p<;>try (simp only at h;rw [dead] at h;rw [← h] at hz;cases hz;done)
  rename_i k' b
  simp only at h
  split at h
  ·rename_i hk;subst hk
   rw [h1.1]
   simp only [List.foldlM_cons,Builtin.min2,Sem.run_bind,Sem.run_pure,Result.andThen_ok]
   exact zPF ps vs' _ r h2 h z hz
  ·rw [dead] at h;rw [← h] at hz;cases hz
theorem zVg (S:St w0 U Φ0 nt hv a w e Φ rv E L) (hb:zBE E) {d:Option Nat} (hd:∀ x,d=some x→x<nt) {ty:TypeId} {ts:Array TypeId} {xs:Array Operand} (hx:∀ x∈xs.toList,zAY nt x=true)
  (h:(zBz P d .max ts.toList xs.toList).run o e=some e'):∃ v,(Builtin.max_ ts ty (xs.map a.eval)).run P w = .ok v w∧Fr w0 U Φ0 nt hv (a.put d v) w e':=by
 simp only [zBz] at h
 obtain ⟨ps,h1,hp⟩:=zHz S hx h
 cases hm:zUS ps with
 | none=>rw [hm] at h1;cases h1
 | some r =>
  rw [hm] at h1;simp only at h1
  rcases ps with _ | ⟨p,ps⟩<;>simp only [zUS] at hm<;>try (cases hm;done)
  cases p<;>simp only at hm<;>try (cases hm;done)
  rename_i k x0
  simp only [Option.map_eq_some_iff] at hm
  obtain ⟨z,hz,rfl⟩:=hm
  obtain ⟨v,vs',L1,L2,yi,hL,g1,g2⟩:=hp
  obtain ⟨rfl,rfl⟩:L1=[]∧L2=[]:=by simpa using hL.symm
  refine ⟨.int k z,?_,zAF S hb hd h1 ⟨rfl,rfl⟩⟩
  simp only [Builtin.max_,Array.toList_map,yi]
  rw [g1.1]
  exact zRm ps vs' x0 _ g2 hz z rfl
theorem zVw (S:St w0 U Φ0 nt hv a w e Φ rv E L) (hb:zBE E) {d:Option Nat} (hd:∀ x,d=some x→x<nt) {ty:TypeId} {ts:Array TypeId} {xs:Array Operand} (hx:∀ x∈xs.toList,zAY nt x=true)
  (h:(zBz P d .min ts.toList xs.toList).run o e=some e'):∃ v,(Builtin.min_ ts ty (xs.map a.eval)).run P w = .ok v w∧Fr w0 U Φ0 nt hv (a.put d v) w e':=by
 simp only [zBz] at h
 obtain ⟨ps,h1,hp⟩:=zHz S hx h
 cases hm:zUP ps with
 | none=>rw [hm] at h1;cases h1
 | some r =>
  rw [hm] at h1;simp only at h1
  rcases ps with _ | ⟨p,ps⟩<;>simp only [zUP] at hm<;>try (cases hm;done)
  cases p<;>simp only at hm<;>try (cases hm;done)
  rename_i k x0
  simp only [Option.map_eq_some_iff] at hm
  obtain ⟨z,hz,rfl⟩:=hm
  obtain ⟨v,vs',L1,L2,yi,hL,g1,g2⟩:=hp
  obtain ⟨rfl,rfl⟩:L1=[]∧L2=[]:=by simpa using hL.symm
  refine ⟨.int k z,?_,zAF S hb hd h1 ⟨rfl,rfl⟩⟩
  simp only [Builtin.min_,Array.toList_map,yi]
  rw [g1.1]
  exact zPF ps vs' x0 _ g2 hz z rfl
end
end Go.Eng
namespace Go.Eng
open Go
section
variable {P:Program} {w0 w w':World} {U Φ0 Φ:Nat→Prop} {nt:Nat} {hv:Hid} {a:Act} {e e':Env} {rv rv':Nat→Value} {E E':Nat→PV} {L L':Nat→List Nat} {o:zAL} {A:Al}
def zGw (w:World) (c:Array Value) (t:TypeId):World:={w with heap:=w.heap.push (.cells c t)}
theorem zEW (t:TypeId) (c:Array Value):(newRow t c).run P w = .ok ⟨w.heap.size,0,none⟩ (zGw w c t):=by
 simp [newRow,zGw]
theorem zG1 {c:Array Value} {t:TypeId} {b:Nat} (h:b<w.heap.size):(zGw w c t).heap[b]? = w.heap[b]?:=by
 simp only [zGw,Array.getElem?_push];rw [if_neg (by omega)]
theorem zLA {c:Array Value} {t:TypeId}:zE0 (zGw w c t) w.heap.size c:=⟨t,by show (w.heap.push (.cells c t))[w.heap.size]? = _;simp⟩
theorem zFT {c:Array Value} {t:TypeId}:(zGw w c t).heap.size=w.heap.size+1:=by simp [zGw]
theorem zLo {p:PV} {v:Value} (h:zJA p v=true):Rep w Φ A p v []∧p.oneCell=true∧v.oneCell'=true:=by
 cases p<;>cases v<;>simp only [zJA] at h<;>try (cases h;done)
 case int=>simp only [Bool.and_eq_true,decide_eq_true_eq] at h;obtain ⟨rfl,rfl⟩:=h;exact ⟨⟨rfl,rfl⟩,rfl,rfl⟩
 case bool=>simp only [beq_iff_eq] at h;subst h;exact ⟨⟨rfl,rfl⟩,rfl,rfl⟩
 case nilp.pointer a=>cases a<;>simp only [zJA] at h<;>first | (cases h;done) | exact ⟨⟨rfl,rfl⟩,rfl,rfl⟩
 case nilf=>exact ⟨⟨rfl,rfl⟩,rfl,rfl⟩
 case nilm.map a=>cases a<;>simp only [zJA] at h<;>first | (cases h;done) | exact ⟨⟨rfl,rfl⟩,rfl,rfl⟩
 case own.slice sz xs a n c =>
  cases xs with
  | cons _ _=>simp only [zJA] at h;cases h
  | nil =>
   cases a with
   | some _=>simp only [zJA] at h;cases h
   | none=>cases n<;>cases c<;>simp only [zJA] at h<;>first | (cases h;done) | exact ⟨.inl ⟨rfl,rfl,rfl⟩,rfl,rfl⟩
theorem zLT:∀ {ps:List PV} {vs:List Value},zRZ ps vs=true→zA3 w Φ A ps vs []∧(∀ v∈vs,v.oneCell'=true)∧∀ p∈ps,p.oneCell=true
 | [],[],_=>⟨⟨rfl,rfl⟩,by simp,by simp⟩
 | [],_::_,h=>by cases h
 | _::_,[],h=>by cases h
 | p::ps,v::vs,h=>by
  simp only [zRZ,Bool.and_eq_true] at h
  obtain ⟨h1,h2,h3⟩:=zLo (w:=w) (Φ:=Φ) (A:=A) h.1
  obtain ⟨h4,h5,h6⟩:=zLT h.2
  exact ⟨⟨v,vs,[],[],rfl,rfl,h1,h4⟩,fun x hx=>(List.mem_cons.1 hx).elim (fun e=>e▸h3) (h5 x),fun x hx=>(List.mem_cons.1 hx).elim (fun e=>e▸h2) (h6 x)⟩
theorem zCA {p:PV} {v:Value} (h:zLK p v=true):Rep w Φ A p v []∧v.cells.size=p.cells.length∧zCj v=p.isAgg∧(∀ u∈v.cells.toList,u.oneCell'=true)∧∀ q∈p.cells,q.oneCell=true:=by
 by_cases hp:∃ cs,p = .agg cs
 ·obtain ⟨cs,rfl⟩:=hp
  cases v<;>simp only [zLK] at h<;>try (cases h;done)
  rename_i vs
  obtain ⟨h1,h2,h3⟩:=zLT (w:=w) (Φ:=Φ) (A:=A) h
  have:=h1.length
  exact ⟨⟨vs,rfl,h1⟩,by simpa [Value.cells,PV.cells] using this,rfl,h2,h3⟩
 ·have h:zJA p v=true:=by
   rw [← h];cases p<;>first | rfl | exact absurd ⟨_,rfl⟩ hp
  obtain ⟨h1,h2,h3⟩:=zLo (w:=w) (Φ:=Φ) (A:=A) h
  have h4:=zBL h3
  have h5:=zBm h2
  exact ⟨h1,by rw [h4.1,h5.1];rfl,by rw [h4.2,h5.2],by rw [h4.1];simpa using h3,by rw [h5.1];simpa using h2⟩
theorem zEa {t:TypeId} {z:PV} (h:zC6 P t=some z):∃ i v,P.info? t=some i∧i.zero=some v∧(∀ w:World,(zeroValue t).run P w = .ok v w)∧zLK z v=true:=by
 simp only [zC6] at h
 split at h
 ·rename_i cs sh v _ _ hv
  cases hi:P.info? t with
  | none=>rw [hi] at hv;cases hv
  | some i =>
   rw [hi] at hv;simp only [Option.bind_some] at hv
   cases hz:zLK (zNf sh cs) v with
   | false=>rw [hz] at h;cases h
   | true =>
    rw [hz] at h;simp only [cond_true,Option.some.injEq] at h
    subst h
    refine ⟨i,v,rfl,hv,fun w=>?_,hz⟩
    simp [zeroValue,typeInfo,hi,hv]
 ·cases h
theorem St.boxed (S:St w0 U Φ0 nt hv a w e Φ rv E L) {g0 g:Nat} (LE:zAd≤g0) (hg:zAd≤g) (hI:g≠g0) (uG:E g = .bad) {v:Value} (yB:rv g0=v) (t:TypeId) (yC:v.cells.size=(E g0).cells.length∧zCj v=(E g0).isAgg) :
  ∃ rv1 E1 L1,St w0 U Φ0 nt hv a (zGw w v.cells t) e Φ rv1 E1 L1∧E1 g = .box (E g0)∧rv1 g = .pointer (some ⟨w.heap.size,0,none⟩)∧E1 g0 = .bad∧∀ s,zAd≤s→s≠g→s≠g0→E1 s=E s:=by
 have hH:=S.conf.rep g0
 rw [yB] at hH
 have hold:∀ b∈L g0,(zGw w v.cells t).heap[b]? = w.heap[b]?:=fun b hb=>zG1 (S.conf.own g0 b hb).1
 have hΦ:zDj w (zGw w v.cells t) Φ Φ:=fun b hb=>⟨hb,zG1 (S.conf.frz b hb).1⟩
 have hc:=S.conf.make (w':=zGw w v.cells t) (fun s=>s==g0) (fun s hs=>by have:=eq_of_beq hs;omega) hg (p := .box (E g0)) (v := .pointer (some ⟨w.heap.size,0,none⟩)) (Lp:=w.heap.size::L g0)
  (fun A hA=>⟨_,v.cells,v,L g0,rfl,rfl,rfl,zLA,by show (v.cells.toList.drop 0).take _=_;rw [← yC.1];exact List.take_of_length_le (by simp),yC,hH.mono hΦ hA hold⟩)
  (List.nodup_cons.2 ⟨fun hm=>absurd (S.conf.own g0 _ hm).1 (Nat.lt_irrefl _),S.conf.nodup g0⟩)
  (fun b hb=>by
   rcases List.mem_cons.1 hb with rfl | hb
   ·exact .inr ⟨Nat.le_refl _,by rw [zFT];omega⟩
   ·exact .inl ⟨g0,hb,by simp⟩)
  (by rw [zFT];omega) (fun b hb _=>zG1 hb) ⟨rfl,rfl,rfl⟩
 refine ⟨_,_,_,S.turn hc (fun s hs=>?_) (fun s hs=>zAf (by omega)) (fun d ps hd hp=>?_),zAh,zAh,?_,fun s h1 h2 h3=>?_⟩
 ·rw [zAf (by omega)]
  have:(s==g0)=false:=by simp;omega
  simp only [this,Bool.false_eq_true,if_false];exact S.env s hs
 ·simp only [zAd] at hg LE
  rw [zAf (by omega)] at hp
  have:(d==g0)=false:=by simp;omega
  simp only [this,Bool.false_eq_true,if_false] at hp;exact ⟨ps,hp,rfl⟩
 ·rw [zAf (Ne.symm hI)];simp
 ·rw [zAf h2]
  have:(s==g0)=false:=by simp [h3]
  simp [this]
theorem zRt (S:St w0 U Φ0 nt hv a w e Φ rv E L) (hb:zBE E) {d:Option Nat} (hd:∀ x,d=some x→x<nt) {t:TypeId} (h:(zP7 P d t).run o e=some e') :
  ∃ v w',(Instr.alloc t true (.tuple #[])).run P w = .ok v w'∧Fr w0 U Φ0 nt hv (a.put d v) w' e':=by
 obtain ⟨z,hz,h1⟩:=zBK h
 obtain ⟨i,v,hi,hiz,hX,kb⟩:=zEa hz
 have kE:=zCA (w:=w) (Φ:=Φ) (A:=zA7 w rv E) kb
 obtain ⟨hr,h2,h3⟩:Rep w Φ (zA7 w rv E) (zQD P t z) v []∧v.cells.size=(zQD P t z).cells.length∧zCj v=(zQD P t z).isAgg:=by
  cases z with
  | nils k =>
   simp only [zQD]
   split
   ·exact ⟨.inl ⟨rfl,rfl,kE.1.1⟩,kE.2.1,kE.2.2.1⟩
   ·exact ⟨kE.1,kE.2.1,kE.2.2.1⟩
  | _=>exact ⟨kE.1,kE.2.1,kE.2.2.1⟩
 have S1:=S.hold (Nat.le_refl zAd) hr
 obtain ⟨rv1,E1,L1,S2,h4,h5,h6,h7⟩:=S1.boxed (g0:=zAd) (g:=zAd+1) (Nat.le_refl _) (by omega) (by omega) (by rw [zAf (by omega)];exact hb _ (by omega)) zAh t (by rw [zAh];exact ⟨h2,h3⟩)
 have:=zFM S2 hd (g:=zAd+1) (by omega) (by rw [h4,zAh];exact h1) (fun s hs hI=>by
   by_cases h8:s=zAd
   ·subst h8;exact h6
   ·rw [h7 s hs hI h8,zAf h8];exact hb s hs)
 rw [h5] at this
 refine ⟨_,_,?_,this⟩
 simp only [Instr.alloc,Sem.run_bind,hX,Result.andThen_ok,newVar,zEW,Sem.run_pure]
theorem zU6 (S:St w0 U Φ0 nt hv a w e Φ rv E L) (hb:zBE E) {d:Option Nat} (hd:∀ x,d=some x→x<nt) {t:TypeId} {x:Operand} (hx:zAY nt x=true) (h:(zSd P d t x).run o e=some e') :
  ∃ v w',(Instr.box t (a.eval x)).run P w = .ok v w'∧Fr w0 U Φ0 nt hv (a.put d v) w' e':=by
 obtain ⟨e1,rv1,E1,L1,h1,S1,h2,h3⟩:=zHE S hx (Nat.le_refl zAd) h
 split at h1
 ·rename_i sh n _ _
  obtain ⟨h4,h5⟩:=zDa h1
  simp only [Bool.and_eq_true,decide_eq_true_eq] at h4
  have hH:=S1.conf.rep zAd
  rw [h2] at hH
  have yC:(a.eval x).cells.size=(E1 zAd).cells.length∧zCj (a.eval x)=(E1 zAd).isAgg:=by
   have hw:=h4.2
   simp only [PV.whole,Bool.or_eq_true] at hw
   rcases hw with hw | hw
   ·cases hE:E1 zAd<;>rw [hE] at hw<;>simp [PV.isAgg] at hw
    rw [hE] at hH
    obtain ⟨vs,yB,hr⟩:=hH
    have:=hr.length
    rw [yB];exact ⟨by simpa [Value.cells,PV.cells] using this,rfl⟩
   ·have g1:=zBL (zB8 (fun a v hw h=>zC2 hw h) hH hw)
    have g2:=zBm hw
    exact ⟨by rw [g1.1,g2.1];rfl,by rw [g1.2,g2.2]⟩
  obtain ⟨rv2,E2,L2,S2,h6,h7,h8,h9⟩:=S1.boxed (g0:=zAd) (g:=zAd+1) (Nat.le_refl _) (by omega) (by omega) (by rw [(h3 (zAd+1) (by omega) (by omega)).1];exact hb _ (by omega)) h2 t yC
  have:=zFM S2 hd (g:=zAd+1) (by omega) (by rw [h6];exact h5) (fun s hs hI=>by
    by_cases h10:s=zAd
    ·subst h10;exact h8
    ·rw [h9 s hs hI h10,(h3 s hs h10).1];exact hb s hs)
  rw [h7] at this
  refine ⟨_,_,?_,this⟩
  simp only [Instr.box,Sem.run_bind,newVar,zEW,Result.andThen_ok,Sem.run_pure]
 ·cases h1
theorem zJ9 {t:TypeId} {sh:Option Nat} (hs:shT P t=some sh) {b:Addr} {u:Value} (hc:∀ j y,u.cells.toList[j]? = some y→w.cell? (b.add j)=some y) (hu:zCj u=sh.isSome) (hn:u.cells.size=sh.getD 1) :
  (loadVar t b).run P w = .ok u w:=by
 obtain ⟨ti,jE,yk,h1,h2⟩:=zEX (w:=w) hs
 cases sh with
 | some n =>
  have:=h1 n rfl;subst this
  cases u<;>simp [zCj] at hu
  rename_i vs
  simp only [Option.getD_some,Value.cells] at hn
  have hl:=run_loadCells_list (P:=P) w b vs.toList hc
  have LF:(loadCells b ti.size).run P w = .ok vs w:=by rw [← hn];simpa using hl
  simp only [loadVar,Sem.run_bind,yk,Result.andThen_ok,Option.isSome_some,if_true,zAZ jE,LF,Sem.run_pure,Sem.run_ite]
 | none =>
  have kR:u.cells=#[u]:=by cases u<;>first | rfl | simp [zCj] at hu
  have:=hc 0 u (by rw [kR];rfl)
  have h0:b.add 0=b:=by simp [Addr.add]
  rw [h0] at this
  simp only [loadVar,Sem.run_bind,yk,Result.andThen_ok,Option.isSome_none,Bool.false_eq_true,if_false,Sem.run_ite,run_load,this]
theorem zHK {b:Addr} {c:Array Value} {l:List Value} (yZ:b.spot=none) (hr:zII w b.block c) (h:seg c b.off l.length=l):∀ j y,l[j]? = some y→w.cell? (b.add j)=some y:=by
 intro j y hy
 rw [zBW yZ]
 simp only [zAz]
 rw [zDg hr]
 rw [← h] at hy
 exact zDt hy
theorem zRO {q:List PV} {u:Value} {us:List Value} (h:zA3 w Φ A q us []) (hl:us=[u]):Rep w Φ A (q.headD .bad) u []:=by
 subst hl
 cases q with
 | nil=>exact absurd h.1 (by simp)
 | cons p ps =>
  obtain ⟨v,vs',L1,L2,h1,h2,h3,_⟩:=h
  obtain ⟨rfl,rfl⟩:L1=[]∧L2=[]:=by simpa using h2.symm
  simp only [List.cons.injEq] at h1
  rw [h1.1];exact h3
theorem zKW (S:St w0 U Φ0 nt hv a w e Φ rv E L) {t:TypeId} {sh:Option Nat} (hs:shT P t=some sh) {r:Nat} {pre:zAV} {i c:Nat} {s':Option Nat} {v:Value} (hp:Rep w Φ (zA7 w rv E) (.addr r pre i c s') v [])
  {k:PV→PM} (h:(zLN r pre i c sh k).run o e=some e'):∃ b u q,v = .pointer (some b)∧(loadVar t b).run P w = .ok u w∧(k q).run o e=some e'∧Rep w Φ (zA7 w rv E) q u []:=by
 obtain ⟨_,hg,b,rfl,yZ,hn⟩:=hp
 refine ⟨b,?_⟩
 cases sh with
 | some n =>
  simp only [zLN,PM.run] at h
  split at h
  ·rename_i ag qs hq
   rw [← S.env r hg] at hq
   obtain ⟨nv,np,ad,us,h1,h2,h3,h4,h5,h6⟩:=S.conf.cells hg hq
   have:=hn nv np h1 ad h2;subst this
   cases ag with
   | false=>cases h
   | true =>
    refine ⟨.agg us.toArray,.agg qs,rfl,zJ9 hs (fun j y hy=>h5 j y (by simpa [Value.cells] using hy)) rfl (by simpa [Value.cells] using h4),h,_,rfl,by simpa using h6⟩
  ·cases h
 | none =>
  simp only [zLN,PM.run] at h
  split at h
  ·rename_i ag qs hq
   rw [← S.env r hg] at hq
   obtain ⟨nv,np,ad,us,h1,h2,h3,h4,h5,h6⟩:=S.conf.cells hg hq
   have:=hn nv np h1 ad h2;subst this
   match us,h4 with
   | [u],_ =>
    refine ⟨u,qs.headD .bad,rfl,?_,h,zRO h6 rfl⟩
    have:=h5 0 u rfl
    rw [show b.add 0=b by simp [Addr.add]] at this
    obtain ⟨ti,jE,yk,_⟩:=zEX (w:=w) hs
    simp only [loadVar,Sem.run_bind,yk,Result.andThen_ok,Option.isSome_none,Bool.false_eq_true,if_false,Sem.run_ite,run_load,this]
  ·cases h
theorem zNH (S:St w0 U Φ0 nt hv a w e Φ rv E L) (hb:zBE E) {d:Option Nat} (hd:∀ x,d=some x→x<nt) {t:TypeId} {sh:Option Nat} (hs:shT P t=some sh) {p:PV} {v:Value} (hp:Rep w Φ (zA7 w rv E) p v []) (h:(zO6 d sh p).run o e=some e') :
  ∃ u,(Instr.loadAt t v).run P w = .ok u w∧Fr w0 U Φ0 nt hv (a.put d u) w e':=by
 cases p<;>simp only [zO6] at h<;>try (cases h;done)
 case ref q =>
  obtain ⟨h1,h2⟩:=zDa h
  simp only [Bool.and_eq_true,decide_eq_true_eq] at h1
  obtain ⟨_,b,c,u,rfl,yZ,hΦ,yA,j6,⟨yC,j5⟩,hr⟩:=hp
  refine ⟨u,?_,zAF S hb hd h2 hr⟩
  simp only [Instr.loadAt,Instr.sureAddr,Sem.run_bind,Sem.run_pure,Result.andThen_ok]
  refine zJ9 hs (zHK yZ yA ?_) ?_ ?_
  ·rw [show u.cells.toList.length=q.cells.length by simpa using yC];exact j6
  ·rw [j5,h1.1]
  ·rw [yC,h1.2]
 case addr r pre i c s' =>
  obtain ⟨b,u,q,rfl,h1,h2,h3⟩:=zKW S hs hp h
  refine ⟨u,?_,zAF S hb hd h2 h3⟩
  simp only [Instr.loadAt,Instr.sureAddr,Sem.run_bind,Sem.run_pure,Result.andThen_ok]
  exact h1
end
end Go.Eng
namespace Go.Eng
open Go
section
variable {P:Program} {w0 w w':World} {U Φ0 Φ:Nat→Prop} {nt:Nat} {hv:Hid} {a:Act} {e e':Env} {rv rv':Nat→Value} {E E':Nat→PV} {L L':Nat→List Nat} {o:zAL} {A:Al}
def Cov (w:World) (Φ:Nat→Prop) (rv:Nat→Value) (E:Nat→PV) (Φ1:Nat→Prop) (x:Nat×zAV):Prop :=
 ∀ nv q Li A,zAS w (rv x.1) (E x.1).unlock x.2=some (nv,q)→Rep w Φ A q nv Li→∀ b∈Li,Φ1 b
def zLO (hb:Nat) (A:Al):Al:=fun a v=>A a v∧∀ x∈a.ways,hb≤x.1
structure Shown (w:World) (Φ:Nat→Prop) (rv:Nat→Value) (E:Nat→PV) (hb:Nat) (p:PV) (v:Value) (Lp:List Nat) (q:PV) (l:List (Nat×zAV)):Prop where
 low:∀ x∈l,x.1<zAd∧x.1<hb
 agg:q.isAgg=p.isAgg
 len:q.cells.length=p.cells.length
 rep:∀ Φ1:Nat→Prop,(∀ b,Φ b→Φ1 b)→(∀ x∈l,Cov w Φ rv E Φ1 x)→(∀ b∈Lp,Φ1 b)→Rep w Φ1 (zLO hb (zA7 w rv E)) q v []
structure Showns (w:World) (Φ:Nat→Prop) (rv:Nat→Value) (E:Nat→PV) (hb:Nat) (ps:List PV) (vs:List Value) (Lp:List Nat) (qs:List PV) (l:List (Nat×zAV)):Prop where
 low:∀ x∈l,x.1<zAd∧x.1<hb
 len:qs.length=ps.length
 rep:∀ Φ1:Nat→Prop,(∀ b,Φ b→Φ1 b)→(∀ x∈l,Cov w Φ rv E Φ1 x)→(∀ b∈Lp,Φ1 b)→zA3 w Φ1 (zLO hb (zA7 w rv E)) qs vs []
theorem zBX {r:Nat} {pre:zAV} {k:PV→PM} (h:(PM.deep r pre k).run o e=some e'):∃ q,zAA (e.get r).unlock pre=some q∧(k q).run o e=some e':=by
 simp only [PM.run] at h
 cases hq:zAA (e.get r).unlock pre with
 | none=>rw [hq] at h;cases h
 | some q=>rw [hq] at h;exact ⟨q,rfl,h⟩
theorem zEV {hb:Nat} {res:PV→(PV→List (Nat×zAV)→PM)→PM}
  (y5:∀ p v Lp k,Rep w Φ (zA7 w rv E) p v Lp→(res p k).run o e=some e'→∃ q l,(k q l).run o e=some e'∧Shown w Φ rv E hb p v Lp q l) :
  ∀ (ps:List PV) (vs:List Value) (Lp:List Nat) (k:List PV→List (Nat×zAV)→PM),zA3 w Φ (zA7 w rv E) ps vs Lp→(zEg res ps k).run o e=some e'→∃ qs l,(k qs l).run o e=some e'∧Showns w Φ rv E hb ps vs Lp qs l
 | [],vs,Lp,k,h,hr=>⟨[],[],hr,⟨by simp,rfl,fun _ _ _ _=>⟨h.1,rfl⟩⟩⟩
 | p::ps,vs,Lp,k,h,hr=>by
  obtain ⟨v,vs',L1,L2,rfl,rfl,h1,h2⟩:=h
  simp only [zEg] at hr
  obtain ⟨q,l,h3,h4⟩:=y5 p v L1 _ h1 hr
  obtain ⟨qs,m,h5,h6⟩:=zEV y5 ps vs' L2 _ h2 h3
  refine ⟨q::qs,l++m,h5,⟨fun x hx=>?_,by simp [h6.len],fun Φ1 g1 g2 g3=>⟨v,vs',[],[],rfl,rfl,h4.rep Φ1 g1 (fun x hx=>g2 x (by simp [hx])) (fun b hb=>g3 b (by simp [hb])),h6.rep Φ1 g1 (fun x hx=>g2 x (by simp [hx])) (fun b hb=>g3 b (by simp [hb]))⟩⟩⟩
  rcases List.mem_append.1 hx with hx | hx
  ·exact h4.low x hx
  ·exact h6.low x hx
theorem zNb {hb:Nat} {p:PV} {v:Value} {Lp:List Nat} (hp:Rep w Φ (zA7 w rv E) p v Lp) (hw:∀ x∈p.ways,hb≤x.1):Shown w Φ rv E hb p v Lp (zA0 p) [] :=
 ⟨by simp,zCZ p,zC1 p,fun Φ1 g1 _ g3=>(zDZ g1 p v Lp g3 hp).ways _ _ _ fun a v _ hx ha=>⟨ha,fun x jS=>hw x (zGq p x (hx x jS))⟩⟩
theorem zHn {hb:Nat} {p:PV} {v:Value} (hp:Rep w Φ (zA7 w rv E) p v []) (hw:∀ x∈p.ways,hb≤x.1):Shown w Φ rv E hb p v [] p [] :=
 ⟨by simp,rfl,rfl,fun Φ1 g1 _ g3=>(hp.mono (fun b hb=>⟨g1 b hb,rfl⟩) (fun _ _ _ h=>h) (by simp)).ways _ _ _ fun a v _ hx ha=>⟨ha,fun x jS=>hw x (hx x jS)⟩⟩
theorem zHi {hb:Nat} {l:List (Nat×zAV)} (h:l.isEmpty=true):∀ x∈l,hb≤x.1:=by
 cases l with
 | nil=>simp
 | cons _ _=>cases h
theorem zJP (S:St w0 U Φ0 nt hv a w e Φ rv E L) {hb:Nat}:∀ (n:Nat) (p:PV) (v:Value) (Lp:List Nat) (k:PV→List (Nat×zAV)→PM),Rep w Φ (zA7 w rv E) p v Lp→(resolve hb n p k).run o e=some e' →
  ∃ q l,(k q l).run o e=some e'∧Shown w Φ rv E hb p v Lp q l
 | 0,p,v,Lp,k,hp,h=>by cases h
 | n + 1, p, v,Lp,k,hp,h=>by
  have ih:=zJP S (hb:=hb) n
  have node:∀ r pre x,r<zAd→zAA (e.get r).unlock pre=some x→∃ nv Li,zAS w (rv r) (E r).unlock pre=some (nv,x)∧Rep w Φ (zA7 w rv E) x nv Li∧∀ Φ1,Cov w Φ rv E Φ1 (r,pre)→∀ b∈Li,Φ1 b:=by
   intro r pre x hr hx
   rw [← S.env r hr] at hx
   obtain ⟨nv,Li,h1,_,h3⟩:=zBM (zB4 (S.conf.rep r)) hx
   exact ⟨nv,Li,h1,h3.mono zDj.refl (fun _ _ _ h=>zEv h) (fun _ _=>rfl),fun Φ1 hc b hb=>hc nv x Li _ h1 h3 b hb⟩
  have dflt:(∀ x∈p.ways,hb≤x.1)→(k (zA0 p) []).run o e=some e'→∃ q l,(k q l).run o e=some e'∧Shown w Φ rv E hb p v Lp q l :=
   fun hw h=>⟨_,_,h,zNb hp hw⟩
  have dflt2:(bif p.ways.all (fun w=>Nat.ble hb w.1) then k (zA0 p) [] else .fail).run o e=some e'→∃ q l,(k q l).run o e=some e'∧Shown w Φ rv E hb p v Lp q l:=by
   intro h
   obtain ⟨h1,h2⟩:=zAU h
   exact dflt (fun x hx=>Nat.le_of_ble_eq_true (List.all_eq_true.1 h1 x hx)) h2
  have keep:∀ r,(∀ x∈p.ways,x.1=r)→Lp=[]→(k p []).run o e=some e'→Nat.ble hb r=true→∃ q l,(k q l).run o e=some e'∧Shown w Φ rv E hb p v Lp q l:=by
   intro r hw hL hk hr
   subst hL
   exact ⟨_,_,hk,zHn hp fun x hx=>by rw [hw x hx];exact Nat.le_of_ble_eq_true hr⟩
  have yn:∀ r,Nat.ble hb r=false→r<hb:=by
   intro r hr
   exact Nat.lt_of_not_le fun yJ=>by rw [Nat.ble_eq_true_of_le yJ] at hr;cases hr
  cases p<;>simp only [resolve] at h<;>try (exact dflt2 h)
  case agg cs =>
   cases hw:(PV.agg cs).ways.isEmpty with
   | true=>rw [hw] at h;exact dflt (zHi hw) h
   | false =>
    rw [hw] at h;simp only [cond_false] at h
    obtain ⟨vs,rfl,hr⟩:=hp
    obtain ⟨qs,l,h1,h2⟩:=zEV ih cs _ Lp _ hr h
    exact ⟨_,_,h1,⟨h2.low,rfl,by simpa [PV.cells] using h2.len,fun Φ1 g1 g2 g3=>⟨vs,rfl,h2.rep Φ1 g1 g2 g3⟩⟩⟩
  case ref q =>
   have hL:=hp.1
   subst hL
   cases hw:q.ways.isEmpty with
   | true=>rw [hw] at h;exact ⟨_,_,h,zHn hp (zHi hw)⟩
   | false =>
    rw [hw] at h;simp only [cond_false] at h
    obtain ⟨_,b,c,u,h1,h2,h3,h4,h5,h6,h7⟩:=hp
    obtain ⟨q',l,h8,h9⟩:=ih q u [] _ h7 h
    refine ⟨_,_,h8,⟨h9.low,rfl,rfl,fun Φ1 g1 g2 g3=>⟨rfl,b,c,u,h1,h2,g1 _ h3,h4,by rw [h9.len];exact h5,by rw [h9.len,h9.agg];exact h6,h9.rep Φ1 g1 g2 (by simp)⟩⟩⟩
  case func f x y =>
   have hL:=hp.1
   subst hL
   cases hw:(PV.func f x y).ways.isEmpty with
   | true=>rw [hw] at h;exact ⟨_,_,h,zHn hp (zHi hw)⟩
   | false =>
    rw [hw] at h;simp only [cond_false] at h
    obtain ⟨_,fs,cs,h1,h2,h3⟩:=hp
    obtain ⟨qs,l,h4,h5⟩:=zEV ih x _ [] _ h2 h
    obtain ⟨qs',m,h6,h7⟩:=zEV ih y _ [] _ h3 h4
    refine ⟨_,_,h6,⟨fun z hz=>?_,rfl,rfl,fun Φ1 g1 g2 g3=>⟨rfl,fs,cs,h1,h5.rep Φ1 g1 (fun z hz=>g2 z (by simp [hz])) (by simp),h7.rep Φ1 g1 (fun z hz=>g2 z (by simp [hz])) (by simp)⟩⟩⟩
    rcases List.mem_append.1 hz with hz | hz
    ·exact h5.low z hz
    ·exact h7.low z hz
  case addr r pre i c sh =>
   have hL:=hp.1
   have ha:=hp.2
   cases jm:Nat.ble hb r with
   | true=>rw [jm] at h;exact keep r (by simp [PV.ways]) hL h jm
   | false =>
    rw [jm] at h;simp only [cond_false] at h
    obtain ⟨x,hx,h1⟩:=zBX h
    obtain ⟨hg,ad,rfl,yZ,hn⟩:=ha
    obtain ⟨nv,Li,hf,vW,yv⟩:=node r pre x hg hx
    cases hh:zBc x with
    | none=>rw [hh] at h1;cases h1
    | some xs =>
     rw [hh] at h1;simp only at h1
     cases hi:xs[i]? with
     | none=>rw [hi] at h1;cases h1
     | some y =>
      rw [hi] at h1;simp only at h1
      obtain ⟨ux,row,ad0,Lx,k1,k2,k3,k4,k5,k6,k7,k8,k9⟩:=zKT vW hh hi
      have jA:=hn nv x hf _ (k5 c)
      subst jA
      have k9':=k9.mono (A':=zA7 w rv E) zDj.refl (fun _ _ _ h=>zFX h) (fun _ _=>rfl)
      cases sh with
      | some m =>
       simp only at h1
       obtain ⟨hc,h2⟩:=zAU h1
       simp only [Bool.and_eq_true] at hc
       have yJ:=Nat.le_of_ble_eq_true hc.1
       cases hya:y<;>rw [hya] at hc<;>try (simp [PV.isAgg] at hc;done)
       rename_i cs
       subst hya
       obtain ⟨vs,rfl,hr⟩:=k9'
       obtain ⟨Ly,hly,wQ⟩:=zGD hr c m
       have hO:=hr.length
       obtain ⟨q',l,h3,h4⟩:=ih (.agg ((cs.drop c).take m)) (.agg ((vs.toList.drop c).take m).toArray) Ly _ ⟨_,rfl,by simpa using wQ⟩ h2
       have jb:q'.cells.length=m:=by rw [h4.len];simp [PV.cells] at yJ ⊢;omega
       refine ⟨_,_,h3,⟨fun z hz=>?_,rfl,rfl,fun Φ1 g1 g2 g3=>?_⟩⟩
       ·rcases List.mem_cons.1 hz with rfl | hz
        ·exact ⟨hg,yn r jm⟩
        ·exact h4.low z hz
       ·have jR:=yv Φ1 (g2 _ (by simp))
        refine ⟨rfl,zAz ad0 c,row,_,rfl,rfl,jR _ k1,k3.any,?_,⟨?_,?_⟩,h4.rep Φ1 g1 (fun z hz=>g2 z (by simp [hz])) fun b hb=>jR b (k4 b (hly b hb))⟩
        ·rw [jb];simp only [zAz,Value.cells];rw [k6 c m yJ];rfl
        ·rw [jb];simp [Value.cells,PV.cells] at yJ hO ⊢;omega
        ·rw [h4.agg];rfl
      | none =>
       simp only at h1
       cases hc:y.cells[c]? with
       | none=>rw [hc] at h1;cases h1
       | some z =>
        rw [hc] at h1;simp only at h1
        obtain ⟨uz,h2⟩:=zAU h1
        obtain ⟨u,La,Lu,Lb,hu,vV,kZ,_,_⟩:=k9'.cell hc k7
        obtain ⟨q',l,h3,h4⟩:=ih z u Lu _ kZ h2
        have kR:=zBL (zB8 (fun a v hw h=>zC2 hw h) kZ uz)
        have kz:=zBm uz
        have yK:c<y.cells.length:=(List.getElem?_eq_some_iff.1 hc).1
        refine ⟨_,_,h3,⟨fun z hz=>?_,rfl,rfl,fun Φ1 g1 g2 g3=>?_⟩⟩
        ·rcases List.mem_cons.1 hz with rfl | hz
         ·exact ⟨hg,yn r jm⟩
         ·exact h4.low z hz
        ·have jR:=yv Φ1 (g2 _ (by simp))
         refine ⟨rfl,zAz ad0 c,row,u,rfl,rfl,jR _ k1,k3.any,?_,⟨?_,?_⟩,h4.rep Φ1 g1 (fun z hz=>g2 z (by simp [hz])) fun b hb=>jR b (k4 b (by rw [vV];simp [hb]))⟩
         ·rw [h4.len,kz.1,kR.1]
          have:=k6 c 1 (by omega)
          simp only [zAz,List.length_singleton]
          rw [this]
          have yI:c<ux.cells.toList.length:=by simpa [k8] using yK
          rw [List.drop_eq_getElem_cons yI]
          have:ux.cells.toList[c]=u:=by rw [List.getElem?_eq_getElem yI] at hu;simpa using hu
          simp [this]
         ·rw [h4.len,kz.1,kR.1];rfl
         ·rw [h4.agg,kz.2,kR.2]
  case bor r pre z lo m =>
   have hL:=hp.1
   have ha:=hp.2
   cases jm:Nat.ble hb r with
   | true=>rw [jm] at h;exact keep r (by simp [PV.ways]) hL h jm
   | false =>
    rw [jm] at h;simp only [cond_false] at h
    obtain ⟨x,hx,h1⟩:=zBX h
    obtain ⟨hg,_,hn⟩:=ha
    obtain ⟨nv,Li,hf,vW,yv⟩:=node r pre x hg hx
    split at h1
    ·rename_i sz xs
     obtain ⟨hc,h2⟩:=zAU h1
     refine ⟨_,_,h2,⟨fun z hz=>?_,rfl,rfl,fun Φ1 g1 g2 g3=>?_⟩⟩
     ·simp only [List.mem_singleton] at hz;subst hz;exact ⟨hg,yn r jm⟩
     ·have:=zHS (A':=zLO hb (zA7 w rv E)) g1 vW (yv Φ1 (g2 _ (by simp))) (z:=z) (lo:=lo) (n:=m) (v:=v) fun sz' xs' jX=>by
       obtain ⟨sz2,xs2,h7,h8,h9⟩:=hn nv _ hf rfl
       cases h7;cases jX;exact ⟨h8,h9⟩
      simp only [zC8,hc,cond_true] at this
      exact this
    ·cases h1
  case bmap r pre =>
   have hL:=hp.1
   have ha:=hp.2
   cases jm:Nat.ble hb r with
   | true=>rw [jm] at h;exact keep r (by simp [PV.ways]) hL h jm
   | false =>
    rw [jm] at h;simp only [cond_false] at h
    obtain ⟨x,hx,h1⟩:=zBX h
    obtain ⟨hg,_,hn⟩:=ha
    obtain ⟨nv,Li,hf,vW,yv⟩:=node r pre x hg hx
    split at h1
    ·rename_i es
     refine ⟨_,_,h1,⟨fun z hz=>?_,rfl,rfl,fun Φ1 g1 g2 g3=>?_⟩⟩
     ·simp only [List.mem_singleton] at hz;subst hz;exact ⟨hg,yn r jm⟩
     ·exact zG8 (A':=zLO hb (zA7 w rv E)) g1 vW (yv Φ1 (g2 _ (by simp))) (v:=v) fun es' jX=>hn nv _ hf _ jX
    ·cases h1
  case bsl r pre i c sz ag m =>
   have hL:=hp.1
   have ha:=hp.2
   cases jm:Nat.ble hb r with
   | true=>rw [jm] at h;exact keep r (by simp [PV.ways]) hL h jm
   | false =>
    rw [jm] at h;simp only [cond_false] at h
    obtain ⟨x,hx,h1⟩:=zBX h
    obtain ⟨hg,ad,cap,rfl,yO,yZ,hn⟩:=ha
    obtain ⟨nv,Li,hf,vW,yv⟩:=node r pre x hg hx
    cases hh:zBc x with
    | none=>rw [hh] at h1;cases h1
    | some xs =>
     rw [hh] at h1;simp only at h1
     cases hi:xs[i]? with
     | none=>rw [hi] at h1;cases h1
     | some y =>
      rw [hi] at h1;simp only at h1
      obtain ⟨hc,h2⟩:=zAU h1
      refine ⟨_,_,h2,⟨fun z hz=>?_,rfl,rfl,fun Φ1 g1 g2 g3=>?_⟩⟩
      ·simp only [List.mem_singleton] at hz;subst hz;exact ⟨hg,yn r jm⟩
      ·have:=zG4 (A':=zLO hb (zA7 w rv E)) (fun a v hw h=>zJg hw h) g1 vW (yv Φ1 (g2 _ (by simp))) (i:=i) (c:=c) (sz:=sz) (ag:=ag) (m:=m) (v := .slice (some ad) m cap) rfl yO fun a' kF=>hn nv x hf a' kF
       simp only [zCu,hh,hi,hc,cond_true] at this
       exact this
theorem zNW (S:St w0 U Φ0 nt hv a w e Φ rv E L) {p:PV} {v:Value} {Lp:List Nat} {k:PV→List (Nat×zAV)→PM} (hp:Rep w Φ (zA7 w rv E) p v Lp) (h:(zAu p k).run o e=some e') :
  ∃ q l,(k q l).run o e=some e'∧(∀ x∈l,x.1<zAd)∧∀ Φ1:Nat→Prop,(∀ b,Φ b→Φ1 b)→(∀ x∈l,Cov w Φ rv E Φ1 x)→(∀ b∈Lp,Φ1 b)→Rep w Φ1 zCl q v []:=by
 obtain ⟨q,l,h1,h2⟩:=zJP S (hb:=zAd) depth p v Lp k hp h
 refine ⟨q,l,h1,fun x hx=>(h2.low x hx).1,fun Φ1 g1 g2 g3=>(h2.rep Φ1 g1 g2 g3).mono zDj.refl (fun a v hw ha=>?_) (fun _ _=>rfl)⟩
 have hr:=zCW ha.1
 have:=ha.2 (zBa a)
 cases a<;>first | (cases hw;done) | (exact ha.1.elim) | skip
 all_goals
  have:=this (by simp [PV.ways,zBa])
  omega
theorem zLH {p q' p':PV} {i c:Nat} (hp:zBZ p i c q'=some p'):p'.unlock=p'∧p'.isTup=false:=by
 simp only [zBZ] at hp
 cases p<;>simp only [zA2,Option.bind_none,Option.bind_some] at hp<;>try cases hp
 case own sz xs =>
  cases hx:xs[i]?<;>rw [hx] at hp<;>simp [zAI] at hp
  subst hp;exact ⟨rfl,rfl⟩
 case box q =>
  cases i with
  | zero=>simp [zAI] at hp;subst hp;exact ⟨rfl,rfl⟩
  | succ i=>simp at hp
 case agg cs =>
  cases i with
  | zero=>simp [zAI,zAJ] at hp;subst hp;exact ⟨rfl,rfl⟩
  | succ i=>simp at hp
theorem zBP {q' p p':PV} (h1:q'.unlock=q') (h2:q'.isTup=false):∀ {pre:zAV},zAt (fun _=>some q') p pre=some p'→p'.unlock=p'∧p'.isTup=false
 | [],h=>by simp only [zAt,Option.some.injEq] at h;subst h;exact ⟨h1,h2⟩
 | (i,c)::rest,h=>by
  rw [zBs] at h
  cases hc:Eng.child p i c with
  | none=>rw [hc] at h;cases h
  | some q =>
   rw [hc] at h;simp only [Option.bind_some] at h
   cases hm:zAt (fun _=>some q') q rest with
   | none=>rw [hm] at h;cases h
   | some q1=>rw [hm] at h;exact zLH (by simpa using h)
theorem zE6 (q:PV):(zA0 q).unlock=zA0 q∧(zA0 q).isTup=false:=by cases q<;>exact ⟨rfl,rfl⟩
theorem zBJ {p:PV} (h:p.isLock=false):p.unlock=p:=by cases p<;>first | rfl | cases h
theorem zPD (r:Nat) (pre:zAV) (q p:PV) (hp:p.isWay=true):(inl r pre q p).isTup=false:=by
 have h:=(zIg r pre q).dull p hp
 have h1 : ∀ i c sh x,(zDy i c sh x).isTup=false:=by
  intro i c sh x
  simp only [zDy]
  split
  ·split
   ·split
    ·cases (Nat.ble _ _&&PV.isAgg _)<;>rfl
    ·split
     ·rename_i q _;cases q.oneCell<;>rfl
     ·rfl
   ·rfl
  ·rfl
 have h2:∀ lo n x,(zC8 lo n x).isTup=false:=by
  intro lo n x
  cases x<;>try rfl
  simp only [zC8];cases Nat.ble _ _<;>rfl
 have h5:∀ i c sz ag m x,(zCu i c sz ag m x).isTup=false:=by
  intro i c sz ag m x
  simp only [zCu]
  split
  ·split
   ·cases (zCk ag sz m _&&_)<;>rfl
   ·rfl
  ·rfl
 have h3:∀ x,(zEM x).isTup=false:=by intro x;cases x<;>rfl
 have h4:∀ (o:Option PV) (f:PV→PV),(∀ x,(f x).isTup=false)→(zHM o f).isTup=false:=by
  intro o f hf;cases o with
  | none=>rfl
  | some x=>exact hf x
 cases p<;>first | (cases hp;done) | skip
 all_goals
  simp only [inl]
  first | rfl | skip
 all_goals
  cases zAQ r pre _ _<;>first | rfl | exact h4 _ _ (h1 _ _ _) | exact h4 _ _ (h2 _ _) | exact h4 _ _ h3 | exact h4 _ _ (h5 _ _ _ _ _)
theorem zUO (S:St w0 U Φ0 nt hv a w e Φ rv E L) (M:Nat→Bool) {r:Nat} {pre:zAV} {q:PV} (hr:r<zAd) (hq:zAA (e.get r).unlock pre=some q) {k:PM} (h:(PM.frz r pre k).run o e=some e') :
  ∃ e1 Φ1 E1 L1,k.run o e1=some e'∧St w0 U Φ0 nt hv a w e1 Φ1 rv E1 L1∧(∀ b,Φ b→Φ1 b)∧(∀ s,zAd≤s→E1 s=(if M s then (E s).mapW (inl r pre q) else E s)∧L1 s=L s):=by
 simp only [PM.run] at h
 cases hf:e.frz r pre with
 | none=>rw [hf] at h;cases h
 | some e1 =>
  rw [hf] at h;simp only at h
  obtain ⟨q0,root,hl,hn,hm,yT⟩:=Env.frz_eq hf
  have yF:=zBJ hl
  rw [yF,hn] at hq;simp only [Option.some.injEq] at hq;subst hq
  have hE:=S.env r hr
  obtain ⟨k1,k2⟩:=zBP (zE6 q0).1 (zE6 q0).2 hm
  obtain ⟨nv,Li,L',h1,h2,h3,h4⟩:=S.conf.ice M hr (pre:=pre) (q:=q0) (root':=root) (by rw [hE];exact yF) (by rw [hE];exact hn) (by rw [hE];exact hm) k1
  refine ⟨e1,_,_,L',h,S.turn h4 (fun s hs=>?_) (fun _ _=>rfl) (fun d ps hd hp=>?_),fun b hb => .inl hb,fun s hs=>⟨?_,h3 s (by omega)⟩⟩
  ·simp only [hs,true_or,if_true]
   rw [yT s]
   by_cases yW:s=r
   ·subst yW;simp
   ·rw [if_neg yW,if_neg yW,S.env s hs]
  ·have uY:d<zAd:=by simp only [zAd];omega
   simp only [uY,true_or,if_true] at hp
   obtain ⟨ps',h5,h6⟩:=zDP (zPD r pre q0) hp
   by_cases jy:d=r
   ·rw [if_pos jy] at h5;rw [h5] at k2;cases k2
   ·rw [if_neg jy] at h5;exact ⟨ps',h5,h6⟩
  ·have:¬ s<zAd:=by omega
   simp only [this,false_or]
   have yW:s≠r:=by omega
   rw [if_neg yW]
theorem zRn {l:List (Nat×zAV)} {hb:Nat} (h:l.find? (fun w=>Nat.blt w.1 hb)=none):∀ x∈l,hb≤x.1:=by
 intro x hx
 have:=List.find?_eq_none.1 h x hx
 exact Nat.le_of_not_lt fun yI=>this (Nat.ble_eq_true_of_le yI)
theorem zJn {hb g:Nat} (hg:zAd≤g) (jm:hb≤zAd) {k:PV→PM}:∀ (n:Nat) {e:Env} {Φ:Nat→Prop} {E:Nat→PV} {L:Nat→List Nat},St w0 U Φ0 nt hv a w e Φ rv E L→(zL5 hb n (E g) k).run o e=some e' →
  ∃ e1 Φ1 E1 L1,(k (E1 g)).run o e1=some e'∧St w0 U Φ0 nt hv a w e1 Φ1 rv E1 L1∧(∀ b,Φ b→Φ1 b)∧(∀ s,zAd≤s→s≠g→E1 s=E s)∧(∀ s,zAd≤s→L1 s=L s) ∧
   (∀ x∈(E1 g).ways,hb≤x.1)∧(E1 g).isAgg=(E g).isAgg∧(E1 g).cells.length=(E g).cells.length
 | 0,e,Φ,E,L,S,h=>by cases h
 | n + 1,e,Φ,E,L,S,h=>by
  simp only [zL5] at h
  split at h
  ·rename_i hf
   exact ⟨e,Φ,E,L,h,S,fun _ h=>h,fun _ _ _=>rfl,fun _ _=>rfl,zRn hf,rfl,rfl⟩
  ·rename_i r pre hf
   have hr:r<zAd:=by
    have:=List.find?_some hf
    have:r<hb:=Nat.le_of_ble_eq_true this
    omega
   obtain ⟨q,hq,h1⟩:=zBX h
   obtain ⟨e1,Φ1,E1,L1,h2,S1,h3,h4⟩:=zUO S (fun s=>s==g) hr hq h1
   have uG:E1 g=(E g).mapW (inl r pre q):=by simpa using (h4 g hg).1
   rw [← uG] at h2
   obtain ⟨e2,Φ2,E2,L2,h5,S2,h6,h7,h8,h9,h10,h11⟩:=zJn hg jm n S1 h2
   refine ⟨e2,Φ2,E2,L2,h5,S2,fun b hb=>h6 b (h3 b hb),fun s hs hI=>?_,fun s hs=>(h8 s hs).trans (h4 s hs).2,h9,?_,?_⟩
   ·rw [h7 s hs hI,(h4 s hs).1];simp [hI]
   ·rw [h10,uG,zFQ (zIg r pre q).agg]
   ·rw [h11,uG,zHj (zIg r pre q).agg]
end
end Go.Eng
namespace Go.Eng
open Go
section
variable {w w':World} {Φ Φ':Nat→Prop} {A A':Al}
theorem zA3.append:∀ {ps qs:List PV} {us vs:List Value} {L M:List Nat},zA3 w Φ A ps us L→zA3 w Φ A qs vs M→zA3 w Φ A (ps++qs) (us++vs) (L++M)
 | [],qs,us,vs,L,M,h,h'=>by obtain ⟨rfl,rfl⟩:=h;simpa using h'
 | p::ps,qs,us,vs,L,M,h,h'=>by
  obtain ⟨v,us',L1,L2,rfl,rfl,h1,h2⟩:=h
  exact ⟨v,us'++vs,L1,L2++M,rfl,by simp,h1,h2.append h'⟩
theorem zA3.cut:∀ {ps:List PV} {us:List Value} {L:List Nat} (n:Nat),zA3 w Φ A ps us L→∃ L1 L2,L=L1++L2∧zA3 w Φ A (ps.take n) (us.take n) L1∧zA3 w Φ A (ps.drop n) (us.drop n) L2
 | ps,us,L,0,h=>⟨[],L,rfl,by simp [zA3],by simpa using h⟩
 | [],us,L,n+1,h=>by obtain ⟨rfl,rfl⟩:=h;exact ⟨[],[],rfl,by simp [zA3],by simp [zA3]⟩
 | p::ps,us,L,n+1,h=>by
  obtain ⟨v,us',L1,L2,rfl,rfl,h1,h2⟩:=h
  obtain ⟨M1,M2,rfl,h3,h4⟩:=h2.cut n
  exact ⟨L1++M1,M2,by simp,⟨v,_,L1,M1,rfl,rfl,h1,h3⟩,by simpa using h4⟩
theorem zA3.replace {ps:List PV} {us:List Value} {L:List Nat} (h:zA3 w Φ A ps us L) (c n:Nat):∃ L1 L2 L3,L=L1++L2++L3 ∧
  ∀ {w':World} {Φ':Nat→Prop} {A':Al} {qs:List PV} {vs:List Value} {Lq:List Nat},(∀ a v,a.isWay=true→A a v→A' a v)→zDj w w' Φ Φ'→(∀ b∈L1++L3,w'.heap[b]? = w.heap[b]?)→zA3 w' Φ' A' qs vs Lq →
   zA3 w' Φ' A' (ps.take c++qs++ps.drop (c+n)) (us.take c++vs++us.drop (c+n)) (L1++Lq++L3):=by
 obtain ⟨L1,L23,rfl,h1,h2⟩:=h.cut c
 obtain ⟨L2,L3,rfl,_,h3⟩:=h2.cut n
 rw [List.drop_drop,List.drop_drop] at h3
 refine ⟨L1,L2,L3,by simp,fun hA hs hb hq=>?_⟩
 exact ((h1.mono hs hA fun b h=>hb b (by simp [h])).append hq).append (h3.mono hs hA fun b h=>hb b (by simp [h]))
end
def zBg (c:Array Value) (o:Nat) (vs:List Value):Array Value:=(c.toList.take o++vs++c.toList.drop (o+vs.length)).toArray
theorem zGl {c:Array Value} {o:Nat} {vs:List Value} (h:o+vs.length≤c.size):(zBg c o vs).size=c.size:=by
 simp [zBg];omega
theorem zCU {α:Type} {l:List α} {o:Nat} {vs:List α} (h:o+vs.length≤l.length) (k:Nat) :
  (l.take o++vs++l.drop (o+vs.length))[k]? = if k<o then l[k]? else if k<o+vs.length then vs[k-o]? else l[k]?:=by
 have ho:(l.take o).length=o:=by simp;omega
 have hov:(l.take o++vs).length=o+vs.length:=by simp;omega
 by_cases h1:k<o
 ·rw [if_pos h1,List.getElem?_append_left (by omega),List.getElem?_append_left (by omega),List.getElem?_take,if_pos h1]
 ·rw [if_neg h1]
  by_cases h2:k<o+vs.length
  ·rw [if_pos h2,List.getElem?_append_left (by omega),List.getElem?_append_right (by omega),ho]
  ·rw [if_neg h2,List.getElem?_append_right (by omega),hov,List.getElem?_drop,show o+vs.length+(k-(o+vs.length))=k by omega]
theorem zHl {c:Array Value} {o off m:Nat} {vs:List Value} (h1:off≤o) (h2:o+vs.length≤off+m) (h3:off+m≤c.size) :
  seg (zBg c o vs) off m=(seg c off m).take (o-off)++vs++(seg c off m).drop (o-off+vs.length):=by
 have j0:(seg c off m).length=m:=by simp [seg];omega
 apply List.ext_getElem?
 intro k
 rw [zCU (by rw [j0];omega)]
 simp only [seg,zBg,List.getElem?_take,List.getElem?_drop]
 rw [zCU (by simp;omega)]
 by_cases hk:k<m
 ·simp only [hk,if_true]
  by_cases h4:off+k<o
  ·have h6:k<o-off:=by omega
   simp only [h4,h6,if_true]
  ·have h6:¬ k<o-off:=by omega
   simp only [h4,h6,if_false]
   by_cases h5:off+k<o+vs.length
   ·have h7:k<o-off+vs.length:=by omega
    simp only [h5,h7,if_true]
    rw [show off+k-o=k-(o-off) by omega]
   ·have h7:¬ k<o-off+vs.length:=by omega
    simp only [h5,h7,if_false]
 ·have h6:¬ k<o-off:=by omega
  have h7:¬ k<o-off+vs.length:=by omega
  simp only [hk,h6,h7,if_false]
theorem zUi {c:Array Value} {off m:Nat} {l:List Value} (h:seg c off m=l) (hl:l.length=m) (hm:m≠0):off+m≤c.size:=by
 rw [← h] at hl
 simp [seg] at hl;omega
theorem zCT (us vs:List Value):flat (us++vs)=flat us++flat vs:=by simp [flat]
section
variable {w w':World} {Φ Φ':Nat→Prop} {A A':Al}
theorem zOA {x:PV} {u:Value} {L:List Nat} (h:Rep w Φ A x u L) (hn:zCj u=x.isAgg) {c:Nat} {qs:List PV} {vs:List Value} (hq:∀ q∈qs,q.oneCell=true) (yi:∀ v∈vs,v.oneCell'=true) (hO:vs.length=qs.length) (hc:c+qs.length≤x.cells.length) :
  ∃ u' L1 L2 L3,u'.cells.toList=u.cells.toList.take c++vs++u.cells.toList.drop (c+vs.length)∧zCj u'=zCj u∧L=L1++L2++L3∧(zAJ x c qs).isAgg=x.isAgg∧(zAJ x c qs).cells.length=x.cells.length ∧
   ∀ {w':World} {Φ':Nat→Prop} {A':Al} {Lq:List Nat},(∀ a v,a.isWay=true→A a v→A' a v)→zDj w w' Φ Φ'→(∀ b∈L1++L3,w'.heap[b]? = w.heap[b]?)→zA3 w' Φ' A' qs vs Lq →
    Rep w' Φ' A' (zAJ x c qs) u' (L1++Lq++L3):=by
 cases hx:x.isAgg with
 | true =>
  cases x<;>simp [PV.isAgg] at hx
  rename_i cs
  obtain ⟨us,rfl,hr⟩:=h
  obtain ⟨L1,L2,L3,rfl,hk⟩:=hr.replace c qs.length
  have yu:=hr.length
  refine ⟨.agg (us.toList.take c++vs++us.toList.drop (c+vs.length)).toArray,L1,L2,L3,by simp [Value.cells],rfl,rfl,rfl,?_,fun hA hs hb hq=>⟨_,rfl,?_⟩⟩
  ·simp [zAJ,PV.cells] at hc ⊢;omega
  ·have:=hk hA hs hb hq
   rw [hO];simpa using this
 | false =>
  have jW:x.cells=[x]:=by cases x<;>first | rfl | simp [PV.isAgg] at hx
  have hv:u.cells=#[u]:=by rw [hx] at hn;cases u<;>first | rfl | simp [zCj] at hn
  rw [jW] at hc ⊢
  match qs,vs,hO,hq,yi with
  | [],[],_,_,_ =>
   have he:zAJ x c []=x:=by cases x<;>first | rfl | simp [PV.isAgg] at hx
   refine ⟨u,L,[],[],by simp,rfl,by simp,by rw [he];exact hx,by rw [he,jW],fun hA hs hb hq=>?_⟩
   obtain ⟨_,rfl⟩:=hq
   rw [he];simpa using h.mono hs hA (fun b yE=>hb b (by simp [yE]))
  | [q],[v],_,hq,yi =>
   have v3:c=0:=by simp at hc;exact hc
   subst v3
   have he:zAJ x 0 [q]=q:=by cases x<;>first | rfl | simp [PV.isAgg] at hx
   have h1:=zBm (hq q (by simp))
   have h2:=zBL (yi v (by simp))
   refine ⟨v,[],L,[],by simp [hv,h2.1],by rw [h2.2,hn,hx],by simp,by rw [he];exact h1.2,by rw [he,h1.1];rfl,fun hA hs hb hq=>?_⟩
   obtain ⟨v',vs',L1,L2,h3,h4,h5,h6⟩:=hq
   obtain ⟨h7,h8⟩:=h6
   cases h3;subst h8
   rw [he,h4];simpa using h5
  | _::_::_,_,_,_,_=>simp only [List.length_cons,List.length_nil] at hc;omega
theorem zEC {α:Type} {l:List α} {i:Nat} {x:α} (h:i<l.length):l.set i x=l.take i++[x]++l.drop (i+1):=by
 rw [List.set_eq_take_append_cons_drop,if_pos h];simp
theorem zRx {np q':PV} {nv:Value} {Li:List Nat} (h:Rep w Φ A np nv Li) {xs:List PV} (hx:zBc np=some xs) {i c:Nat} {x:PV} (hi:xs[i]? = some x) {qs:List PV} {vs:List Value}
  (hq:∀ q∈qs,q.oneCell=true) (yi:∀ v∈vs,v.oneCell'=true) (hO:vs.length=qs.length) (hI:qs.length≠0) (hc:c+qs.length≤x.cells.length) (hw:zAI np (xs.set i (zAJ x c qs))=some q') :
  ∃ ad row La Lm Lb,zA8 nv np i c=some ad∧ad.spot=none∧zE0 w ad.block row∧ad.off+vs.length≤row.size∧Li=ad.block::(La++Lm++Lb) ∧
   ∀ {w':World} {Φ':Nat→Prop} {A':Al} {Lq:List Nat},(∀ a v,a.isWay=true→A a v→A' a v)→zDj w w' Φ Φ'→(∀ b∈La++Lb,w'.heap[b]? = w.heap[b]?)→zE0 w' ad.block (zBg row ad.off vs)→zA3 w' Φ' (zGo A' np) qs vs Lq →
    Rep w' Φ' A' q' nv (ad.block::(La++Lq++Lb)):=by
 have yU:i<xs.length:=(List.getElem?_eq_some_iff.1 hi).1
 cases np<;>simp only [zBc] at hx<;>try cases hx
 case own sz =>
  obtain ⟨h1,h2,h3⟩ | ⟨a,n,r,us,L',rfl,h1,h2,h3,h4,h5,h6,⟨h7,kw⟩,h8,h9⟩:=h
  ·subst h1;simp at hi
  ·simp only [zAI,Option.some.injEq] at hw;subst hw
   have husl:us.length=xs.length:=by have:=congrArg List.length kw;simpa using this
   obtain ⟨Ka,K23,rfl,gz,hB⟩:=h9.cut i
   have wT:i<us.length:=by omega
   have hxe:xs[i]=x:=by rw [List.getElem?_eq_getElem yU] at hi;simpa using hi
   rw [List.drop_eq_getElem_cons yU,List.drop_eq_getElem_cons wT,hxe] at hB
   obtain ⟨u,us2,Lx,Kb,hue,rfl,hr,hB⟩:=hB
   simp only [List.cons.injEq] at hue
   obtain ⟨hu0,rfl⟩:=hue
   have hu:us[i]? = some u:=by rw [List.getElem?_eq_getElem wT,hu0]
   have hg:zCj u=x.isAgg:=by
    have h1:(us.map zCj)[i]? = some (zCj u):=by simp [hu]
    have h2:(xs.map PV.isAgg)[i]? = some x.isAgg:=by simp [hi]
    rw [kw] at h1;rw [h1] at h2;simpa using h2
   have v1:=h6 x (List.mem_of_getElem? hi)
   have yu:=h7 u (List.mem_of_getElem? hu)
   obtain ⟨u',L1,L2,L3,k1,k2,rfl,k4,k5,k6⟩:=zOA hr hg hq yi hO hc
   have wU:i*sz+sz≤xs.length*sz:=by rw [← Nat.succ_mul];exact Nat.mul_le_mul_right _ yU
   have hnsz:xs.length*sz≤n*sz:=Nat.mul_le_mul_right _ h3
   have hZ:a.off+(i*sz+c)+vs.length≤r.size:=by rw [hO];omega
   refine ⟨zAz a (i*sz+c),r,Ka++L1,L2,L3++Kb,by rw [h1];rfl,rfl,h4,hZ,by simp [zAz],@fun w' Φ' A' Lq hA hs hb yA wu=>?_⟩
   have yP:xs.set i (zAJ x c qs)=xs.take i++([zAJ x c qs]++xs.drop (i+1)):=by rw [zEC yU];simp
   have wv:us.set i u'=us.take i++([u']++us.drop (i+1)):=by rw [zEC wT];simp
   refine .inr ⟨a,n,_,us.set i u',(Ka++(L1++Lq++L3)++Kb),by simp [zAz],by simpa using h1,h2,by simpa using h3,yA,?_,?_,⟨?_,?_⟩,?_,?_⟩
   ·show a.off+n*sz≤(zBg r (a.off+(i*sz+c)) vs).size
    rw [zGl hZ];exact h5
   ·intro y hy
    rcases List.mem_or_eq_of_mem_set hy with hy | hy
    ·exact h6 y hy
    ·rw [hy,k5];exact v1
   ·intro y hy
    rcases List.mem_or_eq_of_mem_set hy with hy | hy
    ·exact h7 y hy
    ·rw [hy]
     have:=congrArg List.length k1
     simp at this
     omega
   ·rw [zEi hi k4,zEi hu k2,kw]
   ·have jn:flat us=flat (us.take i)++(u.cells.toList++flat (us.drop (i+1))):=by
     conv=>lhs;rw [← List.take_append_drop i us,List.drop_eq_getElem_cons wT,hu0]
     rw [zCT,zCJ]
    have jE:(flat (us.take i)).length=i*sz:=by
     rw [zBq (fun y hy=>h7 y (List.mem_of_mem_take hy)),List.length_take,Nat.min_eq_left (by omega)]
    have wV:u.cells.toList.length=sz:=by simpa using yu
    rw [List.length_set]
    show seg (zBg r (zAz a (i*sz+c)).off vs) a.off (xs.length*sz)=_
    simp only [zAz]
    rw [zHl (by omega) (by rw [hO];omega) (by omega),h8,show a.off+(i*sz+c)-a.off=i*sz+c by omega]
    rw [wv,zCT,zCT,jn]
    have e1:(flat (us.take i)++(u.cells.toList++flat (us.drop (i+1)))).take (i*sz+c)=flat (us.take i)++u.cells.toList.take c:=by
     rw [List.take_append,jE,List.take_of_length_le (by omega),show i*sz+c-i*sz=c by omega,List.take_append_of_le_length (by omega)]
    have e2:(flat (us.take i)++(u.cells.toList++flat (us.drop (i+1)))).drop (i*sz+c+vs.length)=u.cells.toList.drop (c+vs.length)++flat (us.drop (i+1)):=by
     rw [List.drop_append,jE,List.drop_of_length_le (by omega),show i*sz+c+vs.length-i*sz=c+vs.length by omega,List.drop_append_of_le_length (by omega)];rfl
    rw [e1,e2]
    have e3:flat [u']=u'.cells.toList:=by simp [flat]
    rw [e3,k1];simp
   ·rw [yP,wv]
    have jX:=k6 (fun a v _ h=>h) (Φ':=_) hs (fun b h=>hb b (by simp at h ⊢;rcases h with h | h<;>simp [h])) wu
    have:=(gz.mono hs (fun _ _ _ h=>h) (fun b h=>hb b (by simp [h]))).append ((show zA3 _ _ zCl [zAJ x c qs] [u'] _ from ⟨u',[],_,[],rfl,rfl,jX,rfl,rfl⟩).append (hB.mono hs (fun _ _ _ h=>h) (fun b h=>hb b (by simp [h]))))
    simpa using this
 case box q0 =>
  obtain ⟨a,r,u0,L',rfl,h1,h2,h4,h5,⟨h6,uW⟩,h7⟩:=h
  have jc:i=0:=by simpa using yU
  subst jc;simp at hi;subst hi
  simp only [List.set_cons_zero,zAI,Option.some.injEq] at hw;subst hw
  obtain ⟨u',L1,L2,L3,k1,k2,rfl,k4,k5,k6⟩:=zOA h7 uW hq yi hO hc
  have yu:u0.cells.toList.length=q0.cells.length:=by simpa using h6
  have yr:a.off+q0.cells.length≤r.size:=zUi h5 yu (by omega)
  refine ⟨zAz a c,r,L1,L2,L3,by rw [h1];rfl,rfl,h4,by simp only [zAz];omega,by simp [zAz],fun hA hs hb yA wu=>?_⟩
  refine ⟨a,_,u',_,rfl,h1,h2,yA,?_,⟨?_,?_⟩,k6 hA hs hb wu⟩
  ·rw [k5]
   simp only [zAz]
   rw [zHl (by omega) (by omega) (by omega),h5,show a.off+c-a.off=c by omega,k1]
  ·rw [k5]
   have:=congrArg List.length k1
   simp at this yu
   omega
  ·rw [k2,k4,uW]
theorem zQo {np:PV} {nv:Value} {Li:List Nat} (h:Rep w Φ A np nv Li) {xs:List PV} (hx:zBc np=some xs) {i:Nat} {x:PV} (hi:xs[i]? = some x) :
  ∃ M ux Lx ad,Li=ad.block::M∧(∀ c,zA8 nv np i c=some (zAz ad c))∧Rep w Φ (zGo A np) x ux Lx∧(∀ b∈Lx,b∈M)∧zCj ux=x.isAgg∧∀ k u,ux.cells.toList[k]? = some u→kid w nv np i k=some u:=by
 cases np<;>simp only [zBc] at hx<;>try cases hx
 case own sz =>
  obtain ⟨h1,h2,h3⟩ | ⟨a,n,r,us,L',rfl,h1,h2,h3,h4,h5,h6,⟨h7,kw⟩,h8,h9⟩:=h
  ·subst h1;simp at hi
  ·obtain ⟨ux,La,Lx,Lb,hu,rfl,hr,_,_⟩:=h9.split hi
   have hg:zCj ux=x.isAgg:=by
    have h1:(us.map zCj)[i]? = some (zCj ux):=by simp [hu]
    have h2:(xs.map PV.isAgg)[i]? = some x.isAgg:=by simp [hi]
    rw [kw] at h1;rw [h1] at h2;simpa using h2
   subst h1
   refine ⟨_,ux,Lx,zAz a (i*sz),rfl,fun c=>by simp [zA8,zAz,Nat.add_assoc],hr,fun b hb=>by simp [hb],hg,fun k u hk=>?_⟩
   have hf:=zDS h7 hu hk
   rw [← h8] at hf
   have:=zDt hf
   simp only [kid,zAz]
   rw [zDg h4.any];exact this
 case box q0 =>
  obtain ⟨a,r,u0,L',rfl,h1,h2,h4,h5,⟨h6,uW⟩,h7⟩:=h
  have jc:i=0:=by
   cases i with
   | zero=>rfl
   | succ i=>simp at hi
  subst jc;simp at hi;subst hi
  subst h1
  refine ⟨L',u0,L',a,rfl,fun c=>rfl,h7,fun b hb=>hb,uW,fun k u hk=>?_⟩
  have:=zDt (c:=r) (o:=a.off) (n:=q0.cells.length) (k:=k) (u:=u) (by rw [h5];exact hk)
  simp only [kid,zAz]
  rw [zDg h4.any];exact this
end
mutual
theorem zEA {f g:PV→PV}:∀ p:PV,(p.mapW f).mapW g=p.mapW fun a=>(f a).mapW g
 | .agg cs=>by rw [PV.mapW,PV.mapW,PV.mapW,zEx]
 | .tup cs=>by rw [PV.mapW,PV.mapW,PV.mapW,zEx]
 | .func h a b=>by rw [PV.mapW,PV.mapW,PV.mapW,zEx,zEx]
 | .ref q=>by rw [PV.mapW,PV.mapW,PV.mapW,zEA]
 | .box q=>by rw [PV.mapW,PV.mapW,PV.mapW,zEA]
 | .lock q=>by rw [PV.mapW,PV.mapW,PV.mapW,zEA]
 | .addr .. => rfl
 | .bor .. => rfl
 | .bsl .. => rfl
 | .bmap .. => rfl
 | .yld .. => rfl
 | .log .. => rfl
 | .bad=>rfl
 | .und=>rfl
 | .int .. => rfl
 | .bool .. => rfl
 | .nilp=>rfl
 | .nilf=>rfl
 | .nilm=>rfl
 | .nn=>rfl
 | .nils _=>rfl
 | .sl _=>rfl
 | .own .. => rfl
 | .map _=>rfl
 | .omap _=>rfl
theorem zEx {f g:PV→PV}:∀ ps:List PV,zCH g (zCH f ps)=zCH (fun a=>(f a).mapW g) ps
 | []=>rfl
 | p::ps=>by rw [zCH,zCH,zCH,zEA,zEx]
end
mutual
theorem zDq {f g:PV→PV} (h:∀ a,a.isWay=true→f a=g a):∀ p:PV,p.mapW f=p.mapW g
 | .agg cs=>by rw [PV.mapW,PV.mapW,zD7 h]
 | .tup cs=>by rw [PV.mapW,PV.mapW,zD7 h]
 | .func k a b=>by rw [PV.mapW,PV.mapW,zD7 h,zD7 h b]
 | .ref q=>by rw [PV.mapW,PV.mapW,zDq h]
 | .box q=>by rw [PV.mapW,PV.mapW,zDq h]
 | .lock q=>by rw [PV.mapW,PV.mapW,zDq h]
 | .addr .. => h _ rfl
 | .bor .. => h _ rfl
 | .bsl .. => h _ rfl
 | .bmap .. => h _ rfl
 | .yld .. => rfl
 | .log .. => h _ rfl
 | .bad=>rfl
 | .und=>rfl
 | .int .. => rfl
 | .bool .. => rfl
 | .nilp=>rfl
 | .nilf=>rfl
 | .nilm=>rfl
 | .nn=>rfl
 | .nils _=>rfl
 | .sl _=>rfl
 | .own .. => rfl
 | .map _=>rfl
 | .omap _=>rfl
theorem zD7 {f g:PV→PV} (h:∀ a,a.isWay=true→f a=g a):∀ ps:List PV,zCH f ps=zCH g ps
 | []=>rfl
 | p::ps=>by rw [zCH,zCH,zDq h,zD7 h]
end
def zDI (r:Nat) (pre:zAV) (i:Nat):Nat→List PV→PV→PV
 | _,[],a=>a
 | c,q::qs,a=>bif q.heavy then (if (lose r (pre++[(i,c)]) a).isWay=true then zDI r pre i (c+1) qs a else lose r (pre++[(i,c)]) a) else zDI r pre i (c+1) qs a
theorem zKD (r:Nat) (pre:zAV) (i:Nat):∀ (qs:List PV) (c:Nat) (p:PV),zDI r pre i c qs p=p∨(p.isWay=true∧zDI r pre i c qs p = .bad)
 | [],c,p => .inl rfl
 | q :: qs,c,p=>by
  simp only [zDI]
  cases hq:q.heavy with
  | false=>exact zKD r pre i qs (c+1) p
  | true =>
   simp only [cond_true]
   split
   ·exact zKD r pre i qs (c+1) p
   ·exact zGz r (pre++[(i,c)]) p
theorem zGA {o:zAL} {r:Nat} {pre:zAV} {i:Nat} {k:PM} {e':Env}:∀ (qs:List PV) (c:Nat) {e:Env},(zDL r pre i c qs k).run o e=some e' →
  ∃ e1,k.run o e1=some e'∧∀ s,e1.get s=(e.get s).mapW (zDI r pre i c qs)
 | [],c,e,h=>⟨e,h,fun s=>by rw [show zDI r pre i c []=fun x=>x from rfl,zBi]⟩
 | q :: qs,c,e,h=>by
  simp only [zDL] at h
  cases hq:q.heavy with
  | false =>
   rw [hq] at h
   obtain ⟨e1,h1,h2⟩:=zGA qs (c+1) h
   refine ⟨e1,h1,fun s=>?_⟩
   rw [h2 s];exact zDq (fun a _=>by simp [zDI,hq]) _
  | true =>
   rw [hq] at h;simp only [cond_true,PM.run] at h
   obtain ⟨e1,h1,h2⟩:=zGA qs (c+1) h
   refine ⟨e1,h1,fun s=>?_⟩
   rw [h2 s,Env.get_kill,zEA]
   refine zDq (fun a ha=>?_) _
   simp only [zDI,hq,cond_true]
   rcases zGz r (pre++[(i,c)]) a with h3 | ⟨_,h3⟩
   ·rw [h3,if_pos ha,zFZ ha]
   ·rw [h3];rfl
theorem zIt {r:Nat} {pre:zAV} {i:Nat}:∀ (qs:List PV) (c j:Nat) {q:PV},qs[j]? = some q→q.heavy=true→∀ a,a.isWay=true→∀ rest,zBa a=(r,pre++(i,c+j)::rest)→(∀ h,a ≠ .yld h)→(∀ xs k,a ≠ .log xs k)→zDI r pre i c qs a≠a
 | [],_,_,_,h,_,_,_,_,_,_,_=>by simp at h
 | q0::qs,c,0,q,h,hh,a,ha,rest,hr,hy,hl=>by
  simp at h;subst h
  simp only [zDI,hh,cond_true]
  have LG:lose r (pre++[(i,c)]) a = .bad:=by
   have hp:(pre++[(i,c)]).isPrefixOf (pre++(i,c)::rest)=true:=by
    rw [List.isPrefixOf_iff_prefix];exact ⟨rest,by simp⟩
   cases a<;>first | (cases ha;done) | (exact absurd rfl (hy _)) | (exact absurd rfl (hl _ _)) | skip
   all_goals
    simp only [zBa,Nat.add_zero,Prod.mk.injEq] at hr
    obtain ⟨rfl,rfl⟩:=hr
    simp [lose,hp]
  rw [LG];simp only [PV.isWay,Bool.false_eq_true,if_false]
  intro he;rw [← he] at ha;cases ha
 | q0::qs,c,j+1,q,h,hh,a,ha,rest,hr,hy,hl=>by
  have ih:=zIt (r:=r) (pre:=pre) (i:=i) qs (c+1) j (by simpa using h) hh a ha rest (by rw [hr];congr 4;omega) hy hl
  simp only [zDI]
  cases hq:q0.heavy with
  | false=>exact ih
  | true =>
   simp only [cond_true]
   rcases zGz r (pre++[(i,c)]) a with h3 | ⟨_,h3⟩
   ·rw [h3,if_pos ha];exact ih
   ·rw [h3];simp only [PV.isWay,Bool.false_eq_true,if_false]
    intro he;rw [← he] at ha;cases ha
theorem zIT {r:Nat} {pre:zAV} {i:Nat}:∀ (qs:List PV) (c:Nat) {a:PV},(∀ x∈a.ways,zAQ r pre x.1 x.2=false∨x.2.length≤pre.length)→zDI r pre i c qs a=a
 | [],_,_,_=>rfl
 | q :: qs,c,a,h=>by
  have ih:=zIT (r:=r) (pre:=pre) (i:=i) qs (c+1) h
  have hl : lose r (pre++[(i,c)]) a=a:=by
   have key:∀ r' p,(zAQ r pre r' p=false∨p.length≤pre.length)→(Nat.beq r' r&&(pre++[(i,c)]).isPrefixOf p)=false:=by
    intro r' p hp
    cases hb:(Nat.beq r' r&&(pre++[(i,c)]).isPrefixOf p) with
    | false=>rfl
    | true =>
     simp only [Bool.and_eq_true,List.isPrefixOf_iff_prefix] at hb
     obtain ⟨h1,rest,h2⟩:=hb
     rcases hp with hp | hp
     ·have:zAQ r pre r' p=true:=zD4.2 ⟨Nat.eq_of_beq_eq_true h1,(i,c)::rest,by rw [← h2];simp⟩
      rw [this] at hp;cases hp
     ·rw [← h2] at hp;simp at hp;omega
   cases a<;>first | rfl | skip
   all_goals
    simp only [lose]
    rw [key _ _ (h (_,_) (List.mem_singleton.2 rfl))];rfl
  simp only [zDI]
  cases hq:q.heavy with
  | false=>exact ih
  | true=>simp only [cond_true,hl];split<;>first | exact ih | rfl
theorem zLn {f:PV→Option PV}:∀ {pre:zAV} {p p':PV},zAt f p pre=some p'→∃ q q',zAA p pre=some q∧f q=some q'∧zAt (fun _=>some q') p pre=some p'
 | [],p,p',h=>⟨p,p',rfl,h,rfl⟩
 | (i, c)::rest,p,p',h=>by
  rw [zBs] at h
  cases hc:Eng.child p i c with
  | none=>rw [hc] at h;cases h
  | some q =>
   rw [hc] at h;simp only [Option.bind_some] at h
   cases hm:zAt f q rest with
   | none=>rw [hm] at h;cases h
   | some q1 =>
    rw [hm] at h;simp only [Option.bind_some] at h
    obtain ⟨x,x',h1,h2,h3⟩:=zLn hm
    exact ⟨x,x',by rw [zB7,hc];exact h1,h2,by rw [zBs,hc];simp only [Option.bind_some];rw [h3];exact h⟩
theorem zJH:∀ {pre:zAV} {p q:PV},zAA p pre=some q→q.unlock=q→p.unlock=p
 | [],p,q,h,hq=>by simp only [zAA,Option.some.injEq] at h;subst h;exact hq
 | (i,c)::rest,p,q,h,_=>by
  rw [zB7] at h
  cases p<;>first | rfl | (simp [Eng.child,zA2] at h;done)
theorem zJj {r:Nat} {pre:zAV} {i:Nat} {p:PV} (hh:p.heavy=false→∀ q∈p.cells,q.heavy=false) (h:p.heavy=false) {c:Nat} (a:PV):zDI r pre i c p.cells a=a:=by
 have key:∀ (qs:List PV) (c:Nat),(∀ q∈qs,q.heavy=false)→zDI r pre i c qs a=a:=by
  intro qs
  induction qs with
  | nil=>intro c _;rfl
  | cons q qs ih=>intro c h;simp only [zDI,h q (by simp),cond_false];exact ih (c+1) fun x hx=>h x (by simp [hx])
 exact key _ _ (hh h)
theorem zPe {p:PV} {x:Nat×zAV} (h:x∈zBB p.cells):x∈p.ways:=by
 cases p<;>simp only [PV.cells,zBB,List.append_nil] at h<;>exact h
theorem zKF (p:PV) (i c:Nat) (rest:zAV):zDw p ((i,c)::rest)=match p with
  | .own .. => true
  | p=>match Eng.child p i c with | some q=>zDw q rest | none=>false:=by
 cases p<;>simp only [zDw,Eng.child,zA2,Option.bind_none,Option.bind_some]
 ·cases i with
  | zero=>simp only [List.getElem?_cons_zero,Option.bind_some];split<;>simp_all
  | succ i=>simp
 ·cases i with
  | zero=>simp only [List.getElem?_cons_zero,Option.bind_some];split<;>simp_all
  | succ i=>simp
theorem zMy:∀ {pre:zAV} {p q:PV} {A:Al},zDw p pre=false→zAA p pre=some q→∀ a v,A a v→zGo (zIo A p pre) q a v
 | [],p,q,A,hc,hq,a,v,h=>by
  simp only [zAA,Option.some.injEq] at hq;subst hq
  simp only [zIo]
  cases p<;>first | exact h | (simp [zDw] at hc;done)
 | (i,c)::rest,p,q,A,hc,hq,a,v,h=>by
  rw [zB7] at hq
  rw [zKF] at hc
  cases yb:Eng.child p i c with
  | none=>rw [yb] at hq;cases hq
  | some q1 =>
   rw [yb] at hq;simp only [Option.bind_some] at hq
   simp only [zIo,yb]
   cases p<;>simp only [yb] at hc<;>first | (cases hc;done) | exact zMy hc hq a v h
section
variable {P:Program} {w0 w:World} {U Φ0 Φ:Nat→Prop} {nt:Nat} {hv:Hid} {a:Act} {e e':Env} {rv:Nat→Value} {E:Nat→PV} {L:Nat→List Nat} {o:zAL}
theorem zJ0 {p:PV} (h:p.heavy=false):∀ q∈p.cells,q.heavy=false:=by
 intro q hq
 cases p<;>simp only [PV.cells,List.mem_singleton] at hq<;>try (subst hq;exact h)
 obtain ⟨i,hi⟩:=List.getElem?_of_mem hq
 exact zEk h hi
theorem zGh {x:PV} {c:Nat} {qs:List PV} (hq:∀ q∈qs,q.oneCell=true) (hI:qs.length≠0) (yJ:c+qs.length≤x.cells.length):(zAJ x c qs).cells=x.cells.take c++qs++x.cells.drop (c+qs.length):=by
 cases hx:x.isAgg with
 | true=>cases x<;>simp [PV.isAgg] at hx;rfl
 | false =>
  have jW:x.cells=[x]:=by cases x<;>first | rfl | simp [PV.isAgg] at hx
  rw [jW] at yJ ⊢
  match qs,hq,hI with
  | [],_,hI=>exact absurd rfl hI
  | [q],hq,_ =>
   have v3:c=0:=by simp at yJ;exact yJ
   subst v3
   have he:zAJ x 0 [q]=q:=by cases x<;>first | rfl | simp [PV.isAgg] at hx
   rw [he,(zBm (hq q (by simp))).1];simp
  | _::_::_,_,_=>simp only [List.length_cons,List.length_nil] at yJ;omega
theorem zI6 {b o k:Nat} {row:Array Value} {vs:List Value} (yA:zE0 w b row) (hZ:o+vs.length≤row.size) (hk:k<o∨o+vs.length≤k):(w.setRow b (zBg row o vs)).cell? ⟨b,k,none⟩=w.cell? ⟨b,k,none⟩:=by
 obtain ⟨el,yd⟩:=yA
 have j7:zII (w.setRow b (zBg row o vs)) b (zBg row o vs):=⟨el,_,setRow_heap w _ _ _ el _ yd⟩
 rw [zDg j7,zDg ⟨el,_,yd⟩]
 have:(zBg row o vs)[k]? = (row.toList.take o++vs++row.toList.drop (o+vs.length))[k]?:=by simp [zBg]
 rw [this,zCU (by simpa using hZ)]
 rcases hk with hk | hk
 ·rw [if_pos hk];simp
 ·rw [if_neg (by omega),if_neg (by omega)];simp
theorem zLZ {A:Al} {np q':PV} {nv:Value} {Li:List Nat} (h:Rep w Φ A np nv Li) (yS:Li.Nodup) {xs:List PV} (hx:zBc np=some xs) {i c:Nat} {x:PV} (hi:xs[i]? = some x) {qs:List PV} {vs:List Value}
  (hq:∀ q∈qs,q.oneCell=true) (hO:vs.length=qs.length) (hI:qs.length≠0) (hc:c+qs.length≤x.cells.length) (hw:zAI np (xs.set i (zAJ x c qs))=some q') {ad:Addr} {row:Array Value}
  (jA:zA8 nv np i c=some ad) (yA:zE0 w ad.block row) (hZ:ad.off+vs.length≤row.size) :
  ∀ (rest:zAV) (nv2:Value) (np2:PV),zAS (w.setRow ad.block (zBg row ad.off vs)) nv q' rest=some (nv2,np2)→np2.heavy0=true →
   (∃ j q rest',qs[j]? = some q∧q.heavy=true∧rest=(i,c+j)::rest')∨∃ np0,zAS w nv np rest=some (nv2,np0)∧zCf np0 np2:=by
 intro rest nv2 np2 hf hh
 have uA:zCf np q'∧zA2 q'=some (xs.set i (zAJ x c qs)):=by
  cases np<;>simp only [zBc] at hx<;>try cases hx
  ·simp only [zAI,Option.some.injEq] at hw;subst hw;exact ⟨rfl,rfl⟩
  ·have jc:i=0:=by have:=(List.getElem?_eq_some_iff.1 hi).1;simpa using this
   subst jc
   simp only [List.set_cons_zero,zAI,Option.some.injEq] at hw ⊢;subst hw;exact ⟨trivial,rfl⟩
 cases rest with
 | nil =>
  simp only [zAS,Option.some.injEq,Prod.mk.injEq] at hf
  obtain ⟨rfl,rfl⟩:=hf
  exact .inr ⟨np,rfl,uA.1⟩
 | cons y rest =>
  obtain ⟨i2,c2⟩:=y
  rw [zA5] at hf
  cases yb:Eng.child q' i2 c2 with
  | none=>rw [yb] at hf;cases hf
  | some q2 =>
   rw [yb] at hf;simp only [Option.bind_some] at hf
   cases hk:kid (w.setRow ad.block (zBg row ad.off vs)) nv q' i2 c2 with
   | none=>rw [hk] at hf;cases hf
   | some u2 =>
    rw [hk] at hf;simp only [Option.bind_some] at hf
    have yU:i<xs.length:=(List.getElem?_eq_some_iff.1 hi).1
    simp only [Eng.child,uA.2,Option.bind_some] at yb
    by_cases hin:i2=i∧c≤c2∧c2<c+qs.length
    ·obtain ⟨rfl,h1,h2⟩:=hin
     rw [List.getElem?_set_self yU] at yb
     simp only [Option.bind_some] at yb
     rw [zGh hq hI hc,zCU hc,if_neg (by omega),if_pos h2] at yb
     cases ww:q2.heavy with
     | true=>exact .inl ⟨c2-c,q2,rest,yb,ww,by rw [show c+(c2-c)=c2 by omega]⟩
     | false =>
      have:=zEj ww hf
      rw [zFt hh] at this;cases this
    ·
     have hold:∃ x2,xs[i2]? = some x2∧x2.cells[c2]? = some q2:=by
      by_cases kN:i2=i
      ·subst kN
       rw [List.getElem?_set_self yU] at yb
       simp only [Option.bind_some] at yb
       rw [zGh hq hI hc,zCU hc] at yb
       refine ⟨x,hi,?_⟩
       by_cases h1:c2<c
       ·rw [if_pos h1] at yb;exact yb
       ·rw [if_neg h1,if_neg (fun h2=>hin ⟨rfl,by omega,h2⟩)] at yb;exact yb
      ·rw [List.getElem?_set_ne (Ne.symm kN)] at yb
       cases jI:xs[i2]? with
       | none=>rw [jI] at yb;cases yb
       | some x2=>rw [jI] at yb;exact ⟨x2,rfl,yb⟩
     obtain ⟨x2,jI,kP⟩:=hold
     obtain ⟨M,ux,Lx,ad2,g1,g2,g3,g4,g5,g6⟩:=zQo h hx jI
     obtain ⟨u,La,Lu,Lb,hu,hLx,kZ,_,_⟩:=g3.cell kP g5
     have jp:=g6 c2 u hu
     have hblk:ad2.block=ad.block:=by
      have:=g2
      cases np<;>simp only [zBc] at hx<;>try cases hx
      ·cases nv<;>try (simp [zA8] at jA;done)
       rename_i sa _ _
       cases sa with
       | none=>cases jA
       | some sa =>
        simp only [zA8,Option.some.injEq] at jA
        have:=this 0
        simp only [zA8,Option.some.injEq] at this
        rw [← jA]
        exact (congrArg Addr.block this).symm
      ·cases nv<;>try (cases i<;>simp [zA8] at jA;done)
       rename_i sa
       cases sa with
       | none=>cases i<;>cases jA
       | some sa =>
        have jc:i=0:=by have:=(List.getElem?_eq_some_iff.1 hi).1;simpa using this
        have qj:i2=0:=by have:=(List.getElem?_eq_some_iff.1 jI).1;simpa using this
        subst jc;subst qj
        simp only [zA8,Option.some.injEq] at jA
        have:=this 0
        simp only [zA8,Option.some.injEq] at this
        rw [← jA]
        exact (congrArg Addr.block this).symm
     have yt:kid (w.setRow ad.block (zBg row ad.off vs)) nv q' i2 c2=kid w nv np i2 c2:=by
      have hc2l:c2<x2.cells.length:=(List.getElem?_eq_some_iff.1 kP).1
      cases np<;>simp only [zBc] at hx<;>try cases hx
      case own sz =>
       simp only [zAI,Option.some.injEq] at hw;subst hw
       cases nv<;>try (simp [zA8] at jA;done)
       rename_i sa _ _
       cases sa with
       | none=>cases jA
       | some sa =>
        simp only [zA8,Option.some.injEq] at jA;subst jA
        simp only [kid]
        refine zI6 yA hZ ?_
        obtain ⟨hh1,_⟩ | ⟨_,_,_,_,_,_,_,_,_,_,_,yC,_⟩:=h
        ·subst hh1;simp at hi
        ·have e1:=yC x (List.mem_of_getElem? hi)
         have e2:=yC x2 (List.mem_of_getElem? jI)
         simp only [zAz]
         rw [hO]
         by_cases kN:i2=i
         ·subst kN
          have:¬ (c≤c2∧c2<c+qs.length):=fun h=>hin ⟨rfl,h⟩
          omega
         ·rcases Nat.lt_or_gt_of_ne kN with yI | wx
          ·have:=Nat.mul_le_mul_right x.cells.length (Nat.succ_le_of_lt yI)
           rw [Nat.succ_mul,e1] at this;left;omega
          ·have:=Nat.mul_le_mul_right x.cells.length (Nat.succ_le_of_lt wx)
           rw [Nat.succ_mul,e1] at this;right;omega
      case box q0 =>
       have jc:i=0:=by have:=(List.getElem?_eq_some_iff.1 hi).1;simpa using this
       have qj:i2=0:=by have:=(List.getElem?_eq_some_iff.1 jI).1;simpa using this
       subst jc;subst qj
       simp only [List.set_cons_zero,zAI,Option.some.injEq] at hw;subst hw
       cases nv<;>try (simp [zA8] at jA;done)
       rename_i sa
       cases sa with
       | none=>cases jA
       | some sa =>
        simp only [zA8,Option.some.injEq] at jA;subst jA
        simp only [kid]
        refine zI6 yA hZ ?_
        simp only [zAz]
        rw [hO]
        have:¬ (c≤c2∧c2<c+qs.length):=fun h=>hin ⟨rfl,h⟩
        omega
     rw [yt,jp] at hk;cases hk
     have wR:=zEP (w':=w.setRow ad.block (zBg row ad.off vs)) (pre:=rest) kZ fun t ht=>setRow_other w _ t _ fun hc=>by
      rw [g1,hblk] at yS
      exact (List.nodup_cons.1 yS).1 (g4 _ (by rw [hLx,← hc];simp [ht]))
     rw [wR] at hf
     refine .inr ⟨np2,?_,zCf.refl hh⟩
     rw [zA5]
     have:Eng.child np i2 c2=some q2:=by simp only [Eng.child,zGW hx,Option.bind_some,jI,kP]
     rw [this];simp only [Option.bind_some];rw [jp];exact hf
theorem St.write (S:St w0 U Φ0 nt hv a w e Φ rv E L) {g r:Nat} {pre:zAV} {i c:Nat} {sh:Option Nat} (hg:zAd≤g) {va:Value} (ha:Rep w Φ (zA7 w rv E) (.addr r pre i c sh) va [])
  (jR:(E g).heavy=false∨∀ x∈(E g).ways,zAQ r pre x.1 x.2=false∨x.2.length≤pre.length) (yL:∀ q∈(E g).cells,q.oneCell=true) (hI:(E g).cells.length≠0)
  (hva:zCj (rv g)=(E g).isAgg) {k:PM} (h:(zDL r pre i c (E g).cells (.wcells r pre i c (E g).cells k)).run o e=some e') :
  ∃ b row e1 E1 L1,va = .pointer (some b)∧b.spot=none∧zE0 w b.block row∧b.off+(rv g).cells.size≤row.size∧(∀ v∈(rv g).cells.toList,v.oneCell'=true)∧k.run o e1=some e' ∧
   St w0 U Φ0 nt hv a (w.setRow b.block (zBg row b.off (rv g).cells.toList)) e1 Φ rv E1 L1∧E1 g = .bad∧(∀ s,zAd≤s→s≠g→E s = .bad→E1 s = .bad)∧(∀ s,zAd≤s→s≠g→E1 s=(E s).mapW (zDI r pre i c (E g).cells))∧b.block∈L r:=by
 obtain ⟨e1,h1,yT⟩:=zGA _ _ h
 have hf:=zKD r pre i (E g).cells c
 have jT:=ha.2
 obtain ⟨hr,b,rfl,yZ,hn⟩:=ha.2
 simp only [PM.run] at h1
 cases wW:zA4 (e1.get r) pre i c (E g).cells with
 | none=>rw [wW] at h1;cases h1
 | some root =>
  rw [wW] at h1;simp only at h1
  have v4:e1.get r=(E r).mapW (zDI r pre i c (E g).cells):=by rw [yT r,S.env r hr]
  rw [v4] at wW
  simp only [zA4] at wW
  cases yK:(zDw ((E r).mapW (zDI r pre i c (E g).cells)) pre && !(zBB (E g).cells).isEmpty) with
  | true=>rw [yK] at wW;cases wW
  | false =>
   rw [yK] at wW;simp only [cond_false] at wW
   obtain ⟨np,q',gV,jz,js⟩:=zLn wW
   cases hx:zBc np with
   | none=>rw [hx] at jz;cases jz
   | some xs =>
    rw [hx] at jz;simp only at jz
    cases hi:xs[i]? with
    | none=>rw [hi] at jz;cases jz
    | some x =>
     rw [hi] at jz;simp only at jz
     cases yJ:Nat.ble (c+(E g).cells.length) x.cells.length with
     | false=>rw [yJ] at jz;cases jz
     | true =>
      rw [yJ] at jz;simp only [cond_true] at jz
      have yJ:=Nat.le_of_ble_eq_true yJ
      have jJ:((E r).mapW (zDI r pre i c (E g).cells)).unlock=(E r).mapW (zDI r pre i c (E g).cells):=zJH gV (by cases np<;>first | rfl | cases hx)
      obtain ⟨nv,Li,uZ,hH,qk,ub,v5⟩:=S.conf.mod hr hf jJ gV
      have jq:=(S.conf.rep g).cellsAll hva
      have vA:(rv g).cells.toList.length=(E g).cells.length:=jq.length
      have wy:∀ v∈(rv g).cells.toList,v.oneCell'=true:=by
       intro v hv
       obtain ⟨j,hj⟩:=List.getElem?_of_mem hv
       have jZ:j<(E g).cells.length:=by rw [← vA];exact (List.getElem?_eq_some_iff.1 hj).1
       obtain ⟨v',La,Li',Lb,yB,_,yr,_⟩:=jq.split (i:=j) (List.getElem?_eq_getElem jZ)
       rw [hj] at yB;cases yB
       exact zB8 (fun a v hw h=>zC2 hw h) yr (yL _ (List.getElem_mem jZ))
      have ql:=zJ0 (p:=E g)
      have wX:q'.isAgg=false∧q'.unlock=q'∧q'.isTup=false∧np.isAgg=false∧zCf np q':=by
       cases np<;>simp only [zBc] at hx<;>try cases hx
       ·simp only [zAI,Option.some.injEq] at jz;subst jz;exact ⟨rfl,rfl,rfl,rfl,rfl⟩
       ·simp only [zAI] at jz
        split at jz<;>first | (cases jz;done) | skip
        ·simp_all
        ·cases jz;exact ⟨rfl,rfl,rfl,rfl,trivial⟩
        ·simp_all
      obtain ⟨ad,row,La,Lm,Lb,k1,k2,k3,k4,uF,jt⟩:=zRx hH hx hi yL wy vA hI yJ jz
      have hfo':∃ np0,zAS w (rv r) (E r).unlock pre=some (nv,np0)∧zCf np0 np:=by
       rw [← jJ,zDp (zDs hf)] at uZ
       exact zCS (zDs hf) uZ (by cases np<;>first | rfl | cases hx)
      obtain ⟨np0,hfo0,uA⟩:=hfo'
      have vB:=hn nv np0 hfo0 ad (by rw [zEl uA];exact k1)
      subst vB
      have jD:b.block∈L r:=ub _ (by rw [uF];simp)
      have qm:r≠g:=by omega
      have ye:∀ t,t≠b.block→(w.setRow b.block (zBg row b.off (rv g).cells.toList)).heap[t]? = w.heap[t]?:=fun t ht=>setRow_other w _ t _ ht
      have j7:zE0 (w.setRow b.block (zBg row b.off (rv g).cells.toList)) b.block (zBg row b.off (rv g).cells.toList):=by
       obtain ⟨el,yd⟩:=k3;exact ⟨el,setRow_heap w _ _ _ el _ yd⟩
      have hnotL:∀ t,t≠r→b.block∉L t:=fun t ht hm=>S.conf.disj t r ht _ hm jD
      have hΦ:zDj w (w.setRow b.block (zBg row b.off (rv g).cells.toList)) Φ Φ:=fun t ht=>⟨ht,ye t fun hc=>(S.conf.own r _ jD).2.1 (hc▸ht)⟩
      have v6:=qk
      rw [uF] at v6
      have qn:∀ t∈La++Lb,t≠b.block:=by
       intro t ht hc
       subst hc
       refine (List.nodup_cons.1 v6).1 ?_
       simp at ht ⊢;rcases ht with h | h<;>simp [h]
      have hstay:∀ a v,a.isWay=true→(∀ x∈a.ways,x∈(E g).ways)→zA7 w rv E a v→Eng.stays (zDI r pre i c (E g).cells) (zA7 w rv E) a v:=by
       intro a v hw hx ha
       refine ⟨ha,?_⟩
       rcases jR with jR | jR
       ·exact zJj ql jR a
       ·exact zIT _ _ fun x jS=>jR x (hx x jS)
      have hcont:∀ A:Al,(∀ a u,a.isWay=true→Eng.stays (zDI r pre i c (E g).cells) (zA7 w rv E) a u→A a u) →
        zA3 (w.setRow b.block (zBg row b.off (rv g).cells.toList)) Φ (zGo (zIo A ((E r).mapW (zDI r pre i c (E g).cells)) pre) np) (E g).cells (rv g).cells.toList (L g):=by
       intro A hA
       have h1:zA3 (w.setRow b.block (zBg row b.off (rv g).cells.toList)) Φ (zA7 w rv E) (E g).cells (rv g).cells.toList (L g) :=
        jq.mono hΦ (fun _ _ _ h=>h) fun t ht=>ye t fun hc=>hnotL g (Ne.symm qm) (hc▸ht)
       refine h1.ways _ _ _ fun a v hw hx ha=>?_
       simp only [Bool.and_eq_false_iff] at yK
       rcases yK with yK | yK
       ·exact zMy yK gV a v (hA a v hw (hstay a v hw (fun y hy=>zPe (hx y hy)) ha))
       ·have h0:zBB (E g).cells=[]:=by simpa using yK
        rw [h0] at hx
        have h1:=zJg hw ha
        cases u9:a.ways with
        | nil=>exact absurd u9 h1
        | cons z zs=>have:=hx z (by rw [u9];simp);cases this
      obtain ⟨kk1,kk2⟩:=zBP wX.2.1 wX.2.2.1 js
      obtain ⟨L1,hL1,hconf⟩:=v5 (fun s=>s==g) (w.setRow b.block (zBg row b.off (rv g).cells.toList)) q' root (b.block::(La++L g++Lb)) (fun s hs=>by have:=eq_of_beq hs;omega)
       (fun _=>by rw [wX.1,wX.2.2.2.1]) js kk1
       (fun A hA=>jt (zMH hA) hΦ (fun t ht=>ye t (qn t ht)) j7 (hcont A hA))
       (by
        have uY:∀ t∈L g,t∉L r:=fun t ht=>S.conf.disj g r (Ne.symm qm) t ht
        have hin:∀ t,t=b.block∨t∈La++Lb→t∈L r:=by
         intro t ht
         rcases ht with rfl | ht
         ·exact jD
         ·exact ub t (by rw [uF];simp at ht ⊢;rcases ht with h | h<;>simp [h])
        have vO:=(List.nodup_cons.1 v6).2
        simp only [List.nodup_append] at vO
        refine List.nodup_cons.2 ⟨fun hm=>?_,?_⟩
        ·simp only [List.mem_append] at hm
         rcases hm with (hm | hm) | hm
         ·exact qn _ (by simp [hm]) rfl
         ·exact uY _ hm jD
         ·exact qn _ (by simp [hm]) rfl
        ·simp only [List.nodup_append]
         refine ⟨⟨vO.1.1,S.conf.nodup g,fun x hx y hy e=>uY y hy (e▸hin x (.inr (by simp [hx])))⟩,vO.2.1,fun x hx y hy e=>?_⟩
         simp only [List.mem_append] at hx
         rcases hx with hx | hx
         ·exact vO.2.2 x (by simp [hx]) y hy e
         ·exact uY x hx (e▸hin y (.inr (by simp [hy]))))
       (fun t ht=>by
        simp only [List.mem_cons,List.mem_append] at ht
        rcases ht with rfl | (ht | ht) | ht
        ·exact .inl (by rw [uF];simp)
        ·exact .inl (by rw [uF];simp [ht])
        ·exact .inr (.inl ⟨g,ht,by simp⟩)
        ·exact .inl (by rw [uF];simp [ht]))
       (by rw [setRow_size];exact Nat.le_refl _)
       (fun t _ ht _=>ye t fun hc=>ht (by rw [uF,hc];simp))
       (fun rest nv2 np2 jj ww=>by
        rcases zLZ hH qk hx hi yL vA hI yJ jz k1 k3 k4 rest nv2 np2 jj ww with ⟨j,q,rest',h1,h2,h3⟩ | h3
        ·refine .inl fun a ha uc=>?_
         subst h3
         refine zIt _ _ _ h1 h2 a ha rest' uc (fun y hy=>?_) (fun ys k hy=>?_)
         ·subst hy;simp only [zBa,Prod.mk.injEq] at uc;have:=uc.2;simp at this
         ·subst hy;simp only [zBa,Prod.mk.injEq] at uc;have:=uc.2;simp at this
        ·exact .inr h3)
       ⟨rfl,rfl,rfl⟩
      refine ⟨b,row,e1.set r root,_,L1,rfl,yZ,k3,by rw [show (rv g).cells.size=(rv g).cells.toList.length by simp];exact k4,wy,h1,S.turn hconf (fun s hs=>?_) (fun _ _=>rfl) (fun d ps hd hp=>?_),?_,?_⟩
      ·rw [Env.get_set]
       by_cases yW:s=r
       ·subst yW;simp
       ·have:(s==g)=false:=by simp;omega
        simp only [yW,if_false,this,Bool.false_eq_true]
        rw [yT s,S.env s hs]
      ·by_cases jy:d=r
       ·simp only [jy,if_true] at hp;rw [hp] at kk2;cases kk2
       ·have:(d==g)=false:=by simp only [zAd] at hg;simp;omega
        simp only [jy,if_false,this,Bool.false_eq_true] at hp
        refine zDP (fun p hp=>?_) hp
        rcases hf p with h | ⟨_,h⟩
        ·rw [h];cases p<;>first | rfl | cases hp
        ·rw [h];rfl
      ·simp [Ne.symm qm]
      ·refine ⟨fun s hs y6 hb=>?_,fun s hs y6=>?_,jD⟩
       ·have:s≠r:=by omega
        simp [this,y6,hb,PV.mapW]
       ·have:s≠r:=by omega
        simp [this,y6]
end
end Go.Eng
namespace Go.Eng
open Go
section
variable {P:Program} {w0 w:World} {U Φ0 Φ:Nat→Prop} {nt:Nat} {hv:Hid} {a:Act} {e e':Env} {rv:Nat→Value} {E:Nat→PV} {L:Nat→List Nat} {o:zAL}
theorem zCm {r:Nat} {pre:zAV} {q:PV} {k:PM} (h:(PM.wnode r pre q k).run o e=some e'):∃ root,(e.get r).isLock=false∧zAt (fun _=>some q) (e.get r) pre=some root∧k.run o (e.set r root)=some e':=by
 simp only [PM.run] at h
 cases hl:(e.get r).isLock with
 | true=>rw [hl] at h;cases h
 | false =>
  rw [hl] at h;simp only [cond_false] at h
  cases hm:zAt (fun _=>some q) (e.get r) pre with
  | none=>rw [hm] at h;cases h
  | some root=>rw [hm] at h;exact ⟨root,rfl,rfl,h⟩
theorem zOF (S:St w0 U Φ0 nt hv a w e Φ rv E L) {p:PV} {v:Value} (hp:Rep w Φ (zA7 w rv E) p v []) {k:PV→PM} {k2:PM} (h:(zMM p k k2).run o e=some e') :
  k2.run o e=some e'∨(k p).run o e=some e'∨∃ r pre q root,r<zAd∧(E r).unlock=E r∧zAA (E r) pre=some q∧q.oneCell=true∧p.oneCell=true∧zAt (fun _=>some .bad) (E r) pre=some root∧root.unlock=root∧root.isTup=false ∧
   (k q).run o (e.set r root)=some e'∧∀ nv,zAS w (rv r) (E r) pre=some (nv,q)→nv=v:=by
 cases p<;>simp only [zMM] at h<;>try (exact .inr (.inl h))
 case bor r pre z lo n =>
  obtain ⟨q,hq,h1⟩:=zBX h
  obtain ⟨_,hr,⟨b,cap,yB,_⟩,hn⟩:=hp
  split at h1
  ·rename_i sz xs
   cases hc:(Nat.beq lo 0&&Nat.beq n xs.length) with
   | false=>rw [hc] at h1;exact .inl h1
   | true =>
    rw [hc] at h1;simp only [cond_true] at h1
    simp only [Bool.and_eq_true] at hc
    have uH:=Nat.eq_of_beq_eq_true hc.1
    have qA:=Nat.eq_of_beq_eq_true hc.2
    subst uH
    obtain ⟨root,hl,hm,h2⟩:=zCm h1
    have yF:=zBJ hl
    rw [yF,← S.env r hr] at hq
    rw [← S.env r hr] at yF hm
    obtain ⟨k1,k2'⟩:=zBP (q' := .bad) rfl rfl hm
    refine .inr (.inr ⟨r,pre,_,root,hr,yF,hq,rfl,rfl,hm,k1,k2',h2,fun nv hf=>?_⟩)
    obtain ⟨sz2,xs2,g1,g2,g3⟩:=hn nv _ (by rw [yF];exact hf) rfl
    cases g1;subst g2
    obtain ⟨nv',Li,yf,_,hH⟩:=zBM (S.conf.rep r) hq
    rw [hf] at yf;cases yf
    obtain ⟨q1,q2,q3⟩ | ⟨x,m,c,us,M,q0,q1,q2,_⟩:=hH
    ·subst q3;exact g3.1.symm
    ·subst q1
     simp only [zBY] at g3
     rw [g3.1,qA]
     congr 2
     ·cases x;simp_all [zAz]
  ·exact .inl h1
 case bmap r pre =>
  obtain ⟨q,hq,h1⟩:=zBX h
  obtain ⟨_,hr,⟨b,yB⟩,hn⟩:=hp
  split at h1
  ·rename_i es
   obtain ⟨root,hl,hm,h2⟩:=zCm h1
   have yF:=zBJ hl
   rw [yF,← S.env r hr] at hq
   rw [← S.env r hr] at yF hm
   obtain ⟨k1,k2'⟩:=zBP (q' := .bad) rfl rfl hm
   exact .inr (.inr ⟨r,pre,_,root,hr,yF,hq,rfl,rfl,hm,k1,k2',h2,fun nv hf=>(hn nv _ (by rw [yF];exact hf) _ rfl).symm⟩)
  ·exact .inl h1
theorem St.taken (S:St w0 U Φ0 nt hv a w e Φ rv E L) {g r:Nat} (hg:zAd≤g) (hr:r<zAd) {pre:zAV} {q root:PV} (yF:(E r).unlock=E r) (hq:zAA (E r) pre=some q) (h1:q.oneCell=true)
  (hm:zAt (fun _=>some .bad) (E r) pre=some root) (hk:root.unlock=root) (kx:root.isTup=false) :
  ∃ nv Li,zAS w (rv r) (E r) pre=some (nv,q)∧Rep w Φ (zA7 w rv E) q nv Li∧Li.Nodup∧(∀ b∈Li,b∉L g)∧∀ (p':PV) (v':Value) (Lg:List Nat),Rep w Φ (zA7 w rv E) p' v' Lg→Lg.Nodup→(∀ b∈Lg,b∈Li∨b∈L g) →
   ∃ L',St w0 U Φ0 nt hv a w (e.set r root) Φ (upd rv g v') (upd (upd E r root) g p') L'∧∀ s,zAd≤s→s≠g→L' s=L s:=by
 obtain ⟨nv,Li,g1,g2,g3,g4,g5⟩:=S.conf.takeNode hr hg yF hq (zBm h1).2 hm hk
 refine ⟨nv,Li,g1,g2,g3,fun b hb jN=>S.conf.disj r g (by omega) b (g4 b hb) jN,fun p' v' Lg q1 q2 q3=>?_⟩
 obtain ⟨L',hc,hL⟩:=g5 p' v' Lg q1 q2 q3
 refine ⟨L',S.turn hc (fun s hs=>?_) (fun s hs=>zAf (by omega)) (fun d ps hd hp=>?_),fun s hs y6=>hL s (by omega) y6⟩
 ·rw [zAf (by omega),Env.get_set]
  by_cases yW:s=r
  ·subst yW;rw [zAh,if_pos rfl]
  ·rw [zAf yW,if_neg yW];exact S.env s hs
 ·rw [zAf (by simp only [zAd] at hg;omega)] at hp
  by_cases jy:d=r
  ·subst jy;rw [zAh] at hp;rw [hp] at kx;cases kx
  ·rw [zAf jy] at hp;exact ⟨ps,hp,rfl⟩
structure Worked (w0:World) (U Φ0:Nat→Prop) (nt:Nat) (hv:Hid) (a:Act) (w:World) (rv:Nat→Value) (E:Nat→PV) (g:Nat) (e1:Env) (rv1:Nat→Value) (E1:Nat→PV):Prop where
 st:∃ Φ1 L1,St w0 U Φ0 nt hv a w e1 Φ1 rv1 E1 L1
 val:rv1 g=rv g
 low:∀ s,s<zAd→rv1 s=rv s
 rest:∀ s,zAd≤s→s≠g→E1 s=E s∧rv1 s=rv s
 agg:(E1 g).isAgg=(E g).isAgg
 len:(E1 g).cells.length=(E g).cells.length
theorem zLv {p:PV} (h:p.isWay=true):p.heavy=false:=by cases p<;>first | rfl | cases h
theorem zOw (S:St w0 U Φ0 nt hv a w e Φ rv E L) {g:Nat} (hg:zAd≤g) {k:PV→PM} (h:(zL0 (E g) k).run o e=some e'):∃ e1 rv1 E1,(k (E1 g)).run o e1=some e'∧Worked w0 U Φ0 nt hv a w rv E g e1 rv1 E1:=by
 have qB:Worked w0 U Φ0 nt hv a w rv E g e rv E:=⟨⟨Φ,L,S⟩,rfl,fun _ _=>rfl,fun _ _ _=>⟨rfl,rfl⟩,rfl,rfl⟩
 by_cases vC:(E g).isWay=true
 ·have hH:=S.conf.rep g
  have hL:L g=[]:=zDb _ _ _ (zLv vC) hH
  rw [hL] at hH
  rcases zOF S hH h with h1 | h1 | ⟨r,pre,q,root,c1,c2,c3,c4,c5,c6,c7,c8,c9,c10⟩
  ·obtain ⟨e1,Φ1,E1,L1,h2,S1,_,h3,_,_,h4,h5⟩:=zJn hg (Nat.le_refl _) zDK S h1
   exact ⟨e1,rv,E1,h2,⟨Φ1,L1,S1⟩,rfl,fun _ _=>rfl,fun s hs hI=>⟨h3 s hs hI,rfl⟩,h4,h5⟩
  ·exact ⟨e,rv,E,h1,qB⟩
  ·obtain ⟨nv,Li,g1,g2,g3,g4,g5⟩:=S.taken hg c1 c2 c3 c4 c6 c7 c8
   have hnv:=c10 nv g1
   obtain ⟨L',S',vV⟩:=g5 q nv Li g2 g3 (fun b hb => .inl hb)
   have jq:r≠g:=by omega
   refine ⟨_,_,_,by rw [zAh];exact c9,⟨Φ,L',S'⟩,by rw [zAh,hnv],fun s hs=>zAf (by omega),fun s hs hI=>?_,?_,?_⟩
   ·rw [zAf hI,zAf hI,zAf (by omega)];exact ⟨rfl,rfl⟩
   ·rw [zAh,(zBm c4).2,(zBm c5).2]
   ·rw [zAh,(zBm c4).1,(zBm c5).1];rfl
 ·have:(k (E g)).run o e=some e':=by
   revert h
   simp only [zL0,zMM]
   cases hE:E g<;>first | (rw [hE] at vC;exact absurd rfl vC) | exact fun h=>h
  exact ⟨e,rv,E,this,qB⟩
theorem Worked.self (S:St w0 U Φ0 nt hv a w e Φ rv E L) {g:Nat}:Worked w0 U Φ0 nt hv a w rv E g e rv E:=⟨⟨Φ,L,S⟩,rfl,fun _ _=>rfl,fun _ _ _=>⟨rfl,rfl⟩,rfl,rfl⟩
theorem Worked.trans {g:Nat} {e1 e2:Env} {rv1 rv2:Nat→Value} {E1 E2:Nat→PV} (h1:Worked w0 U Φ0 nt hv a w rv E g e1 rv1 E1) (h2:Worked w0 U Φ0 nt hv a w rv1 E1 g e2 rv2 E2):Worked w0 U Φ0 nt hv a w rv E g e2 rv2 E2 :=
 ⟨h2.st,h2.val.trans h1.val,fun s hs=>(h2.low s hs).trans (h1.low s hs),fun s hs hI=>⟨(h2.rest s hs hI).1.trans (h1.rest s hs hI).1,(h2.rest s hs hI).2.trans (h1.rest s hs hI).2⟩,h2.agg.trans h1.agg,h2.len.trans h1.len⟩
theorem zQV (S:St w0 U Φ0 nt hv a w e Φ rv E L) {g:Nat} (hg:zAd≤g) {k:PV→PM} (h:(zL5 zAd zDK (E g) k).run o e=some e'):∃ e1 rv1 E1,(k (E1 g)).run o e1=some e'∧Worked w0 U Φ0 nt hv a w rv E g e1 rv1 E1:=by
 obtain ⟨e1,Φ1,E1,L1,h2,S1,_,h3,_,_,h4,h5⟩:=zJn hg (Nat.le_refl _) zDK S h
 exact ⟨e1,rv,E1,h2,⟨Φ1,L1,S1⟩,rfl,fun _ _=>rfl,fun s hs hI=>⟨h3 s hs hI,rfl⟩,h4,h5⟩
theorem zG0 {g:Nat} (hg:zAd≤g) {k:PV→PM}:∀ (ps done:List PV) {e:Env} {Φ:Nat→Prop} {rv:Nat→Value} {E:Nat→PV} {L:Nat→List Nat},St w0 U Φ0 nt hv a w e Φ rv E L→E g = .agg (done++ps) →
  (zIQ ps fun qs=>k (.agg (done++qs))).run o e=some e'→∃ e1 rv1 E1,(k (E1 g)).run o e1=some e'∧Worked w0 U Φ0 nt hv a w rv E g e1 rv1 E1
 | [],done,e,Φ,rv,E,L,S,hE,h=>by
  refine ⟨e,rv,E,?_,.self S⟩
  rw [hE];exact h
 | p :: ps,done,e,Φ,rv,E,L,S,hE,h=>by
  have hH:=S.conf.rep g
  rw [hE] at hH
  obtain ⟨vs,yB,hr⟩:=hH
  have LD:(done++p::ps)[done.length]? = some p:=by simp
  obtain ⟨v,La,Lp,Lb,hvi,hL,uI,yP,_⟩:=hr.split LD
  simp only [zIQ] at h
  by_cases vC:p.isWay=true
  ·have hLp:=zDb _ _ _ (zLv vC) uI
   subst hLp
   rcases zOF S uI h with h1 | h1 | ⟨r,pre,q,root,c1,c2,c3,c4,c5,c6,c7,c8,c9,c10⟩
   ·cases h1
   ·exact zG0 hg ps (done++[p]) S (by rw [hE];simp) (by simpa using h1)
   ·obtain ⟨nv,Li,g1,g2,g3,g4,g5⟩:=S.taken hg c1 c2 c3 c4 c6 c7 c8
    have hnv:=c10 nv g1
    subst hnv
    have yS:=S.conf.nodup g
    rw [hL] at yS
    simp only [List.append_nil,List.nodup_append] at yS
    have j7:=yP w Φ (zA7 w rv E) q Li (fun _ _ _ h=>h) zDj.refl (fun _ _=>rfl) g2
    have jK:∀ b∈La++Lb,b∈L g:=fun b hb=>by rw [hL];simpa using hb
    obtain ⟨L',S',vV⟩:=g5 (.agg ((done++p::ps).set done.length q)) (rv g) (La++Li++Lb) ⟨vs,yB,j7⟩
     (by
      simp only [List.nodup_append]
      refine ⟨⟨yS.1,g3,fun x hx y hy e=>g4 y hy (jK y (by rw [← e];simp [hx]))⟩,yS.2.1,fun x hx y hy e=>?_⟩
      rcases List.mem_append.1 hx with hx | hx
      ·exact yS.2.2 x hx y hy e
      ·exact g4 x hx (jK x (by rw [e];simp [hy])))
     (fun b hb=>by
      simp only [List.mem_append] at hb
      rcases hb with (hb | hb) | hb
      ·exact .inr (jK b (by simp [hb]))
      ·exact .inl hb
      ·exact .inr (jK b (by simp [hb])))
    have jq:r≠g:=by omega
    have hEq:(done++p::ps).set done.length q=done++q::ps:=by simp
    obtain ⟨e1,rv1,E1,h2,W⟩:=zG0 hg ps (done++[q]) S' (by rw [zAh,hEq];simp) (by simpa using c9)
    refine ⟨e1,rv1,E1,h2,?_⟩
    have W0:Worked w0 U Φ0 nt hv a w rv E g (e.set r root) (upd rv g (rv g)) (upd (upd E r root) g (.agg ((done++p::ps).set done.length q))):=by
     refine ⟨⟨Φ,L',S'⟩,zAh,fun s hs=>zAf (by omega),fun s hs hI=>?_,?_,?_⟩
     ·rw [zAf hI,zAf hI,zAf (by omega)];exact ⟨rfl,rfl⟩
     ·rw [zAh,hE];rfl
     ·rw [zAh,hE];simp [PV.cells]
    exact W0.trans W
  ·have:(zIQ ps fun qs=>k (.agg (done++p::qs))).run o e=some e':=by
    revert h
    cases p<;>first | (exact absurd rfl vC) | exact fun h=>h
   exact zG0 hg ps (done++[p]) S (by rw [hE];simp) (by simpa using this)
theorem zLq (S:St w0 U Φ0 nt hv a w e Φ rv E L) {g:Nat} (hg:zAd≤g) {tk:Bool} {k:PV→PM} (h:(zFI tk (E g) k).run o e=some e'):∃ e1 rv1 E1,(k (E1 g)).run o e1=some e'∧Worked w0 U Φ0 nt hv a w rv E g e1 rv1 E1:=by
 have plain:(k (E g)).run o e=some e'→∃ e1 rv1 E1,(k (E1 g)).run o e1=some e'∧Worked w0 U Φ0 nt hv a w rv E g e1 rv1 E1:=fun h=>⟨e,rv,E,h,.self S⟩
 have ice:(zL5 zAd zDK (E g) k).run o e=some e'→∃ e1 rv1 E1,(k (E1 g)).run o e1=some e'∧Worked w0 U Φ0 nt hv a w rv E g e1 rv1 E1:=zQV S hg
 have take:(zL0 (E g) k).run o e=some e'→∃ e1 rv1 E1,(k (E1 g)).run o e1=some e'∧Worked w0 U Φ0 nt hv a w rv E g e1 rv1 E1:=zOw S hg
 cases hE:E g<;>rw [hE] at h plain ice take<;>simp only [zFI] at h<;>try (exact plain h)
 case agg cs =>
  cases tk with
  | true=>exact zG0 hg cs [] S (by rw [hE];rfl) (by simpa using h)
  | false =>
   simp only [cond_false] at h
   revert h
   cases cs.any _ with
   | true=>exact ice
   | false=>exact plain
 case bor=>cases tk<;>first | exact take h | exact ice h
 case bmap=>cases tk<;>first | exact take h | exact ice h
 case bsl=>exact ice h
theorem St.iced (S:St w0 U Φ0 nt hv a w e Φ rv E L) {g:Nat} (hg:zAd≤g):∃ Φ1 L1,St w0 U Φ0 nt hv a w e Φ1 rv (upd E g (zA0 (E g))) L1:=by
 have hA:∀ a u,a.isWay=true→zA7 w rv E a u→zA7 w rv (upd E g (zA0 (E g))) a u:=by
  intro a u _ ha
  have:=zCW ha
  exact zCF S.conf zCd ha (by rw [zAf (by omega),zBi]) rfl (fun _ _=>rfl)
 have hΦ:zDj w w Φ (fun b=>Φ b∨b∈L g):=fun b hb=>⟨.inl hb,rfl⟩
 have hc:Conf w0 U Φ0 w (fun b=>Φ b∨b∈L g) rv (upd E g (zA0 (E g))) (upd L g []):=by
  refine ⟨fun s=>?_,fun s=>?_,fun s s' hI b hb yE=>?_,fun s b hb=>?_,fun b hb=>?_,fun b hb => .inl (S.conf.frz0 b hb),S.conf.size,S.conf.kept,S.conf.os,S.conf.tape,S.conf.output⟩
  ·by_cases hs:s=g
   ·subst hs;rw [zAh,zAh]
    exact (zDZ (fun b hb => .inl hb) _ _ _ (fun b hb => .inr hb) (S.conf.rep s)).mono zDj.refl hA (by simp)
   ·rw [zAf hs,zAf hs];exact (S.conf.rep s).mono hΦ hA (fun _ _=>rfl)
  ·by_cases hs:s=g
   ·subst hs;rw [zAh];exact List.nodup_nil
   ·rw [zAf hs];exact S.conf.nodup s
  ·by_cases hs:s=g
   ·subst hs;rw [zAh] at hb;cases hb
   ·rw [zAf hs] at hb
    by_cases jC:s'=g
    ·subst jC;rw [zAh] at yE;cases yE
    ·rw [zAf jC] at yE;exact S.conf.disj s s' hI b hb yE
  ·by_cases hs:s=g
   ·subst hs;rw [zAh] at hb;cases hb
   ·rw [zAf hs] at hb
    have:=S.conf.own s b hb
    exact ⟨this.1,fun hp=>hp.elim this.2.1 fun hbg=>S.conf.disj s g hs b hb hbg,this.2.2⟩
  ·rcases hb with hb | hb
   ·exact S.conf.frz b hb
   ·have:=S.conf.own g b hb;exact ⟨this.1,.inr this.2.2⟩
 exact ⟨_,_,S.turn hc (fun s hs=>by rw [zAf (by omega)];exact S.env s hs) (fun _ _=>rfl) fun d ps hd hp=>by
  rw [zAf (by simp only [zAd] at hg;omega)] at hp;exact ⟨ps,hp,rfl⟩⟩
theorem St.clear (S:St w0 U Φ0 nt hv a w e Φ rv E L):Fr w0 U Φ0 nt hv a w e:=by
 have hc:=S.conf.drop fun s=>decide (zAd≤s)
 refine ⟨_,_,_,_,S.turn hc (fun s hs=>?_) (fun _ _=>rfl) (fun d ps hd hp=>?_),fun s hs=>?_⟩
 ·have:decide (zAd≤s)=false:=by simp;omega
  simp only [this,Bool.false_eq_true,if_false];exact S.env s hs
 ·have:decide (zAd≤d)=false:=decide_eq_false (by simp only [zAd];omega)
  simp only [this,Bool.false_eq_true,if_false] at hp;exact ⟨ps,hp,rfl⟩
 ·simp [hs]
theorem zIk {A:Al} {sz lo n:Nat} {xs:List PV} {nv v:Value} {Li:List Nat} (h:Rep w Φ A (.own sz xs) nv Li) (yJ:lo+n≤xs.length) (hs:zBY v nv sz lo n) :
  ∃ Lg,Rep w Φ A (.own sz ((xs.drop lo).take n)) v Lg∧(∀ b∈Lg,b∈Li)∧(Li.Nodup→Lg.Nodup):=by
 obtain ⟨h1,h2,h3⟩ | ⟨x,m,c,us,M,rfl,h1,h2,h3,h4,h5,h6,⟨h7,kw⟩,h8,h9⟩:=h
 ·subst h1;subst h3
  exact ⟨[],.inl ⟨by simp,rfl,hs.1⟩,by simp,fun _=>List.nodup_nil⟩
 ·subst h1
  simp only [zBY] at hs
  obtain ⟨rfl,yO⟩:=hs
  have yu:us.length=xs.length:=by have:=congrArg List.length kw;simpa using this
  obtain ⟨M1,M23,rfl,_,hB⟩:=h9.cut lo
  obtain ⟨M2,M3,rfl,hC,_⟩:=hB.cut n
  have hO:((xs.drop lo).take n).length=n:=by simp;omega
  refine ⟨x.block::M2,.inr ⟨zAz x (lo*sz),m-lo,c,(us.drop lo).take n,M2,rfl,by rw [hO],rfl,by rw [hO];omega,h4,?_,fun y hy=>h6 y (List.mem_of_mem_drop (List.mem_of_mem_take hy)),⟨fun u hu=>h7 u (List.mem_of_mem_drop (List.mem_of_mem_take hu)),zA3.map_isAgg kw lo n⟩,?_,hC⟩,?_,?_⟩
  ·simp only [zAz]
   have:lo*sz+(m-lo)*sz=m*sz:=by rw [← Nat.add_mul];congr 1;omega
   omega
  ·rw [hO];exact zIa h7 yu h8 yJ
  ·intro b hb;simp only [List.mem_cons,List.mem_append] at hb ⊢;rcases hb with h | h<;>simp [h]
  ·intro hn
   simp only [List.nodup_cons,List.mem_append,not_or,List.nodup_append] at hn ⊢
   exact ⟨hn.1.2.1,hn.2.2.1.1⟩
theorem zMs {t:TypeId} {n:Nat} (hn:szT P t=some n) {b:Addr} (yZ:b.spot=none) {row:Array Value} (yA:zE0 w b.block row) {v:Value} (hv:v.cells.size=n) (hZ:b.off+v.cells.size≤row.size) (yL:∀ u∈v.cells.toList,u.oneCell'=true) :
  (Instr.storeAt t (.pointer (some b)) v).run P w = .ok () (w.setRow b.block (zBg row b.off v.cells.toList)):=by
 obtain ⟨ti,jE,yC⟩:=zCi hn
 obtain ⟨el,yd⟩:=yA
 have hb:b=⟨b.block,b.off,none⟩:=by cases b;simp_all
 simp only [Instr.storeAt,Instr.sureAddr,Sem.run_bind,Sem.run_pure,Result.andThen_ok,storeVar,zAZ jE]
 rw [if_neg (by simp only [ne_eq,Decidable.not_not];omega)]
 have:=run_storeCells_at (P:=P) b.block b.off el v.cells.toList 0 row w yd (by simpa using hZ) yL
 rw [← hb] at this
 simp only [Nat.add_zero] at this
 exact this
theorem zKp (S:St w0 U Φ0 nt hv a w e Φ rv E L) {g r:Nat} (hg:zAd≤g) {pre:zAV} {i c:Nat} {sh:Option Nat} {t:TypeId} {va:Value} (ha:Rep w Φ (zA7 w rv E) (.addr r pre i c sh) va [])
  (hn:szT P t=some (E g).cells.length) (h:(zHN r pre i c (E g)).run o e=some e') :
  ∃ w',(Instr.storeAt t va (rv g)).run P w = .ok () w'∧Fr w0 U Φ0 nt hv a w' e':=by
 simp only [zHN] at h
 obtain ⟨hc,h1⟩:=zAU h
 simp only [Bool.and_eq_true,Bool.or_eq_true,Bool.not_eq_true'] at hc
 obtain ⟨⟨jR,yz⟩,uJ⟩:=hc
 have yL:∀ q∈(E g).cells,q.oneCell=true:=fun q hq=>List.all_eq_true.1 yz q hq
 have hva:zCj (rv g)=(E g).isAgg:=by
  have hH:=S.conf.rep g
  cases hx:(E g).isAgg with
  | true =>
   cases hE:E g<;>rw [hE] at hx<;>simp [PV.isAgg] at hx
   rw [hE] at hH;obtain ⟨vs,yB,_⟩:=hH;rw [yB];rfl
  | false =>
   have jW:(E g).cells=[E g]:=by cases hE:E g<;>first | rfl | (rw [hE] at hx;simp [PV.isAgg] at hx)
   have:=yL (E g) (by rw [jW];simp)
   exact (zBL (zB8 (fun a v hw h=>zC2 hw h) hH this)).2
 have yn:(E g).heavy=false∨∀ x∈(E g).ways,zAQ r pre x.1 x.2=false∨x.2.length≤pre.length:=by
  rcases jR with h | h
  ·exact .inl h
  ·refine .inr fun x hx=>?_
   have:=List.all_eq_true.1 h x hx
   simp only [Bool.not_eq_true',Bool.and_eq_false_iff] at this
   rcases this with h | h
   ·exact .inl h
   ·refine .inr (Nat.le_of_not_lt fun yI=>?_)
    rw [show Nat.blt pre.length x.2.length=true from Nat.ble_eq_true_of_le yI] at h;cases h
 have hI:(E g).cells.length≠0:=by
  intro h0;rw [List.eq_nil_of_length_eq_zero h0] at uJ;cases uJ
 obtain ⟨b,row,e1,E1,L1,rfl,k1,k2,k3,k4,k5,k6,_,_⟩:=S.write hg ha yn yL hI hva h1
 simp only [PM.run,Option.some.injEq] at k5;subst k5
 have yC:(rv g).cells.size=(E g).cells.length:=by
  have:=((S.conf.rep g).cellsAll hva).length
  simpa using this
 exact ⟨_,zMs hn k1 k2 yC k3 k4,k6.clear⟩
theorem zHa (S:St w0 U Φ0 nt hv a w e Φ rv E L) {g:Nat} (hg:zAd≤g) (hE2:E (g+1) = .bad) {r:Nat} {pre:zAV} {i c:Nat} {sh:Option Nat} {t:TypeId} {va:Value} (ha:Rep w Φ (zA7 w rv E) (.addr r pre i c sh) va [])
  (hn:szT P t=some (E g).cells.length) {tk:Bool} (h:(zHJ tk r pre i c (E g)).run o e=some e') :
  ∃ w',(Instr.storeAt t va (rv g)).run P w = .ok () w'∧Fr w0 U Φ0 nt hv a w' e':=by
 have S1:=S.hold (g:=g+1) (by omega) ha
 have kG:g≠g+1:=by omega
 simp only [zHJ] at h
 split at h
 ·rename_i m kH
  cases uG:E g<;>rw [uG] at kH<;>simp only [zQ3] at kH<;>try (cases kH;done)
  rename_i r' q z lo n
  cases lo with
  | succ lo=>cases kH
  | zero =>
   simp only [zQ3] at kH
   split at kH
   ·rename_i hrq
    simp only [Bool.and_eq_true,decide_eq_true_eq] at hrq
    obtain ⟨rfl,rfl⟩:=hrq
    simp only [Option.some.injEq] at kH;subst kH
    obtain ⟨x,hx,h1⟩:=zBX h
    split at h1
    ·rename_i s xs
     obtain ⟨yJ,h2⟩:=zAU h1
     have yJ:=Nat.le_of_ble_eq_true yJ
     obtain ⟨root,hl,hm,h3⟩:=zCm h2
     have hr:r'<zAd:=ha.2.1
     have yF:=zBJ hl
     rw [yF,← S.env r' hr] at hx
     rw [← S.env r' hr] at yF hm
     have hr1:r'≠g+1:=by omega
     obtain ⟨kk1,kk2⟩:=zBP (q' := .bad) rfl rfl hm
     have v4:upd E (g+1) (.addr r' pre i c sh) r'=E r':=zAf hr1
     obtain ⟨nv,Li,g1,g2,g3,g4,g5⟩:=S1.taken (g:=g) hg hr (by rw [v4];exact yF) (by rw [v4];exact hx) rfl (by rw [v4];exact hm) kk1 kk2
     have qC:=S.conf.rep g
     rw [uG] at qC
     obtain ⟨_,_,_,v7⟩:=qC
     have j0:zBY (rv g) nv s 0 n:=by
      obtain ⟨s2,xs2,q1,q2,q3⟩:=v7 nv _ (by rw [yF];rw [v4,zAf hr1] at g1;exact g1) rfl
      cases q1;subst q2;exact q3
     obtain ⟨Lg,p1,p2,p3⟩:=zIk g2 (by omega) j0
     obtain ⟨L',S2,_⟩:=g5 _ (rv g) Lg p1 (p3 g3) (fun b hb => .inl (p2 b hb))
     have j8:=S2.conf.rep (g+1)
     rw [zAf (Ne.symm kG),zAf (Ne.symm hr1),zAh,zAf (Ne.symm kG),zAh] at j8
     have ud:L' (g+1)=[]:=j8.1
     rw [ud] at j8
     have:=zKp (P:=P) (t:=t) S2 hg j8 (by rw [zAh];rw [uG] at hn;exact hn) (by rw [zAh];exact h3)
     rw [zAh] at this;exact this
    ·cases h1
   ·cases kH
 ·have key:(zFI tk (E g) fun v=>zHN r pre i c v).run o e=some e'∨(zHN r pre i c (E g)).run o e=some e':=by
   simp only [zH9] at h
   cases hb:(pre.isEmpty && !tk) with
   | false=>rw [hb] at h;exact .inl h
   | true =>
    rw [hb] at h;simp only [cond_true,PM.run] at h
    split at h
    ·exact .inr h
    ·exact .inl h
  rcases key with h | h
  ·have hEg1:upd E (g+1) (.addr r pre i c sh) g=E g:=zAf kG
   obtain ⟨e1,rv1,E1,h1,W⟩:=zLq S1 (g:=g) hg (by rw [hEg1];exact h)
   obtain ⟨Φ1,L1,S2⟩:=W.st
   have j8:=S2.conf.rep (g+1)
   obtain ⟨q1,q2⟩:=W.rest (g+1) (by omega) (Ne.symm kG)
   rw [q1,q2,zAh,zAh] at j8
   have ud:L1 (g+1)=[]:=j8.1
   rw [ud] at j8
   have hO:=W.len
   rw [hEg1] at hO
   have:=zKp (P:=P) (t:=t) S2 hg j8 (by rw [hO];exact hn) h1
   rw [W.val,zAf kG] at this;exact this
  ·exact zKp S hg ha hn h
theorem zTU {t el:TypeId} {s:Nat} (h:(zB0 P t).bind (szT P)=some s):∃ el,zB0 P t=some el∧szT P el=some s:=by
 cases he:zB0 P t with
 | none=>rw [he] at h;cases h
 | some el=>rw [he] at h;exact ⟨el,rfl,h⟩
theorem zCw {t:TypeId} {el:TypeId} (h:zB0 P t=some el):P.underlying t=some (.slice el):=by
 simp only [zB0] at h
 split at h
 ·cases h;assumption
 ·cases h
theorem zSF (S:St w0 U Φ0 nt hv a w e Φ rv E L) (hb:zBE E) {fz tk:Bool} {t:TypeId} {x y:Operand} (hx:zAY nt x=true) (hy:zAY nt y=true) (h:(zNN P fz tk t x y).run o e=some e') :
  ∃ w',(Instr.storeAt t (a.eval x) (a.eval y)).run P w = .ok () w'∧Fr w0 U Φ0 nt hv a w' e':=by
 obtain ⟨pa,h1,v0⟩:=zBG S hx h
 have gen:(match pa,shT P t,szT P t with
   | .addr r pre i c _,some sh,some n=>(bif fz&&tk then opd y else zOH y) fun v=>bif Nat.beq v.cells.length n&&v.isAgg==sh.isSome then zHJ (tk && !fz) r pre i c (bif fz && !tk then zA0 v else v) else .fail
   | _,_,_ => .fail).run o e=some e'→∃ w',(Instr.storeAt t (a.eval x) (a.eval y)).run P w = .ok () w'∧Fr w0 U Φ0 nt hv a w' e':=by
  intro h2
  clear h1
  split at h2
  ·rename_i r pre i c s' sh n je hn
   have S1:=S.hold (g:=zAd+2) (by omega) v0
   cases hfk:(fz&&tk) with
   | true =>
    rw [Bool.and_eq_true] at hfk
    obtain ⟨rfl,rfl⟩:=hfk
    simp only [Bool.and_self,cond_true,Bool.not_true,Bool.and_false,cond_false] at h2
    obtain ⟨v,h2,hv⟩:=zBG S1 hy h2
    obtain ⟨hc,h5⟩:=zAU h2
    simp only [Bool.and_eq_true] at hc
    have hO:=Nat.eq_of_beq_eq_true hc.1
    have S2:=S1.hold (g:=zAd) (Nat.le_refl _) hv
    have j8:=S2.conf.rep (zAd+2)
    rw [zAf (show zAd+2≠zAd by omega),zAf (show zAd+2≠zAd by omega),zAf (show zAd+2≠zAd by omega),zAh,zAh,zAh] at j8
    have:=zHa (P:=P) (t:=t) S2 (Nat.le_refl zAd) (by rw [zAf (show zAd+1≠zAd by omega),zAf (show zAd+1≠zAd+2 by omega)];exact hb _ (by omega)) j8 (by rw [zAh,hO];exact hn) (by rw [zAh];exact h5)
    rwa [zAh] at this
   | false =>
   rw [hfk,cond_false] at h2
   obtain ⟨e1,rv1,E1,L1,h2,S2,h3,h4⟩:=zHE S1 hy (g:=zAd) (Nat.le_refl _) h2
   obtain ⟨hc,h5⟩:=zAU h2
   simp only [Bool.and_eq_true] at hc
   have hO:=Nat.eq_of_beq_eq_true hc.1
   have h6:=h4 (zAd+2) (by omega) (by omega)
   rw [zAh,zAh,zAh] at h6
   have h7:=h4 (zAd+1) (by omega) (by omega)
   rw [zAf (show zAd+1≠zAd+2 by omega)] at h7
   have v4:E1 (zAd+1) = .bad:=by rw [h7.1];exact hb _ (by omega)
   cases fz with
   | false =>
    simp only [Bool.false_and,cond_false] at h5
    have j8:=S2.conf.rep (zAd+2)
    rw [h6.1,h6.2.1,h6.2.2] at j8
    have:=zHa (P:=P) (t:=t) S2 (Nat.le_refl zAd) v4 j8 (by rw [hO];exact hn) h5
    rwa [h3] at this
   | true =>
    simp only [Bool.true_and] at hfk
    subst hfk
    simp only [Bool.not_false,Bool.and_self,cond_true] at h5
    obtain ⟨Φ2,L2,S3⟩:=S2.iced (g:=zAd) (Nat.le_refl _)
    have j8:=S3.conf.rep (zAd+2)
    rw [zAf (show zAd+2≠zAd by omega),h6.1,h6.2.1] at j8
    have ud:L2 (zAd+2)=[]:=j8.1
    rw [ud] at j8
    have:=zHa (P:=P) (t:=t) S3 (Nat.le_refl zAd) (by rw [zAf (show zAd+1≠zAd by omega)];exact v4) j8 (by rw [zAh,zC1,hO];exact hn) (by rw [zAh];exact h5)
    rwa [h3] at this
  ·cases h2
 split at h1
 ·rename_i r pre i c s'
  obtain ⟨s,hs,jP⟩:=zBK h1
  obtain ⟨j0,h2⟩:=zDa jP
  have S1:=S.hold (g:=zAd) (p := .own s []) (v := .slice none 0 0) (Nat.le_refl _) (.inl ⟨rfl,rfl,rfl⟩)
  have hpa':Rep w Φ (zA7 w (upd rv zAd (.slice none 0 0)) (upd E zAd (.own s []))) (.addr r pre i c s') (a.eval x) []:=by
   have hr:=zCW v0.2
   refine ⟨rfl,zCF S.conf zCd v0.2 ?_ ?_ (fun _ _=>rfl)⟩
   ·rw [zAf (Nat.ne_of_lt hr),zBi]
   ·rw [zAf (Nat.ne_of_lt hr)]
  have:=zHa (P:=P) (t:=t) S1 (Nat.le_refl zAd) (by rw [zAf (show zAd+1≠zAd by omega)];exact hb _ (by omega)) hpa' (by rw [zAh];exact j0) (by rw [zAh];exact h2)
  rwa [zAh] at this
 ·exact gen h1
theorem Fr.congr {e1 e2:Env} (h:∀ s,e1.get s=e2.get s) (hf:Fr w0 U Φ0 nt hv a w e1):Fr w0 U Φ0 nt hv a w e2:=by
 obtain ⟨Φ,rv,E,L,S,hb⟩:=hf
 exact ⟨Φ,rv,E,L,{S with env:=fun s hs=>(S.env s hs).trans (h s)},hb⟩
theorem zJ7 (S:St w0 U Φ0 nt hv a w e Φ rv E L) {g:Nat} (hg:zAd≤g) {d:Option Nat} (hd:∀ x,d=some x→x<nt) (hb:∀ s,zAd≤s→s≠g→E s = .bad) (h:(zFk d (E g)).run o e=some e'):Fr w0 U Φ0 nt hv (a.put d (rv g)) w e':=by
 have plain:(put d (E g)).run o e=some e'→Fr w0 U Φ0 nt hv (a.put d (rv g)) w e':=fun h=>zFM S hd hg h hb
 have kS:=S.small
 simp only [zFk] at h
 split at h
 ·rename_i d' r z lo n uG
  split at h
  ·rename_i hrd
   subst hrd
   have hr:r<nt:=hd r rfl
   have jq:r<zAd:=by simp only [zAd];omega
   simp only [PM.run] at h
   split at h
   ·cases h
   ·rename_i root qA
    split at h
    ·rename_i sz xs ke
     obtain ⟨yJ,h1⟩:=zAU h
     have yJ:=Nat.le_of_ble_eq_true yJ
     simp only [PM.run,Option.some.injEq] at h1
     have hE:E r = .own sz xs:=by rw [S.env r jq,ke]
     obtain ⟨nv,Li,g1,g2,g3,g4,g5⟩:=S.taken (g:=g) hg jq (pre:=[]) (q := .own sz xs) (root := .bad) (by rw [hE];rfl) (by rw [hE];rfl) rfl rfl rfl rfl
     have hH:=S.conf.rep g
     rw [uG] at hH
     obtain ⟨_,_,_,hn⟩:=hH
     have j0:zBY (rv g) nv sz lo n:=by
      obtain ⟨s2,xs2,q1,q2,q3⟩:=hn nv _ (by rw [hE];rw [hE] at g1;exact g1) rfl
      cases q1;subst q2;exact q3
     obtain ⟨Lg,p1,p2,p3⟩:=zIk g2 yJ j0
     obtain ⟨L',S2,_⟩:=g5 _ (rv g) Lg p1 (p3 g3) (fun b hb => .inl (p2 b hb))
     have jt:(put (some r) (upd (upd E r .bad) g (.own sz ((xs.drop lo).take n)) g)).run o (e.set r .bad)=some (((e.set r .bad).kill r []).set r (.own sz ((xs.drop lo).take n))):=by
      rw [zAh];rfl
     have:=zFM S2 hd hg jt (fun s hs hI=>by rw [zAf hI,zAf (by omega)];exact hb s hs hI)
     rw [zAh] at this
     refine this.congr fun s=>?_
     rw [← h1,Env.get_set,Env.get_set,Env.get_kill,Env.get_kill,Env.get_set]
     by_cases hs:s=r
     ·simp [hs]
     ·simp [hs]
    ·cases h
  ·exact plain h
 ·exact plain h
theorem zQM (S:St w0 U Φ0 nt hv a w e Φ rv E L) (hb:zBE E) {d:Option Nat} (hd:∀ x,d=some x→x<nt) {tk nl:Bool} {t:TypeId} {x:Operand} (hx:zAY nt x=true) (h:(zFV P tk nl d t x).run o e=some e'):Fr w0 U Φ0 nt hv (a.put d (a.eval x)) w e':=by
 have gen:(zOH x fun p=>bif tk then zL0 p (zFk d) else zFk d p).run o e=some e'→Fr w0 U Φ0 nt hv (a.put d (a.eval x)) w e':=by
  intro h
  obtain ⟨e1,rv1,E1,L1,h1,S1,h2,h3⟩:=zHE S hx (g:=zAd) (Nat.le_refl _) h
  have yY:∀ s,zAd≤s→s≠zAd→E1 s = .bad:=fun s hs hI=>by rw [(h3 s hs hI).1];exact hb s hs
  cases tk with
  | false =>
   have:=zJ7 S1 (Nat.le_refl zAd) hd yY h1
   rwa [h2] at this
  | true =>
   obtain ⟨e2,rv2,E2,h4,W⟩:=zOw S1 (Nat.le_refl zAd) h1
   obtain ⟨Φ2,L2,S2⟩:=W.st
   have:=zJ7 S2 (Nat.le_refl zAd) hd (fun s hs hI=>by rw [(W.rest s hs hI).1];exact yY s hs hI) h4
   rw [W.val,h2] at this;exact this
 simp only [zFV] at h
 split at h
 ·have nilR:∀ s,Rep w Φ (zA7 w rv E) (.own s []) (.slice none 0 0) []:=fun s => .inl ⟨rfl,rfl,rfl⟩
  cases nl with
  | true=>obtain ⟨s,_,h1⟩:=zBK h;exact zAF S hb hd h1 ⟨rfl,rfl⟩
  | false =>
   simp only [cond_false,zR7] at h
   split at h
   ·exact zAF S hb hd h (nilR _)
   ·cases h
 ·exact gen h
theorem zGV {d i d' i':Nat} (h:zBv d i=zBv d' i') (hi:i<16) (qo:i'<16):d=d'∧i=i':=by
 simp only [zBv] at h;omega
theorem zPh (S:St w0 U Φ0 nt hv a w e Φ rv E L) (hb:zBE E) {d:Option Nat} (hd:∀ x,d=some x→x<nt) {s i:Nat} (hs:s<nt) (h:(zIH d s i).run o e=some e') :
  ∃ v,(Instr.extract (a.eval (.tmp s)) i).run P w = .ok v w∧Fr w0 U Φ0 nt hv (a.put d v) w e':=by
 have kS:=S.small
 have y6:s<zAd:=by simp only [zAd];omega
 simp only [zIH,PM.run] at h
 split at h
 ·cases h
 ·rename_i m qA
  split at h
  ·rename_i ps y7
   obtain ⟨hi,h1⟩:=zAU h
   have hi:=zB5 hi
   have hE:E s = .tup ps:=by rw [S.env s y6,y7]
   obtain ⟨h16,vs,ue,kX⟩:=S.parts s ps i hs hE hi
   have gW:zBv s i<zAd:=by simp only [zBv,zAd];omega
   have vY:a.eval (.tmp s) = .tuple vs:=by rw [← ue];exact S.tmps s hs
   have hX:(Instr.extract (a.eval (.tmp s)) i).run P w = .ok (rv (zBv s i)) w:=by
    rw [vY];simp only [Instr.extract,kX];rfl
   refine ⟨_,hX,?_⟩
   simp only [PM.run] at h1
   split at h1
   ·cases h1
   ·rename_i p hnl2
    have hH:=S.conf.rep (zBv s i)
    rw [S.env _ gW] at hH
    cases hh:(e.get (zBv s i)).heavy with
    | false =>
     rw [hh] at h1;simp only [cond_false] at h1
     rw [zDb _ _ _ hh hH] at hH
     exact zAF S hb hd h1 hH
    | true =>
     rw [hh] at h1;simp only [cond_true,PM.run] at h1
     have hc:=S.conf.take (s:=zBv s i) (g:=zAd) gW (Nat.le_refl _)
     have S1:=S.turn (e':=e.set (zBv s i) .bad) hc (fun t ht=>by
      rw [zAf (by omega),Env.get_set]
      by_cases uf:t=zBv s i
      ·subst uf;rw [zAh,if_pos rfl]
      ·rw [zAf uf,if_neg uf];exact S.env t ht) (fun t ht=>zAf (by omega)) (fun d ps hd hp=>by
      rw [zAf (by simp only [zAd];omega),zAf (by simp only [zBv];omega)] at hp;exact ⟨ps,hp,rfl⟩)
     have:=zFM S1 hd (g:=zAd) (Nat.le_refl _) (by rw [zAh,S.env _ gW];exact h1) (fun t ht hI=>by rw [zAf hI,zAf (by omega)];exact hb t ht)
     rwa [zAh] at this
  ·cases h
end
end Go.Eng
namespace Go.Eng
open Go
mutual
theorem zDJ {f:PV→PV}:∀ p:PV,(∀ a,a.isWay=true→(∀ x∈a.ways,x∈p.ways)→(∀ xs k,a ≠ .log xs k)→f a=a)→(∀ xs k,f (.log xs k) = .log xs k)→p.mapW f=p
 | .agg cs,h,hl=>by rw [PV.mapW,zED cs h hl]
 | .tup cs,h,hl=>by rw [PV.mapW,zED cs h hl]
 | .func k a b,h,hl=>by rw [PV.mapW,zED a (fun x hx hw hn=>h x hx (fun y hy=>List.mem_append.2 (.inl (hw y hy))) hn) hl,zED b (fun x hx hw hn=>h x hx (fun y hy=>List.mem_append.2 (.inr (hw y hy))) hn) hl]
 | .ref q,h,hl=>by rw [PV.mapW,zDJ q h hl]
 | .box q,h,hl=>by rw [PV.mapW,zDJ q h hl]
 | .lock q,h,hl=>by rw [PV.mapW,zDJ q h hl]
 | .addr ..,h,_=>h _ rfl (fun _ h=>h) (fun _ _=>by simp)
 | .bor ..,h,_=>h _ rfl (fun _ h=>h) (fun _ _=>by simp)
 | .bsl ..,h,_=>h _ rfl (fun _ h=>h) (fun _ _=>by simp)
 | .bmap ..,h,_=>h _ rfl (fun _ h=>h) (fun _ _=>by simp)
 | .yld ..,_,_=>rfl
 | .log ..,_,hl=>hl _ _
 | .bad,_,_=>rfl
 | .und,_,_=>rfl
 | .int ..,_,_=>rfl
 | .bool ..,_,_=>rfl
 | .nilp,_,_=>rfl
 | .nilf,_,_=>rfl
 | .nilm,_,_=>rfl
 | .nn,_,_=>rfl
 | .nils _,_,_=>rfl
 | .sl _,_,_=>rfl
 | .own ..,_,_=>rfl
 | .map _,_,_=>rfl
 | .omap _,_,_=>rfl
theorem zED {f:PV→PV}:∀ ps:List PV,(∀ a,a.isWay=true→(∀ x∈a.ways,x∈zBB ps)→(∀ xs k,a ≠ .log xs k)→f a=a)→(∀ xs k,f (.log xs k) = .log xs k)→zCH f ps=ps
 | [],_,_=>rfl
 | p::ps,h,hl=>by
  rw [zCH,zDJ p (fun x hx hw hn=>h x hx (fun y hy=>List.mem_append.2 (.inl (hw y hy))) hn) hl,zED ps (fun x hx hw hn=>h x hx (fun y hy=>List.mem_append.2 (.inr (hw y hy))) hn) hl]
end
theorem zMA {p:PV} {x:Nat×zAV}:∀ {ps:List PV},p∈ps→x∈p.ways→x∈zBB ps
 | y::ys,h,hx=>by
  simp only [zBB,List.mem_append]
  rcases List.mem_cons.1 h with rfl | hm
  ·exact .inl hx
  ·exact .inr (zMA hm hx)
theorem zRd {r:Nat} {p:PV} (h:∀ x∈p.ways,x.1≠r):p.mapW (lose r [])=p:=by
 refine zDJ p (fun a ha hw hn=>?_) (fun _ _=>rfl)
 have key:∀ r',(∀ x∈a.ways,x.1=r')→a.ways≠[]→Nat.beq r' r=false:=by
  intro r' h1 h2
  cases hb:Nat.beq r' r with
  | false=>rfl
  | true =>
   have hr:=Nat.eq_of_beq_eq_true hb
   cases hy:a.ways with
   | nil=>exact absurd hy h2
   | cons z zs =>
    have hz:z∈a.ways:=by rw [hy];simp
    exact absurd ((h1 z hz).trans hr) (h z (hw z hz))
 cases a<;>first | (cases ha;done) | (exact absurd rfl (hn _ _)) | skip
 all_goals
  simp only [lose]
  rw [key _ (by simp [PV.ways];done) (by simp [PV.ways])]
  rfl
section
variable {P:Program} {w0 w:World} {U Φ0 Φ:Nat→Prop} {nt:Nat} {hv:Hid} {a:Act} {e e':Env} {rv:Nat→Value} {E:Nat→PV} {L:Nat→List Nat} {o:zAL}
theorem zP4 (S:St w0 U Φ0 nt hv a w e Φ rv E L) (hb:zBE E) {d:Option Nat} (hd:∀ x,d=some x→x<nt) {tk:Bool} {t:TypeId} {x:Operand} (hx:zAY nt x=true) (h:(zNS P tk d t x).run o e=some e') :
  ∃ v,(Instr.loadAt t (a.eval x)).run P w = .ok v w∧Fr w0 U Φ0 nt hv (a.put d v) w e':=by
 obtain ⟨sh,je,h1⟩:=zBK h
 obtain ⟨p,h2,hp⟩:=zBG S hx h1
 cases tk with
 | false=>exact zNH S hb hd je hp h2
 | true =>
  simp only [cond_true] at h2
  split at h2
  ·rename_i r pre i c s'
   obtain ⟨b,u,q,yE,h3,h4,h5⟩:=zKW S je hp h2
   have S1:=S.hold (Nat.le_refl zAd) h5
   obtain ⟨e1,rv1,E1,h6,W⟩:=zQV S1 (g:=zAd) (Nat.le_refl _) (by rw [zAh];exact h4)
   obtain ⟨Φ1,L1,S2⟩:=W.st
   have:=zFM S2 hd (g:=zAd) (Nat.le_refl _) h6 (fun s hs hI=>by rw [(W.rest s hs hI).1,zAf hI];exact hb s hs)
   rw [W.val,zAh] at this
   refine ⟨u,?_,this⟩
   rw [yE]
   simp only [Instr.loadAt,Instr.sureAddr,Sem.run_bind,Sem.run_pure,Result.andThen_ok]
   exact h3
  ·exact zNH S hb hd je hp h2
theorem St.layPart (S:St w0 U Φ0 nt hv a w e Φ rv E L) {d i g:Nat} (hd:d<nt) (hi:i<16) (hg:zAd≤g) (hEd:∀ ps,E d ≠ .tup ps) {k:PM} (h:(lay (zBv d i) (E g) k).run o e=some e') :
  ∃ e1 E1 L1,k.run o e1=some e'∧St w0 U Φ0 nt hv a w e1 Φ (upd rv (zBv d i) (rv g)) E1 L1∧(∀ ps,E1 d ≠ .tup ps)∧E1 g = .bad∧∀ s,zAd≤s→s≠g→(∀ x∈(E s).ways,x.1≠zBv d i)→E1 s=E s:=by
 have kS:=S.small
 have yi:zBv d i<zAm:=by simp only [zBv,zAm];omega
 obtain ⟨e1,E1,L1,h1,h2,h3,h4,h5,h6,h7⟩:=zSY S yi hg h
 have qD:∀ d' ps,d'<2000000→E1 d' = .tup ps→∃ ps',E d' = .tup ps'∧ps'.length=ps.length:=by
  intro d' ps wA hp
  have hI:d'≠zBv d i:=by simp only [zBv];omega
  rcases h4 d' hI (by simp only [zAd];omega) with h8 | h8
  ·exact ⟨ps,by rw [← h8];exact hp,rfl⟩
  ·rw [h8] at hp;exact zDP (zIp _ _) hp
 refine ⟨e1,E1,L1,h1,⟨h2,h3,S.size,S.small,fun t ht=>?_,fun d' ps j wA hp hj=>?_,fun s uv uu=>?_,S.dfr⟩,fun ps hp=>?_,h6,fun s hs hI hw=>?_⟩
 ·rw [zAf (by simp only [zBv];omega)];exact S.tmps t ht
 ·obtain ⟨ps',h8,h9⟩:=qD d' ps (by omega) hp
  obtain ⟨h10,vs,h11,h12⟩:=S.parts d' ps' j wA h8 (by omega)
  have vw:d'≠d:=fun hc=>hEd ps' (hc▸h8)
  refine ⟨h10,vs,by rw [zAf (by simp only [zBv];omega)];exact h11,?_⟩
  rw [zAf fun hc=>vw (zGV hc h10 hi).1];exact h12
 ·rw [zAf (by omega)];exact S.hid s uv uu
 ·obtain ⟨ps',h8,_⟩:=qD d ps (by omega) hp
  exact hEd ps' h8
 ·rcases h7 s hs hI with h8 | h8
  ·exact h8
  ·rw [h8];exact zRd hw
theorem St.empty (S:St w0 U Φ0 nt hv a w e Φ rv E L) {d:Nat} (hd:d<nt):∃ L',St w0 U Φ0 nt hv a w (e.set d .bad) Φ rv (upd E d .bad) L':=by
 have kS:=S.small
 have hc:=S.conf.drop fun s=>s==d
 have hE:(fun s=>if (s==d)=true then PV.bad else E s)=upd E d .bad:=by
  funext s;by_cases hs:s=d<;>simp [upd,hs]
 rw [hE] at hc
 refine ⟨_,S.turn hc (fun s hs=>?_) (fun _ _=>rfl) (fun d' ps wA hp=>?_)⟩
 ·rw [Env.get_set]
  by_cases wY:s=d
  ·subst wY;rw [zAh,if_pos rfl]
  ·rw [zAf wY,if_neg wY];exact S.env s hs
 ·by_cases vw:d'=d
  ·subst vw;rw [zAh] at hp;cases hp
  ·rw [zAf vw] at hp;exact ⟨ps,hp,rfl⟩
theorem St.mark (S:St w0 U Φ0 nt hv a w e Φ rv E L) (hb:zBE E) {d n:Nat} (hd:d<nt) (hn:n≤16) {vs:Array Value} (hs:vs.size=n) (hp:∀ i,i<n→vs[i]? = some (rv (zBv d i))) :
  Fr w0 U Φ0 nt hv (a.put (some d) (.tuple vs)) w (e.set d (.tup (List.replicate n .bad))):=by
 have kS:=S.small
 have hH:Rep w Φ (zA7 w rv E) (.tup (List.replicate n .bad)) (.tuple vs) []:=by
  refine ⟨vs,rfl,?_⟩
  have key:∀ (n:Nat) (us:List Value),us.length=n→zA3 w Φ (zA7 w rv E) (List.replicate n .bad) us []:=by
   intro n
   induction n with
   | zero=>intro us h;rw [List.eq_nil_of_length_eq_zero h];exact ⟨rfl,rfl⟩
   | succ n ih =>
    intro us h
    match us,h with
    | u::us,h=>exact ⟨u,us,[],[],rfl,rfl,rfl,ih us (by simpa using h)⟩
  exact key n vs.toList (by simpa using hs)
 have kI:(PV.tup (List.replicate n .bad)).heavy=false:=by
  have key:∀ n,zCY (List.replicate n .bad)=false:=by
   intro n
   induction n with
   | zero=>rfl
   | succ n ih=>simp [List.replicate_succ,zCY,PV.heavy,ih]
  exact key n
 have hc:=S.conf.put (s:=d) kI hH
 have LC:d<a.tmps.size:=by rw [S.size];exact hd
 refine ⟨_,_,_,_,⟨hc,fun s hs=>?_,by simp only [Act.put,Array.size_setIfInBounds];exact S.size,S.small,fun t ht=>?_,fun d' ps j wA jQ hj=>?_,fun s uv uu=>?_,S.dfr⟩,fun g hg=>?_⟩
 ·rw [Env.get_set]
  by_cases wY:s=d
  ·subst wY;rw [zAh,if_pos rfl]
  ·rw [zAf wY,if_neg wY];exact S.env s hs
 ·rw [Act.put_tmps a LC]
  by_cases vZ:t=d
  ·subst vZ;simp [zAh]
  ·rw [if_neg vZ,zAf vZ];exact S.tmps t ht
 ·by_cases vw:d'=d
  ·subst vw
   rw [zAh] at jQ
   simp only [PV.tup.injEq] at jQ
   rw [← jQ] at hj
   simp only [List.length_replicate] at hj
   exact ⟨by omega,vs,zAh,by rw [zAf (by simp only [zBv];omega)];exact hp j hj⟩
  ·rw [zAf vw] at jQ
   obtain ⟨h10,us,h11,h12⟩:=S.parts d' ps j wA jQ hj
   exact ⟨h10,us,by rw [zAf vw];exact h11,by rw [zAf (by simp only [zBv];omega)];exact h12⟩
 ·rw [zAf (by simp only [zAm] at uv;omega)];exact S.hid s uv uu
 ·rw [zAf (by simp only [zAd] at hg;omega)];exact hb g hg
theorem zHO {s d:Nat} (hd:d<nt) (hs:s<nt) {vs:Array Value}:∀ (n i:Nat) {e:Env} {rv:Nat→Value} {E:Nat→PV} {L:Nat→List Nat},St w0 U Φ0 nt hv a w e Φ rv E L→zBE E→(∀ ps,E d ≠ .tup ps)→i+n≤16→vs.size=i+n →
  (∀ j,j<i→vs[j]? = some (rv (zBv d j)))→(∀ j,i≤j→j<i+n→vs[j]? = some (rv (zBv s j)))→(zFs s d i n).run o e=some e'→Fr w0 U Φ0 nt hv (a.put (some d) (.tuple vs)) w e'
 | 0,i,e,rv,E,L,S,hb,hE,h16,yC,h1,h2,h=>by
  simp only [zFs,PM.run,Option.some.injEq] at h;subst h
  exact S.mark hb hd (by omega) (by simpa using yC) h1
 | n + 1,i,e,rv,E,L,S,hb,hE,h16,yC,h1,h2,h=>by
  have kS:=S.small
  have gW:zBv s i<zAd:=by simp only [zBv,zAd];omega
  simp only [zFs,PM.run] at h
  split at h
  ·cases h
  ·have hc:=S.conf.take (s:=zBv s i) (g:=zAd) gW (Nat.le_refl _)
   have S1:=S.turn (e':=e.set (zBv s i) .bad) hc (fun t ht=>by
    rw [zAf (by omega),Env.get_set]
    by_cases uf:t=zBv s i
    ·subst uf;rw [zAh,if_pos rfl]
    ·rw [zAf uf,if_neg uf];exact S.env t ht) (fun t ht=>zAf (by omega)) (fun d ps hd hp=>by
    rw [zAf (by simp only [zAd];omega),zAf (by simp only [zBv];omega)] at hp;exact ⟨ps,hp,rfl⟩)
   obtain ⟨e2,E2,L2,k1,S2,k2,k3,k4⟩:=S1.layPart (i:=i) (g:=zAd) hd (by omega) (Nat.le_refl _) (fun ps hp=>by
    rw [zAf (by simp only [zAd];omega),zAf (by simp only [zBv];omega)] at hp;exact hE ps hp) (by rw [zAh,S.env _ gW];exact h)
   have j9:∀ t,t<zAd→upd (upd rv zAd (rv (zBv s i))) (zBv d i) (upd rv zAd (rv (zBv s i)) zAd) t=if t=zBv d i then rv (zBv s i) else rv t:=by
    intro t ht
    by_cases vZ:t=zBv d i
    ·subst vZ;rw [zAh,zAh,if_pos rfl]
    ·rw [zAf vZ,zAf (by omega),if_neg vZ]
   have yI:∀ x j,x<nt→j<16→zBv x j<zAd:=by intro x j hx hj;simp only [zBv,zAd];omega
   refine zHO hd hs n (i+1) S2 (fun t ht=>?_) k2 (by omega) (by omega) (fun j hj=>?_) (fun j hj1 hj2=>?_) k1
   ·by_cases yc:t=zAd
    ·subst yc;exact k3
    ·rw [k4 t ht yc (by rw [zAf yc,zAf (by omega),hb t ht];simp [PV.ways]),zAf yc,zAf (by omega)];exact hb t ht
   ·rw [j9 _ (yI d j hd (by omega))]
    by_cases v8:j=i
    ·subst v8;rw [if_pos rfl];exact h2 j (by omega) (by omega)
    ·rw [if_neg fun hc=>v8 (zGV hc (by omega) (by omega)).2];exact h1 j (by omega)
   ·rw [j9 _ (yI s j hs (by omega)),if_neg fun hc=>by have:=(zGV hc (by omega) (by omega)).2;omega]
    exact h2 j (by omega) (by omega)
theorem zTV (S:St w0 U Φ0 nt hv a w e Φ rv E L) (hb:zBE E) {d:Option Nat} (hd:∀ x,d=some x→x<nt) {t:TypeId} {x:Operand} (hx:zAY nt x=true) (h:(zPC P d t x).run o e=some e'):Fr w0 U Φ0 nt hv (a.put d (a.eval x)) w e':=by
 have gen:(opd x (put d)).run o e=some e'→Fr w0 U Φ0 nt hv (a.put d (a.eval x)) w e':=by
  intro h
  obtain ⟨p,h1,h2⟩:=zBG S hx h
  exact zAF S hb hd h1 h2
 simp only [zPC] at h
 split at h
 ·simp only [zR7] at h
  split at h
  ·exact zAF S hb hd h (.inl ⟨rfl,rfl,rfl⟩)
  ·cases h
 ·rename_i s
  have hs:s<nt:=zB5 hx
  have kS:=S.small
  have y6:(s:Nat)<zAd:=Nat.lt_of_lt_of_le hs (Nat.le_trans S.small (by decide))
  simp only [zLi] at h
  split at h
  ·rename_i ts d' _
   simp only [PM.run] at h
   split at h
   ·cases h
   ·split at h
    ·rename_i ps y7
     obtain ⟨⟨hO,h16⟩,h1⟩:=zDa h
     simp only [PM.run] at h1
     have hE:E s = .tup ps:=by rw [S.env s y6,y7]
     have hH:=S.conf.rep s
     rw [hE] at hH
     obtain ⟨vs,ue,hr⟩:=hH
     have vA:vs.size=ps.length:=by have:=hr.length;simpa using this
     have vY:a.eval (.tmp s) = .tuple vs:=by rw [← ue];exact S.tmps s hs
     obtain ⟨L',S1⟩:=S.empty (hd d' rfl)
     rw [vY]
     refine zHO (vs:=vs) (hd d' rfl) hs ts.size 0 S1 (fun g hg=>?_) (fun ps hp=>by rw [zAh] at hp;cases hp) (by omega) (by omega) (fun j hj=>by omega) (fun j _ hj=>?_) h1
     ·rw [zAf (by have:=hd d' rfl;simp only [zAd] at hg;omega)];exact hb g hg
     ·obtain ⟨_,us,g1,g2⟩:=S.parts s ps j hs hE (by omega)
      rw [ue] at g1;cases g1;exact g2
    ·cases h
  ·exact gen h
 ·exact gen h
theorem zGE {d:Nat} (hd:d<nt) {vs:Array Value}:∀ (ps:List PV) (i:Nat) {e:Env} {rv:Nat→Value} {E:Nat→PV} {L:Nat→List Nat},St w0 U Φ0 nt hv a w e Φ rv E L→(∀ ps,E d ≠ .tup ps)→i+ps.length≤16→vs.size=i+ps.length →
  (∀ j p,ps[j]? = some p→E (zAd+i+j)=p∧vs[i+j]? = some (rv (zAd+i+j)))→(∀ g,zAd≤g→(∀ j,j<ps.length→g≠zAd+i+j)→E g = .bad)→(∀ x∈zBB ps,zJw d x.1=false) →
  (∀ j,j<i→vs[j]? = some (rv (zBv d j)))→(zES d i ps .ok).run o e=some e'→Fr w0 U Φ0 nt hv (a.put (some d) (.tuple vs)) w e'
 | [],i,e,rv,E,L,S,hE,h16,yC,hp,hb,hw,h1,h=>by
  simp only [zES,PM.run,Option.some.injEq] at h;subst h
  exact S.mark (fun g hg=>hb g hg (by simp)) hd (by simpa using h16) (by simpa using yC) h1
 | p :: ps,i,e,rv,E,L,S,hE,h16,yC,hp,hb,hw,h1,h=>by
  have kS:=S.small
  simp only [List.length_cons] at h16 yC
  obtain ⟨q1,q2⟩:=hp 0 p rfl
  simp only [Nat.add_zero] at q1 q2
  simp only [zES] at h
  rw [← q1] at h
  obtain ⟨e2,E2,L2,k1,S2,k2,k3,k4⟩:=S.layPart (i:=i) (g:=zAd+i) hd (by omega) (by omega) hE h
  have hvd:zBv d i<zAd:=by simp only [zBv,zAd];omega
  have hinp:∀ j,j<16→zJw d (zBv d j)=true:=by
   intro j hj
   simp only [zJw,Bool.and_eq_true]
   exact ⟨Nat.ble_eq_true_of_le (by simp only [zBv];omega),Nat.ble_eq_true_of_le (by simp only [zBv];omega)⟩
  have hkeep:∀ j p',ps[j]? = some p'→E2 (zAd+(i+1)+j)=p':=by
   intro j p' hj
   obtain ⟨q3,_⟩:=hp (j+1) p' (by simpa using hj)
   have e1:zAd+i+(j+1)=zAd+(i+1)+j:=by omega
   rw [e1] at q3
   rw [k4 _ (by omega) (by omega) (fun x hx hc=>?_),q3]
   rw [q3] at hx
   have:=hw x (by
    simp only [zBB,List.mem_append]
    exact .inr (zMA (List.mem_of_getElem? hj) hx))
   rw [hc,hinp i (by omega)] at this;cases this
  refine zGE hd ps (i+1) S2 k2 (by omega) (by omega) (fun j p' hj=>⟨hkeep j p' hj,?_⟩) (fun g hg hI=>?_) (fun x hx=>hw x (by simp [zBB,hx])) (fun j hj=>?_) k1
  ·obtain ⟨_,q4⟩:=hp (j+1) p' (by simpa using hj)
   have e1:zAd+i+(j+1)=zAd+(i+1)+j:=by omega
   have e2:i+(j+1)=i+1+j:=by omega
   rw [e1,e2] at q4
   rw [zAf (by omega)];exact q4
  ·by_cases hgi:g=zAd+i
   ·subst hgi;exact k3
   ·have vB:E g = .bad:=hb g hg fun j hj hc=>by
     cases j with
     | zero=>exact hgi (by simpa using hc)
     | succ j=>exact hI j (by simpa using hj) (by omega)
    rw [k4 g hg hgi (by rw [vB];simp [PV.ways]),vB]
  ·by_cases v8:j=i
   ·subst v8;rw [zAh];exact q2
   ·rw [zAf fun hc=>v8 (zGV hc (by omega) (by omega)).2];exact h1 j (by omega)
end
end Go.Eng
namespace Go.Eng
open Go
section
variable {P:Program} {w0 w:World} {U Φ0 Φ:Nat→Prop} {nt:Nat} {hv:Hid} {a:Act} {e e':Env} {rv:Nat→Value} {E:Nat→PV} {L:Nat→List Nat} {o:zAL} {A:Al}
theorem zOl {r:Nat} {pre:zAV} {z lo n i:Nat} {sh:Option Nat} {v:Value} (hp:Rep w Φ (zA7 w rv E) (.bor r pre z lo n) v []) (yI:i<n) :
  ∃ b cap,v = .slice (some b) n cap∧b.spot=none∧Rep w Φ (zA7 w rv E) (.addr r pre (lo+i) 0 sh) (.pointer (some (b.add (i*z)))) []:=by
 obtain ⟨_,hg,⟨x,cap,rfl,yO,yX,y4⟩,hn⟩:=hp
 cases x with
 | none=>have:=yX rfl;omega
 | some b =>
  refine ⟨b,cap,rfl,y4 b rfl,rfl,hg,b.add (i*z),rfl,by rw [zBW (y4 b rfl)];rfl,fun nv np hf a' ha=>?_⟩
  have hh:np.heavy0=true:=by cases np<;>first | rfl | (simp [zA8] at ha;done)
  obtain ⟨sz,xs,h3,h4,h5⟩:=hn nv np hf hh
  subst h3;subst h4
  cases nv<;>simp only [zBY] at h5
  rename_i y l c
  cases y with
  | none=>cases ha
  | some y =>
   simp only [zBY,Value.slice.injEq,Option.some.injEq] at h5
   simp only [zA8,Option.some.injEq] at ha
   rw [← ha,zBW (y4 b rfl),h5.1.1]
   simp [zAz,Nat.add_mul,Nat.add_assoc]
theorem zJi {p:PV} (h:p.plain=true):∀ q∈p.cells,q.oneCell=true:=by
 have h0:∀ p:PV,p.plain0=true→p.oneCell=true:=by intro p h;cases p<;>first | rfl | cases h
 cases p<;>first | (intro q hq;simp only [PV.cells,List.mem_singleton] at hq;subst hq;exact h0 _ h) | skip
 rename_i cs
 intro q hq
 simp only [PV.plain,List.all_eq_true] at h
 exact h0 q (h q hq)
theorem zKs {row:Array Value} {o:Nat} {xs ys:List Value} (h:o+xs.length+ys.length≤row.size):zBg (zBg row o xs) (o+xs.length) ys=zBg row o (xs++ys):=by
 apply Array.ext'
 simp only [zBg,List.length_append]
 rw [List.take_append_of_le_length (by simp;omega),List.take_of_length_le (by simp;omega)]
 have:List.drop (o+xs.length+ys.length) (List.take o row.toList++xs++List.drop (o+xs.length) row.toList)=List.drop (o+(xs.length+ys.length)) row.toList:=by
  rw [List.drop_append,List.drop_of_length_le (by simp;omega)]
  simp
  congr 1;omega
 rw [this];simp
theorem zKS {p:PV} (h:p.plain=true):p.heavy=false∧p.ways=[]:=by
 have h0:∀ p:PV,p.plain0=true→p.heavy=false∧p.ways=[]:=by
  intro p h
  cases p<;>first | (cases h;done) | exact ⟨rfl,rfl⟩ | skip
  simp only [PV.plain0] at h
  exact ⟨rfl,by simpa [PV.ways] using h⟩
 cases p<;>first | exact h0 _ h | skip
 rename_i cs
 simp only [PV.plain] at h
 have key:∀ cs:List PV,cs.all PV.plain0=true→zCY cs=false∧zBB cs=[]:=by
  intro cs
  induction cs with
  | nil=>intro _;exact ⟨rfl,rfl⟩
  | cons c cs ih =>
   intro h
   simp only [List.all_cons,Bool.and_eq_true] at h
   obtain ⟨h1,h2⟩:=h0 c h.1
   obtain ⟨h3,h4⟩:=ih h.2
   exact ⟨by simp [zCY,h1,h3],by simp [zBB,h2,h4]⟩
 exact key cs h
theorem zKN {r:Nat} {pre:zAV} {z lo n:Nat} {v:Value} {k:PM} (hz:0<z):∀ (ys:List PV) (us:List Value) (j:Nat) {w:World} {e:Env} {rv:Nat→Value} {E:Nat→PV} {L:Nat→List Nat},St w0 U Φ0 nt hv a w e Φ rv E L→E (zAd+2) = .bor r pre z lo n→rv (zAd+2)=v→(∀ s,zAd≤s→s≠zAd+2→E s = .bad) →
  (∀ y∈ys,y.plain=true∧y.cells.length=z)→(us.map zCj=ys.map PV.isAgg)→zA3 w Φ zCl ys us []→j+ys.length≤n→(zGj r pre (lo+j) ys k).run o e=some e' →
  ∃ w1 e1 rv1 E1 L1,k.run o e1=some e'∧St w0 U Φ0 nt hv a w1 e1 Φ rv1 E1 L1∧(∀ s,zAd≤s→s≠zAd+2→E1 s = .bad)∧(E1 (zAd+2) = .bor r pre z lo n∧rv1 (zAd+2)=v) ∧
   (ys=[]∧w1=w∨∃ b cap row,v = .slice (some b) n cap∧b.spot=none∧zE0 w b.block row∧b.off+j*z+(flat us).length≤row.size∧(∀ u∈flat us,u.oneCell'=true)∧w1=w.setRow b.block (zBg row (b.off+j*z) (flat us)))
 | [],us,j,w,e,rv,E,L,S,hE,j9,hb,hy,j5,hr,hl,h=>⟨w,e,rv,E,L,h,S,hb,⟨hE,j9⟩,.inl ⟨rfl,rfl⟩⟩
 | y :: ys,us,j,w,e,rv,E,L,S,hE,j9,hb,hy,j5,hr,hl,h=>by
  obtain ⟨u,us',L1,L2,rfl,hL,kZ,jl⟩:=hr
  have vV:=List.append_eq_nil_iff.1 hL.symm
  obtain ⟨rfl,rfl⟩:=vV
  simp only [List.map_cons,List.cons.injEq] at j5
  simp only [zGj] at h
  obtain ⟨ug,hyz⟩:=hy y (by simp)
  obtain ⟨kI,yj⟩:=zKS ug
  have wZ:=S.conf.rep (zAd+2)
  rw [hE,j9] at wZ
  have ud:L (zAd+2)=[]:=wZ.1
  rw [ud] at wZ
  obtain ⟨b,cap,hv,yZ,kf⟩:=zOl (sh:=none) wZ (i:=j) (by simp at hl;omega)
  have S1:=S.hold (g:=zAd) (Nat.le_refl _) (p:=y) (v:=u) (kZ.mono zDj.refl (fun _ _ _ h=>h.elim) (by simp))
  have qE:=S1.conf.rep (zAd+2)
  rw [zAf (show zAd+2≠zAd by omega),zAf (show zAd+2≠zAd by omega),zAf (show zAd+2≠zAd by omega),hE,j9,ud] at qE
  obtain ⟨b0,cap0,wC,_,v9⟩:=zOl (sh:=none) qE (i:=j) (by simp at hl;omega)
  rw [hv] at wC
  simp only [Value.slice.injEq,Option.some.injEq] at wC
  rw [← wC.1] at v9
  obtain ⟨b',row,e1,E1,L1,yE,hsp',yA,hZ,yL,h1,S2,kG,qb,hg3,jD⟩:=S1.write (g:=zAd) (Nat.le_refl _) v9 (.inl (by rw [zAh];exact kI)) (by rw [zAh];exact zJi ug) (by rw [zAh,hyz];omega) (by rw [zAh,zAh];exact j5.1) (k:=zGj r pre (lo+(j+1)) ys k) (by rw [zAh];exact h)
  cases yE
  have hub:u.cells.size=z:=by
   have h1:us'.length=ys.length:=jl.length
   have:=((kZ.mono (A':=zCl) zDj.refl (fun _ _ _ h=>h) (by simp)).cellsAll j5.1).length
   simpa [hyz] using this
  have jN:b.add (j*z)=⟨b.block,b.off+j*z,none⟩:=by rw [zBW yZ];rfl
  rw [jN] at yA hZ jD S2
  rw [zAh] at hZ yL S2
  simp only at yA hZ jD S2
  have hnΦ:¬ Φ b.block:=(S1.conf.own _ _ jD).2.1
  have v4:E1 (zAd+2) = .bor r pre z lo n:=by
   rw [hg3 _ (by omega) (by omega),zAf (show zAd+2≠zAd by omega),zAh,hE]
   show zDI _ _ _ _ _ _=_
   exact zJj (zJ0) kI _
  obtain ⟨w1,e2,rv2,E2,L2,k1,k2,k3,k3',k4⟩:=zKN hz ys us' (j+1) S2 v4 (by rw [zAf (show zAd+2≠zAd by omega),j9]) (fun s hs hI=>by
   by_cases y6:s=zAd
   ·subst y6;exact kG
   ·exact qb s hs y6 (by rw [zAf y6];exact hb s hs hI)) (fun y u7=>hy y (by simp [u7])) j5.2 (jl.mono (fun b' yE=>⟨yE,setRow_other w _ _ _ (fun hc:b'=b.block=>hnΦ (hc▸yE))⟩) (fun _ _ _ h=>h) (by simp)) (by simp at hl;omega) h1
  refine ⟨w1,e2,rv2,E2,L2,k1,k2,k3,k3',.inr ⟨b,cap,row,hv,yZ,yA,?_⟩⟩
  have jn:flat (u::us')=u.cells.toList++flat us':=by simp [flat]
  have wV:u.cells.toList.length=z:=by simpa using hub
  rcases k4 with ⟨rfl,rfl⟩ | ⟨b2,cap2,row2,kX,_,hrow2,uK,hone2,rfl⟩
  ·have:us'=[]:=List.eq_nil_of_length_eq_zero (by have:=jl.length;simpa using this)
   subst this
   rw [jn];simp only [flat,List.flatMap_nil,List.append_nil]
   refine ⟨by rw [wV];omega,yL,?_⟩;first | rfl | trivial
  ·rw [hv] at kX
   simp only [Value.slice.injEq,Option.some.injEq] at kX
   obtain ⟨rfl,_⟩:=kX
   have j7:zE0 (w.setRow b.block (zBg row (b.off+j*z) u.cells.toList)) b.block (zBg row (b.off+j*z) u.cells.toList):=by
    obtain ⟨el,yd⟩:=yA;exact ⟨el,setRow_heap w _ _ _ el _ yd⟩
   have:row2=zBg row (b.off+j*z) u.cells.toList:=by
    obtain ⟨e1,h1⟩:=j7;obtain ⟨e2,h2⟩:=hrow2
    rw [h1] at h2;cases h2;rfl
   subst this
   rw [zGl (by rw [wV];omega)] at uK
   have qp:b.off+(j+1)*z=b.off+j*z+u.cells.toList.length:=by rw [wV,Nat.add_mul];omega
   rw [qp] at uK ⊢
   refine ⟨by rw [jn,List.length_append];omega,fun x hx=>?_,?_⟩
   ·rw [jn] at hx
    rcases List.mem_append.1 hx with h | h
    ·exact yL x h
    ·exact hone2 x h
   ·rw [setRow_setRow,zKs uK,jn]
end
end Go.Eng
namespace Go.Eng
open Go
section
variable {P:Program} {w:World}
theorem zD1 {t t2 ty el e2:TypeId} {i:TypeInfo} (ht:P.underlying t=some (.slice el)) (kg:P.underlying t2=some (.slice e2)) (hi:P.info? el=some i) {a xb:Option Addr} {sLen sCap n xc:Nat} {news:List Value}
  (uh:(Builtin.firstCells i.size n (.slice xb n xc)).run P w = .ok news.toArray w) (hZ:sLen+n≤sCap) (w':World) (yQ:∀ b,a=some b→(storeCells (b.add (sLen*i.size)) news).run P w = .ok () w') (kQ:a=none→w'=w) :
  (Builtin.append_ #[t,t2] ty #[.slice a sLen sCap,.slice xb n xc]).run P w = .ok (.slice a (sLen+n) sCap) w':=by
 cases a with
 | none =>
  rw [kQ rfl]
  simp [Builtin.append_,run_underlying ht,run_underlying kg,sizeOf,typeInfo,hi,Builtin.lenOf,hZ,uh]
 | some b =>
  have:=yQ b rfl
  simp [Builtin.append_,run_underlying ht,run_underlying kg,sizeOf,typeInfo,hi,Builtin.lenOf,hZ,uh,this]
theorem zFj {t t2 ty el e2:TypeId} {i:TypeInfo} {z:Value} (ht:P.underlying t=some (.slice el)) (kg:P.underlying t2=some (.slice e2)) (hi:P.info? el=some i) (hz:i.zero=some z) {a xb:Option Addr} {sLen sCap n xc:Nat} {old news:List Value}
  (hold:(Builtin.firstCells i.size sLen (.slice a sLen sCap)).run P w.drew = .ok old.toArray w.drew) (uh:(Builtin.firstCells i.size n (.slice xb n xc)).run P w.drew = .ok news.toArray w.drew)
  (hZ:¬ sLen+n≤sCap) (h32:sLen+n≤4294967296) (w5:i.bytes≤16384) :
  (Builtin.append_ #[t,t2] ty #[.slice a sLen sCap,.slice xb n xc]).run P w =
   .ok (.slice (some ⟨w.heap.size,0,none⟩) (sLen+n) (grownCap w (sLen+n) sCap el)) (w.drew.alloc (.cells (old.toArray++news.toArray++Builtin.zeroCells z.cells (grownCap w (sLen+n) sCap el-(sLen+n))) el)):=by
 have hgr':¬ (281474976710656<Builtin.nextslicecap (sLen+n) sCap*i.bytes):=by
  have h1:(sLen+n)*i.bytes≤4294967296*16384:=Nat.mul_le_mul h32 w5
  have:=growslice_fits (need:=sLen+n) (old:=sCap) (bytes:=i.bytes) (by omega) (by omega)
  omega
 have h63':¬ (9223372036854775807<((sLen:Int)+(n:Int))):=by omega
 simp [Builtin.append_,run_underlying ht,run_underlying kg,sizeOf,typeInfo,zeroValue,hi,hz,Builtin.lenOf,hZ,h63',hgr',Question.forced,hold,uh,newRow,grownCap]
 congr 2
 apply Array.ext'
 simp [List.append_assoc]
end
section
variable {P:Program} {w0 w:World} {U Φ0 Φ:Nat→Prop} {nt:Nat} {hv:Hid} {a:Act} {e e':Env} {rv:Nat→Value} {E:Nat→PV} {L:Nat→List Nat} {o:zAL}
structure Listed (w:World) (Φ:Nat→Prop) (v:Value) (ys:List PV) (us:List Value) (Ly:List Nat):Prop where
 val:∃ xb xc,v = .slice xb ys.length xc∧∀ sz,(∀ y∈ys,y.cells.length=sz)→∀ (P:Program) (w1:World),(∀ t,w1.cell? t=w.cell? t)→(Builtin.firstCells sz ys.length v).run P w1 = .ok (flat us).toArray w1
 reps:zA3 w Φ zCl ys us Ly
 size:∀ sz,(∀ y∈ys,y.cells.length=sz)→∀ u∈us,u.cells.size=sz
 agg:us.map zCj=ys.map PV.isAgg
theorem zIq {b:Addr} {n xc sz:Nat} {us:List Value} (yZ:b.spot=none) {row:Array Value} (yA:zII w b.block row) (hl:us.length=n) (yC:∀ u∈us,u.cells.size=sz) (h:seg row b.off (n*sz)=flat us) (P:Program) (w1:World) (hw:∀ t,w1.cell? t=w.cell? t) :
  (Builtin.firstCells sz n (.slice (some b) n xc)).run P w1 = .ok (flat us).toArray w1:=by
 refine run_firstCells_some w1 sz n b n xc (flat us) (by rw [zBq yC,hl]) fun j v hj=>?_
 rw [hw]
 exact zHK yZ yA (by rw [zBq yC,hl];exact h) j v hj
theorem zEL {v:Value} {xb:Option Addr} {xc:Nat} (hv:v = .slice xb 0 xc):Listed w Φ v [] [] []:=by
 refine ⟨⟨xb,xc,hv,fun sz _ P w1 _=>?_⟩,⟨rfl,rfl⟩,by simp,rfl⟩
 subst hv
 cases xb with
 | none=>exact run_firstCells_none w1 sz 0 0 xc
 | some b=>exact run_firstCells_some w1 sz 0 b 0 xc [] (by simp) (by simp)
theorem zF1 {A:Al}:∀ {ys:List PV} {us:List Value} {Ly:List Nat},(∀ y∈ys,y.plain=true)→zA3 w Φ A ys us Ly→Ly=[]
 | [],_,_,_,h=>h.2
 | y::ys,us,Ly,hp,h=>by
  obtain ⟨v,vs,L1,L2,rfl,rfl,h1,h2⟩:=h
  rw [zDb _ _ _ (zKS (hp y (by simp))).1 h1,zF1 (fun z hz=>hp z (by simp [hz])) h2];rfl
theorem zO9 {c:Array Value} {o m n:Nat} (h:m≤n):seg c o m=(seg c o n).take m:=by
 simp only [seg,List.take_take];rw [Nat.min_eq_left h]
theorem zMu (S:St w0 U Φ0 nt hv a w e Φ rv E L) {p:PV} {v:Value} (hp:Rep w Φ (zA7 w rv E) p v []) {k:List PV→PM} (h:(zGJ p k).run o e=some e'):∃ ys us Ly,(k ys).run o e=some e'∧Listed w Φ v ys us Ly:=by
  cases p<;>simp only [zGJ] at h<;>try (cases h;done)
  case nils=>exact ⟨[],[],[],h,zEL hp.1⟩
  case nn =>
    obtain ⟨_,b,n,yB⟩:=hp
    exact ⟨[],[],[],h,zEL yB⟩
  case sl xs =>
    obtain ⟨_,⟨rfl,b,n,yB,_⟩ | ⟨b,n,c,us,sz,yB,yZ,yJ,hΦ,yA,jO,⟨kR,wN⟩,j6,hr⟩⟩:=hp
    · exact ⟨[],[],[],h,zEL yB⟩
    · have hl:us.length=xs.length:=by have:=congrArg List.length wN;simpa using this
      refine ⟨xs,us,[],h,⟨some b,n,yB,fun sz' jF P w1 hw=>?_⟩,hr,fun sz' jF u hu=>?_,wN⟩
      · by_cases hx:xs=[]
        · subst hx
          have:us=[]:=List.eq_nil_of_length_eq_zero (by simpa using hl)
          subst this;subst yB
          exact run_firstCells_some w1 sz' 0 b 0 n [] (by simp) (by simp)
        · obtain ⟨y,ys,rfl⟩:=List.exists_cons_of_ne_nil hx
          have:sz'=sz:=by rw [← jF y (by simp),jO y (by simp)]
          subst this;subst yB
          exact zIq yZ yA hl kR j6 P w1 hw
      · cases xs with
        | nil => have h0:us=[]:=List.eq_nil_of_length_eq_zero (by simpa using hl)
                 rw [h0] at hu;cases hu
        | cons y ys=>rw [kR u hu,← jF y (by simp),jO y (by simp)]
  case bor r pre z lo n =>
    obtain ⟨_,hr,_,hn⟩:=hp
    obtain ⟨q,hq,h1⟩:=zBX h
    split at h1
    · rename_i sz xs
      obtain ⟨yJ,h2⟩:=zAU h1
      have yJ:=Nat.le_of_ble_eq_true yJ
      rw [← S.env r hr] at hq
      obtain ⟨nv,Li,hf,_,hH⟩:=zBM (zB4 (S.conf.rep r)) hq
      obtain ⟨sz2,xs2,g1,g2,g3⟩:=hn nv _ hf rfl
      cases g1;subst g2
      obtain ⟨q1,q2,q3⟩ | ⟨x,m,c,us,M,q0,q1,q2,q3,q4,q5,q6,⟨q7,q7'⟩,q8,q9⟩:=hH
      · subst q1;subst q3
        have jk:n=0:=by simp at yJ;omega
        subst jk
        simp only [zBY] at g3
        refine ⟨_,[],[],h2,?_⟩
        simp only [List.drop_nil,List.take_nil]
        exact zEL g3.1
      · subst q1
        simp only [zBY] at g3
        obtain ⟨yB,yO⟩:=g3
        have yu:us.length=xs.length:=by have:=congrArg List.length q7';simpa using this
        obtain ⟨Ly,_,wQ⟩:=zGD q9 lo n
        have hO:((xs.drop lo).take n).length=n:=by simp;omega
        have qF:((us.drop lo).take n).length=n:=by simp;omega
        refine ⟨_,(us.drop lo).take n,Ly,h2,⟨_,_,by rw [hO];exact yB,fun sz' jF P w1 hw=>?_⟩,wQ,fun sz' jF u hu=>?_,zA3.map_isAgg q7' lo n⟩
        · rw [hO,yB]
          by_cases jk:n=0
          · subst jk
            simp only [List.take_zero]
            exact run_firstCells_some w1 sz' 0 _ 0 _ [] (by simp) (by simp)
          · have:sz'=z:=by
              cases jO:(xs.drop lo).take n with
              | nil=>rw [jO] at hO;simp at hO;omega
              | cons y ys =>
                have hy:y∈(xs.drop lo).take n:=by rw [jO];simp
                rw [← jF y hy,q6 y (List.mem_of_mem_drop (List.mem_of_mem_take hy))]
            subst this
            exact zIq (b:=zAz x (lo*sz')) rfl q4.any qF (fun u hu=>q7 u (List.mem_of_mem_drop (List.mem_of_mem_take hu))) (zIa q7 yu q8 yJ) P w1 hw
        · cases jO:(xs.drop lo).take n with
          | nil =>
            rw [jO] at hO
            have h0:(us.drop lo).take n=[]:=List.eq_nil_of_length_eq_zero (by rw [qF];simpa using hO.symm)
            rw [h0] at hu;cases hu
          | cons y ys =>
            have hy:y∈(xs.drop lo).take n:=by rw [jO];simp
            rw [q7 u (List.mem_of_mem_drop (List.mem_of_mem_take hu)),← jF y hy,q6 y (List.mem_of_mem_drop (List.mem_of_mem_take hy))]
    · cases h1
  case bsl r pre i c sz ag n =>
    obtain ⟨_,hr,b,cap,yB,yO,yZ,hn⟩:=hp
    simp only [PM.run] at h
    split at h
    · rename_i g cs hq
      rw [← S.env r hr] at hq
      obtain ⟨nv,np,ad,us,h1,h2,h3,h4,h5,h6⟩:=S.conf.cells hr hq
      have:=hn nv np h1 ad h2;subst this
      obtain ⟨hc,h7⟩:=zAU h
      simp only [Bool.and_eq_true,zCk] at hc
      obtain ⟨⟨yK,qd⟩,ug⟩:=hc
      have yK:=Nat.eq_of_beq_eq_true yK
      have hw0:∀ (cs:List PV),cs.all (fun q=>q.plain0)=true→zBB cs=[]:=by
        intro cs
        induction cs with
        | nil=>intro _;rfl
        | cons c cs ih =>
          intro h
          simp only [List.all_cons,Bool.and_eq_true] at h
          have v3:c.ways=[]:=by
            have h0:=h.1
            cases c<;>first | (cases h0;done) | rfl | skip
            simpa [PV.plain0,PV.ways] using h0
          simp [zBB,v3,ih h.2]
      have vP:zA3 w Φ zCl cs us []:=h6.ways _ _ _ fun a v hw hx ha=>by
        rw [hw0 cs ug] at hx
        have h1:=zJg hw ha
        cases u9:a.ways with
        | nil=>exact absurd u9 h1
        | cons z zs=>have:=hx z (by rw [u9];simp);cases this
      obtain ⟨us',q1,q2,q3,q4,q5⟩:=zF5 (ag:=ag) (sz:=sz) (fun a v _ h=>h.elim) n cs us yK (fun j5=>by
        simp only [j5,Bool.false_or,Bool.and_eq_true] at qd
        exact ⟨Nat.eq_of_beq_eq_true qd.1,fun q hq=>List.all_eq_true.1 qd.2 q hq⟩) vP
      have hO:=zDT ag sz n cs
      refine ⟨_,us',[],h7,⟨some b,cap,by rw [hO];exact yB,fun sz' jF P w1 hw=>?_⟩,q1,fun sz' jF u hu=>?_,q4⟩
      · rw [hO,yB,q2]
        by_cases jk:n=0
        · subst jk
          have:us=[]:=List.eq_nil_of_length_eq_zero (by rw [h4];simp)
          subst this
          exact run_firstCells_some w1 sz' 0 b 0 cap [] (by simp) (by simp)
        · have:sz'=sz:=by
            cases jO:zCg ag sz n cs with
            | nil=>rw [jO] at hO;simp at hO;omega
            | cons y ys =>
              have hy:y∈zCg ag sz n cs:=by rw [jO];simp
              rw [← jF y hy,q5 y hy]
          subst this
          exact run_firstCells_some w1 sz' n b n cap us h4 (fun j v hj=>by rw [hw];exact h5 j v hj)
      · cases jO:zCg ag sz n cs with
        | nil =>
          have yu:us'.length=(zCg ag sz n cs).length:=q1.length
          rw [jO] at yu
          have h0:us'=[]:=List.eq_nil_of_length_eq_zero (by simpa using yu)
          rw [h0] at hu;cases hu
        | cons y ys =>
          have hy:y∈zCg ag sz n cs:=by rw [jO];simp
          rw [q3 u hu,← jF y hy,q5 y hy]
    · cases h
theorem zRy (S:St w0 U Φ0 nt hv a w e Φ rv E L) {g:Nat} (hg:zAd≤g) (uG:E g = .bad) {x:Operand} (hx:zAY nt x=true) {k:List PV→PM} (h:(zM0 x k).run o e=some e') :
  ∃ e1 rv1 E1 L1 ys us Ly,(k ys).run o e1=some e'∧St w0 U Φ0 nt hv a w e1 Φ rv1 E1 L1∧zUG g rv rv1 E E1 L L1∧Listed w Φ (a.eval x) ys us Ly∧Ly.Nodup∧∀ b∈Ly,b∈L1 g:=by
 have hLg:L g=[]:=by have:=S.conf.rep g;rw [uG] at this;exact this
 have copy:∀ {p:PV},Rep w Φ (zA7 w rv E) p (a.eval x) []→(zGJ p fun xs=>if xs.all (fun x=>x.plain) then k xs else .fail).run o e=some e' →
   ∃ e1 rv1 E1 L1 ys us Ly,(k ys).run o e1=some e'∧St w0 U Φ0 nt hv a w e1 Φ rv1 E1 L1∧zUG g rv rv1 E E1 L L1∧Listed w Φ (a.eval x) ys us Ly∧Ly.Nodup∧∀ b∈Ly,b∈L1 g:=by
  intro p hp h
  obtain ⟨ys,us,Ly,h1,h2⟩:=zMu S hp h
  obtain ⟨h3,h4⟩:=zDa h1
  have:Ly=[]:=zF1 (fun y hy=>List.all_eq_true.1 h3 y hy) h2.reps
  subst this
  exact ⟨e,rv,E,L,ys,us,[],h4,S,fun _ _ _=>⟨rfl,rfl,rfl⟩,h2,List.nodup_nil,by simp⟩
 cases x with
 | const v=>simp only [zM0] at h;obtain ⟨p,h1,h2⟩:=zBG S hx h;exact copy h2 h1
 | func f=>simp only [zM0] at h;obtain ⟨p,h1,h2⟩:=zBG S hx h;exact copy h2 h1
 | global f=>cases h
 | tmp t =>
  have ht:(t:Nat)<nt:=zB5 hx
  have yc:(t:Nat)<zAd:=Nat.lt_of_lt_of_le ht (Nat.le_trans S.small (by decide))
  have vY:a.eval (.tmp t)=rv t:=S.tmps t ht
  simp only [zM0,PM.run] at h
  split at h
  ·cases h
  ·split at h
   ·rename_i sz xs ke
    simp only [PM.run] at h
    have hE:E t = .own sz xs:=by rw [S.env t yc,ke]
    have hc:=S.conf.take (s:=t) (g:=g) yc hg
    have wx:t≠g:=by intro hc;subst hc;exact absurd yc (Nat.not_lt.2 hg)
    have S1:=S.turn (e':=e.set t .bad) hc (fun s hs=>by
     rw [zAf (by omega),Env.get_set]
     by_cases yQ:s=t
     ·subst yQ;rw [zAh,if_pos rfl]
     ·rw [zAf yQ,if_neg yQ];exact S.env s hs) (fun s hs=>zAf (by omega)) (fun d ps hd hp=>by
     rw [zAf (by simp only [zAd] at hg;omega)] at hp
     by_cases hdt:d=t
     ·subst hdt;rw [zAh] at hp;cases hp
     ·rw [zAf hdt] at hp;exact ⟨ps,hp,rfl⟩)
    have hH:=S.conf.rep t
    rw [hE] at hH
    have yS:=S.conf.nodup t
    have kh:zUG g rv (upd rv g (rv t)) E (upd (upd E t .bad) g (E t)) L (upd (upd L t []) g (L t)):=by
     intro s hs hI
     have yQ:s≠t:=by intro hc;subst hc;exact absurd yc (Nat.not_lt.2 hs)
     rw [zAf hI,zAf hI,zAf hI,zAf yQ,zAf yQ];exact ⟨rfl,rfl,rfl⟩
    rw [vY]
    obtain ⟨q1,q2,q3⟩ | ⟨x,m,c,us,M,q0,q1,q2,q3,q4,q5,q6,⟨q7,q7'⟩,q8,q9⟩:=hH
    ·subst q1
     exact ⟨_,_,_,_,[],[],[],h,S1,kh,zEL q3,List.nodup_nil,by simp⟩
    ·have yu:us.length=xs.length:=by have:=congrArg List.length q7';simpa using this
     rw [q0] at yS
     refine ⟨_,_,_,_,xs,us,M,h,S1,kh,⟨⟨some x,m,q1,fun sz' jF P w1 hw=>?_⟩,q9,fun sz' jF u hu=>?_,q7'⟩,(List.nodup_cons.1 yS).2,fun b hb=>by rw [zAh,q0];simp [hb]⟩
     ·rw [q1]
      cases xs with
      | nil =>
       have h0:us=[]:=List.eq_nil_of_length_eq_zero (by simpa using yu)
       subst h0
       exact run_firstCells_some w1 sz' 0 x 0 m [] (by simp) (by simp)
      | cons y ys =>
       have:sz'=sz:=by rw [← jF y (by simp),q6 y (by simp)]
       subst this
       exact zIq q2 q4.any yu q7 q8 P w1 hw
     ·cases xs with
      | nil =>
       have h0:us=[]:=List.eq_nil_of_length_eq_zero (by simpa using yu)
       rw [h0] at hu;cases hu
      | cons y ys=>rw [q7 u hu,← jF y (by simp),q6 y (by simp)]
   ·simp only [PM.run] at h
    have hv:=S.conf.view yc
    rw [S.env t yc] at hv
    exact copy (by rw [vY];exact hv) h
theorem zQl {A:Al} {w':World} {z:Value} {sz len m cap:Nat} {xs ys:List PV} {us uys:List Value} {M Ly:List Nat} (hz:z.cells.size=sz) (hO:us.length=len) (hm:uys.length=m) (v1:xs.length=len) (kA:ys.length=m)
  (jO:∀ x∈xs,x.cells.length=sz) (w6:∀ y∈ys,y.cells.length=sz) (wD:∀ u∈us,u.cells.size=sz) (w7:∀ u∈uys,u.cells.size=sz) (j5:us.map zCj=xs.map PV.isAgg) (qq:uys.map zCj=ys.map PV.isAgg)
  (hr:zA3 w' Φ zCl xs us M) (wQ:zA3 w' Φ zCl ys uys Ly) (yO:len+m≤cap) {b:Nat} (yA:zE0 w' b ((flat us).toArray++(flat uys).toArray++Builtin.zeroCells z.cells (cap-(len+m)))) :
  Rep w' Φ A (.own sz (xs++ys)) (.slice (some ⟨b,0,none⟩) (len+m) cap) (b::(M++Ly)):=by
 have jn:(flat us++flat uys).length=(len+m)*sz:=by rw [List.length_append,zBq wD,zBq w7,hO,hm,Nat.add_mul]
 refine .inr ⟨⟨b,0,none⟩,cap,_,us++uys,M++Ly,rfl,by simp [v1,kA],rfl,by simp [v1,kA,yO],yA,?_,fun x hx=>?_,⟨fun u hu=>?_,by simp [j5,qq]⟩,?_,hr.append wQ⟩
 ·simp only [Array.size_append,size_zeroCells,hz]
  have h1:=congrArg (·) jn
  simp at jn
  have:(len+m)*sz+(cap-(len+m))*sz=cap*sz:=by rw [← Nat.add_mul];congr 1;omega
  simp;omega
 ·rcases List.mem_append.1 hx with h | h
  ·exact jO x h
  ·exact w6 x h
 ·rcases List.mem_append.1 hu with h | h
  ·exact wD u h
  ·exact w7 u h
 ·rw [zCT,List.length_append,v1,kA]
  simp only [seg,List.drop_zero,Array.toList_append]
  rw [← jn]
  exact List.take_left
theorem zOc:∀ {ys:List PV} {us:List Value} {Ly:List Nat},zA3 w Φ zCl ys us Ly→us.map zCj=ys.map PV.isAgg→(∀ y∈ys,∀ q∈y.cells,q.oneCell=true)→∀ u∈flat us,u.oneCell'=true
 | [],us,Ly,h,_,_,u,hu=>by rw [h.1] at hu;cases hu
 | y :: ys,us,Ly,h,ha,ho,u,hu=>by
  obtain ⟨v,vs,L1,L2,rfl,rfl,h1,h2⟩:=h
  simp only [List.map_cons,List.cons.injEq] at ha
  rw [zCJ] at hu
  rcases List.mem_append.1 hu with hu | hu
  ·have hc:=h1.cellsAll ha.1
   obtain ⟨j,hj⟩:=List.getElem?_of_mem hu
   have jZ:j<y.cells.length:=by rw [← hc.length];exact (List.getElem?_eq_some_iff.1 hj).1
   obtain ⟨v',La,Li',Lb,yB,_,yr,_⟩:=hc.split (i:=j) (List.getElem?_eq_getElem jZ)
   rw [hj] at yB;cases yB
   exact zB8 (fun a v _ h=>h.elim) yr (ho y (by simp) _ (List.getElem_mem jZ))
  ·exact zOc h2 ha.2 (fun z hz=>ho z (by simp [hz])) u hu
theorem St.made (S:St w0 U Φ0 nt hv a w e Φ rv E L) (hb:∀ s,zAd+3≤s→E s = .bad) {d:Option Nat} (hd:∀ x,d=some x→x<nt) {w':World} {p:PV} {v:Value} {Lp:List Nat} (hr:∀ A:Al,Rep w' Φ A p v Lp) (uy:Lp.Nodup)
  (ho:∀ b∈Lp,(∃ t,zAd≤t∧t<zAd+3∧b∈L t)∨(w.heap.size≤b∧b<w'.heap.size)) (hw:w.heap.size≤w'.heap.size)
  (hk:∀ b,b<w.heap.size→(∀ t,zAd≤t→t<zAd+3→b∉L t)→w'.heap[b]? = w.heap[b]?) (ky:w'.os=w.os∧w'.tape=w.tape∧w'.output=w.output) (h:(put d p).run o e=some e') :
  Fr w0 U Φ0 nt hv (a.put d v) w' e':=by
 have hG:∀ s,decide (zAd≤s∧s<zAd+3)=true↔zAd≤s∧s<zAd+3:=fun s=>decide_eq_true_iff
 have hc:=S.conf.make (w':=w') (fun s=>decide (zAd≤s∧s<zAd+3)) (fun s hs=>((hG s).1 hs).1) (g:=zAd+3) (by omega) (fun A _=>hr A) uy
  (fun b hb=>(ho b hb).imp (fun ⟨t,h1,h2,h3⟩=>⟨t,h3,(hG t).2 ⟨h1,h2⟩⟩) id) hw
  (fun b hb hn=>hk b hb fun t h1 h2 h3=>by have:=hn t h3;rw [(hG t).2 ⟨h1,h2⟩] at this;cases this) ky
 have S1:=S.turn (e':=e) hc (fun s hs=>by
  rw [zAf (by omega)]
  have:decide (zAd≤s∧s<zAd+3)=false:=decide_eq_false (by omega)
  simp only [this,Bool.false_eq_true,if_false];exact S.env s hs) (fun s hs=>zAf (by omega)) (fun d ps hd hp=>by
  rw [zAf (by simp only [zAd];omega)] at hp
  have:decide (zAd≤d∧d<zAd+3)=false:=decide_eq_false (by simp only [zAd];omega)
  simp only [this,Bool.false_eq_true,if_false] at hp;exact ⟨ps,hp,rfl⟩)
 have:=zFM S1 hd (g:=zAd+3) (by omega) (by rw [zAh];exact h) (fun s hs hI=>by
  rw [zAf hI]
  by_cases h3:s<zAd+3
  ·have:decide (zAd≤s∧s<zAd+3)=true:=(hG s).2 ⟨hs,h3⟩
   simp [this]
  ·have:decide (zAd≤s∧s<zAd+3)=false:=decide_eq_false (by omega)
   simp only [this,Bool.false_eq_true,if_false];exact hb s (by omega))
 rwa [zAh] at this
theorem St.regrown (S:St w0 U Φ0 nt hv a w e Φ rv E L) (hb:∀ s,zAd+3≤s→E s = .bad) {d:Option Nat} (hd:∀ x,d=some x→x<nt) {z:Value} {el:TypeId} {sz len m cap:Nat} {xs ys:List PV} {us uys:List Value} {M Ly:List Nat} (hz:z.cells.size=sz) (hO:us.length=len) (hm:uys.length=m) (v1:xs.length=len) (kA:ys.length=m)
  (jO:∀ x∈xs,x.cells.length=sz) (w6:∀ y∈ys,y.cells.length=sz) (wD:∀ u∈us,u.cells.size=sz) (w7:∀ u∈uys,u.cells.size=sz) (j5:us.map zCj=xs.map PV.isAgg) (qq:uys.map zCj=ys.map PV.isAgg)
  (hr:zA3 w Φ zCl xs us M) (wQ:zA3 w Φ zCl ys uys Ly) (yO:len+m≤cap) (vb:∀ b∈M,b∈L (zAd+1)) (qG:∀ b∈Ly,b∈L zAd) (gX:M.Nodup) (hLn:Ly.Nodup) (h:(put d (.own sz (xs++ys))).run o e=some e') :
  Fr w0 U Φ0 nt hv (a.put d (.slice (some ⟨w.heap.size,0,none⟩) (len+m) cap)) (w.drew.alloc (.cells ((flat us).toArray++(flat uys).toArray++Builtin.zeroCells z.cells (cap-(len+m))) el)) e':=by
 have hold:∀ t,t<w.heap.size→(w.drew.alloc (.cells ((flat us).toArray++(flat uys).toArray++Builtin.zeroCells z.cells (cap-(len+m))) el)).heap[t]? = w.heap[t]?:=fun t ht=>by
  show (w.heap.push _)[t]? = _
  rw [Array.getElem?_push,if_neg (by omega)]
 have hΦ:zDj w (w.drew.alloc (.cells ((flat us).toArray++(flat uys).toArray++Builtin.zeroCells z.cells (cap-(len+m))) el)) Φ Φ:=fun t ht=>⟨ht,hold t (S.conf.frz t ht).1⟩
 refine S.made hb hd (Lp:=w.heap.size::(M++Ly)) (fun A=>zQl hz hO hm v1 kA jO w6 wD w7 j5 qq (hr.mono hΦ (fun _ _ _ h=>h) fun b hb=>hold b (S.conf.own _ b (vb b hb)).1) (wQ.mono hΦ (fun _ _ _ h=>h) fun b hb=>hold b (S.conf.own _ b (qG b hb)).1) yO ⟨el,?_⟩) ?_ (fun b hb=>?_) ?_ (fun b hb _=>hold b hb) ⟨rfl,rfl,rfl⟩ h
 ·show (w.heap.push _)[w.heap.size]? = _
  simp
 ·refine List.nodup_cons.2 ⟨fun hm=>?_,?_⟩
  ·rcases List.mem_append.1 hm with hm | hm
   ·exact absurd (S.conf.own _ _ (vb _ hm)).1 (Nat.lt_irrefl _)
   ·exact absurd (S.conf.own _ _ (qG _ hm)).1 (Nat.lt_irrefl _)
  ·rw [List.nodup_append]
   exact ⟨gX,hLn,fun x hx y hy e=>S.conf.disj (zAd+1) zAd (by omega) x (vb x hx) (e▸qG y hy)⟩
 ·rcases List.mem_cons.1 hb with rfl | hb
  ·exact .inr ⟨Nat.le_refl _,by show _<(w.heap.push _).size;simp⟩
  ·rcases List.mem_append.1 hb with hb | hb
   ·exact .inl ⟨zAd+1,by omega,by omega,vb b hb⟩
   ·exact .inl ⟨zAd,by omega,by omega,qG b hb⟩
 ·show _≤(w.heap.push _).size
  simp
theorem zNm (S1:St w0 U Φ0 nt hv a w e Φ rv E L) (y8:∀ s,zAd≤s→s≠zAd→s≠zAd+2→E s = .bad) {d:Option Nat} (hd:∀ x,d=some x→x<nt) {t t2 ty el e2:TypeId} {i:TypeInfo} {vx vy:Value} {r:Nat} {pre:zAV} {zz lo n s sz:Nat} {xs ys:List PV} {uys:List Value} {Ly:List Nat} {xb:Option Addr} {xc:Nat}
  (hE2:E (zAd+2) = .bor r pre zz lo n) (hrv2:rv (zAd+2)=vx) (qr:(Builtin.firstCells sz ys.length (.slice xb ys.length xc)).run P w = .ok (flat uys).toArray w) (jG:zA3 w Φ zCl ys uys Ly) (ju:∀ y∈ys,y.cells.length=sz) (jv:uys.map zCj=ys.map PV.isAgg)
  (hq:zAA (E r).unlock pre=some (.own s xs)) (hs:s=sz) (ht:P.underlying t=some (.slice el)) (kg:P.underlying t2=some (.slice e2)) (hi:P.info? el=some i) (yg:i.size=sz) (vD:vy = .slice xb ys.length xc) (uJ:Nat.beq (lo+n) xs.length=false)
  (h:(zKE d r pre zz lo n s xs ys).run o e=some e'):∃ v w',(Builtin.append_ #[t,t2] ty #[vx,vy]).run P w = .ok v w'∧Fr w0 U Φ0 nt hv (a.put d v) w' e':=by
 subst hs
 obtain ⟨hc,h1⟩:=zAU h
 simp only [Bool.and_eq_true,List.all_eq_true] at hc
 obtain ⟨⟨⟨c1,c2⟩,c3⟩,c4⟩:=hc
 have c1:=zB5 c1
 have c2:=Nat.eq_of_beq_eq_true c2
 have c3:=Nat.le_of_ble_eq_true c3
 subst c2
 have qG:Ly=[]:=zF1 c4 jG
 subst qG
 have h2:=S1.conf.drop fun s=>s==zAd
 have S2:=S1.turn (e':=e) h2 (fun s hs=>by
  have:(s==zAd)=false:=by simp;omega
  simp only [this,Bool.false_eq_true,if_false];exact S1.env s hs) (fun _ _=>rfl) (fun d ps hd hp=>by
  have:(d==zAd)=false:=by simp only [zAd,beq_eq_false_iff_ne];omega
  simp only [this,Bool.false_eq_true,if_false] at hp;exact ⟨ps,hp,rfl⟩)
 have hp:=S2.conf.rep (zAd+2)
 have qb:((zAd+2:Nat)==zAd)=false:=by simp
 simp only [qb,Bool.false_eq_true,if_false] at hp
 rw [hE2,hrv2] at hp
 obtain ⟨_,hr,⟨b,cap,yB,yO,wE,uL⟩,hn⟩:=hp
 have jq:(r==zAd)=false:=by simp;omega
 obtain ⟨nv,Li,hf,_,hH⟩:=zBM (zB4 (S2.conf.rep r)) (by simp only [jq,Bool.false_eq_true,if_false];exact hq)
 obtain ⟨sz2,xs2,g1,g2,g3⟩:=hn nv _ hf rfl
 cases g1
 obtain ⟨q1,q2,q3⟩ | ⟨x,m,c,us,M,q0,q1,q2,q3,q4,q5,q6,⟨q7,q7'⟩,q8,q9⟩:=hH
 ·subst q1
  have:lo+n=0:=by simp at c3;omega
  rw [this] at uJ;cases uJ
 ·subst q1
  simp only [zBY] at g3
  obtain ⟨g3,g4⟩:=g3
  have hO:lo+n+ys.length≤m:=by omega
  have hw:Rep w Φ (zA7 w rv fun s=>if (s==zAd)=true then .bad else E s) (.bor r pre zz lo (n+ys.length)) (.slice (some (zAz x (lo*zz))) (n+ys.length) (m-lo)) []:=by
   refine ⟨rfl,hr,⟨_,_,rfl,by omega,by simp,fun b hb=>by simp only [Option.some.injEq] at hb;rw [← hb];rfl⟩,fun nv' np' yf hh=>?_⟩
   rw [hf] at yf
   cases yf
   exact ⟨_,_,rfl,rfl,rfl,by omega⟩
  have S3:=S2.hold (g:=zAd+2) (by omega) hw
  obtain ⟨w1,e1,rv1,E1,L1,k1,S4,k3,⟨k5,k6⟩,k4⟩:=zKN (z:=zz) (lo:=lo) (n:=n+ys.length) (v := .slice (some (zAz x (lo*zz))) (n+ys.length) (m-lo)) c1 ys uys n S3 zAh zAh (fun s hs hI=>by
   rw [zAf hI]
   by_cases y6:s=zAd
   ·subst y6;simp
   ·have:(s==zAd)=false:=by simpa using y6
    simp only [this,Bool.false_eq_true,if_false];exact y8 s hs y6 hI) (fun y hy=>⟨c4 y hy,ju y hy⟩) jv jG (Nat.le_refl _) h1
  have yH:=zFM S4 hd (g:=zAd+2) (by omega) (by rw [k5];exact k1) k3
  rw [k6] at yH
  refine ⟨_,w1,?_,yH⟩
  rw [g3,vD]
  have hZ:n+ys.length≤m-lo:=by omega
  rcases k4 with ⟨rfl,rfl⟩ | ⟨b',cap',row,kX,yZ,yA,hrm,yL,rfl⟩
  ·have yu:uys=[]:=List.eq_nil_of_length_eq_zero (by have:=jG.length;simpa using this)
   subst yu
   exact zD1 (i:=i) ht kg hi (by rw [yg];exact qr) hZ w1 (fun b hb=>by simp [storeCells,flat]) (by simp)
  ·simp only [Value.slice.injEq,Option.some.injEq] at kX
   obtain ⟨rfl,_,_⟩:=kX
   obtain ⟨et,jf⟩:=yA
   have yQ:=run_storeCells_at (P:=P) (zAz x (lo*zz)).block ((zAz x (lo*zz)).off+n*zz) et (flat uys) 0 row w jf (by simpa using hrm) yL
   simp only [Nat.add_zero] at yQ
   have qt:(zAz x (lo*zz)).add (n*zz)=⟨(zAz x (lo*zz)).block,(zAz x (lo*zz)).off+n*zz,none⟩:=by rw [zBW rfl];rfl
   exact zD1 (i:=i) ht kg hi (by rw [yg];exact qr) hZ _ (fun b hb=>by cases hb;rw [yg,qt];exact yQ) (by simp)
theorem zP8 (S:St w0 U Φ0 nt hv a w e Φ rv E L) (hb:zBE E) {d:Option Nat} (hd:∀ x,d=some x→x<nt) {t t2 ty:TypeId} {x y:Operand} (hx:zAY nt x=true) (hy:zAY nt y=true)
  (h:(zBz P d .append [t,t2] [x,y]).run o e=some e'):∃ v w',(Builtin.append_ #[t,t2] ty #[a.eval x,a.eval y]).run P w = .ok v w'∧Fr w0 U Φ0 nt hv (a.put d v) w' e':=by
 simp only [zBz] at h
 cases j4:(zB0 P t2).isNone with
 | true=>rw [j4] at h;cases h
 | false =>
 rw [j4] at h;simp only [cond_false] at h
 have kg:∃ e2,P.underlying t2=some (.slice e2):=by
  cases he:zB0 P t2 with
  | none=>rw [he] at j4;cases j4
  | some e2=>exact ⟨e2,zCw he⟩
 obtain ⟨e2,kg⟩:=kg
 split at h
 ·rename_i sz by_ z yC w5 hzz
  obtain ⟨⟨hby16,kj⟩,h1⟩:=zDa h
  cases yd:zB0 P t with
  | none=>rw [yd] at yC;cases yC
  | some el =>
   rw [yd] at yC w5 hzz
   simp only [Option.bind_some] at yC w5 hzz
   have ht:=zCw yd
   obtain ⟨i,hi,yg⟩:=zCi yC
   have hib:i.bytes=by_:=by simp only [zHV,hi,Option.map_some,Option.some.injEq] at w5;exact w5
   obtain ⟨i2,z0,vN,kE,_,kb⟩:=zEa hzz
   rw [hi] at vN;cases vN
   have w8:z0.cells.size=sz:=by rw [(zCA (w:=w) (Φ:=Φ) (A:=zCl) kb).2.1,kj]
   obtain ⟨p,h2,hp⟩:=zBG S hx h1
   have S0:=S.hold (g:=zAd+2) (by omega) hp
   obtain ⟨e1,rv1,E1,L1,ys,uys,Ly,h3,S1,kh,kJ,w9,hLyg⟩:=zRy S0 (g:=zAd) (Nat.le_refl _) (by rw [zAf (show zAd≠zAd+2 by omega)];exact hb _ (Nat.le_refl _)) hy h2
   obtain ⟨⟨xb,xc,vD,yM⟩,jG,vc,jv⟩:=kJ
   simp only [zKU] at h3
   obtain ⟨hc,h4⟩:=zAU h3
   simp only [Bool.and_eq_true] at hc
   have ju:∀ q∈ys,q.cells.length=sz:=fun q hq=>by
    have:=List.all_eq_true.1 hc.1 q hq
    simp only [Bool.and_eq_true] at this
    exact Nat.eq_of_beq_eq_true this.1
   have km:=vc sz ju
   have vE:uys.length=ys.length:=jG.length
   have uM:=kh (zAd+2) (by omega) (by omega)
   rw [zAh,zAh,zAh] at uM
   have kn:=S1.conf.rep (zAd+2)
   rw [uM.1,uM.2.1,uM.2.2] at kn
   have kT:∀ s,zAd≤s→s≠zAd→s≠zAd+2→E1 s = .bad:=fun s hs h1 h2=>by rw [(kh s hs h1).1,zAf h2];exact hb s hs
   have yL:∀ u∈flat uys,u.oneCell'=true:=zOc jG jv fun q hq z hz=>by
    have:=List.all_eq_true.1 hc.1 q hq
    simp only [Bool.and_eq_true] at this
    exact List.all_eq_true.1 this.2 z hz
   have y8:∀ s,zAd+3≤s→E1 s = .bad:=fun s hs=>kT s (by omega) (by omega) (by omega)
   have qH:∀ t,w.drew.cell? t=w.cell? t:=fun t=>rfl
   have hfd:=yM sz ju P w.drew qH
   have qr:=yM sz ju P w (fun _=>rfl)
   rw [vD] at hfd qr
   split at h4
   ·rename_i r pre zz lo n
    obtain ⟨q,hq,h5⟩:=zBX h4
    split at h5
    ·rename_i s xs
     obtain ⟨yz,h6⟩:=zAU h5
     cases uJ:Nat.beq (lo+n) xs.length with
     | false =>
      rw [uJ] at h6
      simp only [cond_false] at h6
      simp only [Bool.and_eq_true] at yz
      exact zNm S1 kT hd uM.1 uM.2.1 qr jG ju jv (by rw [S1.env r kn.2.1];exact hq) (Nat.eq_of_beq_eq_true yz.1.1) ht kg hi yg vD uJ h6
     | true =>
     rw [uJ] at h6
     have h7:=h6
     simp only [cond_true] at h7
     obtain ⟨gY,h8⟩:=zAU h7
     simp only [Bool.and_eq_true] at yz
     have hs:=Nat.eq_of_beq_eq_true yz.1.1
     have kK:=Nat.le_of_ble_eq_true yz.2
     have hln:=Nat.eq_of_beq_eq_true uJ
     have uH:=Nat.eq_of_beq_eq_true gY
     subst hs;subst uH
     have v7:n=xs.length:=by omega
     subst v7
     obtain ⟨root,hl,hm,h9⟩:=zCm h8
     have hr:r<zAd:=kn.2.1
     have yF:=zBJ hl
     rw [yF,← S1.env r hr] at hq
     rw [← S1.env r hr] at yF hm
     obtain ⟨kk1,kk2⟩:=zBP (q' := .bad) rfl rfl hm
     obtain ⟨nv,Li,g1,g2,g3,g4,g5⟩:=S1.taken (g:=zAd+1) (by omega) hr yF hq rfl hm kk1 kk2
     have j0:zBY (a.eval x) nv s 0 xs.length:=by
      obtain ⟨_,_,_,hn⟩:=kn
      obtain ⟨s2,xs2,q1,q2,q3⟩:=hn nv _ (by rw [yF];exact g1) rfl
      cases q1;subst q2;exact q3
     obtain ⟨L2,S2,ud⟩:=g5 _ nv Li g2 g3 (fun b hb => .inl hb)
     have uN:∀ t,zAd+3≤t→upd (upd E1 r root) (zAd+1) (PV.own s xs) t = .bad:=fun t ht=>by
      rw [zAf (by omega),zAf (by omega)];exact y8 t ht
     have vF:∀ b∈Ly,b∈L2 zAd:=fun b hb=>by rw [ud zAd (Nat.le_refl _) (by omega)];exact hLyg b hb
     have hg1r:zAd+1≠r:=by omega
     have hLi2:Rep w Φ (zA7 w (upd rv1 (zAd+1) nv) (upd (upd E1 r root) (zAd+1) (.own s xs))) (.own s xs) nv (L2 (zAd+1)):=by
      have:=S2.conf.rep (zAd+1)
      rwa [zAh,zAh] at this
     have hLiE:Li=L2 (zAd+1):=Rep.uniq _ _ _ _ g2 hLi2
     obtain ⟨q1,q2,q3⟩ | ⟨b,cap,c,us,M,q0,q1,q2,q3,q4,q5,q6,⟨q7,q7'⟩,q8,q9⟩:=g2
     ·
      subst q1;subst q3
      have wC:a.eval x = .slice none 0 0:=j0.1
      rw [wC,vD]
      by_cases hy0:ys.length=0
      ·have hyn:ys=[]:=List.eq_nil_of_length_eq_zero hy0
       subst hyn
       have hun:uys=[]:=List.eq_nil_of_length_eq_zero (by simpa using vE)
       subst hun
       refine ⟨_,w,zD1 (i:=i) ht kg hi (by rw [yg];exact qr) (by simp) w (by simp) (fun _=>rfl),?_⟩
       exact zAF (S2.clear.choose_spec.choose_spec.choose_spec.choose_spec.1) (S2.clear.choose_spec.choose_spec.choose_spec.choose_spec.2) hd h9 (v := .slice none (0+0) 0) (.inl ⟨rfl,rfl,rfl⟩)
      ·have yO:0+ys.length≤grownCap w (0+ys.length) 0 el:=grownCap_ge w _ _ _
       refine ⟨_,_,zFj (a:=none) (old:=[]) (news:=flat uys) ht kg hi kE (by rw [yg];exact run_firstCells_none _ _ _ _ _) (by rw [yg];exact hfd) (by omega) (by simp only [zAv,List.length_nil] at kK;omega) (by omega),?_⟩
       have:=S2.regrown uN hd (z:=z0) (el:=el) (sz:=s) (len:=0) (m:=ys.length) (xs:=[]) (us:=[]) (M:=[]) w8 rfl vE rfl rfl (by simp) ju (by simp) km rfl jv ⟨rfl,rfl⟩ jG yO (by simp) vF List.nodup_nil w9 (by simpa using h9)
       simpa [flat] using this
     ·have yu:us.length=xs.length:=by have:=congrArg List.length q7';simpa using this
      subst q1
      simp only [zBY] at j0
      have wa:zAz b (0*s)=b:=by cases b;simp_all [zAz]
      have wO:a.eval x = .slice (some b) xs.length cap:=by rw [j0.1,wa];rfl
      have vb:∀ t∈M,t∈L2 (zAd+1):=fun t ht=>by rw [← hLiE,q0];simp [ht]
      have jD:b.block∈L2 (zAd+1):=by rw [← hLiE,q0];simp
      have gX:M.Nodup∧b.block∉M:=by rw [q0] at g3;exact ⟨(List.nodup_cons.1 g3).2,(List.nodup_cons.1 g3).1⟩
      rw [wO,vD]
      by_cases hZ:xs.length+ys.length≤cap
      ·
       have wU:(xs.length+ys.length)*s≤cap*s:=Nat.mul_le_mul_right _ hZ
       rw [Nat.add_mul] at wU
       have hful:(flat uys).length=ys.length*s:=by rw [zBq km,vE]
       have zLs:b.off+xs.length*s+(flat uys).length≤c.size:=by omega
       obtain ⟨et,jf⟩:=q4
       have yQ:=run_storeCells_at (P:=P) b.block (b.off+xs.length*s) et (flat uys) 0 c w jf (by simpa using zLs) yL
       simp only [Nat.add_zero] at yQ
       have qt:b.add (xs.length*s)=⟨b.block,b.off+xs.length*s,none⟩:=by rw [zBW q2];rfl
       refine ⟨_,_,zD1 (i:=i) ht kg hi (by rw [yg];exact qr) hZ (w.setRow b.block (zBg c (b.off+xs.length*s) (flat uys))) (fun b' yE=>by cases yE;rw [yg,qt];exact yQ) (by simp),?_⟩
       have ye:∀ t,t≠b.block→(w.setRow b.block (zBg c (b.off+xs.length*s) (flat uys))).heap[t]? = w.heap[t]?:=fun t ht=>setRow_other w _ t _ ht
       have hΦ:zDj w (w.setRow b.block (zBg c (b.off+xs.length*s) (flat uys))) Φ Φ:=fun t ht=>⟨ht,ye t fun hc=>(S2.conf.own _ _ jD).2.1 (hc▸ht)⟩
       refine S2.made uN hd (Lp:=b.block::(M++Ly)) (fun A=>?_) ?_ (fun t ht=>?_) (by rw [setRow_size];exact Nat.le_refl _) (fun t _ hn=>ye t fun hc=>hn (zAd+1) (by omega) (by omega) (hc▸jD)) ⟨rfl,rfl,rfl⟩ h9
       ·refine .inr ⟨b,cap,_,us++uys,M++Ly,rfl,by simp,q2,by simpa using hZ,⟨et,setRow_heap w _ _ _ et _ jf⟩,?_,fun y hy=>?_,⟨fun u hu=>?_,by simp [q7',jv]⟩,?_,?_⟩
        ·rw [zGl zLs];exact q5
        ·rcases List.mem_append.1 hy with h | h
         ·exact q6 y h
         ·exact ju y h
        ·rcases List.mem_append.1 hu with h | h
         ·exact q7 u h
         ·exact km u h
        ·rw [List.length_append,Nat.add_mul,zCT,zHl (by omega) (by omega) (by omega),show b.off+xs.length*s-b.off=xs.length*s by omega,← zO9 (by omega),q8]
         have:(seg c b.off (xs.length*s+ys.length*s)).drop (xs.length*s+(flat uys).length)=[]:=by
          apply List.drop_of_length_le;simp only [seg,List.length_take];omega
         rw [this];simp
        ·exact (q9.mono hΦ (fun _ _ _ h=>h) fun t ht=>ye t fun hc=>gX.2 (hc▸ht)).append (jG.mono hΦ (fun _ _ _ h=>h) fun t ht=>ye t fun hc=>S2.conf.disj (zAd+1) zAd (by omega) _ jD (hc▸vF t ht))
       ·refine List.nodup_cons.2 ⟨fun hm=>?_,?_⟩
        ·rcases List.mem_append.1 hm with hm | hm
         ·exact gX.2 hm
         ·exact S2.conf.disj (zAd+1) zAd (by omega) _ jD (vF _ hm)
        ·rw [List.nodup_append]
         exact ⟨gX.1,w9,fun t ht y hy e=>S2.conf.disj (zAd+1) zAd (by omega) t (vb t ht) (e▸vF y hy)⟩
       ·rcases List.mem_cons.1 ht with rfl | ht
        ·exact .inl ⟨zAd+1,by omega,by omega,jD⟩
        ·rcases List.mem_append.1 ht with ht | ht
         ·exact .inl ⟨zAd+1,by omega,by omega,vb t ht⟩
         ·exact .inl ⟨zAd,by omega,by omega,vF t ht⟩
      ·have yO:xs.length+ys.length≤grownCap w (xs.length+ys.length) cap el:=grownCap_ge w _ _ _
       have hold:=zIq (n:=xs.length) (xc:=cap) q2 q4.any yu q7 q8 P w.drew qH
       refine ⟨_,_,zFj (a:=some b) (old:=flat us) (news:=flat uys) ht kg hi kE (by rw [yg];exact hold) (by rw [yg];exact hfd) hZ (by simp only [zAv] at kK;omega) (by omega),?_⟩
       exact S2.regrown uN hd (z:=z0) (el:=el) (sz:=s) (len:=xs.length) (m:=ys.length) w8 yu vE rfl rfl q6 ju q7 km q7' jv q9 jG yO vb vF gX.1 w9 h9
    ·cases h5
   ·rename_i zz
    obtain ⟨kK,h5⟩:=zAU h4
    have kK:=Nat.le_of_ble_eq_true kK
    have wC:a.eval x = .slice none 0 0:=kn.1
    rw [wC,vD]
    by_cases hy0:ys.length=0
    ·have hyn:ys=[]:=List.eq_nil_of_length_eq_zero hy0
     subst hyn
     have hun:uys=[]:=List.eq_nil_of_length_eq_zero (by simpa using vE)
     subst hun
     have hf:=yM sz (by simp) P w (fun _=>rfl)
     rw [vD] at hf
     refine ⟨_,w,zD1 (i:=i) ht kg hi (by rw [yg];exact hf) (by simp) w (by simp) (fun _=>rfl),?_⟩
     have:=zAF (S1.clear.choose_spec.choose_spec.choose_spec.choose_spec.1) (S1.clear.choose_spec.choose_spec.choose_spec.choose_spec.2) hd h5 (v := .slice none (0+0) 0) (.inl ⟨rfl,rfl,rfl⟩)
     exact this
    ·have hL1:L1 (zAd+1)=[]:=by
      have:=S1.conf.rep (zAd+1)
      rw [kT (zAd+1) (by omega) (by omega) (by omega)] at this;exact this
     have yO:0+ys.length≤grownCap w (0+ys.length) 0 el:=grownCap_ge w _ _ _
     refine ⟨_,_,zFj (a:=none) (old:=[]) (news:=flat uys) ht kg hi kE (by rw [yg];exact run_firstCells_none _ _ _ _ _) (by rw [yg];exact hfd) (by omega) (by simp only [zAv] at kK;omega) (by omega),?_⟩
     have:=S1.regrown y8 hd (z:=z0) (el:=el) (sz:=sz) (len:=0) (m:=ys.length) (xs:=[]) (us:=[]) (M:=[]) w8 rfl vE rfl rfl (by simp) ju (by simp) km rfl jv ⟨rfl,rfl⟩ jG yO (by simp) hLyg List.nodup_nil w9 (by simpa using h5)
     simpa [flat] using this
   ·cases h4
 ·cases h
end
end Go.Eng
namespace Go.Eng
open Go
section
variable {P:Program} {w0 w:World} {U Φ0 Φ:Nat→Prop} {nt:Nat} {hv:Hid} {a:Act} {e e':Env} {rv:Nat→Value} {E:Nat→PV} {L:Nat→List Nat} {o:zAL}
theorem zO1 (S:St w0 U Φ0 nt hv a w e Φ rv E L) (hb:zBE E) {d:Option Nat} (hd:∀ x,d=some x→x<nt) {t:TypeId} (h:(put d (.omap [])).run o e=some e') :
  ∃ v w',(Instr.makeMap t none).run P w = .ok v w'∧Fr w0 U Φ0 nt hv (a.put d v) w' e':=by
 refine ⟨.map (some w.heap.size),{w with heap:=w.heap.push (.map #[] 0)},by simp [Instr.makeMap],?_⟩
 refine S.made (p := .omap []) (v := .map (some w.heap.size)) (fun s hs=>hb s (by omega)) hd (Lp:=[w.heap.size]) (fun A=>⟨w.heap.size,#[],rfl,rfl,by simp,rfl⟩) (by simp) (fun b yE => .inr ?_) (by simp) (fun b yE _=>?_) ⟨rfl,rfl,rfl⟩ h
 ·simp only [List.mem_singleton] at yE;subst yE;exact ⟨Nat.le_refl _,by simp⟩
 ·show (w.heap.push _)[b]? = _
  rw [Array.getElem?_push,if_neg (by omega)]
theorem zGi {z:Value} {s:Nat} (hz:z.cells.size=s) {l k:Nat} {u:Value} (h:(flat (List.replicate l z))[k]? = some u):(madeCells z.cells (k+1))[k]? = some u:=by
 have hO:(flat (List.replicate l z)).length=l*s:=by
  rw [zBq (sz:=s) (fun u hu=>by rw [List.eq_of_mem_replicate hu];exact hz)];simp
 have hk:k<l*s:=by rw [← hO];exact (List.getElem?_eq_some_iff.1 h).1
 have hs:0<s:=Nat.pos_of_ne_zero fun h0=>by subst h0;simp at hk
 have hdm:k / s*s+k % s=k:=Nat.div_add_mod' k s
 have hq:k / s<l:=Nat.div_lt_of_lt_mul (by rw [Nat.mul_comm];exact hk)
 have hr:k % s<s:=Nat.mod_lt _ hs
 have hzc : z.cells.toList[k % s]? = some (z.cells[k % s]'(by omega)) := by simp
 have:=zDS (sz:=s) (us:=List.replicate l z) (fun u hu=>by rw [List.eq_of_mem_replicate hu];exact hz) (i:=k / s) (c:=k % s) (x:=z) (by simp [hq]) hzc
 rw [hdm,h] at this
 simp only [Option.some.injEq] at this
 subst this
 simp [madeCells,hz,getElem!_pos,hr]
theorem zNX {z:Array Value} {n m k:Nat} (hk:k<n) (hm:k<m):(madeCells z n)[k]? = (madeCells z m)[k]?:=by
 simp [madeCells,hk,hm]
theorem zLk (S:St w0 U Φ0 nt hv a w e Φ rv E L) (hb:zBE E) {d:Option Nat} (hd:∀ x,d=some x→x<nt) {t:TypeId} {l c:Operand} (hl:zAY nt l=true) (hc:zAY nt c=true) (h:(zEU P d t l c).run o e=some e') :
  ∃ v w',(Instr.makeSlice t (a.eval l) (a.eval c)).run P w = .ok v w'∧Fr w0 U Φ0 nt hv (a.put d v) w' e':=by
 obtain ⟨p,h1,hp⟩:=zBG S hl h
 obtain ⟨kl,l,rfl,vd,h2⟩:=zEH h1
 obtain ⟨q,h3,hq⟩:=zBG S hc h2
 obtain ⟨kc,c,rfl,v3,h4⟩:=zEH h3
 split at h4
 ·rename_i el yd
  split at h4
  ·rename_i z s by_ hz hs w5
   obtain ⟨⟨hlc,kK,hb16,kj⟩,h5⟩:=zDa h4
   obtain ⟨i,zv,hi,hzv,_,kb⟩:=zEa hz
   obtain ⟨i2,vN,qI⟩:=zCi hs
   rw [hi] at vN;cases vN
   have hib:i.bytes=by_:=by simp only [zHV,hi,Option.map_some,Option.some.injEq] at w5;exact w5
   have ht:=zCw yd
   simp only [zAv] at kK
   have hbb:(i.bytes:Int)*c≤281474976710656:=by
    have h1:i.bytes*c.toNat≤16384*4294967296:=Nat.mul_le_mul (by omega) kK
    have h2:((i.bytes*c.toNat:Nat):Int)=(i.bytes:Int)*c:=by rw [Int.natCast_mul,Int.toNat_of_nonneg v3]
    omega
   have hX:=run_make (P:=P) w t el i zv ht hi hzv kl kc l c vd (by omega) hbb (by omega)
   obtain ⟨vP,uz,kU,_⟩:=zCA (w:=w) (Φ:=Φ) (A:=zCl) kb
   have ui:zv.cells.size=s:=by rw [uz,kj]
   rw [hp.1,hq.1]
   refine ⟨_,_,hX,?_⟩
   refine S.made (p := .own s (List.replicate l.toNat z)) (fun s hs=>hb s (by omega)) hd (Lp:=[w.heap.size]) (fun A=>?_) (by simp) (fun b yE => .inr ?_) (by simp) (fun b yE _=>?_) ⟨rfl,rfl,rfl⟩ h5
   ·refine .inr ⟨⟨w.heap.size,0,none⟩,c.toNat,_,List.replicate l.toNat zv,[],rfl,by simp,rfl,by simpa using hlc,⟨el,by show (w.heap.push _)[w.heap.size]? = _;simp;rfl⟩,?_,fun x hx=>?_,⟨fun u hu=>?_,?_⟩,?_,?_⟩
    ·rw [size_madeCells,qI];simp
    ·rw [List.eq_of_mem_replicate hx];exact kj
    ·rw [List.eq_of_mem_replicate hu];exact ui
    ·simp [kU]
    ·rw [List.length_replicate]
     refine zHB ?_ fun k u hk=>?_
     ·rw [zBq (sz:=s) (fun u hu=>by rw [List.eq_of_mem_replicate hu];exact ui)];simp
     ·have hO:(flat (List.replicate l.toNat zv)).length=l.toNat*s:=by
       rw [zBq (sz:=s) (fun u hu=>by rw [List.eq_of_mem_replicate hu];exact ui)];simp
      have kV:k<l.toNat*s:=by rw [← hO];exact (List.getElem?_eq_some_iff.1 hk).1
      have yJ:l.toNat*s≤c.toNat*s:=Nat.mul_le_mul_right _ hlc
      rw [Nat.zero_add,qI,zNX (m:=k+1) (by omega) (by omega)]
      exact zGi ui hk
    ·have key:∀ n,zA3 (w.alloc (.cells (madeCells zv.cells (c.toNat*i.size)) el)) Φ zCl (List.replicate n z) (List.replicate n zv) []:=by
      intro n
      induction n with
      | zero=>exact ⟨rfl,rfl⟩
      | succ n ih =>
       exact ⟨zv,_,[],[],rfl,rfl,(zCA kb).1,ih⟩
     exact key _
   ·simp only [List.mem_singleton] at yE;subst yE
    exact ⟨Nat.le_refl _,by show _<(w.heap.push _).size;simp⟩
   ·show (w.heap.push _)[b]? = _
    rw [Array.getElem?_push,if_neg (by omega)]
  ·cases h4
 ·cases h4
theorem zI7 (S:St w0 U Φ0 nt hv a w e Φ rv E L) {x:Option Operand} (hx:∀ y,x=some y→zAY nt y=true) {n:Nat} {k:Nat→PM} (h:(zRp x n k).run o e=some e') :
  ∃ m,(k m).run o e=some e'∧((x=none∧m=n)∨∃ y ik z,x=some y∧a.eval y = .int ik z∧0≤z∧m=z.toNat):=by
 cases x with
 | none=>exact ⟨n,h,.inl ⟨rfl,rfl⟩⟩
 | some y =>
  obtain ⟨p,h1,h2⟩:=zBG S (hx y rfl) h
  obtain ⟨ik,z,rfl,hz,h3⟩:=zEH h1
  exact ⟨z.toNat,h3,.inr ⟨y,ik,z,rfl,h2.1,hz,rfl⟩⟩
theorem zEE {ik:IntKind} {z:Int} {y:Nat} {cd:BoundsCode} (h0:0≤z) (h:z.toNat≤y):(Instr.sliceBound (.int ik z) y cd).run P w = .ok z.toNat w:=by
 have:z≤y:=by omega
 simp [Instr.sliceBound,asIntOf,h0,this]
theorem zKn {isS:Bool} {len cap l h:Nat} {lo hi:Option Value} (hh:(hi=none∧h=len)∨∃ ik z,hi=some (.int ik z)∧0≤z∧h=z.toNat) (hl:(lo=none∧l=0)∨∃ ik z,lo=some (.int ik z)∧0≤z∧l=z.toNat)
  (hlh:l≤h) (hhc:hi≠none→h≤cap):(Instr.sliceBounds isS len cap lo hi none).run P w = .ok (l,h,cap) w:=by
 rcases hh with ⟨rfl,rfl⟩ | ⟨ik,z,rfl,hz,rfl⟩
 ·simp only [Instr.sliceBounds,Sem.run_bind,Sem.run_pure,Result.andThen_ok,Option.isSome_none,Bool.false_eq_true,if_false]
  rcases hl with ⟨rfl,rfl⟩ | ⟨ik',z',rfl,hz',rfl⟩
  ·simp
  ·simp only [Sem.run_bind,zEE hz' hlh,Result.andThen_ok,Sem.run_pure]
 ·simp only [Instr.sliceBounds,Sem.run_bind,Sem.run_pure,Result.andThen_ok,Option.isSome_none,Bool.false_eq_true,if_false]
  rw [zEE hz (hhc (by simp))]
  simp only [Result.andThen_ok]
  rcases hl with ⟨rfl,rfl⟩ | ⟨ik',z',rfl,hz',rfl⟩
  ·simp
  ·simp only [Sem.run_bind,zEE hz' hlh,Result.andThen_ok,Sem.run_pure]
theorem zRS (S : St w0 U Φ0 nt hv a w e Φ rv E L) (hb:zBE E) {d:Option Nat} (hd:∀ x,d=some x→x<nt) {t:TypeId} {x:Operand} {lo hi mx:Option Operand} (hx:zAY nt x=true) (uH:∀ y,lo=some y→zAY nt y=true) (hhi:∀ y,hi=some y→zAY nt y=true) (hmx:∀ y,mx=some y→zAY nt y=true)
  (h:(zI9 P d t x lo hi mx).run o e=some e'):∃ v,(Instr.sliceAt t (a.eval x) (lo.map a.eval) (hi.map a.eval) (mx.map a.eval)).run P w = .ok v w∧Fr w0 U Φ0 nt hv (a.put d v) w e':=by
 cases mx with
 | some m =>
  simp only [zI9] at h
  obtain ⟨p,h1,hp⟩:=zBG S hx h
  split at h1
  ·rename_i r pre z a0 n el ht
   obtain ⟨s,hs,h2⟩:=zBK h1
   obtain ⟨ti,jE,yC⟩:=zCi hs
   obtain ⟨mm,h3,h4⟩:=zI7 S hmx h2
   obtain ⟨_,hg,⟨b,cap,yB,yO,wE,uL⟩,wB⟩:=hp
   rcases h4 with ⟨h4,_⟩ | ⟨ym,ikm,zm,hym,hem,hzm,rfl⟩
   ·cases h4
   cases hym
   cases hi with
   | none=>cases h3
   | some hi =>
    obtain ⟨hm,h5,h6⟩:=zI7 S hhi h3
    rcases h6 with ⟨h6,_⟩ | ⟨yh,ikh,zh,hyh,heh,hzh,rfl⟩
    ·cases h6
    cases hyh
    obtain ⟨lm,h7,h8⟩:=zI7 S uH h5
    obtain ⟨hc,h9⟩:=zAU h7
    simp only [Bool.and_eq_true] at hc
    have c1:=Nat.le_of_ble_eq_true hc.1.1
    have c2:=Nat.le_of_ble_eq_true hc.1.2
    have c3:=Nat.le_of_ble_eq_true hc.2
    refine ⟨_,?_,zAF S hb hd h9 (p := .bad) (v := .slice (if zm.toNat=lm then b else b.map (·.add (lm*ti.size))) (zh.toNat-lm) (zm.toNat-lm)) rfl⟩
    rw [yB]
    simp only [Instr.sliceAt,Instr.slice,Sem.run_bind,run_underlying ht,Result.andThen_ok,Option.map_some,hem,heh,Instr.sliceBounds,zEE hzm (show zm.toNat≤cap by omega),zEE hzh c2]
    rcases h8 with ⟨rfl,rfl⟩ | ⟨yl,ikl,zl,rfl,yd,kj,rfl⟩
    ·simp only [Option.map_none,Sem.run_pure,Result.andThen_ok,zAZ jE,Sem.run_bind]
    ·simp only [Option.map_some,yd,zEE kj c1,Sem.run_pure,Result.andThen_ok,zAZ jE,Sem.run_bind]
  ·cases h1
 | none =>
  simp only [zI9] at h
  obtain ⟨p,h1,hp⟩:=zBG S hx h
  have low:∀ {m:Nat},((lo=none∧m=0)∨∃ y ik z,lo=some y∧a.eval y = .int ik z∧0≤z∧m=z.toNat)→(lo.map a.eval=none∧m=0)∨∃ ik z,lo.map a.eval=some (.int ik z)∧0≤z∧m=z.toNat:=by
   rintro m (⟨rfl,rfl⟩ | ⟨y,ik,z,rfl,h2,h3,h4⟩)
   ·exact .inl ⟨rfl,rfl⟩
   ·exact .inr ⟨ik,z,by simp [h2],h3,h4⟩
  have hgh:∀ {m n:Nat},((hi=none∧m=n)∨∃ y ik z,hi=some y∧a.eval y = .int ik z∧0≤z∧m=z.toNat)→(hi.map a.eval=none∧m=n)∨∃ ik z,hi.map a.eval=some (.int ik z)∧0≤z∧m=z.toNat:=by
   rintro m n (⟨rfl,rfl⟩ | ⟨y,ik,z,rfl,h2,h3,h4⟩)
   ·exact .inl ⟨rfl,rfl⟩
   ·exact .inr ⟨ik,z,by simp [h2],h3,h4⟩
  split at h1
  ·
   rename_i n el ht
   split at h1
   ·rename_i s sh hs je
    obtain ⟨hm,h2,h3⟩:=zI7 S hhi h1
    obtain ⟨lm,h4,h5⟩:=zI7 S uH h2
    obtain ⟨hc,h6⟩:=zAU h4
    simp only [Bool.and_eq_true,Bool.or_eq_true] at hc
    obtain ⟨⟨c1,c2⟩,c3⟩:=hc
    have c1:=Nat.le_of_ble_eq_true c1
    have c2:=Nat.le_of_ble_eq_true c2
    obtain ⟨ti,jE,yC⟩:=zCi hs
    have hbnd:=zKn (P:=P) (w:=w) (isS:=false) (len:=n) (cap:=n) (hgh h3) (low h5) c1 (fun _=>c2)
    have kf:∀ b:Addr,b.spot=none→(if n=lm then b else b.add (lm*ti.size))=zAz b (lm*s):=by
     intro b yZ
     split
     ·rename_i qA
      have vd:lm=0:=by
       rcases c3 with c3 | c3
       ·exact Nat.eq_of_beq_eq_true c3
       ·have:=zB5 c3;omega
      rw [vd];cases b;simp_all [zAz]
     ·rw [zBW yZ,yC]
    split at h6
    ·rename_i r pre i c s'
     obtain ⟨_,hg,b,yY,yZ,hn⟩:=hp
     refine ⟨.slice (some (zAz b (lm*s))) (hm-lm) (n-lm),?_,zAF S hb hd h6 ⟨rfl,hg,zAz b (lm*s),n-lm,rfl,by omega,rfl,fun nv np hf a' kF=>?_⟩⟩
     ·rw [yY]
      simp only [Instr.sliceAt,Sem.run_bind,run_underlying ht,Result.andThen_ok,Instr.sureAddr,Sem.run_pure,Option.map_none]
      rw [hbnd]
      simp only [Result.andThen_ok,zAZ jE,Sem.run_bind,Sem.run_pure]
      rw [kf b yZ]
     ·have key:∃ a0,zA8 nv np i c=some a0∧a'=zAz a0 (lm*s):=by
       cases np<;>try (simp [zA8] at kF;done)
       ·cases nv with
        | slice x _ _ =>
         cases x with
         | none=>cases kF
         | some x=>simp only [zA8] at kF ⊢;cases kF;exact ⟨_,rfl,by simp [zAz,Nat.add_assoc]⟩
        | pointer x=>cases x<;>cases kF
        | _=>cases kF
       ·cases nv with
        | pointer x =>
         cases x with
         | none=>cases i<;>cases kF
         | some x=>cases i<;>simp only [zA8] at kF ⊢ <;> cases kF;exact ⟨_,rfl,by simp [zAz,Nat.add_assoc]⟩
        | slice x _ _=>cases x<;>cases kF
        | _=>cases kF
      obtain ⟨a0,k1,k2⟩:=key
      rw [k2,hn nv np hf a0 k1]
    ·rename_i cs
     obtain ⟨gY,h7⟩:=zAU h6
     simp only [Bool.and_eq_true,zCk] at gY
     obtain ⟨⟨c4,⟨c5,c6⟩⟩,c7⟩:=gY
     have c4:=Nat.le_of_ble_eq_true c4
     have c5:=Nat.eq_of_beq_eq_true c5
     obtain ⟨_,b,c,u,yY,yZ,hΦ,yA,j6,⟨yu,j5⟩,hr⟩:=hp
     obtain ⟨vs,rfl,hr⟩:=hr
     have vA:=hr.length
     have vP:zA3 w Φ zCl cs vs.toList []:=hr.ways _ _ _ fun a v hw hx ha=>by
      have h0:zBB cs=[]:=by simpa using c7
      rw [h0] at hx
      have h1:=zJg hw ha
      cases u9:a.ways with
      | nil=>exact absurd u9 h1
      | cons z zs=>have:=hx z (by rw [u9];simp);cases this
     obtain ⟨us',q1,q2,q3,q4,q5⟩:=zF5 (ag:=sh.isSome) (sz:=s) (fun a v _ h=>h.elim) (hm-lm) _ _ c5 (fun j5=>by
      simp only [j5,Bool.false_or,Bool.and_eq_true] at c6
      exact ⟨Nat.eq_of_beq_eq_true c6.1,fun q hq=>List.all_eq_true.1 c6.2 q hq⟩) (zBV vP (lm*s) ((hm-lm)*s))
     have yK:=zDT sh.isSome s (hm-lm) ((cs.drop (lm*s)).take ((hm-lm)*s))
     refine ⟨.slice (some (zAz b (lm*s))) (hm-lm) (n-lm),?_,zAF S hb hd h7 ?_⟩
     ·rw [yY]
      simp only [Instr.sliceAt,Sem.run_bind,run_underlying ht,Result.andThen_ok,Instr.sureAddr,Sem.run_pure,Option.map_none]
      rw [hbnd]
      simp only [Result.andThen_ok,zAZ jE,Sem.run_bind,Sem.run_pure]
      rw [kf b yZ]
     ·by_cases gZ:hm-lm=0
      ·rw [gZ];exact ⟨rfl,.inl ⟨rfl,_,_,rfl,fun h=>by cases h⟩⟩
      ·refine ⟨rfl,.inr ⟨zAz b (lm*s),n-lm,c,us',s,by rw [yK],rfl,by rw [yK];omega,hΦ,yA,q5,⟨q3,q4⟩,?_,q1⟩⟩
       rw [yK,q2]
       simp only [PV.cells,Value.cells] at j6 vA
       refine zHB (by simp at c5 vA ⊢;omega) fun k y hk=>?_
       simp only [List.getElem?_take,List.getElem?_drop] at hk
       split at hk
       ·have:(seg c b.off cs.length)[lm*s+k]? = some y:=by rw [j6];exact hk
        have:=zDt this
        simp only [zAz,Nat.add_assoc];exact this
       ·cases hk
    ·cases h6
   ·cases h1
  ·
   rename_i el ht
   split at h1
   ·rename_i s n hs hn
    obtain ⟨hm,h2,h3⟩:=zI7 S hhi h1
    obtain ⟨lm,h4,h5⟩:=zI7 S uH h2
    obtain ⟨ti,jE,yC⟩:=zCi hs
    have hX:∀ (b:Option Addr) (cap:Nat),a.eval x = .slice b n cap→lm≤hm→hm≤cap→(Instr.sliceAt t (a.eval x) (lo.map a.eval) (hi.map a.eval) (Option.map a.eval none)).run P w = .ok (.slice (if cap=lm then b else b.map (·.add (lm*ti.size))) (hm-lm) (cap-lm)) w:=by
     intro b cap yB k1 k2
     rw [yB]
     simp only [Instr.sliceAt,Instr.slice,Sem.run_bind,run_underlying ht,Result.andThen_ok,Option.map_none]
     rw [zKn (hgh h3) (low h5) k1 (fun _=>k2)]
     simp only [Result.andThen_ok,zAZ jE,Sem.run_bind,Sem.run_pure]
    cases p<;>simp only [zN6] at h4<;>try (cases h4;done)
    case sl xs =>
     simp only [lenOf,Option.some.injEq] at hn
     obtain ⟨hc,h6⟩:=zAU h4
     simp only [Bool.and_eq_true] at hc
     obtain ⟨⟨c1,c2⟩,c3⟩:=hc
     have c1:=Nat.le_of_ble_eq_true c1
     have c2:=Nat.le_of_ble_eq_true c2
     obtain ⟨_,⟨rfl,b,n',yB,wE⟩ | ⟨b,n',c,us,sz,yB,yZ,yJ,hΦ,yA,jO,⟨kR,wN⟩,j6,hr⟩⟩:=hp
     ·have gZ:hm=0:=by simpa using c2
      have vd:lm=0:=by omega
      subst gZ;subst vd
      refine ⟨_,hX b n' (by rw [yB,← hn];rfl) (Nat.le_refl _) (Nat.zero_le _),zAF S hb hd h6 ?_⟩
      simp only [List.drop_nil,List.take_nil]
      exact ⟨rfl,.inl ⟨rfl,_,_,rfl,fun h=>by
       have wa:b=none:=by cases b<;>first | rfl | (split at h<;>cases h)
       rw [wE wa]⟩⟩
     ·refine ⟨_,hX (some b) n' (by rw [yB,← hn]) c1 (by omega),zAF S hb hd h6 ?_⟩
      have hO:((xs.drop lm).take (hm-lm)).length=hm-lm:=by simp;omega
      by_cases gZ:hm-lm=0
      ·have:(xs.drop lm).take (hm-lm)=[]:=List.eq_nil_of_length_eq_zero (by rw [hO,gZ])
       rw [this,gZ];exact ⟨rfl,.inl ⟨rfl,_,_,rfl,fun h=>by split at h<;>cases h⟩⟩
      ·have yu:us.length=xs.length:=by have:=congrArg List.length wN;simpa using this
       have hx0:∃ x,x∈xs:=by
        cases xs with
        | nil=>simp at c2;omega
        | cons x _=>exact ⟨x,by simp⟩
       obtain ⟨x0,hx0⟩:=hx0
       have wF:sz=s:=by
        have:=Nat.eq_of_beq_eq_true (List.all_eq_true.1 c3 x0 hx0)
        rw [← jO x0 hx0,this]
       subst wF
       rw [if_neg (by omega)]
       simp only [Option.map_some]
       rw [zBW yZ,yC]
       refine ⟨rfl,.inr ⟨zAz b (lm*sz),n'-lm,c,(us.drop lm).take (hm-lm),sz,by rw [hO],rfl,by rw [hO];omega,hΦ,yA,fun y hy=>jO y (List.mem_of_mem_drop (List.mem_of_mem_take hy)),⟨fun u hu=>kR u (List.mem_of_mem_drop (List.mem_of_mem_take hu)),zA3.map_isAgg wN lm (hm-lm)⟩,?_,zBV hr lm (hm-lm)⟩⟩
       rw [hO];exact zIa kR yu j6 (by omega)
    case bor r pre z a0 n0 =>
     simp only [lenOf,Option.some.injEq] at hn
     subst hn
     obtain ⟨hc,h6⟩:=zAU h4
     simp only [Bool.and_eq_true] at hc
     have ui:=Nat.eq_of_beq_eq_true hc.1
     have c1:=Nat.le_of_ble_eq_true hc.2
     subst ui
     obtain ⟨_,hg,⟨b,cap,yB,yO,wE,uL⟩,wB⟩:=hp
     have go : hm≤cap→(put d (bif Nat.beq lm 0||Nat.blt lm hm then .bor r pre z (a0+lm) (hm-lm) else .sl [])).run o e=some e'→∃ v,(Instr.sliceAt t (a.eval x) (lo.map a.eval) (hi.map a.eval) (Option.map a.eval none)).run P w = .ok v w∧Fr w0 U Φ0 nt hv (a.put d v) w e':=by
      intro k1 h6
      refine ⟨_,hX b cap yB c1 k1,zAF S hb hd h6 ?_⟩
      cases uB:(Nat.beq lm 0||Nat.blt lm hm) with
      | false =>
       simp only [Bool.or_eq_false_iff] at uB
       have:¬ lm<hm:=fun yI=>by rw [show Nat.blt lm hm=true from Nat.ble_eq_true_of_le yI] at uB;exact absurd uB.2 (by simp)
       have:hm-lm=0:=by omega
       rw [this];exact ⟨rfl,.inl ⟨rfl,_,_,rfl,fun h=>by
        have wa:b=none:=by cases b<;>first | rfl | (split at h<;>cases h)
        have:=wE wa;omega⟩⟩
      | true =>
       simp only [cond_true]
       have jg:lm=0∨lm<hm:=by
        simp only [Bool.or_eq_true] at uB
        rcases uB with h | h
        ·exact .inl (Nat.eq_of_beq_eq_true h)
        ·exact .inr (zB5 h)
       have kf:(if cap=lm then b else b.map (·.add (lm*ti.size)))=b.map (fun y=>zAz y (lm*z)):=by
        cases b with
        | none=>simp
        | some y =>
         have hy:=uL y rfl
         simp only [Option.map_some]
         split
         ·have vd:lm=0:=by omega
          subst vd;cases y;simp_all [zAz]
         ·rw [zBW hy,yC]
       rw [kf]
       refine ⟨rfl,hg,⟨_,cap-lm,rfl,by omega,fun wa=>?_,fun y hy=>?_⟩,fun nv np hf hh=>?_⟩
       ·have:b=none:=by cases b<;>first | rfl | cases wa
        have:=wE this;omega
       ·cases b with
        | none=>cases hy
        | some y0=>simp only [Option.map_some,Option.some.injEq] at hy;rw [← hy];rfl
       ·obtain ⟨sz2,xs2,g1,g2,g3⟩:=wB nv np hf hh
        refine ⟨sz2,xs2,g1,g2,?_⟩
        subst g2
        rw [yB] at g3
        cases nv<;>simp only [zBY] at g3
        rename_i y l c
        cases y with
        | none =>
         simp only [zBY,Value.slice.injEq] at g3 ⊢
         obtain ⟨⟨k2,k3,k4⟩,k5⟩:=g3
         subst k2
         refine ⟨⟨rfl,by omega,by omega⟩,by omega⟩
        | some y =>
         simp only [zBY,Value.slice.injEq] at g3 ⊢
         obtain ⟨⟨k2,_,k4⟩,k5⟩:=g3
         subst k2
         refine ⟨⟨?_,trivial,by omega⟩,by omega⟩
         simp [zAz,Nat.add_mul,Nat.add_assoc]
     cases qu:Nat.ble hm n0 with
     | true =>
      rw [qu] at h6
      exact go (Nat.le_trans (Nat.le_of_ble_eq_true qu) yO) h6
     | false =>
      rw [qu] at h6;simp only [cond_false] at h6
      obtain ⟨q,hq,h7⟩:=zBX h6
      split at h7
      ·rename_i sz2 xs2
       obtain ⟨yJ,h8⟩:=zAU h7
       have yJ:=Nat.le_of_ble_eq_true yJ
       refine go ?_ h8
       rw [← S.env r hg] at hq
       obtain ⟨nv,Li,hf,_,hH⟩:=zBM (zB4 (S.conf.rep r)) hq
       obtain ⟨sz3,xs3,g1,g2,g3⟩:=wB nv _ hf rfl
       cases g1;subst g2
       rw [yB] at g3
       obtain ⟨q1,_,q3⟩ | ⟨y,m,c,us,M,_,q1,_,q3,_⟩:=hH
       ·subst q1;simp at yJ;omega
       ·subst q1
        simp only [zBY,Value.slice.injEq] at g3
        omega
      ·cases h7
   ·cases h1
  ·cases h1
end
end Go.Eng
namespace Go.Eng
open Go
section
variable {w w':World} {Φ Φ':Nat→Prop}
mutual
theorem Rep.free {A A':Al}:∀ (p:PV) (v:Value) (L:List Nat),p.free=true→Rep w Φ A p v L→Rep w Φ' A' p v L
 | .int ..,_,_,_,h=>h
 | .bool _,_,_,_,h=>h
 | .nilp,_,_,_,h=>h
 | .nilf,_,_,_,h=>h
 | .nilm,_,_,_,h=>h
 | .nn,_,_,_,h=>h
 | .nils _,_,_,_,h=>h
 | .und,_,_,_,h=>h
 | .sl [],v,L,_,h=>by
  obtain ⟨h0,⟨_,a,n,h1⟩ | ⟨a,n,c,us,sz,h1,_⟩⟩:=h
  ·exact ⟨h0,.inl ⟨rfl,a,n,h1⟩⟩
  ·exact ⟨h0,.inl ⟨rfl,_,n,h1,fun h=>by cases h⟩⟩
 | .sl (_::_),_,_,hf,_=>by cases hf
 | .agg cs,v,L,hf,h=>by
  obtain ⟨vs,rfl,h⟩:=h
  exact ⟨vs,rfl,zA3.free cs _ L hf h⟩
 | .tup cs,v,L,hf,h=>by
  obtain ⟨vs,rfl,h⟩:=h
  exact ⟨vs,rfl,zA3.free cs _ L hf h⟩
 | .own sz xs,v,L,hf,h=>by
  obtain h | ⟨a,n,c,us,L',h0,h1,h2,h3,h4,h5,h6,h7,h8,h9⟩:=h
  ·exact .inl h
  ·exact .inr ⟨a,n,c,us,L',h0,h1,h2,h3,h4,h5,h6,h7,h8,zA3.free xs us L' hf h9⟩
 | .box q,v,L,hf,h=>by
  obtain ⟨a,c,u,L',h0,h1,h2,h4,h5,h6,h7⟩:=h
  exact ⟨a,c,u,L',h0,h1,h2,h4,h5,h6,Rep.free q u L' hf h7⟩
 | .omap es,v,L,hf,h=>by
  obtain ⟨b,ents,h0,h1,h3,h4⟩:=h
  exact ⟨b,ents,h0,h1,h3,zEh.free es _ 0 hf h4⟩
 | .bad,_,_,hf,_=>by cases hf
 | .ref _,_,_,hf,_=>by cases hf
 | .map _,_,_,hf,_=>by cases hf
 | .func ..,_,_,hf,_=>by cases hf
 | .addr ..,_,_,hf,_=>by cases hf
 | .bor ..,_,_,hf,_=>by cases hf
 | .bsl ..,_,_,hf,_=>by cases hf
 | .bmap ..,_,_,hf,_=>by cases hf
 | .lock _,_,_,hf,_=>by cases hf
 | .yld _,_,_,hf,_=>by cases hf
 | .log ..,_,_,hf,_=>by cases hf
theorem zA3.free {A A':Al}:∀ (ps:List PV) (vs:List Value) (L:List Nat),zEQ ps=true→zA3 w Φ A ps vs L→zA3 w Φ' A' ps vs L
 | [],_,_,_,h=>h
 | p::ps,vs,L,hf,h=>by
  simp only [zEQ,Bool.and_eq_true] at hf
  obtain ⟨v,vs',L1,L2,h0,h1,h2,h3⟩:=h
  exact ⟨v,vs',L1,L2,h0,h1,Rep.free p v L1 hf.1 h2,zA3.free ps vs' L2 hf.2 h3⟩
theorem zEh.free:∀ (es:List (PV×PV)) (ms:List MapEntry) (i:Nat),zN1 es=true→zEh w Φ es ms i→zEh w Φ' es ms i
 | [],_,_,_,h=>h
 | (k,p)::es,ms,i,hf,h=>by
  simp only [zN1,Bool.and_eq_true] at hf
  obtain ⟨m,ms',h0,h1,h2,h3,h4⟩:=h
  exact ⟨m,ms',h0,h1,Rep.free k _ [] hf.1.1 h2,Rep.free p _ [] hf.1.2 h3,zEh.free es ms' (i+1) hf.2 h4⟩
end
end
theorem zCR (m:List (Nat×Nat)):Tame (zEf m):=by
 constructor
 ·intro p
  cases p<;>simp only [zEf]<;>first | rfl | (split<;>rfl)
 ·intro p hp
  cases p<;>first | (cases hp;done) | skip
  all_goals
   simp only [zEf]
   first | rfl | (split<;>rfl)
section
variable {w w':World} {rv rv':Nat→Value} {E E':Nat→PV}
theorem zMt {m:List (Nat×Nat)} {Φ:Nat→Prop} {a:PV} {v:Value} (ha:zA7 w rv E a v)
  (h:∀ r h',m.lookup r=some h'→r<zAd→h'<zAd∧∀ pre nv np,zAS w' (rv' h') (E' h').unlock pre=some (nv,np)→np.heavy0=true→∃ np0,zAS w (rv r) (E r).unlock pre=some (nv,np0)∧zCf np0 np) :
  Rep w' Φ (zA7 w' rv' E') (zEf m a) v []:=by
 have hr:=zCW ha
 have key:∀ nv np i c a',zA8 nv np i c=some a'→np.heavy0=true:=by
  intro nv np i c a' h
  cases np<;>first | rfl | (simp [zA8] at h)
 cases a<;>simp only [zEf]<;>try (exact ha.elim)
 case addr r pre i c sh =>
  cases hm:m.lookup r with
  | none=>rfl
  | some h' =>
   obtain ⟨h1,h2⟩:=h r h' hm hr
   obtain ⟨_,b,h3,h4,h5⟩:=ha
   refine ⟨rfl,h1,b,h3,h4,fun nv np hn a' kF=>?_⟩
   obtain ⟨np0,h6,h7⟩:=h2 pre nv np hn (key _ _ _ _ _ kF)
   exact h5 nv np0 h6 a' (by rw [zEl h7];exact kF)
 case bor r pre z lo n =>
  cases hm:m.lookup r with
  | none=>rfl
  | some h' =>
   obtain ⟨h1,h2⟩:=h r h' hm hr
   obtain ⟨_,h3,h5⟩:=ha
   refine ⟨rfl,h1,h3,fun nv np hn hh=>?_⟩
   obtain ⟨np0,h6,h7⟩:=h2 pre nv np hn hh
   obtain ⟨sz,xs,g1,g2,g3⟩:=h5 nv np0 h6 (zDD h7)
   subst g1
   cases np<;>simp only [zCf] at h7
   subst h7
   exact ⟨_,_,rfl,g2,g3⟩
 case bsl r pre i c sz ag n =>
  cases hm:m.lookup r with
  | none=>rfl
  | some h' =>
   obtain ⟨h1,h2⟩:=h r h' hm hr
   obtain ⟨_,b,cap,h3,vt,h4,h5⟩:=ha
   refine ⟨rfl,h1,b,cap,h3,vt,h4,fun nv np hn a' kF=>?_⟩
   obtain ⟨np0,h6,h7⟩:=h2 pre nv np hn (key _ _ _ _ _ kF)
   exact h5 nv np0 h6 a' (by rw [zEl h7];exact kF)
 case bmap r pre =>
  cases hm:m.lookup r with
  | none=>rfl
  | some h' =>
   obtain ⟨h1,h2⟩:=h r h' hm hr
   obtain ⟨_,h3,h5⟩:=ha
   refine ⟨rfl,h1,h3,fun nv np hn es he=>?_⟩
   subst he
   obtain ⟨np0,h6,h7⟩:=h2 pre nv _ hn rfl
   cases np0<;>simp only [zCf] at h7
   exact h5 nv _ h6 _ rfl
end
theorem zHq {f:Nat→Nat→Nat×Nat}:∀ (R:List Nat) (k x y:Nat),((R.zipIdx k).map fun p=>f p.1 p.2).lookup x=some y→∃ j r,R[j]? = some r∧f r (k+j)=(x,y)
 | [],k,x,y,h=>by simp at h
 | r :: R,k,x,y,h=>by
  simp only [List.zipIdx_cons,List.map_cons] at h
  cases hf:f r k with
  | mk p1 p2 =>
   rw [hf,List.lookup_cons] at h
   by_cases hx:x=p1
   ·have:(x==p1)=true:=by simp [hx]
    rw [this] at h
    simp only [Option.some.injEq] at h
    exact ⟨0,r,rfl,by rw [Nat.add_zero,hf,hx,h]⟩
   ·have:(x==p1)=false:=by simp [hx]
    rw [this] at h
    obtain ⟨j,r',h1,h2⟩:=zHq R (k+1) x y h
    exact ⟨j+1,r',by simpa using h1,by rw [show k+(j+1)=k+1+j by omega];exact h2⟩
theorem zL9 {R:List Nat} {r h:Nat} (hl:(zDn R).lookup r=some h):∃ j,R[j]? = some r∧h=zAm+j:=by
 obtain ⟨j,r',h1,h2⟩:=zHq (f:=fun r j=>(r,zAm+j)) R 0 r h hl
 simp only [Nat.zero_add,Prod.mk.injEq] at h2
 exact ⟨j,h2.1▸h1,h2.2.symm⟩
theorem zNs {R:List Nat} {h r:Nat} (hl:(zB9 R).lookup h=some r):∃ j,R[j]? = some r∧h=zAm+j:=by
 obtain ⟨j,r',h1,h2⟩:=zHq (f:=fun r j=>(zAm+j,r)) R 0 h r hl
 simp only [Nat.zero_add,Prod.mk.injEq] at h2
 exact ⟨j,h2.2▸h1,h2.1.symm⟩
theorem zGd:∀ {R:List Nat},zGQ R=true→R.Nodup
 | [],_=>List.nodup_nil
 | r::R,h=>by
  simp only [zGQ,Bool.and_eq_true,Bool.not_eq_true'] at h
  exact List.nodup_cons.2 ⟨fun hm=>by have:=List.contains_iff_mem.2 hm;rw [this] at h;exact absurd h.1 (by simp),zGd h.2⟩
section
variable {o:zAL} {e e':Env}
theorem zIX:∀ {R:List Nat} {k:List PV→PM},(zNz R k).run o e=some e'→(∀ r∈R,(e.get r).isLock=false)∧(k (R.map e.get)).run o e=some e'
 | [],k,h=>⟨by simp,h⟩
 | r :: R,k,h=>by
  simp only [zNz,PM.run] at h
  split at h
  ·cases h
  ·rename_i p hp
   obtain ⟨h1,h2⟩:=zIX h
   refine ⟨fun x hx=>?_,h2⟩
   rcases List.mem_cons.1 hx with rfl | hx
   ·cases hl:(e.get x)<;>first | rfl | exact absurd hl (hp _)
   ·exact h1 x hx
theorem zKd:∀ {n:Nat} {R:List Nat} {k:List Nat→PM},(zJ5 n R k).run o e=some e'→∃ R',(k R').run o e=some e'
 | 0,R,k,h=>⟨R,h⟩
 | n+1,R,k,h=>by
  simp only [zJ5] at h
  obtain ⟨_,h1⟩:=zIX h
  revert h1
  cases Nat.beq _ _ with
  | true=>exact fun h=>⟨_,h⟩
  | false=>exact fun h=>zKd h
def zDH:List Nat→PV→PV
 | [],a=>a
 | r::R,a=>if (zBN r [] a).isWay=true then zDH R a else zBN r [] a
theorem zGZ (r:Nat) (p:PV):zBN r [] p=p∨(p.isWay=true∧zBN r [] p = .bad):=by
 cases p<;>first | exact .inl rfl | skip
 all_goals
  simp only [zBN,PV.isWay,true_and]
  cases (Nat.beq _ r&&_)<;>simp
theorem zIP:∀ (R:List Nat) (p:PV),zDH R p=p∨(p.isWay=true∧zDH R p = .bad)
 | [],p => .inl rfl
 | r::R,p=>by
  simp only [zDH]
  split
  ·exact zIP R p
  ·exact zGZ r p
theorem zKf {k:PM}:∀ {R:List Nat} {e:Env},(zJL R k).run o e=some e'→∃ e1,k.run o e1=some e'∧∀ s,e1.get s=(e.get s).mapW (zDH R)
 | [],e,h=>⟨e,h,fun s=>by rw [show zDH []=fun x=>x from rfl,zBi]⟩
 | r::R,e,h=>by
  simp only [zJL,PM.run] at h
  obtain ⟨e1,h1,h2⟩:=zKf h
  refine ⟨e1,h1,fun s=>?_⟩
  rw [h2 s,Env.get_killEx,zEA]
  refine zDq (fun a ha=>?_) _
  simp only [zDH]
  rcases zGZ r a with h3 | ⟨_,h3⟩
  ·rw [h3,if_pos ha,zFZ ha]
  ·rw [h3];rfl
theorem zVf {pre:zAV} {y:PV} (hI:PV.bad≠y) (h:(bif !pre.isEmpty then PV.bad else y)=y):pre=[]:=by
 cases pre with
 | nil=>rfl
 | cons x xs=>exact absurd h hI
theorem zIF:∀ {R:List Nat} {a:PV},a.isWay=true→zDH R a=a→(∀ k,a ≠ .yld k)→(∀ xs k,a ≠ .log xs k)→(zBa a).1∈R→(zBa a).2=[]
 | [],_,_,_,_,_,h=>by cases h
 | r :: R,a,ha,hk,hy,hl,hm=>by
  simp only [zDH] at hk
  by_cases hr:(zBa a).1=r
  ·have uH:zBN r [] a=a:=by
    rcases zGZ r a with h3 | ⟨_,h3⟩
    ·exact h3
    ·rw [h3] at hk;simp only [PV.isWay,Bool.false_eq_true,if_false] at hk;rw [← hk] at ha;cases ha
   cases a<;>first | (cases ha;done) | (exact absurd rfl (hy _)) | (exact absurd rfl (hl _ _)) | skip
   all_goals
    simp only [zBa] at hr ⊢
    subst hr
    simp only [zBN,Nat.beq_refl,Bool.true_and,List.any_nil,Bool.or_false] at uH
    exact zVf (by simp) uH
  ·have hm':(zBa a).1∈R:=(List.mem_cons.1 hm).resolve_left hr
   rcases zGZ r a with h3 | ⟨_,h3⟩
   ·rw [h3,if_pos ha] at hk;exact zIF ha hk hy hl hm'
   ·rw [h3] at hk;simp only [PV.isWay,Bool.false_eq_true,if_false] at hk;rw [← hk] at ha;cases ha
theorem zLw {k:PM}:∀ {R:List Nat} {os ps:List PV} {e:Env},R.Nodup→(zNA R os ps k).run o e=some e'→∃ e1,k.run o e1=some e'∧ps.length=R.length∧os.length=R.length∧(∀ (j:Nat) (x y:PV),os[j]? = some x→ps[j]? = some y→zGg x y=true) ∧
   (∀ s,s∉R→e1.get s=e.get s)∧∀ (j r:Nat) (p:PV),R[j]? = some r→ps[j]? = some p→e1.get r=p
 | [],os,ps,e,hn,h=>by
  cases os<;>cases ps<;>simp only [zNA] at h<;>try (cases h;done)
  exact ⟨e,h,rfl,rfl,by simp,fun _ _=>rfl,by simp⟩
 | r :: R,os,ps,e,hn,h=>by
  cases os<;>cases ps<;>simp only [zNA] at h<;>try (cases h;done)
  rename_i x os y ps
  obtain ⟨h1,h2⟩:=zAU h
  obtain ⟨root,_,hm,h3⟩:=zCm h2
  simp only [zAt,Option.some.injEq] at hm;subst hm
  obtain ⟨hnr,hnR⟩:=List.nodup_cons.1 hn
  obtain ⟨e1,g1,g2,g3,g4,g5,g6⟩:=zLw hnR h3
  refine ⟨e1,g1,by simp [g2],by simp [g3],fun j x' y' hx hy=>?_,fun s hs=>?_,fun j r' p hr hp=>?_⟩
  ·cases j with
   | zero=>simp at hx hy;subst hx;subst hy;exact h1
   | succ j=>exact g4 j x' y' (by simpa using hx) (by simpa using hy)
  ·simp only [List.mem_cons,not_or] at hs
   rw [g5 s hs.2,Env.get_set,if_neg hs.1]
  ·cases j with
   | zero =>
    simp at hr hp;subst hr;subst hp
    rw [g5 _ hnr,Env.get_set,if_pos rfl]
   | succ j=>exact g6 j r' p (by simpa using hr) (by simpa using hp)
theorem zMT (k:Nat):∀ (ps:List PV) (i:Nat) (s:Nat),Env.get ((ps.zipIdx i).map fun x=>(k+x.2,x.1)) s=if k+i≤s∧s<k+i+ps.length then ps.getD (s-k-i) .bad else .bad
 | [],i,s=>by simp [Env.get]
 | p :: ps,i,s=>by
  simp only [List.zipIdx_cons,List.map_cons,Env.get,zMT k ps (i+1) s]
  by_cases h:s=k+i
  ·subst h
   simp
  ·have:Nat.beq (k+i) s=false:=by
    cases hb:Nat.beq (k+i) s with
    | false=>rfl
    | true=>exact absurd (Nat.eq_of_beq_eq_true hb).symm h
   rw [this,cond_false]
   by_cases h2:k+i≤s∧s<k+i+(p::ps).length
   ·have h3:k+(i+1)≤s∧s<k+(i+1)+ps.length:=by simp at h2;omega
    rw [if_pos h2,if_pos h3]
    have e1:s-k-i=(s-k-(i+1))+1:=by omega
    rw [e1];simp
   ·have h3:¬ (k+(i+1)≤s∧s<k+(i+1)+ps.length):=by simp at h2 ⊢;omega
    rw [if_neg h2,if_neg h3]
theorem zOT (a b:Env) (s:Nat):Env.get (a++b) s=bif a.any (fun x=>Nat.beq x.1 s) then Env.get a s else Env.get b s:=by
 induction a with
 | nil=>rfl
 | cons x a ih =>
  obtain ⟨k,v⟩:=x
  simp only [List.cons_append,Env.get,ih,List.any_cons]
  cases Nat.beq k s<;>rfl
end
structure Gave (v:PV) (u:Value) (rv:Nat→Value) (E:Nat→PV):Prop where
 one:(∀ ps,v ≠ .tup ps)→E zAH=v∧rv zAH=u
 many:∀ ps,v = .tup ps→∃ us:Array Value,u = .tuple us∧us.size=ps.length∧∀ (j:Nat) (p:PV),ps[j]? = some p→E (zAH+j)=p∧us[j]? = some (rv (zAH+j))
def zF8 (P:Program) (f:FuncId) (args hid:List PV) (v:PV) (hid':List PV):Prop :=
 ∀ (w:World) (Φ:Nat→Prop) (rv:Nat→Value) (E:Nat→PV) (L:Nat→List Nat) (vs:Array Value),(∀ s,s<zAd→E s=(zBb args hid).get s)→(∀ s,zAd≤s→E s = .bad)→Conf w (fun b=>∃ s,b∈L s) Φ w Φ rv E L→vs.size=args.length→(∀ i,i<args.length→vs[i]? = some (rv i))→(∀ s,args.length≤s→s<zAm→rv s=undef) →
  Calls P f vs w fun e w'=>∃ u Φ' rv' E' L',e = .returned u∧Conf w (fun b=>∃ s,b∈L s) Φ w' Φ' rv' E' L'∧hid'.length=hid.length ∧
   (∀ j,j<hid.length→E' (zAm+j)=hid'.getD j .bad∧rv' (zAm+j)=rv (zAm+j))∧Gave v u rv' E'
def zCQ (P:Program) (f:FuncId):Prop:=∃ fn,P.funcs[f]? = some fn∧fn.body.isNone=false
def zF9 (P:Program) (o:zAL):Prop:=∀ f args hid v hid',o f args hid=some (v,hid')→zCQ P f∧zF8 P f args hid v hid'
theorem zDf {args hid:List PV} (ha:args.length≤zAm) (s:Nat):(zBb args hid).get s=if s<args.length then args.getD s .bad else if zAm≤s∧s<zAm+hid.length then hid.getD (s-zAm) .bad else .bad:=by
  have e1:(args.zipIdx.map fun (p,i)=>(i,p))=(args.zipIdx 0).map fun x=>(0+x.2,x.1):=by
    apply List.map_congr_left;intro x _;simp
  have e2:(hid.zipIdx.map fun (p,j)=>(zAm+j,p))=(hid.zipIdx 0).map fun x=>(zAm+x.2,x.1):=rfl
  have hany:∀ (ps:List PV) (i:Nat),((ps.zipIdx i).map fun x=>(0+x.2,x.1)).any (fun x=>Nat.beq x.1 s)=decide (i≤s∧s<i+ps.length):=by
    intro ps
    induction ps with
    | nil => intro i;have:¬ (i≤s∧s<i):=by omega
             simp [this]
    | cons p ps ih =>
      intro i
      simp only [List.zipIdx_cons,List.map_cons,List.any_cons,ih (i+1)]
      by_cases h:s=i
      · subst h;simp
      · have:Nat.beq (0+i) s=false:=by
          cases hb:Nat.beq (0+i) s with
          | false=>rfl
          | true=>exact absurd (Nat.eq_of_beq_eq_true hb) (by omega)
        rw [this,Bool.false_or]
        apply decide_eq_decide.2
        simp;omega
  simp only [zBb]
  rw [e1,e2,zOT,hany args 0,zMT,zMT]
  by_cases h:s<args.length
  · have h1:decide (0≤s∧s<0+args.length)=true:=decide_eq_true (by omega)
    rw [h1,cond_true,if_pos (by omega),if_pos h];simp
  · have h1:decide (0≤s∧s<0+args.length)=false:=decide_eq_false (by omega)
    rw [h1,cond_false,if_neg h];simp
section
variable {w0 w w':World} {U Φ0 Φ Φ1 Φ' Φ2:Nat→Prop} {rv rv':Nat→Value} {E E':Nat→PV} {L L':Nat→List Nat}
def zU0 (w:World) (rv:Nat→Value) (E:Nat→PV) (Φ1:Nat→Prop) (i:Nat) (x:Arg):Prop :=
 (x.byref=true∧x.p=E (zAd+i))∨(x.byref=false∧x.p=E (zAd+i)∧(E (zAd+i)).ways=[])∨(x.byref=false∧Rep w Φ1 zCl x.p (rv (zAd+i)) [])
def zNv (R:List Nat) (x:Arg):PV:=if x.byref then zGn (zDn R) x.p else x.p
theorem zSZ {A A':Al} {p:PV} {v:Value} {M:List Nat} (hp:p.ways=[]) (hA:∀ a v,a.isWay=true→A a v→a.ways≠[]) (h:Rep w Φ A p v M):Rep w Φ A' p v M :=
 h.ways _ _ _ fun a v hw hx ha=>by
  rw [hp] at hx
  have h1:=hA a v hw ha
  cases u9:a.ways with
  | nil=>exact absurd u9 h1
  | cons z zs=>have:=hx z (by rw [u9];simp);cases this
open Classical in
theorem zPk (C:Conf w0 U Φ0 w Φ rv E L) {R:List Nat} (hR:R.Nodup) (ga:∀ r∈R,(E r).isLock=false) (ve:∀ r∈R,r<zAd) (hRn:R.length≤1000) {as:List Arg} (hAn:as.length≤1000) (hΦ:∀ b,Φ b→Φ1 b) (hΦs:∀ b,Φ1 b→b<w.heap.size)
  (hΦR:∀ r∈R,∀ b∈L r,¬ Φ1 b) (hΦa:∀ i,i<as.length→∀ b∈L (zAd+i),¬ Φ1 b) (hA:∀ i x,as[i]? = some x→zU0 w rv E Φ1 i x) :
  ∃ rvc Ec Lc,(∀ s,s<zAd→Ec s=(zBb (as.map (zNv R)) (R.map fun r=>zGn (zDn R) (E r))).get s)∧(∀ s,zAd≤s→Ec s = .bad)∧Conf w (fun b=>∃ s,b∈Lc s) Φ1 w Φ1 rvc Ec Lc ∧
   (∀ i,i<as.length→rvc i=rv (zAd+i))∧(∀ (j r:Nat),R[j]? = some r→rvc (zAm+j)=rv r)∧(∀ s,as.length≤s→s<zAm→rvc s=undef)∧∀ b,(∃ s,b∈Lc s)→(∃ r∈R,b∈L r)∨∃ i,i<as.length∧b∈L (zAd+i):=by
 let K:Nat→Prop:=fun i=>∃ x,as[i]? = some x∧x.byref=false∧Rep w Φ1 zCl x.p (rv (zAd+i)) []
 let src:Nat→Option Nat:=fun s=>if s<as.length then (if K s then none else some (zAd+s)) else if zAm≤s then R[s-zAm]? else none
 let rvc:Nat→Value:=fun s=>if s<as.length then rv (zAd+s) else match src s with | some t=>rv t | none=>undef
 let Lc:Nat→List Nat:=fun s=>match src s with | some t=>L t | none=>[]
 let Ec:Nat→PV:=fun s=>if s<zAd then (zBb (as.map (zNv R)) (R.map fun r=>zGn (zDn R) (E r))).get s else .bad
 have hh:zAm=50000000:=rfl
 have wG:zAd=1000000000:=rfl
 have yT:∀ s,s<zAd→Ec s=if s<as.length then (as.map (zNv R)).getD s .bad else if zAm≤s∧s<zAm+R.length then (R.map fun r=>zGn (zDn R) (E r)).getD (s-zAm) .bad else .bad:=by
  intro s hs
  simp only [Ec,if_pos hs]
  rw [zDf (by simp;omega)]
  simp
 have hEh:∀ (j r:Nat),R[j]? = some r→Ec (zAm+j)=(E r).mapW (zEf (zDn R)):=by
  intro j r hj
  have jZ:j<R.length:=(List.getElem?_eq_some_iff.1 hj).1
  rw [yT _ (by omega),if_neg (by omega),if_pos (by omega)]
  simp [List.getD,hj,zGn]
 have hrh:∀ (j r:Nat),R[j]? = some r→rvc (zAm+j)=rv r:=by
  intro j r hj
  have jZ:j<R.length:=(List.getElem?_eq_some_iff.1 hj).1
  have:src (zAm+j)=some r:=by
   simp only [src]
   rw [if_neg (by omega),if_pos (by omega),Nat.add_sub_cancel_left,hj]
  simp only [rvc,this]
  rw [if_neg (by omega)]
 have qv:∀ s t,src s=some t→(t∈R∧∃ j,s=zAm+j∧R[j]? = some t)∨(s<as.length∧t=zAd+s∧¬ K s):=by
  intro s t h
  simp only [src] at h
  split at h
  ·rename_i hs
   split at h
   ·cases h
   ·rename_i hk;cases h;exact .inr ⟨hs,rfl,hk⟩
  ·split at h
   ·rename_i hs
    exact .inl ⟨List.mem_of_getElem? h,s-zAm,by omega,h⟩
   ·cases h
 have qw:∀ s s' t,src s=some t→src s'=some t→s=s':=by
  intro s s' t h h'
  rcases qv s t h with ⟨h1,j,h2,h3⟩ | ⟨h1,h2,_⟩<;>rcases qv s' t h' with ⟨jV,j',jP,vt⟩ | ⟨jV,jP,_⟩
  ·have hj:j<R.length:=(List.getElem?_eq_some_iff.1 h3).1
   have:j=j':=(List.getElem?_inj hj hR).1 (h3.trans vt.symm)
   omega
  ·have:=ve t h1;omega
  ·have:=ve t jV;omega
  ·omega
 have uA:∀ a v,a.isWay=true→zA7 w rv E a v→Rep w Φ1 (zA7 w rvc Ec) (zEf (zDn R) a) v []:=by
  intro a v _ ha
  refine zMt ha fun r h' hl hr=>?_
  obtain ⟨j,hj,rfl⟩:=zL9 hl
  have jZ:j<R.length:=(List.getElem?_eq_some_iff.1 hj).1
  refine ⟨by omega,fun pre nv np hn hh=>?_⟩
  rw [hrh j r hj,hEh j r hj,zDp (zCR _)] at hn
  exact zCS (zCR _) hn hh
 have hS:zDj w w Φ Φ1:=fun b hb=>⟨hΦ b hb,rfl⟩
 have hLs:∀ s b,b∈Lc s→∃ t,src s=some t∧b∈L t:=by
  intro s b hb
  simp only [Lc] at hb
  cases h:src s with
  | none=>rw [h] at hb;cases hb
  | some t=>rw [h] at hb;exact ⟨t,rfl,hb⟩
 have hU:∀ b,(∃ s,b∈Lc s)→(∃ r∈R,b∈L r)∨∃ i,i<as.length∧b∈L (zAd+i):=by
  rintro b ⟨s,hb⟩
  obtain ⟨t,h1,h2⟩:=hLs s b hb
  rcases qv s t h1 with ⟨h3,_⟩ | ⟨h3,rfl,_⟩
  ·exact .inl ⟨t,h3,h2⟩
  ·exact .inr ⟨s,h3,h2⟩
 have hnΦ:∀ b,(∃ s,b∈Lc s)→¬ Φ1 b:=by
  intro b hb
  rcases hU b hb with ⟨r,h1,h2⟩ | ⟨i,h1,h2⟩
  ·exact hΦR r h1 b h2
  ·exact hΦa i h1 b h2
 refine ⟨rvc,Ec,Lc,fun s hs=>if_pos hs,fun s hs=>if_neg (by omega),⟨fun s=>?_,fun s=>?_,fun s s' hI b hb yE=>?_,fun s b hb=>?_,fun b hb=>⟨hΦs b hb,.inl hb⟩,fun b hb=>hb,Nat.le_refl _,fun _ _ _=>rfl,rfl,rfl,rfl⟩,fun i hi=>if_pos hi,hrh,fun s h1 h2=>by simp only [rvc,src,if_neg (by omega:¬ s<as.length),if_neg (by omega:¬ zAm≤s)],hU⟩
 ·by_cases hs:s<as.length
  ·have hx:as[s]? = some (as[s]):=List.getElem?_eq_getElem hs
   have hE:Ec s=zNv R as[s]:=by rw [yT s (by omega),if_pos hs];simp [List.getD,hx]
   have hrvs:rvc s=rv (zAd+s):=if_pos hs
   rw [hE,hrvs]
   by_cases hk:K s
   ·have hL:Lc s=[]:=by simp only [Lc,src,if_pos hs,if_pos hk]
    rw [hL]
    obtain ⟨x,h1,h2,h3⟩:=hk
    rw [hx] at h1;cases h1
    simp only [zNv,h2,Bool.false_eq_true,if_false]
    exact h3.mono zDj.refl (fun _ _ _ h=>h.elim) (by simp)
   ·have hL:Lc s=L (zAd+s):=by simp only [Lc,src,if_pos hs,if_neg hk]
    rw [hL]
    rcases hA s _ hx with ⟨h1,h2⟩ | ⟨h1,h2,h3⟩ | ⟨h1,h2⟩
    ·simp only [zNv,h1,if_true,h2]
     exact Rep.map (zCR _).agg hS uA _ _ _ (fun _ _=>rfl) (C.rep (zAd+s))
    ·simp only [zNv,h1,Bool.false_eq_true,if_false,h2]
     exact (zSZ h3 (fun a v hw h=>zJg hw h) (C.rep (zAd+s))).mono (A:=zCl) hS (fun _ _ _ h=>h.elim) (fun _ _=>rfl)
    ·exact absurd ⟨_,hx,h1,h2⟩ hk
  ·by_cases hhs:zAm≤s∧s<zAm+R.length
   ·obtain ⟨j,rfl⟩:∃ j,s=zAm+j:=⟨s-zAm,by omega⟩
    have jZ:j<R.length:=by omega
    obtain ⟨r,hj⟩:∃ r,R[j]? = some r:=⟨_,List.getElem?_eq_getElem jZ⟩
    have hL:Lc (zAm+j)=L r:=by simp only [Lc,src,if_neg hs,if_pos hhs.1,Nat.add_sub_cancel_left,hj]
    rw [hL,hEh j r hj,hrh j r hj]
    exact Rep.map (zCR _).agg hS uA _ _ _ (fun _ _=>rfl) (C.rep r)
   ·have hL:Lc s=[]:=by
     simp only [Lc,src,if_neg hs]
     by_cases hb:zAm≤s
     ·rw [if_pos hb,List.getElem?_eq_none (by omega)]
     ·rw [if_neg hb]
    have hE:Ec s = .bad:=by
     by_cases hg:s<zAd
     ·rw [yT s hg,if_neg hs,if_neg hhs]
     ·exact if_neg hg
    rw [hL,hE];rfl
 ·simp only [Lc]
  cases h:src s with
  | none=>exact List.nodup_nil
  | some t=>exact C.nodup t
 ·obtain ⟨t,h1,h2⟩:=hLs s b hb
  obtain ⟨t',jV,jP⟩:=hLs s' b yE
  have:t=t':=Classical.byContradiction fun h=>C.disj t t' h b h2 jP
  subst this
  exact hI (qw s s' t h1 jV)
 ·obtain ⟨t,h1,h2⟩:=hLs s b hb
  exact ⟨(C.own t b h2).1,hnΦ b ⟨s,hb⟩,.inl ⟨s,hb⟩⟩
theorem zLl {x y:PV} (h:zGg x y=true) (hx:x.isLock=false) (hh:y.unlock.heavy0=true):y.unlock=y∧zCf x.unlock y:=by
 cases y<;>simp only [PV.unlock,PV.heavy0] at hh<;>try (cases hh;done)
 ·cases x<;>simp only [zGg] at h<;>try (cases h;done)
  exact ⟨rfl,(Nat.eq_of_beq_eq_true h).symm⟩
 ·cases x<;>simp only [zGg] at h<;>try (cases h;done)
  exact ⟨rfl,trivial⟩
 ·cases x<;>simp only [zGg] at h<;>try (cases h;done)
  exact ⟨rfl,trivial⟩
 ·cases x<;>simp only [zGg] at h<;>cases h
theorem zJN (C:Conf w0 U Φ0 w Φ rv E L) {R:List Nat} (hR:R.Nodup) (ga:∀ r∈R,(E r).isLock=false) (ve:∀ r∈R,r<zAd) (hRn:R.length≤1000) {m:Nat} {Uc:Nat→Prop}
    (hUc:∀ b,Uc b→(∃ r∈R,b∈L r)∨∃ i,i<m∧b∈L (zAd+i)) (C':Conf w Uc Φ1 w' Φ' rv' E' L') (j9:∀ (j r:Nat),R[j]? = some r→rv' (zAm+j)=rv r)
    (yD:∀ (j r:Nat),R[j]? = some r→zGg (E r) (zGn (zB9 R) (E' (zAm+j)))=true) {n:Nat} (hn:n≤1000)
    (hΦ2:∀ b,Φ b→Φ2 b) (hΦ2s:∀ b,Φ2 b→b<w'.heap.size∧(Φ0 b∨U b∨w0.heap.size≤b)) (hΦ2o:∀ s,s<zAd→s∉R→∀ b∈L s,¬ Φ2 b) (hΦ2n:∀ t b,b∈L' t→¬ Φ2 b)
    (hT:∀ t,((∃ j,j<R.length∧t=zAm+j)∨∃ j,j<n∧t=zAH+j)→Rep w' Φ2 (zA7 w' rv' E') (E' t) (rv' t) (L' t)) :
    ∃ rv2 E2 L2,Conf w0 U Φ0 w' Φ2 rv2 E2 L2∧(∀ s,s<zAd→rv2 s=rv s)∧(∀ s,s<zAd→s∉R→E2 s=(E s).mapW (zDH R))∧(∀ (j r:Nat),R[j]? = some r→E2 r=zGn (zB9 R) (E' (zAm+j))) ∧
      (∀ j,j<n→E2 (zAd+j)=zGn (zB9 R) (E' (zAH+j))∧rv2 (zAd+j)=rv' (zAH+j))∧∀ s,zAd+n≤s→E2 s = .bad:=by
  have hh:zAm=50000000:=rfl
  have ho:zAH=60000000:=rfl
  have wG:zAd=1000000000:=rfl
  let cal:Nat→Option Nat:=fun s=>if s<zAd then (match R.findIdx? (· == s) with | some j=>some (zAm+j) | none=>none) else if s<zAd+n then some (zAH+(s-zAd)) else none
  let rv2:Nat→Value:=fun s=>if s<zAd then rv s else match cal s with | some t=>rv' t | none=>undef
  let E2:Nat→PV:=fun s=>match cal s with | some t=>zGn (zB9 R) (E' t) | none=>if s<zAd then (E s).mapW (zDH R) else .bad
  let L2:Nat→List Nat:=fun s=>match cal s with | some t=>L' t | none=>if s<zAd then L s else []
  have ko:∀ (j r:Nat),R[j]? = some r→cal r=some (zAm+j):=by
    intro j r hj
    have hr:=ve r (List.mem_of_getElem? hj)
    have:R.findIdx? (· == r)=some j:=by
      rw [List.findIdx?_eq_some_iff_getElem]
      have jZ:j<R.length:=(List.getElem?_eq_some_iff.1 hj).1
      have hjr:R[j]=r:=(List.getElem?_eq_some_iff.1 hj).2
      refine ⟨jZ,by simp [hjr],fun k hk=>?_⟩
      simp only [beq_iff_eq,Bool.not_eq_true,beq_eq_false_iff_ne]
      intro hc
      have kV:k<R.length:=by omega
      have h1:R[k]? = R[j]?:=by rw [List.getElem?_eq_getElem kV,hc,hj]
      have:=(List.getElem?_inj kV hR).1 h1
      omega
    simp only [cal,if_pos hr,this]
  have vf:∀ s,s<zAd→s∉R→cal s=none:=by
    intro s hs yw
    have:R.findIdx? (· == s)=none:=by
      rw [List.findIdx?_eq_none_iff]
      intro x hx
      simp only [beq_eq_false_iff_ne]
      intro hc;subst hc;exact yw hx
    simp only [cal,if_pos hs,this]
  have yp:∀ s t,cal s=some t→(∃ j,R[j]? = some s∧t=zAm+j∧j<R.length∧s<zAd)∨∃ j,j<n∧s=zAd+j∧t=zAH+j:=by
    intro s t h
    by_cases hs:s<zAd
    · by_cases yw:s∈R
      · obtain ⟨j,hj⟩:=List.getElem?_of_mem yw
        rw [ko j s hj] at h;cases h
        exact .inl ⟨j,hj,rfl,(List.getElem?_eq_some_iff.1 hj).1,hs⟩
      · rw [vf s hs yw] at h;cases h
    · simp only [cal,if_neg hs] at h
      split at h
      · have h:=Option.some.inj h;exact .inr ⟨s-zAd,by omega,by omega,h.symm⟩
      · cases h
  have qw:∀ s s' t,cal s=some t→cal s'=some t→s=s':=by
    intro s s' t h h'
    rcases yp s t h with ⟨j,h1,h2,h3,_⟩ | ⟨j,h1,h2,h3⟩<;>rcases yp s' t h' with ⟨j',jV,jP,vt,_⟩ | ⟨j',jV,jP,vt⟩
    · have:j=j':=by omega
      subst this
      rw [h1] at jV;simpa using jV
    · omega
    · omega
    · omega
  have yX:∀ s,cal s=none→s<zAd→s∉R:=by
    intro s h hs yw
    obtain ⟨j,hj⟩:=List.getElem?_of_mem yw
    rw [ko j s hj] at h;cases h
  have qJ:∀ s,s<zAd→s∉R→∀ b∈L s,¬ Uc b:=by
    intro s hs yw b hb hu
    rcases hUc b hu with ⟨r,h1,h2⟩ | ⟨i,h1,h2⟩
    · exact C.disj s r (fun hc=>yw (hc▸h1)) b hb h2
    · exact C.disj s (zAd+i) (by omega) b hb h2
  have yt:∀ s,s<zAd→s∉R→∀ b∈L s,w'.heap[b]? = w.heap[b]?:=fun s hs yw b hb=>C'.kept b (C.own s b hb).1 (qJ s hs yw b hb)
  have hΦsame:zDj w w' Φ Φ2:=fun b hb=>⟨hΦ2 b hb,C'.kept b (C.frz b hb).1 fun hu=>by
    rcases hUc b hu with ⟨r,_,h2⟩ | ⟨i,_,h2⟩
    · exact (C.own r b h2).2.1 hb
    · exact (C.own _ b h2).2.1 hb⟩
  have qx:=zIP R
  have hown:∀ a v,a.isWay=true→zA7 w rv E a v→zDH R a=a→zA7 w' rv2 E2 a v:=by
    intro a v hw ha hk
    have hr:=zCW ha
    have hy:∀ k,a ≠ .yld k:=fun k hc=>by subst hc;exact ha.elim
    have hl:∀ xs k,a ≠ .log xs k:=fun xs k hc=>by subst hc;exact ha.elim
    by_cases hrR:(zBa a).1∈R
    · have hp:=zIF hw hk hy hl hrR
      obtain ⟨j,hj⟩:=List.getElem?_of_mem hrR
      refine ha.mono fun nv np j4 ww=>?_
      rw [hp] at j4 ⊢
      simp only [zAS,Option.some.injEq,Prod.mk.injEq] at j4
      obtain ⟨h1,h2⟩:=j4
      have hE2:E2 (zBa a).1=zGn (zB9 R) (E' (zAm+j)):=by simp only [E2,ko j _ hj]
      rw [hE2] at h2
      obtain ⟨g1,g2⟩:=zLl (yD j _ hj) (ga _ hrR) (by rw [h2];exact ww)
      refine ⟨(E (zBa a).1).unlock,?_,by rw [← h2,g1];exact g2⟩
      simp only [zAS,Option.some.injEq,Prod.mk.injEq,and_true]
      rw [← h1];simp only [rv2,if_pos hr]
    · refine zCF C (zDs qx) ha ?_ ?_ (yt _ hr hrR)
      · simp only [E2,vf _ hr hrR,if_pos hr]
      · simp only [rv2,if_pos hr]
  have hown':∀ a v,a.isWay=true→zA7 w rv E a v→Rep w' Φ2 (zA7 w' rv2 E2) (zDH R a) v []:=by
    intro a v hw ha
    rcases qx a with hk | ⟨_,hk⟩
    · rw [hk];exact zCV hw (hown a v hw ha hk)
    · rw [hk];rfl
  have jL:∀ a v,a.isWay=true→zA7 w' rv' E' a v→Rep w' Φ2 (zA7 w' rv2 E2) (zEf (zB9 R) a) v []:=by
    intro a v _ ha
    refine zMt ha fun r h' hl hr=>?_
    obtain ⟨j,hj,rfl⟩:=zNs hl
    have yr:=ve h' (List.mem_of_getElem? hj)
    refine ⟨yr,fun pre nv np j4 ww=>?_⟩
    have e1:rv2 h'=rv' (zAm+j):=by simp only [rv2,if_pos yr];exact (j9 j h' hj).symm
    have e2:E2 h'=(E' (zAm+j)).mapW (zEf (zB9 R)):=by simp only [E2,ko j h' hj];rfl
    rw [e1,e2,zDp (zCR _)] at j4
    exact zCS (zCR _) j4 ww
  have ud:∀ s b,b∈L2 s→(∃ t,cal s=some t∧b∈L' t)∨(cal s=none∧s<zAd∧b∈L s):=by
    intro s b hb
    simp only [L2] at hb
    cases h:cal s with
    | some t=>rw [h] at hb;exact .inl ⟨t,rfl,hb⟩
    | none =>
      rw [h] at hb
      by_cases hs:s<zAd
      · simp only [if_pos hs] at hb;exact .inr ⟨rfl,hs,hb⟩
      · simp only [if_neg hs] at hb;cases hb
  have vg:∀ t s b,b∈L' t→s<zAd→s∉R→b∉L s:=by
    intro t s b hb hs yw uL
    rcases (C'.own t b hb).2.2 with h1 | h1
    · exact qJ s hs yw b uL h1
    · have:=(C.own s b uL).1;omega
  refine ⟨rv2,E2,L2,⟨fun s=>?_,fun s=>?_,fun s s' hI b hb yE=>?_,fun s b hb=>?_,hΦ2s,fun b hb=>hΦ2 b (C.frz0 b hb),Nat.le_trans C.size C'.size,fun b hb hu=>?_,C'.os.trans C.os,C'.tape.trans C.tape,C'.output.trans C.output⟩,fun s hs=>if_pos hs,fun s hs yw=>?_,fun j r hj=>?_,fun j hj=>?_,fun s hs=>?_⟩
  · cases h:cal s with
    | some t =>
      have e1:E2 s=zGn (zB9 R) (E' t):=by simp only [E2,h]
      have e2:L2 s=L' t:=by simp only [L2,h]
      have e3:rv2 s=rv' t:=by
        rcases yp s t h with ⟨j,h1,h2,_,h4⟩ | ⟨j,h1,h2,h3⟩
        · simp only [rv2,if_pos h4];rw [h2];exact (j9 j s h1).symm
        · simp only [rv2];rw [if_neg (by omega),h]
      rw [e1,e2,e3]
      refine Rep.map (zCR _).agg zDj.refl jL _ _ _ (fun _ _=>rfl) (hT t ?_)
      rcases yp s t h with ⟨j,_,h2,h3,_⟩ | ⟨j,h1,_,h3⟩
      · exact .inl ⟨j,h3,h2⟩
      · exact .inr ⟨j,h1,h3⟩
    | none =>
      by_cases hs:s<zAd
      · have e1:E2 s=(E s).mapW (zDH R):=by simp only [E2,h,if_pos hs]
        have e2:L2 s=L s:=by simp only [L2,h,if_pos hs]
        have e3:rv2 s=rv s:=if_pos hs
        rw [e1,e2,e3]
        exact Rep.map (zDs qx).agg hΦsame hown' _ _ _ (yt s hs (yX s h hs)) (C.rep s)
      · have e1:E2 s = .bad:=by simp only [E2,h,if_neg hs]
        have e2:L2 s=[]:=by simp only [L2,h,if_neg hs]
        rw [e1,e2];rfl
  · simp only [L2]
    cases h:cal s with
    | some t=>exact C'.nodup t
    | none => by_cases hs:s<zAd
              · simp only [if_pos hs];exact C.nodup s
              · simp only [if_neg hs];exact List.nodup_nil
  · rcases ud s b hb with ⟨t,h1,h2⟩ | ⟨h1,h2,h3⟩<;>rcases ud s' b yE with ⟨t',jV,jP⟩ | ⟨jV,jP,vt⟩
    · have:t=t':=Classical.byContradiction fun h=>C'.disj t t' h b h2 jP
      subst this;exact hI (qw s s' t h1 jV)
    · exact vg t s' b h2 jP (yX s' jV jP) vt
    · exact vg t' s b jP h2 (yX s h1 h2) h3
    · exact C.disj s s' hI b h3 vt
  · rcases ud s b hb with ⟨t,h1,h2⟩ | ⟨h1,h2,h3⟩
    · have:=C'.own t b h2
      refine ⟨this.1,hΦ2n t b h2,?_⟩
      rcases this.2.2 with h4 | h4
      · rcases hUc b h4 with ⟨r,_,h5⟩ | ⟨i,_,h5⟩
        · exact (C.own r b h5).2.2
        · exact (C.own _ b h5).2.2
      · exact .inr (Nat.le_trans C.size h4)
    · have:=C.own s b h3
      exact ⟨Nat.lt_of_lt_of_le this.1 C'.size,hΦ2o s h2 (yX s h1 h2) b h3,this.2.2⟩
  · rw [C'.kept b (Nat.lt_of_lt_of_le hb C.size) fun h=>?_]
    · exact C.kept b hb hu
    · have hx:∀ t,b∈L t→False:=fun t ht=>by
        rcases (C.own t b ht).2.2 with h1 | h1
        · exact hu h1
        · omega
      rcases hUc b h with ⟨r,_,h5⟩ | ⟨i,_,h5⟩
      · exact hx r h5
      · exact hx _ h5
  · simp only [E2,vf s hs yw,if_pos hs]
  · simp only [E2,ko j r hj]
  · have:cal (zAd+j)=some (zAH+j):=by
      simp only [cal];rw [if_neg (by omega),if_pos (by omega),Nat.add_sub_cancel_left]
    refine ⟨by simp only [E2,this],?_⟩
    simp only [rv2,this];rw [if_neg (by omega)]
  · have:cal s=none:=by simp only [cal];rw [if_neg (by omega),if_neg (by omega)]
    simp only [E2,this];rw [if_neg (by omega)]
end
theorem zEr {w:World}:∀ {pre:zAV} {v nv:Value} {p q:PV},zAS w v p pre=some (nv,q)→zAA p pre=some q
 | [],v,nv,p,q,h=>by simp only [zAS,Option.some.injEq,Prod.mk.injEq] at h;simp [zAA,h.2]
 | (i,c)::rest,v,nv,p,q,h=>by
  rw [zA5] at h
  rw [zB7]
  cases hc:Eng.child p i c with
  | none=>rw [hc] at h;cases h
  | some x =>
   rw [hc] at h;simp only [Option.bind_some] at h ⊢
   cases hk:kid w v p i c with
   | none=>rw [hk] at h;cases h
   | some u=>rw [hk] at h;exact zEr h
theorem zOR (R:List Nat) (p:PV) (hp:p.isWay=true):(zDH R p).isTup=false:=by
 rcases zIP R p with h | ⟨_,h⟩
 ·rw [h];cases p<;>first | rfl | cases hp
 ·rw [h];rfl
theorem zOL (m:List (Nat×Nat)) (p:PV) (hp:p.isWay=true):(zEf m p).isTup=false:=by
 cases p<;>first | (cases hp;done) | skip
 all_goals
  simp only [zEf]
  first | rfl | (split<;>rfl)
section
variable {P:Program} {w0 w:World} {U Φ0 Φ:Nat→Prop} {nt:Nat} {hv:Hid} {a:Act} {e e':Env} {rv:Nat→Value} {E:Nat→PV} {L:Nat→List Nat} {o:zAL}
def zMP (w:World) (Φ:Nat→Prop) (rv:Nat→Value) (E:Nat→PV) (i:Nat) (x:Arg):Prop :=
 (∀ y∈x.shared,y.1<zAd)∧((x.byref=true∧x.p=E (zAd+i))∨(x.byref=false∧x.p=E (zAd+i)∧(E (zAd+i)).ways=[]) ∨
  (x.byref=false∧∀ Φ1:Nat→Prop,(∀ b,Φ b→Φ1 b)→(∀ y∈x.shared,Cov w Φ rv E Φ1 y)→Rep w Φ1 zCl x.p (rv (zAd+i)) []))
theorem zOh (yy:zF9 P o) (S:St w0 U Φ0 nt hv a w e Φ rv E L) {d:Option Nat} (hd:∀ x,d=some x→x<nt) {f:FuncId} {as:List Arg} {vs:Array Value} (yC:vs.size=as.length) (yi:∀ i,i<as.length→vs[i]? = some (rv (zAd+i)))
  (hA:∀ i x,as[i]? = some x→zMP w Φ rv E i x) {again:PM} (h:(zQv d f as again).run o e=some e') :
  again.run o e=some e'∨zCQ P f∧Calls P f vs w fun en w''=>∃ u,en = .returned u∧Fr w0 U Φ0 nt hv (a.put d u) w'' e':=by
 have hh:zAm=50000000:=rfl
 have ho:zAH=60000000:=rfl
 have wG:zAd=1000000000:=rfl
 have kS:=S.small
 obtain ⟨R,h1⟩:=zKd h
 obtain ⟨hc,h2⟩:=zAU h1
 simp only [Bool.and_eq_true] at hc
 obtain ⟨⟨⟨⟨jR,yz⟩,uJ⟩,gY⟩,hc5⟩:=hc
 have hR:=zGd jR
 have ve:∀ r∈R,r<zAd:=fun r hr=>zB5 (List.all_eq_true.1 yz r hr)
 have hRn:=Nat.le_of_ble_eq_true uJ
 have hAn:=Nat.le_of_ble_eq_true gY
 obtain ⟨hRl',h3⟩:=zIX h2
 have ga:∀ r∈R,(E r).isLock=false:=fun r hr=>by rw [S.env r (ve r hr)];exact hRl' r hr
 have uO:R.map e.get=R.map E:=List.map_congr_left fun r hr=>(S.env r (ve r hr)).symm
 rw [uO] at h3
 simp only [PM.run] at h3
 cases hof:o f (as.map fun a=>if a.byref then zGn (zDn R) a.p else a.p) ((R.map E).map (zGn (zDn R))) with
 | none=>rw [hof] at h3;cases h3
 | some r =>
  obtain ⟨v,hid'⟩:=r
  rw [hof] at h3;simp only at h3
  cases hb:((as.flatMap (·.shared)).isEmpty||v.free&&zEQ hid') with
  | false=>rw [hb] at h3;exact .inl h3
  | true =>
   rw [hb] at h3;simp only [cond_true] at h3
   refine .inr ⟨(yy f _ _ v hid' hof).1,?_⟩
   let sh:=as.flatMap (·.shared)
   let Φ1:Nat→Prop:=fun b=>Φ b∨∃ y∈sh,∃ nv q Li A,zAS w (rv y.1) (E y.1).unlock y.2=some (nv,q)∧Rep w Φ A q nv Li∧b∈Li
   have yn:∀ y∈sh,y.1∉R:=fun y hy hyR=>by
    have:=List.all_eq_true.1 hc5 y hy
    rw [List.contains_iff_mem.2 hyR] at this;cases this
   have uF:∀ (y:Nat×zAV) nv q Li A,zAS w (rv y.1) (E y.1).unlock y.2=some (nv,q)→Rep w Φ A q nv Li→∀ b∈Li,b∈L y.1:=by
    intro y nv q Li A hf hr b jD
    obtain ⟨nv',Li',h4,h5,h6⟩:=zBM (zB4 (S.conf.rep y.1)) (zEr hf)
    rw [hf] at h4;cases h4
    have:=Rep.uniq _ _ _ _ hr h6
    subst this;exact h5 b jD
   have hshg:∀ y∈sh,y.1<zAd:=by
    intro y hy
    obtain ⟨x,hx,hyx⟩:=List.mem_flatMap.1 hy
    obtain ⟨i,hi⟩:=List.getElem?_of_mem hx
    exact (hA i x hi).1 y hyx
   have hΦ:∀ b,Φ b→Φ1 b:=fun b hb => .inl hb
   have ut:∀ t,(∀ y∈sh,y.1≠t)→∀ b∈L t,¬ Φ1 b:=by
    intro t ht b kO yY
    rcases yY with h4 | ⟨y,hy,nv,q,Li,A,h4,h5,h6⟩
    ·exact (S.conf.own t b kO).2.1 h4
    ·exact S.conf.disj y.1 t (ht y hy) b (uF y nv q Li A h4 h5 b h6) kO
   have hΦs:∀ b,Φ1 b→b<w.heap.size:=by
    rintro b (yY | ⟨y,hy,nv,q,Li,A,h4,h5,h6⟩)
    ·exact (S.conf.frz b yY).1
    ·exact (S.conf.own _ b (uF y nv q Li A h4 h5 b h6)).1
   have hA':∀ i x,as[i]? = some x→zU0 w rv E Φ1 i x:=by
    intro i x hx
    rcases (hA i x hx).2 with h4 | h4 | ⟨h4,h5⟩
    ·exact .inl h4
    ·exact .inr (.inl h4)
    ·refine .inr (.inr ⟨h4,h5 Φ1 hΦ fun y hy nv q Li A hf hr b jD => .inr ⟨y,List.mem_flatMap.2 ⟨x,List.mem_of_getElem? hx,hy⟩,nv,q,Li,A,hf,hr,jD⟩⟩)
   obtain ⟨rvc,Ec,Lc,q1,q2,q3,q4,q5,q5u,q6⟩:=zPk S.conf hR ga ve hRn hAn hΦ hΦs (fun r hr=>ut r fun y hy hc=>yn y hy (hc▸hr)) (fun i hi=>ut (zAd+i) fun y hy hc=>by have:=hshg y hy;omega) hA'
   have qy:=(yy f _ _ v hid' hof).2 w Φ1 rvc Ec Lc vs (fun s hs=>by rw [q1 s hs,List.map_map];rfl) q2 q3 (by simpa using yC) (fun i hi=>by
    have qo:i<as.length:=by simpa using hi
    rw [q4 i qo];exact yi i qo) (fun s h1 h2=>q5u s (by simpa using h1) h2)
   refine qy.mono fun en w' vh=>?_
   obtain ⟨u,Φ',rv',E',L',rfl,C',hO,uP,uj⟩:=vh
   refine ⟨u,rfl,?_⟩
   obtain ⟨e1,g1,g2⟩:=zKf h3
   obtain ⟨e2,g3,g4,g5,g6,g7,g8⟩:=zLw hR g1
   simp only [List.length_map] at g4 hO uP
   have hE'h:∀ (j r:Nat),R[j]? = some r→∃ p,hid'[j]? = some p∧E' (zAm+j)=p:=by
    intro j r hj
    have jZ:j<R.length:=(List.getElem?_eq_some_iff.1 hj).1
    have hjh:j<hid'.length:=by omega
    refine ⟨hid'[j],List.getElem?_eq_getElem hjh,?_⟩
    rw [(uP j jZ).1];simp [List.getD,List.getElem?_eq_getElem hjh]
   have j9:∀ (j r:Nat),R[j]? = some r→rv' (zAm+j)=rv r:=fun j r hj=>by
    rw [(uP j (List.getElem?_eq_some_iff.1 hj).1).2,q5 j r hj]
   have yD:∀ (j r:Nat),R[j]? = some r→zGg (E r) (zGn (zB9 R) (E' (zAm+j)))=true:=by
    intro j r hj
    obtain ⟨p,kz,uq⟩:=hE'h j r hj
    rw [uq]
    exact g6 j _ _ (by simp [hj]) (by simp [kz])
   have hΦ1sh:sh.isEmpty=true→∀ b,Φ1 b→Φ b:=by
    intro hs b yY
    rcases yY with h4 | ⟨y,hy,_⟩
    ·exact h4
    ·rw [List.isEmpty_iff.1 hs] at hy;cases hy
   have y9:∀ s,s<zAd→s∉R→∀ b∈L s,¬ (∃ t,b∈Lc t):=by
    intro s hs yw b hb hu
    rcases q6 b hu with ⟨r,h4,h5⟩ | ⟨i,h4,h5⟩
    ·exact S.conf.disj s r (fun hc=>yw (hc▸h4)) b hb h5
    ·exact S.conf.disj s (zAd+i) (by omega) b hb h5
   have vi:zEQ hid'=true→∀ j,j<R.length→(E' (zAm+j)).free=true:=by
    intro hf j hj
    rw [(uP j hj).1]
    have hjh:j<hid'.length:=by omega
    have key:∀ (l:List PV),zEQ l=true→∀ j,j<l.length→(l.getD j .bad).free=true:=by
     intro l
     induction l with
     | nil=>intro _ j hj;simp at hj
     | cons x l ih =>
      intro h j hj
      simp only [zEQ,Bool.and_eq_true] at h
      cases j with
      | zero=>exact h.1
      | succ j=>simpa using ih h.2 j (by simpa using hj)
    exact key hid' hf j hjh
   have back : ∀ n,n≤1000→(v.free=true→∀ j,j<n→(E' (zAH+j)).free=true) →
     ∃ Φ2 rv2 E2 L2,Conf w0 U Φ0 w' Φ2 rv2 E2 L2∧(∀ s,s<zAd→rv2 s=rv s)∧(∀ s,s<zAd→s∉R→E2 s=(E s).mapW (zDH R))∧(∀ (j r:Nat),R[j]? = some r→E2 r=zGn (zB9 R) (E' (zAm+j))) ∧
     (∀ j,j<n→E2 (zAd+j)=zGn (zB9 R) (E' (zAH+j))∧rv2 (zAd+j)=rv' (zAH+j))∧∀ s,zAd+n≤s→E2 s = .bad:=by
    intro n hn vX
    by_cases jr:sh.isEmpty=true
    ·obtain ⟨rv2,E2,L2,hl⟩:=zJN (Φ2:=Φ') S.conf hR ga ve hRn q6 C' j9 yD hn (fun b yY=>C'.frz0 b (hΦ b yY))
      (fun b yY=>by
       refine ⟨(C'.frz b yY).1,?_⟩
       rcases (C'.frz b yY).2 with h4 | h4 | h4
       ·exact (S.conf.frz b (hΦ1sh jr b h4)).2
       ·rcases q6 b h4 with ⟨r,_,h5⟩ | ⟨i,_,h5⟩
        ·exact .inr (S.conf.own r b h5).2.2
        ·exact .inr (S.conf.own _ b h5).2.2
       ·exact .inr (.inr (Nat.le_trans S.conf.size h4)))
      (fun s hs yw b yY hp=>by
       rcases (C'.frz b hp).2 with h4 | h4 | h4
       ·exact (S.conf.own s b yY).2.1 (hΦ1sh jr b h4)
       ·exact y9 s hs yw b yY h4
       ·have:=(S.conf.own s b yY).1;omega)
      (fun t b yY=>(C'.own t b yY).2.1) (fun t _=>C'.rep t)
     exact ⟨Φ',rv2,E2,L2,hl⟩
    ·have hvf:v.free=true∧zEQ hid'=true:=by
      have hse':sh.isEmpty=false:=by simpa using jr
      rw [show (as.flatMap (·.shared)).isEmpty=false from hse'] at hb
      simpa using hb
     obtain ⟨rv2,E2,L2,hl⟩:=zJN (Φ2:=Φ) S.conf hR ga ve hRn q6 C' j9 yD hn (fun b yY=>yY)
      (fun b yY=>⟨Nat.lt_of_lt_of_le (S.conf.frz b yY).1 C'.size,(S.conf.frz b yY).2⟩)
      (fun s _ _ b yY=>(S.conf.own s b yY).2.1)
      (fun t b yY hp=>(C'.own t b yY).2.1 (C'.frz0 b (hΦ b hp)))
      (fun t ht=>by
       refine Rep.free _ _ _ ?_ (C'.rep t)
       rcases ht with ⟨j,hj,rfl⟩ | ⟨j,hj,rfl⟩
       ·exact vi hvf.2 j hj
       ·exact vX hvf.1 j hj)
     exact ⟨Φ,rv2,E2,L2,hl⟩
   have st:∀ {Φ2:Nat→Prop} {rv2:Nat→Value} {E2:Nat→PV} {L2:Nat→List Nat},Conf w0 U Φ0 w' Φ2 rv2 E2 L2→(∀ s,s<zAd→rv2 s=rv s)→(∀ s,s<zAd→s∉R→E2 s=(E s).mapW (zDH R)) →
     (∀ (j r:Nat),R[j]? = some r→E2 r=zGn (zB9 R) (E' (zAm+j)))→St w0 U Φ0 nt hv a w' e2 Φ2 rv2 E2 L2:=by
    intro Φ2 rv2 E2 L2 C2 k1 k2 k3
    refine S.turn C2 (fun s hs=>?_) k1 (fun d ps hd hp=>?_)
    ·by_cases yw:s∈R
     ·obtain ⟨j,hj⟩:=List.getElem?_of_mem yw
      obtain ⟨p,kz,uq⟩:=hE'h j s hj
      rw [k3 j s hj,g8 j s (zGn (zB9 R) p) hj (by simp [kz]),uq]
     ·rw [k2 s hs yw,g7 s yw,g2 s,S.env s hs]
    ·have uY:d<zAd:=by omega
     by_cases hdR:d∈R
     ·obtain ⟨j,hj⟩:=List.getElem?_of_mem hdR
      have:=yD j d hj
      rw [k3 j d hj] at hp
      rw [hp] at this
      cases E d<;>cases this
     ·rw [k2 d uY hdR] at hp
      exact zDP (zOR R) hp
   cases d with
   | none =>
    obtain ⟨Φ2,rv2,E2,L2,C2,k1,k2,k3,k4,k5⟩:=back 0 (by omega) (fun _ j hj=>by omega)
    have jt:(put none (zGn (zB9 R) v)).run o e2=some e':=by
     revert g3;cases zGn (zB9 R) v<;>exact fun h=>h
    simp only [put,PM.run,Option.some.injEq] at jt
    subst jt
    exact ⟨Φ2,rv2,E2,L2,st C2 k1 k2 k3,fun g hg=>k5 g hg⟩
   | some d =>
    have uy:=hd d rfl
    cases hvt:v.isTup with
    | false =>
     have uQ:∀ ps,v ≠ .tup ps:=fun ps hc=>by rw [hc] at hvt;cases hvt
     obtain ⟨o1,o2⟩:=uj.one uQ
     obtain ⟨Φ2,rv2,E2,L2,C2,k1,k2,k3,k4,k5⟩:=back 1 (by omega) (fun hf j hj=>by
      have:j=0:=by omega
      subst this;rw [Nat.add_zero,o1];exact hf)
     obtain ⟨m1,m2⟩:=k4 0 (by omega)
     simp only [Nat.add_zero] at m1 m2
     have jt:(put (some d) (zGn (zB9 R) v)).run o e2=some e':=by
      have hnt2:∀ ps,zGn (zB9 R) v ≠ .tup ps:=fun ps hc=>by
       obtain ⟨ps',jQ,_⟩:=zDP (zOL _) hc
       exact uQ ps' jQ
      revert g3
      simp only [zEN]
      split
      ·rename_i hc;exact absurd hc (hnt2 _)
      ·exact fun h=>h
     have:=zFM (st C2 k1 k2 k3) hd (g:=zAd) (Nat.le_refl _) (by rw [m1,o1];exact jt) (fun s hs hI=>k5 s (by omega))
     rw [m2,o2] at this;exact this
    | true =>
     cases ue:v<;>rw [ue] at hvt<;>try (cases hvt;done)
     rename_i ps
     subst ue
     obtain ⟨us,rfl,o2,o3⟩:=uj.many ps rfl
     have e1:zGn (zB9 R) (.tup ps) = .tup (zCH (zEf (zB9 R)) ps):=rfl
     rw [e1] at g3
     simp only [zEN] at g3
     obtain ⟨uB,g9⟩:=zAU g3
     simp only [Bool.and_eq_true] at uB
     have hl16:=Nat.le_of_ble_eq_true uB.1
     rw [zC3] at hl16
     obtain ⟨Φ2,rv2,E2,L2,C2,k1,k2,k3,k4,k5⟩:=back ps.length (by omega) (fun hf j hj=>by
      obtain ⟨p,hp⟩:∃ p,ps[j]? = some p:=⟨_,List.getElem?_eq_getElem hj⟩
      rw [(o3 j p hp).1]
      have key:∀ (l:List PV),zEQ l=true→∀ p∈l,p.free=true:=by
       intro l
       induction l with
       | nil=>intro _ p hp;cases hp
       | cons x l ih =>
        intro h p hp
        simp only [zEQ,Bool.and_eq_true] at h
        rcases List.mem_cons.1 hp with rfl | hp
        ·exact h.1
        ·exact ih h.2 p hp
      exact key ps hf p (List.mem_of_getElem? hp))
     simp only [PM.run] at g9
     obtain ⟨L3,S3⟩:=(st C2 k1 k2 k3).empty uy
     have uw:∀ g,zAd≤g→g≠d:=fun g hg=>by omega
     refine zGE uy (vs:=us) (zCH (zEf (zB9 R)) ps) 0 S3 (fun ps hp=>by rw [zAh] at hp;cases hp) (by rw [zC3];omega) (by rw [zC3];omega) (fun j p hp=>?_) (fun g hg hI=>?_) (fun x hx=>?_) (fun j hj=>by omega) g9
     ·rw [zHb] at hp
      cases vG:ps[j]? with
      | none=>rw [vG] at hp;cases hp
      | some p0 =>
       rw [vG] at hp;simp only [Option.map_some,Option.some.injEq] at hp
       have hj:j<ps.length:=(List.getElem?_eq_some_iff.1 vG).1
       obtain ⟨m1,m2⟩:=k4 j hj
       obtain ⟨m3,m4⟩:=o3 j p0 vG
       simp only [Nat.add_zero,Nat.zero_add]
       rw [zAf (uw _ (by omega)),m1,m3,m2]
       exact ⟨hp,m4⟩
     ·rw [zAf (uw g hg)]
      refine k5 g ?_
      refine Nat.le_of_not_lt fun yI=>hI (g-zAd) (by rw [zC3];omega) (by omega)
     ·have:=List.all_eq_true.1 uB.2 x hx
      simpa using this
end
end Go.Eng
