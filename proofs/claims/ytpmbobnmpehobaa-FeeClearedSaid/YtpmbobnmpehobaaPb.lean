/- The payments that are told clear balances; they are as many as there are people with a balance less the groups; without one of them the others do not clear (up to 7 balances of numbers; any payment). -/
import Derived.Test.YtpmbobnmpehobaaPa
import Derived.Laws.StructEq
import Derived.Laws.Cover3
import Derived.Laws.Slices
import Derived.Laws.MakeOwn
import Derived.Laws.CopyRow
import Derived.Laws.AppendOwn
set_option linter.unusedVariables false
set_option linter.unusedSimpArgs false
set_option linter.unusedSectionVars false
namespace Go.Eng
open Go
theorem zBI {α:Type} {x:Option α} {k:α→PM} {o:zAL} {e e':Env} (h:(zI2 x k).run o e=some e'):∃ a,x=some a∧(k a).run o e=some e':=by
 cases x with
 | none=>cases h
 | some a=>exact ⟨a,rfl,h⟩
theorem zEy {p:PV} {k:Nat→PM} {o:zAL} {e e':Env} (h:(zG2 p k).run o e=some e'):∃ ik n,p = .int ik n∧0≤n∧(k n.toNat).run o e=some e':=by
 cases p<;>try (cases h;done)
 rename_i ik n
 simp only [zG2] at h
 split at h
 ·exact ⟨ik,n,rfl,‹_›,h⟩
 ·cases h
theorem zC5 {c:Prop} [Decidable c] {k:PM} {o:zAL} {e e':Env} (h:(if c then k else .fail).run o e=some e'):c∧k.run o e=some e':=by
 split at h
 ·exact ⟨‹_›,h⟩
 ·cases h
theorem zAU {c:Bool} {k:PM} {o:zAL} {e e':Env} (h:(bif c then k else .fail).run o e=some e'):c=true∧k.run o e=some e':=by
 cases c
 ·cases h
 ·exact ⟨rfl,h⟩
section
variable {P:Program} {w0 w:World} {U Φ0 Φ:Nat→Prop} {nt:Nat} {hv:Hid} {a:Act} {e e':Env} {rv rv':Nat→Value} {E E':Nat→PV} {L L':Nat→List Nat} {o:zAL} {A:Al}
def zBy (E:Nat→PV):Prop:=∀ g,zAd≤g→E g = .bad
theorem zAG (S:St w0 U Φ0 nt hv a w e Φ rv E L) (hb:zBy E) {d:Option Nat} (hd:∀ x,d=some x→x<nt) {p:PV} {v:Value} (h:(put d p).run o e=some e') (hr:Rep w Φ (zA6 w rv E) p v []) :
  Fr w0 U Φ0 nt hv (a.put d v) w e':=by
 have:=zFJ (S.hold (Nat.le_refl zAd) hr) hd (Nat.le_refl zAd) (by rw [zAh];exact h) (fun s hs hI=>by rw [zAf hI];exact hb s hs)
 rwa [zAh] at this
theorem zTT (S:St w0 U Φ0 nt hv a w e Φ rv E L) (hb:zBy E) {d:Option Nat} (hd:∀ x,d=some x→x<nt) {c x y:Operand} (hc:zAW nt c=true) (hx:zAW nt x=true) (hy:zAW nt y=true)
  (h:(zSH d c x y).run o e=some e'):∃ t,a.eval c = .bool t∧Fr w0 U Φ0 nt hv (a.put d (if t then a.eval x else a.eval y)) w e':=by
 obtain ⟨p,h1,h2⟩:=zBD S hc h
 cases p<;>simp only [zS1] at h1<;>try (cases h1;done)
 rename_i t
 refine ⟨t,h2.1,?_⟩
 cases t
 ·obtain ⟨q,h3,h4⟩:=zBD S hy h1;exact zAG S hb hd h3 h4
 ·obtain ⟨q,h3,h4⟩:=zBD S hx h1;exact zAG S hb hd h3 h4
theorem zUW (S:St w0 U Φ0 nt hv a w e Φ rv E L) (hb:zBy E) {d:Option Nat} (hd:∀ x,d=some x→x<nt) {x:Operand} (hx:zAW nt x=true) (h:(opd x (zVx d)).run o e=some e') :
  (match a.eval x with | .pointer none | .nilIface | .nilFunc | .func (.method _) _ _=>False | _=>True)∧Fr w0 U Φ0 nt hv (a.put d (a.eval x)) w e':=by
 obtain ⟨p,h1,h2⟩:=zBD S hx h
 cases p<;>simp only [zVx] at h1<;>try (cases h1;done)
 case ref q=>refine ⟨?_,zAG S hb hd h1 h2⟩;obtain ⟨_,b,c,u,h3,_⟩:=h2;rw [h3];trivial
 case func=>refine ⟨?_,zAG S hb hd h1 h2⟩;obtain ⟨_,fs,cs,h3,_⟩:=h2;rw [h3];trivial
 case addr=>refine ⟨?_,zAG S hb hd h1 h2⟩;obtain ⟨_,_,b,h3,_⟩:=h2;rw [h3];trivial
 case yld=>refine ⟨?_,zAG S hb hd h1 h2⟩;rw [h2.2];trivial
theorem zVL (S:St w0 U Φ0 nt hv a w e Φ rv E L) (hb:zBy E) {d:Option Nat} (hd:∀ x,d=some x→x<nt) {op:UnOp} {x:Operand} (hx:zAW nt x=true) (h:(opd x (unV d op)).run o e=some e') :
  ∃ v,(Op.unary op (a.eval x)).run P w = .ok v w∧Fr w0 U Φ0 nt hv (a.put d v) w e':=by
 obtain ⟨p,h1,h2⟩:=zBD S hx h
 simp only [unV] at h1
 split at h1
 ·rename_i b;exact ⟨.bool !b,by rw [h2.1];rfl,zAG S hb hd h1 ⟨rfl,rfl⟩⟩
 ·rename_i k n;exact ⟨.int k (k.wrap (0-n)),by rw [h2.1];rfl,zAG S hb hd h1 ⟨rfl,rfl⟩⟩
 ·cases h1
theorem zTZ (S:St w0 U Φ0 nt hv a w e Φ rv E L) (hb:zBy E) {d:Option Nat} (hd:∀ x,d=some x→x<nt) {s t:TypeId} (hs:(P.underlying s).isSome=true) {x:Operand} (hx:zAW nt x=true) (h:(opd x (zQy P d t)).run o e=some e') :
  ∃ v,(convert s t (a.eval x)).run P w = .ok v w∧Fr w0 U Φ0 nt hv (a.put d v) w e':=by
 obtain ⟨p,h1,h2⟩:=zBD S hx h
 simp only [zQy] at h1
 split at h1
 ·rename_i k k' n ht
  refine ⟨.int k (k.wrap n),?_,zAG S hb hd h1 ⟨rfl,rfl⟩⟩
  obtain ⟨ds,LB⟩:=Option.isSome_iff_exists.1 hs
  rw [h2.1]
  simp only [convert,Sem.run_bind,run_underlying ht,run_underlying LB,Result.andThen_ok]
  rfl
 ·cases h1
theorem zTw (S:St w0 U Φ0 nt hv a w e Φ rv E L) (hb:zBy E) {d:Option Nat} (hd:∀ x,d=some x→x<nt) {f:FuncId} {fs cs:Array Operand} (hf:∀ x∈fs.toList,zAW nt x=true) (hc:∀ x∈cs.toList,zAW nt x=true)
  (h:(zJS d f fs.toList cs.toList).run o e=some e'):Fr w0 U Φ0 nt hv (a.put d (.func (.func f) (fs.map a.eval) (cs.map a.eval))) w e':=by
 obtain ⟨ps,h1,h2⟩:=zHt S hf h
 obtain ⟨qs,h3,h4⟩:=zHt S hc h1
 exact zAG S hb hd h3 ⟨rfl,_,_,rfl,by simpa using h2,by simpa using h4⟩
theorem zEZ {t:TypeId} {sh:Option Nat} (h:shT P t=some sh):∃ i,P.info? t=some i∧(isAgg t).run P w = .ok sh.isSome w∧(∀ n,sh=some n→n=i.size)∧(sh=none→i.size=1):=by
 simp only [shT] at h
 cases hu:P.underlying t with
 | none=>rw [hu] at h;cases h
 | some td =>
  have hr:=run_underlying (w:=w) hu
  cases hi:P.info? t with
  | none=>rw [hu,hi] at h;cases td<;>cases h
  | some i =>
   rw [hu,hi] at h
   refine ⟨i,rfl,?_⟩
   cases td<;>simp only at h<;>first | (cases h;exact ⟨by simp only [isAgg,Sem.run_bind,hr,Result.andThen_ok];rfl,fun n hn=>by cases hn;rfl,fun hn=>by cases hn⟩) | skip
   all_goals
    split at h
    ·rename_i h1
     cases h;exact ⟨by simp only [isAgg,Sem.run_bind,hr,Result.andThen_ok];rfl,(by intro n hn;cases hn),fun _=>h1⟩
    ·cases h
theorem zAX {t:TypeId} {i:TypeInfo} (h:P.info? t=some i):(sizeOf t).run P w = .ok i.size w:=by
 simp [sizeOf,typeInfo,h]
theorem zFI {t:TypeId} {sh:Option Nat} (hs:shT P t=some sh) {p q:PV} {cs:Array Value} {off:Nat} (hp:Rep w Φ A p (.agg cs) []) (h:sub p off sh=some q) :
  ∃ u,(part t cs off).run P w = .ok u w∧Rep w Φ A q u []:=by
 obtain ⟨i,hi,yj,h1,h2⟩:=zEZ (w:=w) hs
 cases p<;>try (cases sh<;>cases h;done)
 rename_i ps
 obtain ⟨vs,hv,hr⟩:=hp
 cases hv
 have hO:=hr.length
 cases sh with
 | some n =>
  simp only [sub] at h
  split at h
  ·rename_i yI
   cases h
   have hn:=h1 n rfl;subst hn
   refine ⟨.agg (cs.extract off (off+i.size)),?_,?_⟩
   ·simp only [part,Sem.run_bind,yj,Result.andThen_ok,Option.isSome_some,if_true,zAX hi];rfl
   ·refine ⟨_,rfl,?_⟩
    rw [Array.toList_extract]
    have:=zBS hr off i.size
    simpa [List.extract] using this
  ·cases h
 | none =>
  simp only [sub] at h
  obtain ⟨u,La,Li,Lb,hu,hL,kU,_,_⟩:=hr.split h
  have hu':cs[off]? = some u:=by simpa using hu
  have:Li=[]:=by
   have:=congrArg List.length hL;simp at this
   exact List.eq_nil_of_length_eq_zero (by omega)
  subst this
  refine ⟨u,?_,kU⟩
  simp only [part,Sem.run_bind,yj,Result.andThen_ok,Option.isSome_none,Bool.false_eq_true,if_false,hu']
  rfl
theorem zNg {eq:TypeId→PV→PV→Option Bool} {d:Nat} {p q:PV} {xs ys:Array Value} (hp:Rep w Φ A p (.agg xs) []) (hq:Rep w Φ A q (.agg ys) [])
  (hd:∀ t p q b x y,eq t p q=some b→Rep w Φ A p x []→Rep w Φ A q y []→(Op.equalIn d t x y).run P w = .ok b w) :
  ∀ (fs:List Field) (b:Bool),zUk eq (shT P) p q fs=some b→(Op.eqFields d xs ys fs).run P w = .ok b w
 | [],b,h=>by simp only [zUk,Option.some.injEq] at h;subst h;rfl
 | f :: fs,b,h=>by
  simp only [zUk] at h
  simp only [Op.eqFields]
  split at h
  ·rename_i hn
   rw [if_neg (by simp [hn])]
   exact zNg hp hq hd fs b h
  ·rename_i hn
   rw [if_pos hn]
   cases hs:shT P f.type with
   | none=>rw [hs] at h;cases h
   | some sh =>
    rw [hs] at h;simp only at h
    split at h
    ·rename_i a1 b1 h1 h2
     obtain ⟨u1,h3,h4⟩:=zFI hs hp h1
     obtain ⟨u2,h5,h6⟩:=zFI hs hq h2
     simp only [Sem.run_bind,h3,h5,Result.andThen_ok]
     cases he:eq f.type a1 b1 with
     | none=>rw [he] at h;cases h
     | some r =>
      rw [hd _ _ _ _ _ _ he h4 h6]
      rw [he] at h
      simp only [Result.andThen_ok]
      cases r with
      | true =>
       simp only [Bool.not_true,Bool.false_eq_true,if_false]
       exact zNg hp hq hd fs b h
      | false =>
       simp only [Option.some.injEq] at h;subst h
       simp
    ·cases h
theorem zQ8 {eq:PV→PV→Option Bool} {d:Nat} {e:TypeId} {sh:Option Nat} {i:TypeInfo} (hs:shT P e=some sh) (hi:P.info? e=some i) {p q:PV} {xs ys:Array Value} (hp:Rep w Φ A p (.agg xs) []) (hq:Rep w Φ A q (.agg ys) [])
  (hd:∀ p q b x y,eq p q=some b→Rep w Φ A p x []→Rep w Φ A q y []→(Op.equalIn d e x y).run P w = .ok b w) :
  ∀ (n k:Nat) (b:Bool),zU8 eq sh i.size p q k n=some b →
   ((forIn (List.range' k n 1) ((none,()):Option Bool×Unit) fun i' r=>do
    let a ← part e xs (i'*i.size)
    let c ← part e ys (i'*i.size)
    if !(← Op.equalIn d e a c) then pure (.done (some false,())) else pure (.yield (none,()))):Sem _).run P w = .ok (if b then (none,()) else (some false,())) w
 | 0,k,b,h=>by simp only [zU8,Option.some.injEq] at h;subst h;simp
 | n + 1,k,b,h=>by
  simp only [zU8] at h
  simp only [List.range'_succ,List.forIn_cons,Sem.run_bind]
  split at h
  ·rename_i a1 b1 h1 h2
   obtain ⟨u1,h3,h4⟩:=zFI hs hp h1
   obtain ⟨u2,h5,h6⟩:=zFI hs hq h2
   simp only [h3,h5,Result.andThen_ok]
   cases he:eq a1 b1 with
   | none=>rw [he] at h;cases h
   | some r =>
    rw [hd _ _ _ _ _ he h4 h6]
    rw [he] at h
    simp only [Result.andThen_ok]
    cases r with
    | true =>
     simp only [Bool.not_true,Bool.false_eq_true,if_false,Sem.run_pure,Result.andThen_ok]
     exact zQ8 hs hi hp hq hd n (k+1) b h
    | false =>
     simp only [Option.some.injEq] at h;subst h
     simp
  ·cases h
theorem zJH:∀ (n:Nat) (t:TypeId) (p q:PV) (b:Bool) (x y:Value) (d:Nat),n≤d→eqT P n t p q=some b→Rep w Φ A p x []→Rep w Φ A q y []→(Op.equalIn d t x y).run P w = .ok b w
 | 0,t,p,q,b,x,y,d,hd,h,hp,hq=>by cases h
 | n+1,t,p,q,b,x,y,0,hd,h,hp,hq=>by omega
 | n + 1,t,p,q,b,x,y,d+1,hd,h,hp,hq=>by
  have yI:n≤d:=by omega
  simp only [eqT] at h
  split at h
  ·rename_i k0 k a1 k' b1 ht
   rw [hp.1,hq.1]
   split at h
   ·rename_i hk;subst hk
    cases h;exact run_equalIn_int w d t k k0 a1 b1 ht
   ·cases h
  ·rename_i a1 b1 ht
   rw [hp.1,hq.1];cases h
   exact run_equalIn_bool' w d t a1 b1 ht
  ·rename_i el ht
   rw [hp.1,hq.1];cases h
   simp [Op.equalIn,run_underlying ht]
  ·rename_i fs xs ys ht
   cases yR:P.stoodInHeld t with
   | true=>rw [yR] at h;cases h
   | false =>
    rw [yR] at h;simp only [cond_false] at h
    obtain ⟨vs,rfl,jI⟩:=hp
    obtain ⟨us,rfl,j9⟩:=hq
    have wQ:P.fieldsOf t=fs:=by simp [Program.fieldsOf,ht]
    rw [run_equalIn_struct w d t vs us (by rw [wQ];exact ht) yR,wQ]
    exact zNg (p := .agg xs) (q := .agg ys) ⟨vs,rfl,jI⟩ ⟨us,rfl,j9⟩ (fun t p q b x y he h1 h2=>zJH n t p q b x y d yI he h1 h2) fs.toList b h
  ·rename_i len el xs ys ht
   split at h
   ·rename_i sz sh yC ja
    obtain ⟨vs,rfl,jI⟩:=hp
    obtain ⟨us,rfl,j9⟩:=hq
    obtain ⟨i,hi,_⟩:=zEZ (w:=w) ja
    have qf:i.size=sz:=by simp only [szT,hi,Option.map_some,Option.some.injEq] at yC;exact yC
    subst qf
    have:=zQ8 (p := .agg xs) (q := .agg ys) ja hi ⟨vs,rfl,jI⟩ ⟨us,rfl,j9⟩ (fun p q b x y he h1 h2=>zJH n el p q b x y d yI he h1 h2) len 0 b h
    simp only [Op.equalIn,Sem.run_bind,run_underlying ht,Result.andThen_ok,zAX hi,Std.Legacy.Range.forIn_eq_forIn_range',Std.Legacy.Range.size,Nat.sub_zero,Nat.add_sub_cancel,Nat.div_one]
    rw [this]
    cases b<;>simp
   ·cases h
  ·cases h
theorem zRf {n:Nat} {t:TypeId} {p q:PV} {b:Bool} (h:eqT P n t p q=some b) (ha:p.isAgg=false):(∃ k n k' m,p = .int k n∧q = .int k' m)∨(∃ b,p = .bool b)∨p = .nilp:=by
 cases n with
 | zero=>cases h
 | succ n =>
  simp only [eqT] at h
  split at h
  ·exact .inl ⟨_,_,_,_,rfl,rfl⟩
  ·exact .inr (.inl ⟨_,rfl⟩)
  ·exact .inr (.inr rfl)
  ·cases ha
  ·cases ha
  ·cases h
theorem zSr {t:TypeId} {p q:PV} (hn:∀ z,q ≠ .nils z) (ha:∀ ys,q ≠ .agg ys):eqV P t p q=bif p.isAgg then none else eqT P 20 t p q:=by
 cases q<;>first | rfl | exact absurd rfl (hn _) | exact absurd rfl (ha _)
def zVU:Value→Bool
 | .bool _ | .pointer _ | .slice .. | .agg _=>true
 | _=>false
theorem zQJ {t:TypeId} {x y:Value} {b:Bool} (hx:zVU x=true) (h:(Op.equal t x y).run P w = .ok b w):(binOp .eql t x y).run P w = .ok (.bool b) w∧(binOp .neq t x y).run P w = .ok (.bool !b) w:=by
 have h1:binOp .eql t x y=(do pure (.bool (← Op.equal t x y))):=by cases x<;>first | (cases hx;done) | rfl
 have h2:binOp .neq t x y=(do pure (.bool (!(← Op.equal t x y)))):=by cases x<;>first | (cases hx;done) | rfl
 rw [h1,h2]
 simp only [Sem.run_bind,h,Result.andThen_ok]
 exact ⟨rfl,rfl⟩
theorem zRT {t:TypeId} {p:PV} {z:Nat} {b:Bool} {x:Value} (h:eqV P t p (.nils z)=some b) (hA:∀ a v,a.isWay=true→A a v→∀ r pre z lo n,a = .bor r pre z lo n→∃ b c,v = .slice b n c∧n≤c∧(b=none→c=0))
  (hp:Rep w Φ A p x []):(∃ a n c,x = .slice a n c)∧(Op.equal t x (.slice none 0 0)).run P w = .ok b w:=by
 cases ht:P.underlying t with
 | none=>simp [eqV,ht] at h
 | some td =>
 by_cases j8:∃ e,td = .slice e
 ·obtain ⟨e,rfl⟩:=j8
  by_cases gU:∃ z',p = .nils z'
  ·obtain ⟨z',rfl⟩:=gU
   simp only [eqV,ht,Option.some.injEq] at h
   subst h
   rw [hp.1]
   exact ⟨⟨_,_,_,rfl⟩,run_equal_slice_nil w t e none 0 0 ht⟩
  have hh:(bif zE1 p then some false else none)=some b:=by
   rw [← h]
   cases p<;>first | (simp only [eqV,ht];done) | exact absurd ⟨_,rfl⟩ gU
  have key:∀ a n c,x = .slice (some a) n c→b=false→(∃ a n c,x = .slice a n c)∧(Op.equal t x (.slice none 0 0)).run P w = .ok b w:=by
   intro a n c hx hb
   subst hx;subst hb
   exact ⟨⟨_,_,_,rfl⟩,run_equal_slice_nil w t e (some a) n c ht⟩
  cases jo:zE1 p with
  | false=>rw [jo] at hh;cases hh
  | true =>
   rw [jo] at hh;simp only [cond_true,Option.some.injEq] at hh
   cases p<;>simp only [zE1] at jo<;>try (cases jo;done)
   case nn =>
    obtain ⟨_,a,n,h1⟩:=hp
    exact key a 0 n h1 hh.symm
   case sl xs =>
    cases xs with
    | nil=>cases jo
    | cons x0 xs =>
     obtain ⟨_,⟨h1,_⟩ | ⟨a,n,c,us,sz,h1,_⟩⟩:=hp
     ·cases h1
     ·exact key a _ n h1 hh.symm
   case own sz xs =>
    cases xs with
    | nil=>cases jo
    | cons x0 xs =>
     obtain ⟨h1,_⟩ | ⟨a,n,c,us,L',h0,_⟩:=hp
     ·cases h1
     ·cases h0
   case bor r pre z lo n =>
    cases n with
    | zero=>cases jo
    | succ n =>
     obtain ⟨b',c,h1,h2,h3⟩:=hA _ _ rfl hp.2 r pre z lo (n+1) rfl
     cases b' with
     | none=>have:=h3 rfl;omega
     | some a=>exact key a _ c h1 hh.symm
 ·cases td<;>first | exact absurd ⟨_,rfl⟩ j8 | simp [eqV,ht] at h
theorem zSY {t:TypeId} {p q:PV} {b:Bool} {x y:Value} (h:eqV P t p q=some b) (hA:∀ a v,a.isWay=true→A a v→∀ r pre z lo n,a = .bor r pre z lo n→∃ b c,v = .slice b n c∧n≤c∧(b=none→c=0))
  (hp:Rep w Φ A p x []) (hq:Rep w Φ A q y []) (hni:∀ k n k' m,p = .int k n→q = .int k' m→False) (op:BinOp) (xo yo:Operand) :
  (eqGuard op t xo yo x y).run P w = .ok () w∧(Op.equal t x y).run P w = .ok b w∧zVU x=true:=by
 by_cases hn:∃ z,q = .nils z
 ·obtain ⟨z,rfl⟩:=hn
  have hy:y = .slice none 0 0:=hq.1
  subst hy
  obtain ⟨⟨a,n,c,rfl⟩,h2⟩:=zRT h hA hp
  exact ⟨by rw [eqGuard_at_slice];rfl,h2,rfl⟩
 ·by_cases ha:∃ ys,q = .agg ys
  ·obtain ⟨ys,rfl⟩:=ha
   simp only [eqV] at h
   split at h
   ·rename_i xs
    cases hg:P.eqGuardType P.depth t with
    | true=>rw [hg] at h;cases h
    | false =>
     rw [hg] at h;simp only [cond_false] at h
     have:=zJH 20 t _ _ b x y 10000 (by decide) h hp hq
     obtain ⟨vs,rfl,_⟩:=hp
     obtain ⟨us,rfl,_⟩:=hq
     exact ⟨run_eqGuard_agg w op t xo yo vs us hg,this,rfl⟩
   ·cases h
  ·rw [zSr (fun z hz=>hn ⟨z,hz⟩) (fun ys hy=>ha ⟨ys,hy⟩)] at h
   cases vY:p.isAgg with
   | true=>rw [vY] at h;cases h
   | false =>
    rw [vY] at h;simp only [cond_false] at h
    have h2:=zJH 20 t _ _ b x y 10000 (by decide) h hp hq
    rcases zRf h vY with ⟨k,n,k',m,h3,h4⟩ | ⟨b',h3⟩ | h3
    ·exact absurd h4 fun h4=>hni k n k' m h3 h4
    ·subst h3;have hx:x = .bool b':=hp.1
     subst hx;exact ⟨by rw [eqGuard_at_bool];rfl,h2,rfl⟩
    ·subst h3;have hx:x = .pointer none:=hp.1
     subst hx;exact ⟨by rw [eqGuard_at_pointer];rfl,h2,rfl⟩
theorem zS7:∀ a v,a.isWay=true→zA6 w rv E a v→∀ r pre z lo n,a = .bor r pre z lo n→∃ b c,v = .slice b n c∧n≤c∧(b=none→c=0):=by
 intro a v _ h r pre z lo n ha
 subst ha
 obtain ⟨_,⟨b,c,h1,h2,h3,_⟩,_⟩:=h
 exact ⟨b,c,h1,h2,h3⟩
theorem zRn {op:BinOp} {t:TypeId} {k:IntKind} {x y:Int} {r:PV} (h:zR1 op k x y=some r) (hs:op ≠ .shl∧op ≠ .shr):∃ v,(binOp op t (.int k x) (.int k y)).run P w = .ok v w∧Rep w Φ A r v []:=by
  cases op<;>simp only [zR1] at h<;>try (cases h;done)
  case quo => split at h
              · cases h
              · rename_i hy;cases h;exact ⟨.int k (k.wrap (x.tdiv y)),by simp [binOp,Op.intDiv,hy],rfl,rfl⟩
  case rem => split at h
              · cases h
              · rename_i hy;cases h;exact ⟨.int k (x.tmod y),by simp [binOp,Op.intDiv,hy],rfl,rfl⟩
  all_goals
    simp only [Option.some.injEq] at h
    subst h
    first
    | exact ⟨_,by simp [binOp,Op.intArith];rfl,rfl,rfl⟩
    | exact ⟨_,by simp [binOp,Op.intCmp];rfl,rfl,rfl⟩
    | exact ⟨_,by simp [binOp,Op.intBits];rfl,rfl,rfl⟩
theorem zUV (S:St w0 U Φ0 nt hv a w e Φ rv E L) (hb:zBy E) {d:Option Nat} (hd:∀ x,d=some x→x<nt) {op:BinOp} {t:TypeId} {x y:Operand} (hx:zAW nt x=true) (hy:zAW nt y=true) (h:(zSq P d op t x y).run o e=some e') :
  ∃ v,(do eqGuard op t x y (a.eval x) (a.eval y);binOp op t (a.eval x) (a.eval y)).run P w = .ok v w∧Fr w0 U Φ0 nt hv (a.put d v) w e':=by
 obtain ⟨p,h1,hp⟩:=zBD S hx h
 obtain ⟨q,h2,hq⟩:=zBD S hy h1
 obtain ⟨r,h3,h4⟩:=zBI h2
 have fin:∀ v,(eqGuard op t x y (a.eval x) (a.eval y)).run P w = .ok () w→(binOp op t (a.eval x) (a.eval y)).run P w = .ok v w→Rep w Φ (zA6 w rv E) r v []→∃ v,(do eqGuard op t x y (a.eval x) (a.eval y);binOp op t (a.eval x) (a.eval y)).run P w = .ok v w∧Fr w0 U Φ0 nt hv (a.put d v) w e':=by
  intro v g1 g2 g3
  refine ⟨v,?_,zAG S hb hd h4 g3⟩
  simp only [Sem.run_bind,g1,Result.andThen_ok];exact g2
 simp only [zPf] at h3
 split at h3
 ·rename_i k n _ m
  split at h3
  ·cases h3
  ·rename_i hm;cases h3
   refine fin (.int k (k.wrap (n*2 ^ (min m.toNat k.bits)))) ?_ ?_ ⟨rfl,rfl⟩
   ·rw [hp.1,eqGuard_at_int];rfl
   ·rw [hp.1,hq.1];simp [binOp,Op.shift,hm]
 ·rename_i k n _ m
  split at h3
  ·cases h3
  ·rename_i hm;cases h3
   refine fin (.int k (n.fdiv (2 ^ (min m.toNat k.bits)))) ?_ ?_ ⟨rfl,rfl⟩
   ·rw [hp.1,eqGuard_at_int];rfl
   ·rw [hp.1,hq.1];simp [binOp,Op.shift,hm]
 ·rename_i k n k' m hns1 hns2
  split at h3
  ·rename_i hk;subst hk
   obtain ⟨v,g1,g2⟩:=zRn (P:=P) (w:=w) (Φ:=Φ) (A:=zA6 w rv E) (t:=t) h3 ⟨fun hc=>hns1 hc,fun hc=>hns2 hc⟩
   refine fin v ?_ ?_ g2
   ·rw [hp.1,eqGuard_at_int];rfl
   ·rw [hp.1,hq.1];exact g1
  ·cases h3
 ·rename_i wA
  simp only [Option.map_eq_some_iff] at h3
  obtain ⟨b,h5,rfl⟩:=h3
  obtain ⟨g1,g2,g3⟩:=zSY h5 zS7 hp hq (fun k n k' m h1 h2=>wA k n k' m h1 h2) .eql x y
  exact fin (.bool b) g1 (zQJ g3 g2).1 ⟨rfl,rfl⟩
 ·rename_i wA
  simp only [Option.map_eq_some_iff] at h3
  obtain ⟨b,h5,rfl⟩:=h3
  obtain ⟨g1,g2,g3⟩:=zSY h5 zS7 hp hq (fun k n k' m h1 h2=>wA k n k' m h1 h2) .neq x y
  exact fin (.bool !b) g1 (zQJ g3 g2).2 ⟨rfl,rfl⟩
 ·cases h3
theorem zRp (S:St w0 U Φ0 nt hv a w e Φ rv E L) (hb:zBy E) {d:Option Nat} (hd:∀ x,d=some x→x<nt) {t:TypeId} {x:Operand} {i:Nat} (hx:zAW nt x=true) (h:(zQG P d t x i).run o e=some e') :
  ∃ v,(Instr.field t (a.eval x) i).run P w = .ok v w∧Fr w0 U Φ0 nt hv (a.put d v) w e':=by
 obtain ⟨p,h1,hp⟩:=zBD S hx h
 obtain ⟨f,h2,h3⟩:=zBI h1
 obtain ⟨sh,h4,h5⟩:=zBI h3
 obtain ⟨q,h6,h7⟩:=zBI h5
 have vY:∃ cs,p = .agg cs:=by cases p<;>first | exact ⟨_,rfl⟩ | (cases sh<;>cases h6)
 obtain ⟨cs,rfl⟩:=vY
 obtain ⟨vs,hv,hr⟩:=hp
 obtain ⟨u,h8,h9⟩:=zFI (P:=P) h4 (p := .agg cs) ⟨vs,rfl,hr⟩ h6
 refine ⟨u,?_,zAG S hb hd h7 h9⟩
 simp only [zKZ] at h2
 cases ht:P.underlying t with
 | none=>rw [ht] at h2;cases h2
 | some td =>
  rw [ht] at h2
  cases td<;>simp only at h2<;>try (cases h2;done)
  rw [hv]
  simp only [Instr.field,Sem.run_bind,run_underlying ht,Result.andThen_ok,h2,asAgg,Sem.run_pure]
  exact h8
theorem zRK (S:St w0 U Φ0 nt hv a w e Φ rv E L) (hb:zBy E) {d:Option Nat} (hd:∀ x,d=some x→x<nt) {t:TypeId} {x i:Operand} (hx:zAW nt x=true) (hi:zAW nt i=true) (h:(zKv P d t x i).run o e=some e') :
  ∃ v,(Instr.index t (a.eval x) (a.eval i)).run P w = .ok v w∧Fr w0 U Φ0 nt hv (a.put d v) w e':=by
 obtain ⟨p,h1,hp⟩:=zBD S hx h
 obtain ⟨pi,h2,LC⟩:=zBD S hi h1
 obtain ⟨ik,n,rfl,hn,h3⟩:=zEy h2
 split at h3
 ·rename_i len el ht
  split at h3
  ·rename_i s sh hs ja
   obtain ⟨yK,h4⟩:=zC5 h3
   obtain ⟨q,h5,h6⟩:=zBI h4
   have vY:∃ cs,p = .agg cs:=by cases p<;>first | exact ⟨_,rfl⟩ | (cases sh<;>cases h5)
   obtain ⟨cs,rfl⟩:=vY
   obtain ⟨vs,hv,hr⟩:=hp
   obtain ⟨u,h8,h9⟩:=zFI (P:=P) ja (p := .agg cs) ⟨vs,rfl,hr⟩ h5
   refine ⟨u,?_,zAG S hb hd h6 h9⟩
   obtain ⟨ti,jD,_⟩:=zEZ (w:=w) ja
   have yC:ti.size=s:=by simp only [szT,jD,Option.map_some,Option.some.injEq] at hs;exact hs
   subst yC
   rw [hv,LC.1]
   simp only [Instr.index,Sem.run_bind,asIntOf,Sem.run_pure,Result.andThen_ok,run_underlying ht,zAX jD]
   rw [if_pos ⟨hn,by omega⟩]
   simp only [Sem.run_bind,zAX jD,Result.andThen_ok]
   exact h8
  ·cases h3
 ·cases h3
theorem zPF {p q:PV} {off:Nat} {sh:Option Nat} {v:Value} (h:zDP p off sh=some q) (hp:Rep w Φ (zA6 w rv E) p v []) :
  ∃ b,v = .pointer (some b)∧b.spot=none∧sh≠some 0∧Rep w Φ (zA6 w rv E) q (.pointer (some (zAy b off))) []:=by
 have h0:sh≠some 0:=by intro hc;subst hc;cases h
 replace h:zOh p off sh=some q:=by
  cases sh with
  | none=>exact h
  | some n=>cases n with
   | zero=>exact absurd rfl h0
   | succ n=>exact h
 cases p<;>simp only [zOh] at h<;>try (cases h;done)
 case ref q0 =>
  obtain ⟨_,b,c,u,rfl,yY,hΦ,yA,jY,⟨yC,jX⟩,hr⟩:=hp
  refine ⟨b,rfl,yY,h0,?_⟩
  cases hs:sub q0 off sh with
  | none=>rw [hs] at h;cases h
  | some x =>
   rw [hs] at h;simp only at h
   have ww:∀ n,off+n≤q0.cells.length→seg c (b.off+off) n=(u.cells.toList.drop off).take n:=by
    intro n hn
    rw [← jY]
    apply List.ext_getElem?
    intro k
    simp only [seg,List.getElem?_take,List.getElem?_drop]
    by_cases hk:k<n
    ·rw [if_pos hk,if_pos hk,if_pos (by omega),Nat.add_assoc]
    ·rw [if_neg hk,if_neg hk]
   cases q0<;>try (cases sh<;>cases hs;done)
   rename_i cs
   obtain ⟨vs,rfl,hr⟩:=hr
   have hO:=hr.length
   cases sh with
   | some n =>
    simp only [sub] at hs
    split at hs
    ·rename_i yI
     cases hs
     simp only [Option.isSome_some,Bool.true_or,cond_true,Option.some.injEq] at h
     subst h
     refine ⟨rfl,zAy b off,c,.agg ((vs.toList.drop off).take n).toArray,rfl,rfl,hΦ,yA,?_,⟨?_,rfl⟩,_,rfl,by simpa using zBS hr off n⟩
     ·simp only [zAy,PV.cells,Value.cells]
      rw [show ((cs.drop off).take n).length=n by simp;omega]
      exact ww n yI
     ·simp only [Value.cells,PV.cells];simp at hO ⊢;omega
    ·cases hs
   | none =>
    simp only [sub] at hs
    obtain ⟨u2,La,Li,Lb,hu,hL,kU,_,_⟩:=hr.split hs
    have:Li=[]:=by
     have:=congrArg List.length hL;simp at this
     exact List.eq_nil_of_length_eq_zero (by omega)
    subst this
    simp only [Option.isSome_none,Bool.false_or] at h
    cases jV:x.oneCell with
    | false=>rw [jV] at h;cases h
    | true =>
     rw [jV] at h;simp only [cond_true,Option.some.injEq] at h;subst h
     have h1:=zBH (zB7 (fun a v hw h=>zCW hw h) kU jV)
     have h2:=zBl jV
     have yK:off<cs.length:=(List.getElem?_eq_some_iff.1 hs).1
     refine ⟨rfl,zAy b off,c,u2,rfl,rfl,hΦ,yA,?_,⟨by rw [h1.1,h2.1];rfl,by rw [h1.2,h2.2]⟩,kU⟩
     rw [h1.1,h2.1]
     have:=ww 1 (by simp only [PV.cells];omega)
     simp only [zAy,List.length_singleton]
     rw [this]
     simp only [Value.cells]
     have wR:off<vs.toList.length:=by omega
     rw [List.drop_eq_getElem_cons wR]
     rw [List.getElem?_eq_getElem wR] at hu
     simp only [Option.some.injEq] at hu
     simp [← hu]
 case addr r pre i c s =>
  cases s with
  | none=>cases h
  | some s =>
   simp only [Option.some.injEq] at h;subst h
   obtain ⟨_,hg,b,rfl,yY,hn⟩:=hp
   refine ⟨b,rfl,yY,h0,rfl,hg,zAy b off,rfl,rfl,fun nv np hf a' ha=>?_⟩
   have key:∃ a0,zA7 nv np i c=some a0∧a'=zAy a0 off:=by
    cases np<;>try (simp [zA7] at ha;done)
    ·cases nv with
     | slice x _ _ =>
      cases x with
      | none=>cases ha
      | some x=>simp only [zA7] at ha ⊢;cases ha;exact ⟨_,rfl,by simp [zAy,Nat.add_assoc]⟩
     | pointer x=>cases x<;>cases ha
     | _=>cases ha
    ·cases nv with
     | pointer x =>
      cases x with
      | none=>cases i<;>cases ha
      | some x=>cases i<;>simp only [zA7] at ha ⊢ <;> cases ha;exact ⟨_,rfl,by simp [zAy,Nat.add_assoc]⟩
     | slice x _ _=>cases x<;>cases ha
     | _=>cases ha
   obtain ⟨a0,h1,h2⟩:=key
   rw [h2,hn nv np hf a0 h1]
theorem zLW (S:St w0 U Φ0 nt hv a w e Φ rv E L) (hb:zBy E) {d:Option Nat} (hd:∀ x,d=some x→x<nt) {t:TypeId} {x:Operand} {i:Nat} (hx:zAW nt x=true) (h:(zIz P d t x i).run o e=some e') :
  ∃ v,(Instr.fieldAt t (a.eval x) i).run P w = .ok v w∧Fr w0 U Φ0 nt hv (a.put d v) w e':=by
 obtain ⟨p,h1,hp⟩:=zBD S hx h
 obtain ⟨f,h2,h3⟩:=zBI h1
 obtain ⟨sh,h4,h5⟩:=zBI h3
 obtain ⟨q,h6,h7⟩:=zBI h5
 obtain ⟨b,h8,h9,h10,h11⟩:=zPF h6 hp
 obtain ⟨ti,jD,_,u5,uY⟩:=zEZ (w:=w) h4
 refine ⟨_,?_,zAG S hb hd h7 h11⟩
 have yC:ti.size≠0:=by
  cases sh with
  | none=>rw [uY rfl];decide
  | some n=>rw [← u5 n rfl];intro hc;subst hc;exact h10 rfl
 simp only [zKZ] at h2
 cases ht:P.underlying t with
 | none=>rw [ht] at h2;cases h2
 | some td =>
  rw [ht] at h2
  cases td<;>simp only at h2<;>try (cases h2;done)
  rw [h8]
  simp only [Instr.fieldAt,Sem.run_bind,run_underlying ht,Result.andThen_ok,h2,Instr.sureAddr,Sem.run_pure,fieldPlace,zAX jD,yC,if_false,Sem.run_ite]
  rw [zBT h9]
theorem zCf {t:TypeId} {n:Nat} (h:szT P t=some n):∃ i,P.info? t=some i∧i.size=n:=by
 simp only [szT] at h
 cases hi:P.info? t with
 | none=>rw [hi] at h;cases h
 | some i=>rw [hi] at h;simp only [Option.map_some,Option.some.injEq] at h;exact ⟨i,rfl,h⟩
theorem zSk {el:TypeId} {p q:PV} {i:Nat} {v:Value} {d:Option Nat} {k:PV→PM} (h:(zPM P d el p i).run o e=some e') (hp:Rep w Φ (zA6 w rv E) p v []) :
  ∃ ti b n c q,P.info? el=some ti∧v = .slice (some b) n c∧i<n∧(put d q).run o e=some e'∧Rep w Φ (zA6 w rv E) q (.pointer (some (b.add (i*ti.size)))) []:=by
 cases p<;>simp only [zPM] at h<;>try (cases h;done)
 case sl xs =>
  obtain ⟨x,hx,h1⟩:=zBI h
  obtain ⟨hs,h2⟩:=zC5 h1
  obtain ⟨ti,jD,yC⟩:=zCf hs
  obtain ⟨_,⟨h3,_⟩ | ⟨b,n,c,us,sz,rfl,yY,yI,hΦ,yA,jO,⟨kM,wM⟩,jY,hr⟩⟩:=hp
  ·subst h3;simp at hx
  ·have yK:i<xs.length:=(List.getElem?_eq_some_iff.1 hx).1
   obtain ⟨u,La,Li,Lb,hu,hL,kU,_,_⟩:=hr.split hx
   have uA:Li=[]:=by
    have:=congrArg List.length hL;simp at this
    exact List.eq_nil_of_length_eq_zero (by omega)
   subst uA
   have vZ:=jO x (List.mem_of_getElem? hx)
   have yt:=kM u (List.mem_of_getElem? hu)
   have hg:zCh u=x.isAgg:=by
    have h1:(us.map zCh)[i]? = some (zCh u):=by simp [hu]
    have h2:(xs.map PV.isAgg)[i]? = some x.isAgg:=by simp [hx]
    rw [wM] at h1;rw [h1] at h2;simpa using h2
   refine ⟨ti,b,xs.length,n,.ref x,jD,rfl,yK,h2,rfl,zAy b (i*sz),c,u,?_,rfl,hΦ,yA,?_,⟨by omega,hg⟩,kU.mono zDf.refl (fun _ _ _ h=>h.elim) (by simp)⟩
   ·rw [zBT yY,yC,vZ]
   ·rw [vZ]
    refine zHq (by simpa using yt) fun k y hy=>?_
    have hf:=zDQ kM hu hy
    rw [← jY] at hf
    have:=zDo hf
    simp only [zAy,Nat.add_assoc];exact this
 case bor r pre z lo n =>
  cases ja:shT P el with
  | none=>rw [ja] at h;cases h
  | some sh =>
   rw [ja] at h;simp only at h
   obtain ⟨⟨yK,hs⟩,h2⟩:=zC5 h
   obtain ⟨ti,jD,yC⟩:=zCf hs
   obtain ⟨_,hg,⟨x,cap,rfl,yO,yX,yZ⟩,hn⟩:=hp
   cases x with
   | none=>have:=yX rfl;omega
   | some b =>
    refine ⟨ti,b,n,cap,_,jD,rfl,yK,h2,rfl,hg,b.add (i*ti.size),rfl,by rw [zBT (yZ b rfl)];rfl,fun nv np hf a' ha=>?_⟩
    have hh:np.heavy0=true:=by cases np<;>first | rfl | (simp [zA7] at ha;done)
    obtain ⟨sz,xs,h3,h4,h5⟩:=hn nv np hf hh
    subst h3;subst h4
    cases nv<;>simp only [zBW] at h5
    rename_i y l c
    cases y with
    | none=>cases ha
    | some y =>
     simp only [zBW,Value.slice.injEq,Option.some.injEq] at h5
     simp only [zA7,Option.some.injEq] at ha
     rw [← ha,zBT (yZ b rfl),h5.1.1,yC]
     simp [zAy,Nat.add_mul,Nat.add_assoc]
 case bsl r pre j c0 s ag n =>
  obtain ⟨⟨yK,hs⟩,h2⟩:=zC5 h
  obtain ⟨ti,jD,yC⟩:=zCf hs
  obtain ⟨_,hg,b,cap,rfl,yO,yZ,hn⟩:=hp
  refine ⟨ti,b,n,cap,_,jD,rfl,yK,h2,rfl,hg,b.add (i*ti.size),rfl,by rw [zBT yZ];rfl,fun nv np hf a' ha=>?_⟩
  have key:∃ a0,zA7 nv np j c0=some a0∧a'=zAy a0 (i*s):=by
   cases np<;>try (simp [zA7] at ha;done)
   ·cases nv with
    | slice x _ _ =>
     cases x with
     | none=>cases ha
     | some x=>simp only [zA7] at ha ⊢;cases ha;exact ⟨_,rfl,by simp [zAy,Nat.add_assoc]⟩
    | pointer x=>cases x<;>cases ha
    | _=>cases ha
   ·cases nv with
    | pointer x =>
     cases x with
     | none=>cases j<;>cases ha
     | some x=>cases j<;>simp only [zA7] at ha ⊢ <;> cases ha;exact ⟨_,rfl,by simp [zAy,Nat.add_assoc]⟩
    | slice x _ _=>cases x<;>cases ha
    | _=>cases ha
  obtain ⟨a0,h3,h4⟩:=key
  rw [h4,zBT yZ,hn nv np hf a0 h3,yC]
theorem zL2 (S:St w0 U Φ0 nt hv a w e Φ rv E L) (hb:zBy E) {d:Option Nat} (hd:∀ x,d=some x→x<nt) {t:TypeId} {x i:Operand} (hx:zAW nt x=true) (hi:zAW nt i=true) (h:(zEU P d t x i).run o e=some e') :
  ∃ v,(Instr.indexAt t (a.eval x) (a.eval i)).run P w = .ok v w∧Fr w0 U Φ0 nt hv (a.put d v) w e':=by
 obtain ⟨p,h1,hp⟩:=zBD S hx h
 obtain ⟨pi,h2,LC⟩:=zBD S hi h1
 obtain ⟨ik,n,rfl,hn,h3⟩:=zEy h2
 rw [LC.1]
 split at h3
 ·rename_i len el ht
  simp only [zNu] at h3
  split at h3
  ·rename_i s sh hs ja
   obtain ⟨yK,h4⟩:=zC5 h3
   obtain ⟨q,h5,h6⟩:=zBI h4
   obtain ⟨b,h7,h8,h9,h10⟩:=zPF h5 hp
   obtain ⟨ti,jD,yC⟩:=zCf hs
   refine ⟨_,?_,zAG S hb hd h6 h10⟩
   rw [h7]
   simp only [Instr.indexAt,Sem.run_bind,asIntOf,Sem.run_pure,Result.andThen_ok,run_underlying ht,Instr.sureAddr]
   rw [if_pos ⟨hn,by omega⟩]
   simp only [Sem.run_bind,zAX jD,Result.andThen_ok,Sem.run_pure]
   rw [zBT h8,yC]
  ·cases h3
 ·rename_i el ht
  obtain ⟨ti,b,m,c,q,jD,yB,yK,h4,h5⟩:=zSk (q := .bad) (k:=fun _ => .ok) h3 hp
  refine ⟨_,?_,zAG S hb hd h4 h5⟩
  rw [yB]
  simp only [Instr.indexAt,Sem.run_bind,asIntOf,Sem.run_pure,Result.andThen_ok,run_underlying ht]
  rw [if_pos ⟨hn,by omega⟩]
  simp only [Sem.run_bind,zAX jD,Result.andThen_ok,Sem.run_pure]
 ·cases h3
theorem zSh {p:PV} {n:Nat} {v:Value} (h:lenOf p=some n) (hp:Rep w Φ (zA6 w rv E) p v []):∃ b c,v = .slice b n c:=by
 cases p<;>simp only [lenOf] at h<;>try (cases h;done)
 case nils=>cases h;exact ⟨_,_,hp.1⟩
 case nn=>cases h;obtain ⟨_,b,c,h1⟩:=hp;exact ⟨_,_,h1⟩
 case sl xs =>
  cases h
  obtain ⟨_,⟨rfl,b,c,rfl,_⟩ | ⟨b,c,_,_,_,rfl,_⟩⟩:=hp
  ·exact ⟨_,_,rfl⟩
  ·exact ⟨_,_,rfl⟩
 case bor=>cases h;obtain ⟨_,_,⟨b,c,rfl,_⟩,_⟩:=hp;exact ⟨_,_,rfl⟩
 case bsl=>cases h;obtain ⟨_,_,b,c,rfl,_⟩:=hp;exact ⟨_,_,rfl⟩
theorem zU5 (S:St w0 U Φ0 nt hv a w e Φ rv E L) (hb:zBy E) {d:Option Nat} (hd:∀ x,d=some x→x<nt) {ty:TypeId} {ts:Array TypeId} {xs:Array Operand} (hx:∀ x∈xs.toList,zAW nt x=true)
  (h:(zBw P d .len ts.toList xs.toList).run o e=some e') :
  ∃ v,(Builtin.len_ ts ty (xs.map a.eval)).run P w = .ok v w∧Fr w0 U Φ0 nt hv (a.put d v) w e':=by
 obtain ⟨ts⟩:=ts;obtain ⟨xs⟩:=xs
 simp only at h hx
 rcases xs with _ | ⟨x,_ | ⟨y,xs⟩⟩<;>rcases ts with _ | ⟨t,ts⟩<;>try (cases h;done)
 obtain ⟨p,h1,hp⟩:=zBD S (hx x (by simp)) h
 split at h1
 ·rename_i n el ht
  refine ⟨_,?_,zAG S hb hd h1 ⟨rfl,rfl⟩⟩
  simp only [Builtin.len_,List.map_toArray,List.map_cons,List.map_nil,List.getElem?_toArray,List.getElem?_cons_zero,Sem.run_bind,run_underlying ht,Result.andThen_ok]
  cases a.eval x<;>rfl
 ·rename_i el ht
  split at h1
  ·rename_i n hn
   obtain ⟨b,c,yB⟩:=zSh hn hp
   refine ⟨_,?_,zAG S hb hd h1 ⟨rfl,rfl⟩⟩
   simp only [Builtin.len_,List.map_toArray,List.map_cons,List.map_nil,List.getElem?_toArray,List.getElem?_cons_zero,Sem.run_bind,run_underlying ht,Result.andThen_ok,yB]
   rfl
  ·cases h1
 ·cases h1
theorem zPJ {k:IntKind}:∀ (ps:List PV) (vs:List Value) (m:Int) (r:Option Int),zA1 w Φ A ps vs [] →
  (ps.foldl (fun m p=>match m,p with
   | some m,.int k' b=>if k=k' then some (if b>m then b else m) else none
   | _,_=>none) (some m))=r→∀ z,r=some z→(vs.foldlM Builtin.max2 (.int k m)).run P w = .ok (.int k z) w
 | [],vs,m,r,hr,h,z,hz=>by rw [hr.1];simp only [List.foldl_nil] at h;rw [← h] at hz;cases hz;rfl
 | p :: ps,vs,m,r,hr,h,z,hz=>by
  obtain ⟨v,vs',L1,L2,rfl,hL,h1,h2⟩:=hr
  obtain ⟨rfl,rfl⟩:L1=[]∧L2=[]:=by simpa using hL.symm
  have dead:∀ qs:List PV,qs.foldl (fun m p=>match m,p with
   | some m,.int k' b=>if k=k' then some (if b>m then b else m) else none
   | _,_=>none) (none:Option Int)=none:=by
   intro qs;induction qs with
   | nil=>rfl
   | cons q qs ih=>simp only [List.foldl_cons];exact ih
  simp only [List.foldl_cons] at h
  cases p<;>try (simp only at h;rw [dead] at h;rw [← h] at hz;cases hz;done)
  rename_i k' b
  simp only at h
  split at h
  ·rename_i hk;subst hk
   rw [h1.1]
   simp only [List.foldlM_cons,Builtin.max2,Sem.run_bind,Sem.run_pure,Result.andThen_ok]
   exact zPJ ps vs' _ r h2 h z hz
  ·rw [dead] at h;rw [← h] at hz;cases hz
theorem zPQ {k:IntKind}:∀ (ps:List PV) (vs:List Value) (m:Int) (r:Option Int),zA1 w Φ A ps vs [] →
  (ps.foldl (fun m p=>match m,p with
   | some m,.int k' b=>if k=k' then some (if b<m then b else m) else none
   | _,_=>none) (some m))=r→∀ z,r=some z→(vs.foldlM Builtin.min2 (.int k m)).run P w = .ok (.int k z) w
 | [],vs,m,r,hr,h,z,hz=>by rw [hr.1];simp only [List.foldl_nil] at h;rw [← h] at hz;cases hz;rfl
 | p :: ps,vs,m,r,hr,h,z,hz=>by
  obtain ⟨v,vs',L1,L2,rfl,hL,h1,h2⟩:=hr
  obtain ⟨rfl,rfl⟩:L1=[]∧L2=[]:=by simpa using hL.symm
  have dead:∀ qs:List PV,qs.foldl (fun m p=>match m,p with
   | some m,.int k' b=>if k=k' then some (if b<m then b else m) else none
   | _,_=>none) (none:Option Int)=none:=by
   intro qs;induction qs with
   | nil=>rfl
   | cons q qs ih=>simp only [List.foldl_cons];exact ih
  simp only [List.foldl_cons] at h
  cases p<;>try (simp only at h;rw [dead] at h;rw [← h] at hz;cases hz;done)
  rename_i k' b
  simp only at h
  split at h
  ·rename_i hk;subst hk
   rw [h1.1]
   simp only [List.foldlM_cons,Builtin.min2,Sem.run_bind,Sem.run_pure,Result.andThen_ok]
   exact zPQ ps vs' _ r h2 h z hz
  ·rw [dead] at h;rw [← h] at hz;cases hz
theorem zVf (S:St w0 U Φ0 nt hv a w e Φ rv E L) (hb:zBy E) {d:Option Nat} (hd:∀ x,d=some x→x<nt) {ty:TypeId} {ts:Array TypeId} {xs:Array Operand} (hx:∀ x∈xs.toList,zAW nt x=true)
  (h:(zBw P d .max ts.toList xs.toList).run o e=some e'):∃ v,(Builtin.max_ ts ty (xs.map a.eval)).run P w = .ok v w∧Fr w0 U Φ0 nt hv (a.put d v) w e':=by
 simp only [zBw] at h
 obtain ⟨ps,h1,hp⟩:=zHt S hx h
 cases hm:zVb ps with
 | none=>rw [hm] at h1;cases h1
 | some r =>
  rw [hm] at h1;simp only at h1
  rcases ps with _ | ⟨p,ps⟩<;>simp only [zVb] at hm<;>try (cases hm;done)
  cases p<;>simp only at hm<;>try (cases hm;done)
  rename_i k x0
  simp only [Option.map_eq_some_iff] at hm
  obtain ⟨z,hz,rfl⟩:=hm
  obtain ⟨v,vs',L1,L2,yg,hL,g1,g2⟩:=hp
  obtain ⟨rfl,rfl⟩:L1=[]∧L2=[]:=by simpa using hL.symm
  refine ⟨.int k z,?_,zAG S hb hd h1 ⟨rfl,rfl⟩⟩
  simp only [Builtin.max_,Array.toList_map,yg]
  rw [g1.1]
  exact zPJ ps vs' x0 _ g2 hz z rfl
theorem zUz (S:St w0 U Φ0 nt hv a w e Φ rv E L) (hb:zBy E) {d:Option Nat} (hd:∀ x,d=some x→x<nt) {ty:TypeId} {ts:Array TypeId} {xs:Array Operand} (hx:∀ x∈xs.toList,zAW nt x=true)
  (h:(zBw P d .min ts.toList xs.toList).run o e=some e'):∃ v,(Builtin.min_ ts ty (xs.map a.eval)).run P w = .ok v w∧Fr w0 U Φ0 nt hv (a.put d v) w e':=by
 simp only [zBw] at h
 obtain ⟨ps,h1,hp⟩:=zHt S hx h
 cases hm:zUs ps with
 | none=>rw [hm] at h1;cases h1
 | some r =>
  rw [hm] at h1;simp only at h1
  rcases ps with _ | ⟨p,ps⟩<;>simp only [zUs] at hm<;>try (cases hm;done)
  cases p<;>simp only at hm<;>try (cases hm;done)
  rename_i k x0
  simp only [Option.map_eq_some_iff] at hm
  obtain ⟨z,hz,rfl⟩:=hm
  obtain ⟨v,vs',L1,L2,yg,hL,g1,g2⟩:=hp
  obtain ⟨rfl,rfl⟩:L1=[]∧L2=[]:=by simpa using hL.symm
  refine ⟨.int k z,?_,zAG S hb hd h1 ⟨rfl,rfl⟩⟩
  simp only [Builtin.min_,Array.toList_map,yg]
  rw [g1.1]
  exact zPQ ps vs' x0 _ g2 hz z rfl
end
end Go.Eng
namespace Go.Eng
open Go
section
variable {P:Program} {w0 w w':World} {U Φ0 Φ:Nat→Prop} {nt:Nat} {hv:Hid} {a:Act} {e e':Env} {rv rv':Nat→Value} {E E':Nat→PV} {L L':Nat→List Nat} {o:zAL} {A:Al}
def zGr (w:World) (c:Array Value) (t:TypeId):World:={w with heap:=w.heap.push (.cells c t)}
theorem zEY (t:TypeId) (c:Array Value):(newRow t c).run P w = .ok ⟨w.heap.size,0,none⟩ (zGr w c t):=by
 simp [newRow,zGr]
theorem zGR {c:Array Value} {t:TypeId} {b:Nat} (h:b<w.heap.size):(zGr w c t).heap[b]? = w.heap[b]?:=by
 simp only [zGr,Array.getElem?_push];rw [if_neg (by omega)]
theorem zLq {c:Array Value} {t:TypeId}:zEQ (zGr w c t) w.heap.size c:=⟨t,by show (w.heap.push (.cells c t))[w.heap.size]? = _;simp⟩
theorem zFZ {c:Array Value} {t:TypeId}:(zGr w c t).heap.size=w.heap.size+1:=by simp [zGr]
theorem zLw {p:PV} {v:Value} (h:zJG p v=true):Rep w Φ A p v []∧p.oneCell=true∧v.oneCell'=true:=by
 cases p<;>cases v<;>simp only [zJG] at h<;>try (cases h;done)
 case int=>simp only [Bool.and_eq_true,decide_eq_true_eq] at h;obtain ⟨rfl,rfl⟩:=h;exact ⟨⟨rfl,rfl⟩,rfl,rfl⟩
 case bool=>simp only [beq_iff_eq] at h;subst h;exact ⟨⟨rfl,rfl⟩,rfl,rfl⟩
 case nilp.pointer a=>cases a<;>simp only [zJG] at h<;>first | (cases h;done) | exact ⟨⟨rfl,rfl⟩,rfl,rfl⟩
 case nilf=>exact ⟨⟨rfl,rfl⟩,rfl,rfl⟩
 case nilm.map a=>cases a<;>simp only [zJG] at h<;>first | (cases h;done) | exact ⟨⟨rfl,rfl⟩,rfl,rfl⟩
 case own.slice sz xs a n c =>
  cases xs with
  | cons _ _=>simp only [zJG] at h;cases h
  | nil =>
   cases a with
   | some _=>simp only [zJG] at h;cases h
   | none=>cases n<;>cases c<;>simp only [zJG] at h<;>first | (cases h;done) | exact ⟨.inl ⟨rfl,rfl,rfl⟩,rfl,rfl⟩
theorem zL8:∀ {ps:List PV} {vs:List Value},zSt ps vs=true→zA1 w Φ A ps vs []∧(∀ v∈vs,v.oneCell'=true)∧∀ p∈ps,p.oneCell=true
 | [],[],_=>⟨⟨rfl,rfl⟩,by simp,by simp⟩
 | [],_::_,h=>by cases h
 | _::_,[],h=>by cases h
 | p::ps,v::vs,h=>by
  simp only [zSt,Bool.and_eq_true] at h
  obtain ⟨h1,h2,h3⟩:=zLw (w:=w) (Φ:=Φ) (A:=A) h.1
  obtain ⟨h4,h5,h6⟩:=zL8 h.2
  exact ⟨⟨v,vs,[],[],rfl,rfl,h1,h4⟩,fun x hx=>(List.mem_cons.1 hx).elim (fun e=>e▸h3) (h5 x),fun x hx=>(List.mem_cons.1 hx).elim (fun e=>e▸h2) (h6 x)⟩
theorem zCt {p:PV} {v:Value} (h:zLe p v=true):Rep w Φ A p v []∧v.cells.size=p.cells.length∧zCh v=p.isAgg∧(∀ u∈v.cells.toList,u.oneCell'=true)∧∀ q∈p.cells,q.oneCell=true:=by
 by_cases hp:∃ cs,p = .agg cs
 ·obtain ⟨cs,rfl⟩:=hp
  cases v<;>simp only [zLe] at h<;>try (cases h;done)
  rename_i vs
  obtain ⟨h1,h2,h3⟩:=zL8 (w:=w) (Φ:=Φ) (A:=A) h
  have:=h1.length
  exact ⟨⟨vs,rfl,h1⟩,by simpa [Value.cells,PV.cells] using this,rfl,h2,h3⟩
 ·have h:zJG p v=true:=by
   rw [← h];cases p<;>first | rfl | exact absurd ⟨_,rfl⟩ hp
  obtain ⟨h1,h2,h3⟩:=zLw (w:=w) (Φ:=Φ) (A:=A) h
  have h4:=zBH h3
  have h5:=zBl h2
  exact ⟨h1,by rw [h4.1,h5.1];rfl,by rw [h4.2,h5.2],by rw [h4.1];simpa using h3,by rw [h5.1];simpa using h2⟩
theorem zD0 {t:TypeId} {z:PV} (h:zDd P t=some z):∃ i v,P.info? t=some i∧i.zero=some v∧(∀ w:World,(zeroValue t).run P w = .ok v w)∧zLe z v=true:=by
 simp only [zDd] at h
 split at h
 ·rename_i cs sh v _ _ hv
  cases hi:P.info? t with
  | none=>rw [hi] at hv;cases hv
  | some i =>
   rw [hi] at hv;simp only [Option.bind_some] at hv
   cases hz:zLe (zNs sh cs) v with
   | false=>rw [hz] at h;cases h
   | true =>
    rw [hz] at h;simp only [cond_true,Option.some.injEq] at h
    subst h
    refine ⟨i,v,rfl,hv,fun w=>?_,hz⟩
    simp [zeroValue,typeInfo,hi,hv]
 ·cases h
theorem St.boxed (S:St w0 U Φ0 nt hv a w e Φ rv E L) {g0 g:Nat} (hg0:zAd≤g0) (hg:zAd≤g) (hI:g≠g0) (uB:E g = .bad) {v:Value} (yB:rv g0=v) (t:TypeId) (yC:v.cells.size=(E g0).cells.length∧zCh v=(E g0).isAgg) :
  ∃ rv1 E1 L1,St w0 U Φ0 nt hv a (zGr w v.cells t) e Φ rv1 E1 L1∧E1 g = .box (E g0)∧rv1 g = .pointer (some ⟨w.heap.size,0,none⟩)∧E1 g0 = .bad∧∀ s,zAd≤s→s≠g→s≠g0→E1 s=E s:=by
 have hH:=S.conf.rep g0
 rw [yB] at hH
 have hold:∀ b∈L g0,(zGr w v.cells t).heap[b]? = w.heap[b]?:=fun b hb=>zGR (S.conf.own g0 b hb).1
 have hΦ:zDf w (zGr w v.cells t) Φ Φ:=fun b hb=>⟨hb,zGR (S.conf.frz b hb).1⟩
 have hc:=S.conf.make (w':=zGr w v.cells t) (fun s=>s==g0) (fun s hs=>by have:=eq_of_beq hs;omega) hg (p := .box (E g0)) (v := .pointer (some ⟨w.heap.size,0,none⟩)) (Lp:=w.heap.size::L g0)
  (fun A hA=>⟨_,v.cells,v,L g0,rfl,rfl,rfl,zLq,by show (v.cells.toList.drop 0).take _=_;rw [← yC.1];exact List.take_of_length_le (by simp),yC,hH.mono hΦ hA hold⟩)
  (List.nodup_cons.2 ⟨fun hm=>absurd (S.conf.own g0 _ hm).1 (Nat.lt_irrefl _),S.conf.nodup g0⟩)
  (fun b hb=>by
   rcases List.mem_cons.1 hb with rfl | hb
   ·exact .inr ⟨Nat.le_refl _,by rw [zFZ];omega⟩
   ·exact .inl ⟨g0,hb,by simp⟩)
  (by rw [zFZ];omega) (fun b hb _=>zGR hb) ⟨rfl,rfl,rfl⟩
 refine ⟨_,_,_,S.turn hc (fun s hs=>?_) (fun s hs=>zAf (by omega)) (fun d ps hd hp=>?_),zAh,zAh,?_,fun s h1 h2 h3=>?_⟩
 ·rw [zAf (by omega)]
  have:(s==g0)=false:=by simp;omega
  simp only [this,Bool.false_eq_true,if_false];exact S.env s hs
 ·simp only [zAd] at hg hg0
  rw [zAf (by omega)] at hp
  have:(d==g0)=false:=by simp;omega
  simp only [this,Bool.false_eq_true,if_false] at hp;exact ⟨ps,hp,rfl⟩
 ·rw [zAf (Ne.symm hI)];simp
 ·rw [zAf h2]
  have:(s==g0)=false:=by simp [h3]
  simp [this]
theorem zSx (S:St w0 U Φ0 nt hv a w e Φ rv E L) (hb:zBy E) {d:Option Nat} (hd:∀ x,d=some x→x<nt) {t:TypeId} (h:(zPv P d t).run o e=some e') :
  ∃ v w',(Instr.alloc t true (.tuple #[])).run P w = .ok v w'∧Fr w0 U Φ0 nt hv (a.put d v) w' e':=by
 obtain ⟨z,hz,h1⟩:=zBI h
 obtain ⟨i,v,hi,hiz,hX,kW⟩:=zD0 hz
 have kB:=zCt (w:=w) (Φ:=Φ) (A:=zA6 w rv E) kW
 obtain ⟨hr,h2,h3⟩:Rep w Φ (zA6 w rv E) (zPN P t z) v []∧v.cells.size=(zPN P t z).cells.length∧zCh v=(zPN P t z).isAgg:=by
  cases z with
  | nils k =>
   simp only [zPN]
   split
   ·exact ⟨.inl ⟨rfl,rfl,kB.1.1⟩,kB.2.1,kB.2.2.1⟩
   ·exact ⟨kB.1,kB.2.1,kB.2.2.1⟩
  | _=>exact ⟨kB.1,kB.2.1,kB.2.2.1⟩
 have S1:=S.hold (Nat.le_refl zAd) hr
 obtain ⟨rv1,E1,L1,S2,h4,h5,h6,h7⟩:=S1.boxed (g0:=zAd) (g:=zAd+1) (Nat.le_refl _) (by omega) (by omega) (by rw [zAf (by omega)];exact hb _ (by omega)) zAh t (by rw [zAh];exact ⟨h2,h3⟩)
 have:=zFJ S2 hd (g:=zAd+1) (by omega) (by rw [h4,zAh];exact h1) (fun s hs hI=>by
   by_cases h8:s=zAd
   ·subst h8;exact h6
   ·rw [h7 s hs hI h8,zAf h8];exact hb s hs)
 rw [h5] at this
 refine ⟨_,_,?_,this⟩
 simp only [Instr.alloc,Sem.run_bind,hX,Result.andThen_ok,newVar,zEY,Sem.run_pure]
theorem zUw (S:St w0 U Φ0 nt hv a w e Φ rv E L) (hb:zBy E) {d:Option Nat} (hd:∀ x,d=some x→x<nt) {t:TypeId} {x:Operand} (hx:zAW nt x=true) (h:(zSa P d t x).run o e=some e') :
  ∃ v w',(Instr.box t (a.eval x)).run P w = .ok v w'∧Fr w0 U Φ0 nt hv (a.put d v) w' e':=by
 obtain ⟨e1,rv1,E1,L1,h1,S1,h2,h3⟩:=zHB S hx (Nat.le_refl zAd) h
 split at h1
 ·rename_i sh n _ _
  obtain ⟨h4,h5⟩:=zC5 h1
  simp only [Bool.and_eq_true,decide_eq_true_eq] at h4
  have hH:=S1.conf.rep zAd
  rw [h2] at hH
  have yC:(a.eval x).cells.size=(E1 zAd).cells.length∧zCh (a.eval x)=(E1 zAd).isAgg:=by
   have hw:=h4.2
   simp only [PV.whole,Bool.or_eq_true] at hw
   rcases hw with hw | hw
   ·cases hE:E1 zAd<;>rw [hE] at hw<;>simp [PV.isAgg] at hw
    rw [hE] at hH
    obtain ⟨vs,yB,hr⟩:=hH
    have:=hr.length
    rw [yB];exact ⟨by simpa [Value.cells,PV.cells] using this,rfl⟩
   ·have g1:=zBH (zB7 (fun a v hw h=>zCW hw h) hH hw)
    have g2:=zBl hw
    exact ⟨by rw [g1.1,g2.1];rfl,by rw [g1.2,g2.2]⟩
  obtain ⟨rv2,E2,L2,S2,h6,h7,h8,h9⟩:=S1.boxed (g0:=zAd) (g:=zAd+1) (Nat.le_refl _) (by omega) (by omega) (by rw [(h3 (zAd+1) (by omega) (by omega)).1];exact hb _ (by omega)) h2 t yC
  have:=zFJ S2 hd (g:=zAd+1) (by omega) (by rw [h6];exact h5) (fun s hs hI=>by
    by_cases h10:s=zAd
    ·subst h10;exact h8
    ·rw [h9 s hs hI h10,(h3 s hs h10).1];exact hb s hs)
  rw [h7] at this
  refine ⟨_,_,?_,this⟩
  simp only [Instr.box,Sem.run_bind,newVar,zEY,Result.andThen_ok,Sem.run_pure]
 ·cases h1
theorem zJ3 {t:TypeId} {sh:Option Nat} (hs:shT P t=some sh) {b:Addr} {u:Value} (hc:∀ j y,u.cells.toList[j]? = some y→w.cell? (b.add j)=some y) (hu:zCh u=sh.isSome) (hn:u.cells.size=sh.getD 1) :
  (loadVar t b).run P w = .ok u w:=by
 obtain ⟨ti,jD,yj,h1,h2⟩:=zEZ (w:=w) hs
 cases sh with
 | some n =>
  have:=h1 n rfl;subst this
  cases u<;>simp [zCh] at hu
  rename_i vs
  simp only [Option.getD_some,Value.cells] at hn
  have hl:=run_loadCells_list (P:=P) w b vs.toList hc
  have LD:(loadCells b ti.size).run P w = .ok vs w:=by rw [← hn];simpa using hl
  simp only [loadVar,Sem.run_bind,yj,Result.andThen_ok,Option.isSome_some,if_true,zAX jD,LD,Sem.run_pure,Sem.run_ite]
 | none =>
  have kM:u.cells=#[u]:=by cases u<;>first | rfl | simp [zCh] at hu
  have:=hc 0 u (by rw [kM];rfl)
  have h0:b.add 0=b:=by simp [Addr.add]
  rw [h0] at this
  simp only [loadVar,Sem.run_bind,yj,Result.andThen_ok,Option.isSome_none,Bool.false_eq_true,if_false,Sem.run_ite,run_load,this]
theorem zHH {b:Addr} {c:Array Value} {l:List Value} (yY:b.spot=none) (hr:zIL w b.block c) (h:seg c b.off l.length=l):∀ j y,l[j]? = some y→w.cell? (b.add j)=some y:=by
 intro j y hy
 rw [zBT yY]
 simp only [zAy]
 rw [zC6 hr]
 rw [← h] at hy
 exact zDo hy
theorem zRe {q:List PV} {u:Value} {us:List Value} (h:zA1 w Φ A q us []) (hl:us=[u]):Rep w Φ A (q.headD .bad) u []:=by
 subst hl
 cases q with
 | nil=>exact absurd h.1 (by simp)
 | cons p ps =>
  obtain ⟨v,vs',L1,L2,h1,h2,h3,_⟩:=h
  obtain ⟨rfl,rfl⟩:L1=[]∧L2=[]:=by simpa using h2.symm
  simp only [List.cons.injEq] at h1
  rw [h1.1];exact h3
theorem zKR (S:St w0 U Φ0 nt hv a w e Φ rv E L) {t:TypeId} {sh:Option Nat} (hs:shT P t=some sh) {r:Nat} {pre:zAT} {i c:Nat} {s':Option Nat} {v:Value} (hp:Rep w Φ (zA6 w rv E) (.addr r pre i c s') v [])
  {k:PV→PM} (h:(zMA r pre i c sh k).run o e=some e'):∃ b u q,v = .pointer (some b)∧(loadVar t b).run P w = .ok u w∧(k q).run o e=some e'∧Rep w Φ (zA6 w rv E) q u []:=by
 obtain ⟨_,hg,b,rfl,yY,hn⟩:=hp
 refine ⟨b,?_⟩
 cases sh with
 | some n =>
  simp only [zMA,PM.run] at h
  split at h
  ·rename_i ag qs hq
   rw [← S.env r hg] at hq
   obtain ⟨nv,np,ad,us,h1,h2,h3,h4,h5,h6⟩:=S.conf.cells hg hq
   have:=hn nv np h1 ad h2;subst this
   cases ag with
   | false=>cases h
   | true =>
    refine ⟨.agg us.toArray,.agg qs,rfl,zJ3 hs (fun j y hy=>h5 j y (by simpa [Value.cells] using hy)) rfl (by simpa [Value.cells] using h4),h,_,rfl,by simpa using h6⟩
  ·cases h
 | none =>
  simp only [zMA,PM.run] at h
  split at h
  ·rename_i ag qs hq
   rw [← S.env r hg] at hq
   obtain ⟨nv,np,ad,us,h1,h2,h3,h4,h5,h6⟩:=S.conf.cells hg hq
   have:=hn nv np h1 ad h2;subst this
   match us,h4 with
   | [u],_ =>
    refine ⟨u,qs.headD .bad,rfl,?_,h,zRe h6 rfl⟩
    have:=h5 0 u rfl
    rw [show b.add 0=b by simp [Addr.add]] at this
    obtain ⟨ti,jD,yj,_⟩:=zEZ (w:=w) hs
    simp only [loadVar,Sem.run_bind,yj,Result.andThen_ok,Option.isSome_none,Bool.false_eq_true,if_false,Sem.run_ite,run_load,this]
  ·cases h
theorem zN3 (S:St w0 U Φ0 nt hv a w e Φ rv E L) (hb:zBy E) {d:Option Nat} (hd:∀ x,d=some x→x<nt) {t:TypeId} {sh:Option Nat} (hs:shT P t=some sh) {p:PV} {v:Value} (hp:Rep w Φ (zA6 w rv E) p v []) (h:(zOU d sh p).run o e=some e') :
  ∃ u,(Instr.loadAt t v).run P w = .ok u w∧Fr w0 U Φ0 nt hv (a.put d u) w e':=by
 cases p<;>simp only [zOU] at h<;>try (cases h;done)
 case ref q =>
  obtain ⟨h1,h2⟩:=zC5 h
  simp only [Bool.and_eq_true,decide_eq_true_eq] at h1
  obtain ⟨_,b,c,u,rfl,yY,hΦ,yA,jY,⟨yC,jX⟩,hr⟩:=hp
  refine ⟨u,?_,zAG S hb hd h2 hr⟩
  simp only [Instr.loadAt,Instr.sureAddr,Sem.run_bind,Sem.run_pure,Result.andThen_ok]
  refine zJ3 hs (zHH yY yA ?_) ?_ ?_
  ·rw [show u.cells.toList.length=q.cells.length by simpa using yC];exact jY
  ·rw [jX,h1.1]
  ·rw [yC,h1.2]
 case addr r pre i c s' =>
  obtain ⟨b,u,q,rfl,h1,h2,h3⟩:=zKR S hs hp h
  refine ⟨u,?_,zAG S hb hd h2 h3⟩
  simp only [Instr.loadAt,Instr.sureAddr,Sem.run_bind,Sem.run_pure,Result.andThen_ok]
  exact h1
end
end Go.Eng
namespace Go.Eng
open Go
section
variable {P:Program} {w0 w w':World} {U Φ0 Φ:Nat→Prop} {nt:Nat} {hv:Hid} {a:Act} {e e':Env} {rv rv':Nat→Value} {E E':Nat→PV} {L L':Nat→List Nat} {o:zAL} {A:Al}
def Cov (w:World) (Φ:Nat→Prop) (rv:Nat→Value) (E:Nat→PV) (Φ1:Nat→Prop) (x:Nat×zAT):Prop :=
 ∀ nv q Li A,zAR w (rv x.1) (E x.1).unlock x.2=some (nv,q)→Rep w Φ A q nv Li→∀ b∈Li,Φ1 b
def zLG (hb:Nat) (A:Al):Al:=fun a v=>A a v∧∀ x∈a.ways,hb≤x.1
structure Shown (w:World) (Φ:Nat→Prop) (rv:Nat→Value) (E:Nat→PV) (hb:Nat) (p:PV) (v:Value) (Lp:List Nat) (q:PV) (l:List (Nat×zAT)):Prop where
 low:∀ x∈l,x.1<zAd∧x.1<hb
 agg:q.isAgg=p.isAgg
 len:q.cells.length=p.cells.length
 rep:∀ Φ1:Nat→Prop,(∀ b,Φ b→Φ1 b)→(∀ x∈l,Cov w Φ rv E Φ1 x)→(∀ b∈Lp,Φ1 b)→Rep w Φ1 (zLG hb (zA6 w rv E)) q v []
structure Showns (w:World) (Φ:Nat→Prop) (rv:Nat→Value) (E:Nat→PV) (hb:Nat) (ps:List PV) (vs:List Value) (Lp:List Nat) (qs:List PV) (l:List (Nat×zAT)):Prop where
 low:∀ x∈l,x.1<zAd∧x.1<hb
 len:qs.length=ps.length
 rep:∀ Φ1:Nat→Prop,(∀ b,Φ b→Φ1 b)→(∀ x∈l,Cov w Φ rv E Φ1 x)→(∀ b∈Lp,Φ1 b)→zA1 w Φ1 (zLG hb (zA6 w rv E)) qs vs []
theorem zBU {r:Nat} {pre:zAT} {k:PV→PM} (h:(PM.deep r pre k).run o e=some e'):∃ q,zAz (e.get r).unlock pre=some q∧(k q).run o e=some e':=by
 simp only [PM.run] at h
 cases hq:zAz (e.get r).unlock pre with
 | none=>rw [hq] at h;cases h
 | some q=>rw [hq] at h;exact ⟨q,rfl,h⟩
theorem zES {hb:Nat} {res:PV→(PV→List (Nat×zAT)→PM)→PM}
  (y4:∀ p v Lp k,Rep w Φ (zA6 w rv E) p v Lp→(res p k).run o e=some e'→∃ q l,(k q l).run o e=some e'∧Shown w Φ rv E hb p v Lp q l) :
  ∀ (ps:List PV) (vs:List Value) (Lp:List Nat) (k:List PV→List (Nat×zAT)→PM),zA1 w Φ (zA6 w rv E) ps vs Lp→(zEk res ps k).run o e=some e'→∃ qs l,(k qs l).run o e=some e'∧Showns w Φ rv E hb ps vs Lp qs l
 | [],vs,Lp,k,h,hr=>⟨[],[],hr,⟨by simp,rfl,fun _ _ _ _=>⟨h.1,rfl⟩⟩⟩
 | p::ps,vs,Lp,k,h,hr=>by
  obtain ⟨v,vs',L1,L2,rfl,rfl,h1,h2⟩:=h
  simp only [zEk] at hr
  obtain ⟨q,l,h3,h4⟩:=y4 p v L1 _ h1 hr
  obtain ⟨qs,m,h5,h6⟩:=zES y4 ps vs' L2 _ h2 h3
  refine ⟨q::qs,l++m,h5,⟨fun x hx=>?_,by simp [h6.len],fun Φ1 g1 g2 g3=>⟨v,vs',[],[],rfl,rfl,h4.rep Φ1 g1 (fun x hx=>g2 x (by simp [hx])) (fun b hb=>g3 b (by simp [hb])),h6.rep Φ1 g1 (fun x hx=>g2 x (by simp [hx])) (fun b hb=>g3 b (by simp [hb]))⟩⟩⟩
  rcases List.mem_append.1 hx with hx | hx
  ·exact h4.low x hx
  ·exact h6.low x hx
theorem zNp {hb:Nat} {p:PV} {v:Value} {Lp:List Nat} (hp:Rep w Φ (zA6 w rv E) p v Lp) (hw:∀ x∈p.ways,hb≤x.1):Shown w Φ rv E hb p v Lp (zAZ p) [] :=
 ⟨by simp,zC0 p,zC1 p,fun Φ1 g1 _ g3=>(zDU g1 p v Lp g3 hp).ways _ _ _ fun a v _ hx ha=>⟨ha,fun x jS=>hw x (zGu p x (hx x jS))⟩⟩
theorem zHD {hb:Nat} {p:PV} {v:Value} (hp:Rep w Φ (zA6 w rv E) p v []) (hw:∀ x∈p.ways,hb≤x.1):Shown w Φ rv E hb p v [] p [] :=
 ⟨by simp,rfl,rfl,fun Φ1 g1 _ g3=>(hp.mono (fun b hb=>⟨g1 b hb,rfl⟩) (fun _ _ _ h=>h) (by simp)).ways _ _ _ fun a v _ hx ha=>⟨ha,fun x jS=>hw x (hx x jS)⟩⟩
theorem zHf {hb:Nat} {l:List (Nat×zAT)} (h:l.isEmpty=true):∀ x∈l,hb≤x.1:=by
 cases l with
 | nil=>simp
 | cons _ _=>cases h
theorem zJP (S:St w0 U Φ0 nt hv a w e Φ rv E L) {hb:Nat}:∀ (n:Nat) (p:PV) (v:Value) (Lp:List Nat) (k:PV→List (Nat×zAT)→PM),Rep w Φ (zA6 w rv E) p v Lp→(resolve hb n p k).run o e=some e' →
  ∃ q l,(k q l).run o e=some e'∧Shown w Φ rv E hb p v Lp q l
 | 0,p,v,Lp,k,hp,h=>by cases h
 | n + 1, p, v,Lp,k,hp,h=>by
  have ih:=zJP S (hb:=hb) n
  have node:∀ r pre x,r<zAd→zAz (e.get r).unlock pre=some x→∃ nv Li,zAR w (rv r) (E r).unlock pre=some (nv,x)∧Rep w Φ (zA6 w rv E) x nv Li∧∀ Φ1,Cov w Φ rv E Φ1 (r,pre)→∀ b∈Li,Φ1 b:=by
   intro r pre x hr hx
   rw [← S.env r hr] at hx
   obtain ⟨nv,Li,h1,_,h3⟩:=zBM (zB4 (S.conf.rep r)) hx
   exact ⟨nv,Li,h1,h3.mono zDf.refl (fun _ _ _ h=>zEr h) (fun _ _=>rfl),fun Φ1 hc b hb=>hc nv x Li _ h1 h3 b hb⟩
  have dflt:(∀ x∈p.ways,hb≤x.1)→(k (zAZ p) []).run o e=some e'→∃ q l,(k q l).run o e=some e'∧Shown w Φ rv E hb p v Lp q l :=
   fun hw h=>⟨_,_,h,zNp hp hw⟩
  have dflt2:(bif p.ways.all (fun w=>Nat.ble hb w.1) then k (zAZ p) [] else .fail).run o e=some e'→∃ q l,(k q l).run o e=some e'∧Shown w Φ rv E hb p v Lp q l:=by
   intro h
   obtain ⟨h1,h2⟩:=zAU h
   exact dflt (fun x hx=>Nat.le_of_ble_eq_true (List.all_eq_true.1 h1 x hx)) h2
  have keep:∀ r,(∀ x∈p.ways,x.1=r)→Lp=[]→(k p []).run o e=some e'→Nat.ble hb r=true→∃ q l,(k q l).run o e=some e'∧Shown w Φ rv E hb p v Lp q l:=by
   intro r hw hL hk hr
   subst hL
   exact ⟨_,_,hk,zHD hp fun x hx=>by rw [hw x hx];exact Nat.le_of_ble_eq_true hr⟩
  have yk:∀ r,Nat.ble hb r=false→r<hb:=by
   intro r hr
   exact Nat.lt_of_not_le fun yI=>by rw [Nat.ble_eq_true_of_le yI] at hr;cases hr
  cases p<;>simp only [resolve] at h<;>try (exact dflt2 h)
  case agg cs =>
   cases hw:(PV.agg cs).ways.isEmpty with
   | true=>rw [hw] at h;exact dflt (zHf hw) h
   | false =>
    rw [hw] at h;simp only [cond_false] at h
    obtain ⟨vs,rfl,hr⟩:=hp
    obtain ⟨qs,l,h1,h2⟩:=zES ih cs _ Lp _ hr h
    exact ⟨_,_,h1,⟨h2.low,rfl,by simpa [PV.cells] using h2.len,fun Φ1 g1 g2 g3=>⟨vs,rfl,h2.rep Φ1 g1 g2 g3⟩⟩⟩
  case ref q =>
   have hL:=hp.1
   subst hL
   cases hw:q.ways.isEmpty with
   | true=>rw [hw] at h;exact ⟨_,_,h,zHD hp (zHf hw)⟩
   | false =>
    rw [hw] at h;simp only [cond_false] at h
    obtain ⟨_,b,c,u,h1,h2,h3,h4,h5,h6,h7⟩:=hp
    obtain ⟨q',l,h8,h9⟩:=ih q u [] _ h7 h
    refine ⟨_,_,h8,⟨h9.low,rfl,rfl,fun Φ1 g1 g2 g3=>⟨rfl,b,c,u,h1,h2,g1 _ h3,h4,by rw [h9.len];exact h5,by rw [h9.len,h9.agg];exact h6,h9.rep Φ1 g1 g2 (by simp)⟩⟩⟩
  case func f x y =>
   have hL:=hp.1
   subst hL
   cases hw:(PV.func f x y).ways.isEmpty with
   | true=>rw [hw] at h;exact ⟨_,_,h,zHD hp (zHf hw)⟩
   | false =>
    rw [hw] at h;simp only [cond_false] at h
    obtain ⟨_,fs,cs,h1,h2,h3⟩:=hp
    obtain ⟨qs,l,h4,h5⟩:=zES ih x _ [] _ h2 h
    obtain ⟨qs',m,h6,h7⟩:=zES ih y _ [] _ h3 h4
    refine ⟨_,_,h6,⟨fun z hz=>?_,rfl,rfl,fun Φ1 g1 g2 g3=>⟨rfl,fs,cs,h1,h5.rep Φ1 g1 (fun z hz=>g2 z (by simp [hz])) (by simp),h7.rep Φ1 g1 (fun z hz=>g2 z (by simp [hz])) (by simp)⟩⟩⟩
    rcases List.mem_append.1 hz with hz | hz
    ·exact h5.low z hz
    ·exact h7.low z hz
  case addr r pre i c sh =>
   have hL:=hp.1
   have ha:=hp.2
   cases jh:Nat.ble hb r with
   | true=>rw [jh] at h;exact keep r (by simp [PV.ways]) hL h jh
   | false =>
    rw [jh] at h;simp only [cond_false] at h
    obtain ⟨x,hx,h1⟩:=zBU h
    obtain ⟨hg,ad,rfl,yY,hn⟩:=ha
    obtain ⟨nv,Li,hf,vU,yu⟩:=node r pre x hg hx
    cases hh:zBa x with
    | none=>rw [hh] at h1;cases h1
    | some xs =>
     rw [hh] at h1;simp only at h1
     cases hi:xs[i]? with
     | none=>rw [hi] at h1;cases h1
     | some y =>
      rw [hi] at h1;simp only at h1
      obtain ⟨ux,row,ad0,Lx,k1,k2,k3,k4,k5,k6,k7,k8,k9⟩:=zK9 vU hh hi
      have yz:=hn nv x hf _ (k5 c)
      subst yz
      have k9':=k9.mono (A':=zA6 w rv E) zDf.refl (fun _ _ _ h=>zFL h) (fun _ _=>rfl)
      cases sh with
      | some m =>
       simp only at h1
       obtain ⟨hc,h2⟩:=zAU h1
       simp only [Bool.and_eq_true] at hc
       have yI:=Nat.le_of_ble_eq_true hc.1
       cases hya:y<;>rw [hya] at hc<;>try (simp [PV.isAgg] at hc;done)
       rename_i cs
       subst hya
       obtain ⟨vs,rfl,hr⟩:=k9'
       obtain ⟨Ly,hly,wP⟩:=zGn hr c m
       have hO:=hr.length
       obtain ⟨q',l,h3,h4⟩:=ih (.agg ((cs.drop c).take m)) (.agg ((vs.toList.drop c).take m).toArray) Ly _ ⟨_,rfl,by simpa using wP⟩ h2
       have j9:q'.cells.length=m:=by rw [h4.len];simp [PV.cells] at yI ⊢;omega
       refine ⟨_,_,h3,⟨fun z hz=>?_,rfl,rfl,fun Φ1 g1 g2 g3=>?_⟩⟩
       ·rcases List.mem_cons.1 hz with rfl | hz
        ·exact ⟨hg,yk r jh⟩
        ·exact h4.low z hz
       ·have jR:=yu Φ1 (g2 _ (by simp))
        refine ⟨rfl,zAy ad0 c,row,_,rfl,rfl,jR _ k1,k3.any,?_,⟨?_,?_⟩,h4.rep Φ1 g1 (fun z hz=>g2 z (by simp [hz])) fun b hb=>jR b (k4 b (hly b hb))⟩
        ·rw [j9];simp only [zAy,Value.cells];rw [k6 c m yI];rfl
        ·rw [j9];simp [Value.cells,PV.cells] at yI hO ⊢;omega
        ·rw [h4.agg];rfl
      | none =>
       simp only at h1
       cases hc:y.cells[c]? with
       | none=>rw [hc] at h1;cases h1
       | some z =>
        rw [hc] at h1;simp only at h1
        obtain ⟨uv,h2⟩:=zAU h1
        obtain ⟨u,La,Lu,Lb,hu,vT,kU,_,_⟩:=k9'.cell hc k7
        obtain ⟨q',l,h3,h4⟩:=ih z u Lu _ kU h2
        have kM:=zBH (zB7 (fun a v hw h=>zCW hw h) kU uv)
        have ko:=zBl uv
        have yL:c<y.cells.length:=(List.getElem?_eq_some_iff.1 hc).1
        refine ⟨_,_,h3,⟨fun z hz=>?_,rfl,rfl,fun Φ1 g1 g2 g3=>?_⟩⟩
        ·rcases List.mem_cons.1 hz with rfl | hz
         ·exact ⟨hg,yk r jh⟩
         ·exact h4.low z hz
        ·have jR:=yu Φ1 (g2 _ (by simp))
         refine ⟨rfl,zAy ad0 c,row,u,rfl,rfl,jR _ k1,k3.any,?_,⟨?_,?_⟩,h4.rep Φ1 g1 (fun z hz=>g2 z (by simp [hz])) fun b hb=>jR b (k4 b (by rw [vT];simp [hb]))⟩
         ·rw [h4.len,ko.1,kM.1]
          have:=k6 c 1 (by omega)
          simp only [zAy,List.length_singleton]
          rw [this]
          have yK:c<ux.cells.toList.length:=by simpa [k8] using yL
          rw [List.drop_eq_getElem_cons yK]
          have:ux.cells.toList[c]=u:=by rw [List.getElem?_eq_getElem yK] at hu;simpa using hu
          simp [this]
         ·rw [h4.len,ko.1,kM.1];rfl
         ·rw [h4.agg,ko.2,kM.2]
  case bor r pre z lo m =>
   have hL:=hp.1
   have ha:=hp.2
   cases jh:Nat.ble hb r with
   | true=>rw [jh] at h;exact keep r (by simp [PV.ways]) hL h jh
   | false =>
    rw [jh] at h;simp only [cond_false] at h
    obtain ⟨x,hx,h1⟩:=zBU h
    obtain ⟨hg,_,hn⟩:=ha
    obtain ⟨nv,Li,hf,vU,yu⟩:=node r pre x hg hx
    split at h1
    ·rename_i sz xs
     obtain ⟨hc,h2⟩:=zAU h1
     refine ⟨_,_,h2,⟨fun z hz=>?_,rfl,rfl,fun Φ1 g1 g2 g3=>?_⟩⟩
     ·simp only [List.mem_singleton] at hz;subst hz;exact ⟨hg,yk r jh⟩
     ·have:=zHK (A':=zLG hb (zA6 w rv E)) g1 vU (yu Φ1 (g2 _ (by simp))) (z:=z) (lo:=lo) (n:=m) (v:=v) fun sz' xs' kx=>by
       obtain ⟨sz2,xs2,h7,h8,h9⟩:=hn nv _ hf rfl
       cases h7;cases kx;exact ⟨h8,h9⟩
      simp only [zC8,hc,cond_true] at this
      exact this
    ·cases h1
  case bmap r pre =>
   have hL:=hp.1
   have ha:=hp.2
   cases jh:Nat.ble hb r with
   | true=>rw [jh] at h;exact keep r (by simp [PV.ways]) hL h jh
   | false =>
    rw [jh] at h;simp only [cond_false] at h
    obtain ⟨x,hx,h1⟩:=zBU h
    obtain ⟨hg,_,hn⟩:=ha
    obtain ⟨nv,Li,hf,vU,yu⟩:=node r pre x hg hx
    split at h1
    ·rename_i es
     refine ⟨_,_,h1,⟨fun z hz=>?_,rfl,rfl,fun Φ1 g1 g2 g3=>?_⟩⟩
     ·simp only [List.mem_singleton] at hz;subst hz;exact ⟨hg,yk r jh⟩
     ·exact zGK (A':=zLG hb (zA6 w rv E)) g1 vU (yu Φ1 (g2 _ (by simp))) (v:=v) fun es' kx=>hn nv _ hf _ kx
    ·cases h1
  case bsl r pre i c sz ag m =>
   have hL:=hp.1
   have ha:=hp.2
   cases jh:Nat.ble hb r with
   | true=>rw [jh] at h;exact keep r (by simp [PV.ways]) hL h jh
   | false =>
    rw [jh] at h;simp only [cond_false] at h
    obtain ⟨x,hx,h1⟩:=zBU h
    obtain ⟨hg,ad,cap,rfl,yO,yY,hn⟩:=ha
    obtain ⟨nv,Li,hf,vU,yu⟩:=node r pre x hg hx
    cases hh:zBa x with
    | none=>rw [hh] at h1;cases h1
    | some xs =>
     rw [hh] at h1;simp only at h1
     cases hi:xs[i]? with
     | none=>rw [hi] at h1;cases h1
     | some y =>
      rw [hi] at h1;simp only at h1
      obtain ⟨hc,h2⟩:=zAU h1
      refine ⟨_,_,h2,⟨fun z hz=>?_,rfl,rfl,fun Φ1 g1 g2 g3=>?_⟩⟩
      ·simp only [List.mem_singleton] at hz;subst hz;exact ⟨hg,yk r jh⟩
      ·have:=zGS (A':=zLG hb (zA6 w rv E)) (fun a v hw h=>zIs hw h) g1 vU (yu Φ1 (g2 _ (by simp))) (i:=i) (c:=c) (sz:=sz) (ag:=ag) (m:=m) (v := .slice (some ad) m cap) rfl yO fun a' kC=>hn nv x hf a' kC
       simp only [zCp,hh,hi,hc,cond_true] at this
       exact this
theorem zN7 (S:St w0 U Φ0 nt hv a w e Φ rv E L) {p:PV} {v:Value} {Lp:List Nat} {k:PV→List (Nat×zAT)→PM} (hp:Rep w Φ (zA6 w rv E) p v Lp) (h:(zAs p k).run o e=some e') :
  ∃ q l,(k q l).run o e=some e'∧(∀ x∈l,x.1<zAd)∧∀ Φ1:Nat→Prop,(∀ b,Φ b→Φ1 b)→(∀ x∈l,Cov w Φ rv E Φ1 x)→(∀ b∈Lp,Φ1 b)→Rep w Φ1 zCj q v []:=by
 obtain ⟨q,l,h1,h2⟩:=zJP S (hb:=zAd) depth p v Lp k hp h
 refine ⟨q,l,h1,fun x hx=>(h2.low x hx).1,fun Φ1 g1 g2 g3=>(h2.rep Φ1 g1 g2 g3).mono zDf.refl (fun a v hw ha=>?_) (fun _ _=>rfl)⟩
 have hr:=zCP ha.1
 have:=ha.2 (zA8 a)
 cases a<;>first | (cases hw;done) | (exact ha.1.elim) | skip
 all_goals
  have:=this (by simp [PV.ways,zA8])
  omega
theorem zLE {p q' p':PV} {i c:Nat} (hp:zBV p i c q'=some p'):p'.unlock=p'∧p'.isTup=false:=by
 simp only [zBV] at hp
 cases p<;>simp only [zA0,Option.bind_none,Option.bind_some] at hp<;>try cases hp
 case own sz xs =>
  cases hx:xs[i]?<;>rw [hx] at hp<;>simp [zAJ] at hp
  subst hp;exact ⟨rfl,rfl⟩
 case box q =>
  cases i with
  | zero=>simp [zAJ] at hp;subst hp;exact ⟨rfl,rfl⟩
  | succ i=>simp at hp
 case agg cs =>
  cases i with
  | zero=>simp [zAJ,zAK] at hp;subst hp;exact ⟨rfl,rfl⟩
  | succ i=>simp at hp
theorem zBL {q' p p':PV} (h1:q'.unlock=q') (h2:q'.isTup=false):∀ {pre:zAT},zAr (fun _=>some q') p pre=some p'→p'.unlock=p'∧p'.isTup=false
 | [],h=>by simp only [zAr,Option.some.injEq] at h;subst h;exact ⟨h1,h2⟩
 | (i,c)::rest,h=>by
  rw [zBq] at h
  cases hc:Eng.child p i c with
  | none=>rw [hc] at h;cases h
  | some q =>
   rw [hc] at h;simp only [Option.bind_some] at h
   cases hm:zAr (fun _=>some q') q rest with
   | none=>rw [hm] at h;cases h
   | some q1=>rw [hm] at h;exact zLE (by simpa using h)
theorem zEW (q:PV):(zAZ q).unlock=zAZ q∧(zAZ q).isTup=false:=by cases q<;>exact ⟨rfl,rfl⟩
theorem zBE {p:PV} (h:p.isLock=false):p.unlock=p:=by cases p<;>first | rfl | cases h
theorem zQi (r:Nat) (pre:zAT) (q p:PV) (hp:p.isWay=true):(inl r pre q p).isTup=false:=by
 have h:=(zIg r pre q).dull p hp
 have h1 : ∀ i c sh x,(zDs i c sh x).isTup=false:=by
  intro i c sh x
  simp only [zDs]
  split
  ·split
   ·split
    ·cases (Nat.ble _ _&&PV.isAgg _)<;>rfl
    ·split
     ·rename_i q _;cases q.oneCell<;>rfl
     ·rfl
   ·rfl
  ·rfl
 have h2:∀ lo n x,(zC8 lo n x).isTup=false:=by
  intro lo n x
  cases x<;>try rfl
  simp only [zC8];cases Nat.ble _ _<;>rfl
 have h5:∀ i c sz ag m x,(zCp i c sz ag m x).isTup=false:=by
  intro i c sz ag m x
  simp only [zCp]
  split
  ·split
   ·cases (zCi ag sz m _&&_)<;>rfl
   ·rfl
  ·rfl
 have h3:∀ x,(zEx x).isTup=false:=by intro x;cases x<;>rfl
 have h4:∀ (o:Option PV) (f:PV→PV),(∀ x,(f x).isTup=false)→(zHF o f).isTup=false:=by
  intro o f hf;cases o with
  | none=>rfl
  | some x=>exact hf x
 cases p<;>first | (cases hp;done) | skip
 all_goals
  simp only [inl]
  first | rfl | skip
 all_goals
  cases zAQ r pre _ _<;>first | rfl | exact h4 _ _ (h1 _ _ _) | exact h4 _ _ (h2 _ _) | exact h4 _ _ h3 | exact h4 _ _ (h5 _ _ _ _ _)
theorem zUM (S:St w0 U Φ0 nt hv a w e Φ rv E L) (M:Nat→Bool) {r:Nat} {pre:zAT} {q:PV} (hr:r<zAd) (hq:zAz (e.get r).unlock pre=some q) {k:PM} (h:(PM.frz r pre k).run o e=some e') :
  ∃ e1 Φ1 E1 L1,k.run o e1=some e'∧St w0 U Φ0 nt hv a w e1 Φ1 rv E1 L1∧(∀ b,Φ b→Φ1 b)∧(∀ s,zAd≤s→E1 s=(if M s then (E s).mapW (inl r pre q) else E s)∧L1 s=L s):=by
 simp only [PM.run] at h
 cases hf:e.frz r pre with
 | none=>rw [hf] at h;cases h
 | some e1 =>
  rw [hf] at h;simp only at h
  obtain ⟨q0,root,hl,hn,hm,yS⟩:=Env.frz_eq hf
  have yF:=zBE hl
  rw [yF,hn] at hq;simp only [Option.some.injEq] at hq;subst hq
  have hE:=S.env r hr
  obtain ⟨k1,k2⟩:=zBL (zEW q0).1 (zEW q0).2 hm
  obtain ⟨nv,Li,L',h1,h2,h3,h4⟩:=S.conf.ice M hr (pre:=pre) (q:=q0) (root':=root) (by rw [hE];exact yF) (by rw [hE];exact hn) (by rw [hE];exact hm) k1
  refine ⟨e1,_,_,L',h,S.turn h4 (fun s hs=>?_) (fun _ _=>rfl) (fun d ps hd hp=>?_),fun b hb => .inl hb,fun s hs=>⟨?_,h3 s (by omega)⟩⟩
  ·simp only [hs,true_or,if_true]
   rw [yS s]
   by_cases yW:s=r
   ·subst yW;simp
   ·rw [if_neg yW,if_neg yW,S.env s hs]
  ·have uU:d<zAd:=by simp only [zAd];omega
   simp only [uU,true_or,if_true] at hp
   obtain ⟨ps',h5,h6⟩:=zDJ (zQi r pre q0) hp
   by_cases jt:d=r
   ·rw [if_pos jt] at h5;rw [h5] at k2;cases k2
   ·rw [if_neg jt] at h5;exact ⟨ps',h5,h6⟩
  ·have:¬ s<zAd:=by omega
   simp only [this,false_or]
   have yW:s≠r:=by omega
   rw [if_neg yW]
theorem zQp {l:List (Nat×zAT)} {hb:Nat} (h:l.find? (fun w=>Nat.blt w.1 hb)=none):∀ x∈l,hb≤x.1:=by
 intro x hx
 have:=List.find?_eq_none.1 h x hx
 exact Nat.le_of_not_lt fun yK=>this (Nat.ble_eq_true_of_le yK)
theorem zIU {hb g:Nat} (hg:zAd≤g) (jh:hb≤zAd) {k:PV→PM}:∀ (n:Nat) {e:Env} {Φ:Nat→Prop} {E:Nat→PV} {L:Nat→List Nat},St w0 U Φ0 nt hv a w e Φ rv E L→(zLk hb n (E g) k).run o e=some e' →
  ∃ e1 Φ1 E1 L1,(k (E1 g)).run o e1=some e'∧St w0 U Φ0 nt hv a w e1 Φ1 rv E1 L1∧(∀ b,Φ b→Φ1 b)∧(∀ s,zAd≤s→s≠g→E1 s=E s)∧(∀ s,zAd≤s→L1 s=L s) ∧
   (∀ x∈(E1 g).ways,hb≤x.1)∧(E1 g).isAgg=(E g).isAgg∧(E1 g).cells.length=(E g).cells.length
 | 0,e,Φ,E,L,S,h=>by cases h
 | n + 1,e,Φ,E,L,S,h=>by
  simp only [zLk] at h
  split at h
  ·rename_i hf
   exact ⟨e,Φ,E,L,h,S,fun _ h=>h,fun _ _ _=>rfl,fun _ _=>rfl,zQp hf,rfl,rfl⟩
  ·rename_i r pre hf
   have hr:r<zAd:=by
    have:=List.find?_some hf
    have:r<hb:=Nat.le_of_ble_eq_true this
    omega
   obtain ⟨q,hq,h1⟩:=zBU h
   obtain ⟨e1,Φ1,E1,L1,h2,S1,h3,h4⟩:=zUM S (fun s=>s==g) hr hq h1
   have uB:E1 g=(E g).mapW (inl r pre q):=by simpa using (h4 g hg).1
   rw [← uB] at h2
   obtain ⟨e2,Φ2,E2,L2,h5,S2,h6,h7,h8,h9,h10,h11⟩:=zIU hg jh n S1 h2
   refine ⟨e2,Φ2,E2,L2,h5,S2,fun b hb=>h6 b (h3 b hb),fun s hs hI=>?_,fun s hs=>(h8 s hs).trans (h4 s hs).2,h9,?_,?_⟩
   ·rw [h7 s hs hI,(h4 s hs).1];simp [hI]
   ·rw [h10,uB,zFN (zIg r pre q).agg]
   ·rw [h11,uB,zHv (zIg r pre q).agg]
end
end Go.Eng
namespace Go.Eng
open Go
section
variable {w w':World} {Φ Φ':Nat→Prop} {A A':Al}
theorem zA1.append:∀ {ps qs:List PV} {us vs:List Value} {L M:List Nat},zA1 w Φ A ps us L→zA1 w Φ A qs vs M→zA1 w Φ A (ps++qs) (us++vs) (L++M)
 | [],qs,us,vs,L,M,h,h'=>by obtain ⟨rfl,rfl⟩:=h;simpa using h'
 | p::ps,qs,us,vs,L,M,h,h'=>by
  obtain ⟨v,us',L1,L2,rfl,rfl,h1,h2⟩:=h
  exact ⟨v,us'++vs,L1,L2++M,rfl,by simp,h1,h2.append h'⟩
theorem zA1.cut:∀ {ps:List PV} {us:List Value} {L:List Nat} (n:Nat),zA1 w Φ A ps us L→∃ L1 L2,L=L1++L2∧zA1 w Φ A (ps.take n) (us.take n) L1∧zA1 w Φ A (ps.drop n) (us.drop n) L2
 | ps,us,L,0,h=>⟨[],L,rfl,by simp [zA1],by simpa using h⟩
 | [],us,L,n+1,h=>by obtain ⟨rfl,rfl⟩:=h;exact ⟨[],[],rfl,by simp [zA1],by simp [zA1]⟩
 | p::ps,us,L,n+1,h=>by
  obtain ⟨v,us',L1,L2,rfl,rfl,h1,h2⟩:=h
  obtain ⟨M1,M2,rfl,h3,h4⟩:=h2.cut n
  exact ⟨L1++M1,M2,by simp,⟨v,_,L1,M1,rfl,rfl,h1,h3⟩,by simpa using h4⟩
theorem zA1.replace {ps:List PV} {us:List Value} {L:List Nat} (h:zA1 w Φ A ps us L) (c n:Nat):∃ L1 L2 L3,L=L1++L2++L3 ∧
  ∀ {w':World} {Φ':Nat→Prop} {A':Al} {qs:List PV} {vs:List Value} {Lq:List Nat},(∀ a v,a.isWay=true→A a v→A' a v)→zDf w w' Φ Φ'→(∀ b∈L1++L3,w'.heap[b]? = w.heap[b]?)→zA1 w' Φ' A' qs vs Lq →
   zA1 w' Φ' A' (ps.take c++qs++ps.drop (c+n)) (us.take c++vs++us.drop (c+n)) (L1++Lq++L3):=by
 obtain ⟨L1,L23,rfl,h1,h2⟩:=h.cut c
 obtain ⟨L2,L3,rfl,_,h3⟩:=h2.cut n
 rw [List.drop_drop,List.drop_drop] at h3
 refine ⟨L1,L2,L3,by simp,fun hA hs hb hq=>?_⟩
 exact ((h1.mono hs hA fun b h=>hb b (by simp [h])).append hq).append (h3.mono hs hA fun b h=>hb b (by simp [h]))
end
def zBf (c:Array Value) (o:Nat) (vs:List Value):Array Value:=(c.toList.take o++vs++c.toList.drop (o+vs.length)).toArray
theorem zGm {c:Array Value} {o:Nat} {vs:List Value} (h:o+vs.length≤c.size):(zBf c o vs).size=c.size:=by
 simp [zBf];omega
theorem zCS {α:Type} {l:List α} {o:Nat} {vs:List α} (h:o+vs.length≤l.length) (k:Nat) :
  (l.take o++vs++l.drop (o+vs.length))[k]? = if k<o then l[k]? else if k<o+vs.length then vs[k-o]? else l[k]?:=by
 have ho:(l.take o).length=o:=by simp;omega
 have hov:(l.take o++vs).length=o+vs.length:=by simp;omega
 by_cases h1:k<o
 ·rw [if_pos h1,List.getElem?_append_left (by omega),List.getElem?_append_left (by omega),List.getElem?_take,if_pos h1]
 ·rw [if_neg h1]
  by_cases h2:k<o+vs.length
  ·rw [if_pos h2,List.getElem?_append_left (by omega),List.getElem?_append_right (by omega),ho]
  ·rw [if_neg h2,List.getElem?_append_right (by omega),hov,List.getElem?_drop,show o+vs.length+(k-(o+vs.length))=k by omega]
theorem zHu {c:Array Value} {o off m:Nat} {vs:List Value} (h1:off≤o) (h2:o+vs.length≤off+m) (h3:off+m≤c.size) :
  seg (zBf c o vs) off m=(seg c off m).take (o-off)++vs++(seg c off m).drop (o-off+vs.length):=by
 have j8:(seg c off m).length=m:=by simp [seg];omega
 apply List.ext_getElem?
 intro k
 rw [zCS (by rw [j8];omega)]
 simp only [seg,zBf,List.getElem?_take,List.getElem?_drop]
 rw [zCS (by simp;omega)]
 by_cases hk:k<m
 ·simp only [hk,if_true]
  by_cases h4:off+k<o
  ·have h6:k<o-off:=by omega
   simp only [h4,h6,if_true]
  ·have h6:¬ k<o-off:=by omega
   simp only [h4,h6,if_false]
   by_cases h5:off+k<o+vs.length
   ·have h7:k<o-off+vs.length:=by omega
    simp only [h5,h7,if_true]
    rw [show off+k-o=k-(o-off) by omega]
   ·have h7:¬ k<o-off+vs.length:=by omega
    simp only [h5,h7,if_false]
 ·have h6:¬ k<o-off:=by omega
  have h7:¬ k<o-off+vs.length:=by omega
  simp only [hk,h6,h7,if_false]
theorem zTg {c:Array Value} {off m:Nat} {l:List Value} (h:seg c off m=l) (hl:l.length=m) (hm:m≠0):off+m≤c.size:=by
 rw [← h] at hl
 simp [seg] at hl;omega
theorem zCO (us vs:List Value):flat (us++vs)=flat us++flat vs:=by simp [flat]
section
variable {w w':World} {Φ Φ':Nat→Prop} {A A':Al}
theorem zNG {x:PV} {u:Value} {L:List Nat} (h:Rep w Φ A x u L) (hn:zCh u=x.isAgg) {c:Nat} {qs:List PV} {vs:List Value} (hq:∀ q∈qs,q.oneCell=true) (yg:∀ v∈vs,v.oneCell'=true) (hO:vs.length=qs.length) (hc:c+qs.length≤x.cells.length) :
  ∃ u' L1 L2 L3,u'.cells.toList=u.cells.toList.take c++vs++u.cells.toList.drop (c+vs.length)∧zCh u'=zCh u∧L=L1++L2++L3∧(zAK x c qs).isAgg=x.isAgg∧(zAK x c qs).cells.length=x.cells.length ∧
   ∀ {w':World} {Φ':Nat→Prop} {A':Al} {Lq:List Nat},(∀ a v,a.isWay=true→A a v→A' a v)→zDf w w' Φ Φ'→(∀ b∈L1++L3,w'.heap[b]? = w.heap[b]?)→zA1 w' Φ' A' qs vs Lq →
    Rep w' Φ' A' (zAK x c qs) u' (L1++Lq++L3):=by
 cases hx:x.isAgg with
 | true =>
  cases x<;>simp [PV.isAgg] at hx
  rename_i cs
  obtain ⟨us,rfl,hr⟩:=h
  obtain ⟨L1,L2,L3,rfl,hk⟩:=hr.replace c qs.length
  have yt:=hr.length
  refine ⟨.agg (us.toList.take c++vs++us.toList.drop (c+vs.length)).toArray,L1,L2,L3,by simp [Value.cells],rfl,rfl,rfl,?_,fun hA hs hb hq=>⟨_,rfl,?_⟩⟩
  ·simp [zAK,PV.cells] at hc ⊢;omega
  ·have:=hk hA hs hb hq
   rw [hO];simpa using this
 | false =>
  have jU:x.cells=[x]:=by cases x<;>first | rfl | simp [PV.isAgg] at hx
  have hv:u.cells=#[u]:=by rw [hx] at hn;cases u<;>first | rfl | simp [zCh] at hn
  rw [jU] at hc ⊢
  match qs,vs,hO,hq,yg with
  | [],[],_,_,_ =>
   have he:zAK x c []=x:=by cases x<;>first | rfl | simp [PV.isAgg] at hx
   refine ⟨u,L,[],[],by simp,rfl,by simp,by rw [he];exact hx,by rw [he,jU],fun hA hs hb hq=>?_⟩
   obtain ⟨_,rfl⟩:=hq
   rw [he];simpa using h.mono hs hA (fun b yE=>hb b (by simp [yE]))
  | [q],[v],_,hq,yg =>
   have v0:c=0:=by simp at hc;exact hc
   subst v0
   have he:zAK x 0 [q]=q:=by cases x<;>first | rfl | simp [PV.isAgg] at hx
   have h1:=zBl (hq q (by simp))
   have h2:=zBH (yg v (by simp))
   refine ⟨v,[],L,[],by simp [hv,h2.1],by rw [h2.2,hn,hx],by simp,by rw [he];exact h1.2,by rw [he,h1.1];rfl,fun hA hs hb hq=>?_⟩
   obtain ⟨v',vs',L1,L2,h3,h4,h5,h6⟩:=hq
   obtain ⟨h7,h8⟩:=h6
   cases h3;subst h8
   rw [he,h4];simpa using h5
  | _::_::_,_,_,_,_=>simp only [List.length_cons,List.length_nil] at hc;omega
theorem zEt {α:Type} {l:List α} {i:Nat} {x:α} (h:i<l.length):l.set i x=l.take i++[x]++l.drop (i+1):=by
 rw [List.set_eq_take_append_cons_drop,if_pos h];simp
theorem zRt {np q':PV} {nv:Value} {Li:List Nat} (h:Rep w Φ A np nv Li) {xs:List PV} (hx:zBa np=some xs) {i c:Nat} {x:PV} (hi:xs[i]? = some x) {qs:List PV} {vs:List Value}
  (hq:∀ q∈qs,q.oneCell=true) (yg:∀ v∈vs,v.oneCell'=true) (hO:vs.length=qs.length) (hI:qs.length≠0) (hc:c+qs.length≤x.cells.length) (hw:zAJ np (xs.set i (zAK x c qs))=some q') :
  ∃ ad row La Lm Lb,zA7 nv np i c=some ad∧ad.spot=none∧zEQ w ad.block row∧ad.off+vs.length≤row.size∧Li=ad.block::(La++Lm++Lb) ∧
   ∀ {w':World} {Φ':Nat→Prop} {A':Al} {Lq:List Nat},(∀ a v,a.isWay=true→A a v→A' a v)→zDf w w' Φ Φ'→(∀ b∈La++Lb,w'.heap[b]? = w.heap[b]?)→zEQ w' ad.block (zBf row ad.off vs)→zA1 w' Φ' (zGp A' np) qs vs Lq →
    Rep w' Φ' A' q' nv (ad.block::(La++Lq++Lb)):=by
 have jP:i<xs.length:=(List.getElem?_eq_some_iff.1 hi).1
 cases np<;>simp only [zBa] at hx<;>try cases hx
 case own sz =>
  obtain ⟨h1,h2,h3⟩ | ⟨a,n,r,us,L',rfl,h1,h2,h3,h4,h5,h6,⟨h7,km⟩,h8,h9⟩:=h
  ·subst h1;simp at hi
  ·simp only [zAJ,Option.some.injEq] at hw;subst hw
   have husl:us.length=xs.length:=by have:=congrArg List.length km;simpa using this
   obtain ⟨Ka,K23,rfl,gy,hB⟩:=h9.cut i
   have wS:i<us.length:=by omega
   have hxe:xs[i]=x:=by rw [List.getElem?_eq_getElem jP] at hi;simpa using hi
   rw [List.drop_eq_getElem_cons jP,List.drop_eq_getElem_cons wS,hxe] at hB
   obtain ⟨u,us2,Lx,Kb,hue,rfl,hr,hB⟩:=hB
   simp only [List.cons.injEq] at hue
   obtain ⟨hu0,rfl⟩:=hue
   have hu:us[i]? = some u:=by rw [List.getElem?_eq_getElem wS,hu0]
   have hg:zCh u=x.isAgg:=by
    have h1:(us.map zCh)[i]? = some (zCh u):=by simp [hu]
    have h2:(xs.map PV.isAgg)[i]? = some x.isAgg:=by simp [hi]
    rw [km] at h1;rw [h1] at h2;simpa using h2
   have vZ:=h6 x (List.mem_of_getElem? hi)
   have yt:=h7 u (List.mem_of_getElem? hu)
   obtain ⟨u',L1,L2,L3,k1,k2,rfl,k4,k5,k6⟩:=zNG hr hg hq yg hO hc
   have wT:i*sz+sz≤xs.length*sz:=by rw [← Nat.succ_mul];exact Nat.mul_le_mul_right _ jP
   have hnsz:xs.length*sz≤n*sz:=Nat.mul_le_mul_right _ h3
   have hZ:a.off+(i*sz+c)+vs.length≤r.size:=by rw [hO];omega
   refine ⟨zAy a (i*sz+c),r,Ka++L1,L2,L3++Kb,by rw [h1];rfl,rfl,h4,hZ,by simp [zAy],@fun w' Φ' A' Lq hA hs hb yA wx=>?_⟩
   have yU:xs.set i (zAK x c qs)=xs.take i++([zAK x c qs]++xs.drop (i+1)):=by rw [zEt jP];simp
   have wy:us.set i u'=us.take i++([u']++us.drop (i+1)):=by rw [zEt wS];simp
   refine .inr ⟨a,n,_,us.set i u',(Ka++(L1++Lq++L3)++Kb),by simp [zAy],by simpa using h1,h2,by simpa using h3,yA,?_,?_,⟨?_,?_⟩,?_,?_⟩
   ·show a.off+n*sz≤(zBf r (a.off+(i*sz+c)) vs).size
    rw [zGm hZ];exact h5
   ·intro y hy
    rcases List.mem_or_eq_of_mem_set hy with hy | hy
    ·exact h6 y hy
    ·rw [hy,k5];exact vZ
   ·intro y hy
    rcases List.mem_or_eq_of_mem_set hy with hy | hy
    ·exact h7 y hy
    ·rw [hy]
     have:=congrArg List.length k1
     simp at this
     omega
   ·rw [zEg hi k4,zEg hu k2,km]
   ·have ji:flat us=flat (us.take i)++(u.cells.toList++flat (us.drop (i+1))):=by
     conv=>lhs;rw [← List.take_append_drop i us,List.drop_eq_getElem_cons wS,hu0]
     rw [zCO,zCH]
    have jD:(flat (us.take i)).length=i*sz:=by
     rw [zBn (fun y hy=>h7 y (List.mem_of_mem_take hy)),List.length_take,Nat.min_eq_left (by omega)]
    have wU:u.cells.toList.length=sz:=by simpa using yt
    rw [List.length_set]
    show seg (zBf r (zAy a (i*sz+c)).off vs) a.off (xs.length*sz)=_
    simp only [zAy]
    rw [zHu (by omega) (by rw [hO];omega) (by omega),h8,show a.off+(i*sz+c)-a.off=i*sz+c by omega]
    rw [wy,zCO,zCO,ji]
    have e1:(flat (us.take i)++(u.cells.toList++flat (us.drop (i+1)))).take (i*sz+c)=flat (us.take i)++u.cells.toList.take c:=by
     rw [List.take_append,jD,List.take_of_length_le (by omega),show i*sz+c-i*sz=c by omega,List.take_append_of_le_length (by omega)]
    have e2:(flat (us.take i)++(u.cells.toList++flat (us.drop (i+1)))).drop (i*sz+c+vs.length)=u.cells.toList.drop (c+vs.length)++flat (us.drop (i+1)):=by
     rw [List.drop_append,jD,List.drop_of_length_le (by omega),show i*sz+c+vs.length-i*sz=c+vs.length by omega,List.drop_append_of_le_length (by omega)];rfl
    rw [e1,e2]
    have e3:flat [u']=u'.cells.toList:=by simp [flat]
    rw [e3,k1];simp
   ·rw [yU,wy]
    have kx:=k6 (fun a v _ h=>h) (Φ':=_) hs (fun b h=>hb b (by simp at h ⊢;rcases h with h | h<;>simp [h])) wx
    have:=(gy.mono hs (fun _ _ _ h=>h) (fun b h=>hb b (by simp [h]))).append ((show zA1 _ _ zCj [zAK x c qs] [u'] _ from ⟨u',[],_,[],rfl,rfl,kx,rfl,rfl⟩).append (hB.mono hs (fun _ _ _ h=>h) (fun b h=>hb b (by simp [h]))))
    simpa using this
 case box q0 =>
  obtain ⟨a,r,u0,L',rfl,h1,h2,h4,h5,⟨h6,uS⟩,h7⟩:=h
  have jl:i=0:=by simpa using jP
  subst jl;simp at hi;subst hi
  simp only [List.set_cons_zero,zAJ,Option.some.injEq] at hw;subst hw
  obtain ⟨u',L1,L2,L3,k1,k2,rfl,k4,k5,k6⟩:=zNG h7 uS hq yg hO hc
  have yt:u0.cells.toList.length=q0.cells.length:=by simpa using h6
  have yq:a.off+q0.cells.length≤r.size:=zTg h5 yt (by omega)
  refine ⟨zAy a c,r,L1,L2,L3,by rw [h1];rfl,rfl,h4,by simp only [zAy];omega,by simp [zAy],fun hA hs hb yA wx=>?_⟩
  refine ⟨a,_,u',_,rfl,h1,h2,yA,?_,⟨?_,?_⟩,k6 hA hs hb wx⟩
  ·rw [k5]
   simp only [zAy]
   rw [zHu (by omega) (by omega) (by omega),h5,show a.off+c-a.off=c by omega,k1]
  ·rw [k5]
   have:=congrArg List.length k1
   simp at this yt
   omega
  ·rw [k2,k4,uS]
theorem zQT {np:PV} {nv:Value} {Li:List Nat} (h:Rep w Φ A np nv Li) {xs:List PV} (hx:zBa np=some xs) {i:Nat} {x:PV} (hi:xs[i]? = some x) :
  ∃ M ux Lx ad,Li=ad.block::M∧(∀ c,zA7 nv np i c=some (zAy ad c))∧Rep w Φ (zGp A np) x ux Lx∧(∀ b∈Lx,b∈M)∧zCh ux=x.isAgg∧∀ k u,ux.cells.toList[k]? = some u→kid w nv np i k=some u:=by
 cases np<;>simp only [zBa] at hx<;>try cases hx
 case own sz =>
  obtain ⟨h1,h2,h3⟩ | ⟨a,n,r,us,L',rfl,h1,h2,h3,h4,h5,h6,⟨h7,km⟩,h8,h9⟩:=h
  ·subst h1;simp at hi
  ·obtain ⟨ux,La,Lx,Lb,hu,rfl,hr,_,_⟩:=h9.split hi
   have hg:zCh ux=x.isAgg:=by
    have h1:(us.map zCh)[i]? = some (zCh ux):=by simp [hu]
    have h2:(xs.map PV.isAgg)[i]? = some x.isAgg:=by simp [hi]
    rw [km] at h1;rw [h1] at h2;simpa using h2
   subst h1
   refine ⟨_,ux,Lx,zAy a (i*sz),rfl,fun c=>by simp [zA7,zAy,Nat.add_assoc],hr,fun b hb=>by simp [hb],hg,fun k u hk=>?_⟩
   have hf:=zDQ h7 hu hk
   rw [← h8] at hf
   have:=zDo hf
   simp only [kid,zAy]
   rw [zC6 h4.any];exact this
 case box q0 =>
  obtain ⟨a,r,u0,L',rfl,h1,h2,h4,h5,⟨h6,uS⟩,h7⟩:=h
  have jl:i=0:=by
   cases i with
   | zero=>rfl
   | succ i=>simp at hi
  subst jl;simp at hi;subst hi
  subst h1
  refine ⟨L',u0,L',a,rfl,fun c=>rfl,h7,fun b hb=>hb,uS,fun k u hk=>?_⟩
  have:=zDo (c:=r) (o:=a.off) (n:=q0.cells.length) (k:=k) (u:=u) (by rw [h5];exact hk)
  simp only [kid,zAy]
  rw [zC6 h4.any];exact this
end
mutual
theorem zEG {f g:PV→PV}:∀ p:PV,(p.mapW f).mapW g=p.mapW fun a=>(f a).mapW g
 | .agg cs=>by rw [PV.mapW,PV.mapW,PV.mapW,zEw]
 | .tup cs=>by rw [PV.mapW,PV.mapW,PV.mapW,zEw]
 | .func h a b=>by rw [PV.mapW,PV.mapW,PV.mapW,zEw,zEw]
 | .ref q=>by rw [PV.mapW,PV.mapW,PV.mapW,zEG]
 | .box q=>by rw [PV.mapW,PV.mapW,PV.mapW,zEG]
 | .lock q=>by rw [PV.mapW,PV.mapW,PV.mapW,zEG]
 | .addr .. => rfl
 | .bor .. => rfl
 | .bsl .. => rfl
 | .bmap .. => rfl
 | .yld .. => rfl
 | .log .. => rfl
 | .bad=>rfl
 | .und=>rfl
 | .int .. => rfl
 | .bool .. => rfl
 | .nilp=>rfl
 | .nilf=>rfl
 | .nilm=>rfl
 | .nn=>rfl
 | .nils _=>rfl
 | .sl _=>rfl
 | .own .. => rfl
 | .map _=>rfl
 | .omap _=>rfl
theorem zEw {f g:PV→PV}:∀ ps:List PV,zCF g (zCF f ps)=zCF (fun a=>(f a).mapW g) ps
 | []=>rfl
 | p::ps=>by rw [zCF,zCF,zCF,zEG,zEw]
end
mutual
theorem zDq {f g:PV→PV} (h:∀ a,a.isWay=true→f a=g a):∀ p:PV,p.mapW f=p.mapW g
 | .agg cs=>by rw [PV.mapW,PV.mapW,zDW h]
 | .tup cs=>by rw [PV.mapW,PV.mapW,zDW h]
 | .func k a b=>by rw [PV.mapW,PV.mapW,zDW h,zDW h b]
 | .ref q=>by rw [PV.mapW,PV.mapW,zDq h]
 | .box q=>by rw [PV.mapW,PV.mapW,zDq h]
 | .lock q=>by rw [PV.mapW,PV.mapW,zDq h]
 | .addr .. => h _ rfl
 | .bor .. => h _ rfl
 | .bsl .. => h _ rfl
 | .bmap .. => h _ rfl
 | .yld .. => rfl
 | .log .. => h _ rfl
 | .bad=>rfl
 | .und=>rfl
 | .int .. => rfl
 | .bool .. => rfl
 | .nilp=>rfl
 | .nilf=>rfl
 | .nilm=>rfl
 | .nn=>rfl
 | .nils _=>rfl
 | .sl _=>rfl
 | .own .. => rfl
 | .map _=>rfl
 | .omap _=>rfl
theorem zDW {f g:PV→PV} (h:∀ a,a.isWay=true→f a=g a):∀ ps:List PV,zCF f ps=zCF g ps
 | []=>rfl
 | p::ps=>by rw [zCF,zCF,zDq h,zDW h]
end
def zDz (r:Nat) (pre:zAT) (i:Nat):Nat→List PV→PV→PV
 | _,[],a=>a
 | c,q::qs,a=>bif q.heavy then (if (lose r (pre++[(i,c)]) a).isWay=true then zDz r pre i (c+1) qs a else lose r (pre++[(i,c)]) a) else zDz r pre i (c+1) qs a
theorem zKP (r:Nat) (pre:zAT) (i:Nat):∀ (qs:List PV) (c:Nat) (p:PV),zDz r pre i c qs p=p∨(p.isWay=true∧zDz r pre i c qs p = .bad)
 | [],c,p => .inl rfl
 | q :: qs,c,p=>by
  simp only [zDz]
  cases hq:q.heavy with
  | false=>exact zKP r pre i qs (c+1) p
  | true =>
   simp only [cond_true]
   split
   ·exact zKP r pre i qs (c+1) p
   ·exact zGx r (pre++[(i,c)]) p
theorem zGl {o:zAL} {r:Nat} {pre:zAT} {i:Nat} {k:PM} {e':Env}:∀ (qs:List PV) (c:Nat) {e:Env},(zDE r pre i c qs k).run o e=some e' →
  ∃ e1,k.run o e1=some e'∧∀ s,e1.get s=(e.get s).mapW (zDz r pre i c qs)
 | [],c,e,h=>⟨e,h,fun s=>by rw [show zDz r pre i c []=fun x=>x from rfl,zBg]⟩
 | q :: qs,c,e,h=>by
  simp only [zDE] at h
  cases hq:q.heavy with
  | false =>
   rw [hq] at h
   obtain ⟨e1,h1,h2⟩:=zGl qs (c+1) h
   refine ⟨e1,h1,fun s=>?_⟩
   rw [h2 s];exact zDq (fun a _=>by simp [zDz,hq]) _
  | true =>
   rw [hq] at h;simp only [cond_true,PM.run] at h
   obtain ⟨e1,h1,h2⟩:=zGl qs (c+1) h
   refine ⟨e1,h1,fun s=>?_⟩
   rw [h2 s,Env.get_kill,zEG]
   refine zDq (fun a ha=>?_) _
   simp only [zDz,hq,cond_true]
   rcases zGx r (pre++[(i,c)]) a with h3 | ⟨_,h3⟩
   ·rw [h3,if_pos ha,zFQ ha]
   ·rw [h3];rfl
theorem zIM {r:Nat} {pre:zAT} {i:Nat}:∀ (qs:List PV) (c j:Nat) {q:PV},qs[j]? = some q→q.heavy=true→∀ a,a.isWay=true→∀ rest,zA8 a=(r,pre++(i,c+j)::rest)→(∀ h,a ≠ .yld h)→(∀ xs k,a ≠ .log xs k)→zDz r pre i c qs a≠a
 | [],_,_,_,h,_,_,_,_,_,_,_=>by simp at h
 | q0::qs,c,0,q,h,hh,a,ha,rest,hr,hy,hl=>by
  simp at h;subst h
  simp only [zDz,hh,cond_true]
  have LE:lose r (pre++[(i,c)]) a = .bad:=by
   have hp:(pre++[(i,c)]).isPrefixOf (pre++(i,c)::rest)=true:=by
    rw [List.isPrefixOf_iff_prefix];exact ⟨rest,by simp⟩
   cases a<;>first | (cases ha;done) | (exact absurd rfl (hy _)) | (exact absurd rfl (hl _ _)) | skip
   all_goals
    simp only [zA8,Nat.add_zero,Prod.mk.injEq] at hr
    obtain ⟨rfl,rfl⟩:=hr
    simp [lose,hp]
  rw [LE];simp only [PV.isWay,Bool.false_eq_true,if_false]
  intro he;rw [← he] at ha;cases ha
 | q0::qs,c,j+1,q,h,hh,a,ha,rest,hr,hy,hl=>by
  have ih:=zIM (r:=r) (pre:=pre) (i:=i) qs (c+1) j (by simpa using h) hh a ha rest (by rw [hr];congr 4;omega) hy hl
  simp only [zDz]
  cases hq:q0.heavy with
  | false=>exact ih
  | true =>
   simp only [cond_true]
   rcases zGx r (pre++[(i,c)]) a with h3 | ⟨_,h3⟩
   ·rw [h3,if_pos ha];exact ih
   ·rw [h3];simp only [PV.isWay,Bool.false_eq_true,if_false]
    intro he;rw [← he] at ha;cases ha
theorem zIP {r:Nat} {pre:zAT} {i:Nat}:∀ (qs:List PV) (c:Nat) {a:PV},(∀ x∈a.ways,zAQ r pre x.1 x.2=false∨x.2.length≤pre.length)→zDz r pre i c qs a=a
 | [],_,_,_=>rfl
 | q :: qs,c,a,h=>by
  have ih:=zIP (r:=r) (pre:=pre) (i:=i) qs (c+1) h
  have hl : lose r (pre++[(i,c)]) a=a:=by
   have key:∀ r' p,(zAQ r pre r' p=false∨p.length≤pre.length)→(Nat.beq r' r&&(pre++[(i,c)]).isPrefixOf p)=false:=by
    intro r' p hp
    cases hb:(Nat.beq r' r&&(pre++[(i,c)]).isPrefixOf p) with
    | false=>rfl
    | true =>
     simp only [Bool.and_eq_true,List.isPrefixOf_iff_prefix] at hb
     obtain ⟨h1,rest,h2⟩:=hb
     rcases hp with hp | hp
     ·have:zAQ r pre r' p=true:=zD1.2 ⟨Nat.eq_of_beq_eq_true h1,(i,c)::rest,by rw [← h2];simp⟩
      rw [this] at hp;cases hp
     ·rw [← h2] at hp;simp at hp;omega
   cases a<;>first | rfl | skip
   all_goals
    simp only [lose]
    rw [key _ _ (h (_,_) (List.mem_singleton.2 rfl))];rfl
  simp only [zDz]
  cases hq:q.heavy with
  | false=>exact ih
  | true=>simp only [cond_true,hl];split<;>first | exact ih | rfl
theorem zLu {f:PV→Option PV}:∀ {pre:zAT} {p p':PV},zAr f p pre=some p'→∃ q q',zAz p pre=some q∧f q=some q'∧zAr (fun _=>some q') p pre=some p'
 | [],p,p',h=>⟨p,p',rfl,h,rfl⟩
 | (i, c)::rest,p,p',h=>by
  rw [zBq] at h
  cases hc:Eng.child p i c with
  | none=>rw [hc] at h;cases h
  | some q =>
   rw [hc] at h;simp only [Option.bind_some] at h
   cases hm:zAr f q rest with
   | none=>rw [hm] at h;cases h
   | some q1 =>
    rw [hm] at h;simp only [Option.bind_some] at h
    obtain ⟨x,x',h1,h2,h3⟩:=zLu hm
    exact ⟨x,x',by rw [zB5,hc];exact h1,h2,by rw [zBq,hc];simp only [Option.bind_some];rw [h3];exact h⟩
theorem zJz:∀ {pre:zAT} {p q:PV},zAz p pre=some q→q.unlock=q→p.unlock=p
 | [],p,q,h,hq=>by simp only [zAz,Option.some.injEq] at h;subst h;exact hq
 | (i,c)::rest,p,q,h,_=>by
  rw [zB5] at h
  cases p<;>first | rfl | (simp [Eng.child,zA0] at h;done)
theorem zIF {r:Nat} {pre:zAT} {i:Nat} {p:PV} (hh:p.heavy=false→∀ q∈p.cells,q.heavy=false) (h:p.heavy=false) {c:Nat} (a:PV):zDz r pre i c p.cells a=a:=by
 have key:∀ (qs:List PV) (c:Nat),(∀ q∈qs,q.heavy=false)→zDz r pre i c qs a=a:=by
  intro qs
  induction qs with
  | nil=>intro c _;rfl
  | cons q qs ih=>intro c h;simp only [zDz,h q (by simp),cond_false];exact ih (c+1) fun x hx=>h x (by simp [hx])
 exact key _ _ (hh h)
theorem zOR {p:PV} {x:Nat×zAT} (h:x∈zBB p.cells):x∈p.ways:=by
 cases p<;>simp only [PV.cells,zBB,List.append_nil] at h<;>exact h
theorem zKQ (p:PV) (i c:Nat) (rest:zAT):zDr p ((i,c)::rest)=match p with
  | .own .. => true
  | p=>match Eng.child p i c with | some q=>zDr q rest | none=>false:=by
 cases p<;>simp only [zDr,Eng.child,zA0,Option.bind_none,Option.bind_some]
 ·cases i with
  | zero=>simp only [List.getElem?_cons_zero,Option.bind_some];split<;>simp_all
  | succ i=>simp
 ·cases i with
  | zero=>simp only [List.getElem?_cons_zero,Option.bind_some];split<;>simp_all
  | succ i=>simp
theorem zLd:∀ {pre:zAT} {p q:PV} {A:Al},zDr p pre=false→zAz p pre=some q→∀ a v,A a v→zGp (zH9 A p pre) q a v
 | [],p,q,A,hc,hq,a,v,h=>by
  simp only [zAz,Option.some.injEq] at hq;subst hq
  simp only [zH9]
  cases p<;>first | exact h | (simp [zDr] at hc;done)
 | (i,c)::rest,p,q,A,hc,hq,a,v,h=>by
  rw [zB5] at hq
  rw [zKQ] at hc
  cases ya:Eng.child p i c with
  | none=>rw [ya] at hq;cases hq
  | some q1 =>
   rw [ya] at hq;simp only [Option.bind_some] at hq
   simp only [zH9,ya]
   cases p<;>simp only [ya] at hc<;>first | (cases hc;done) | exact zLd hc hq a v h
section
variable {P:Program} {w0 w:World} {U Φ0 Φ:Nat→Prop} {nt:Nat} {hv:Hid} {a:Act} {e e':Env} {rv:Nat→Value} {E:Nat→PV} {L:Nat→List Nat} {o:zAL}
theorem zKi {p:PV} (h:p.heavy=false):∀ q∈p.cells,q.heavy=false:=by
 intro q hq
 cases p<;>simp only [PV.cells,List.mem_singleton] at hq<;>try (subst hq;exact h)
 obtain ⟨i,hi⟩:=List.getElem?_of_mem hq
 exact zEe h hi
theorem zGf {x:PV} {c:Nat} {qs:List PV} (hq:∀ q∈qs,q.oneCell=true) (hI:qs.length≠0) (yI:c+qs.length≤x.cells.length):(zAK x c qs).cells=x.cells.take c++qs++x.cells.drop (c+qs.length):=by
 cases hx:x.isAgg with
 | true=>cases x<;>simp [PV.isAgg] at hx;rfl
 | false =>
  have jU:x.cells=[x]:=by cases x<;>first | rfl | simp [PV.isAgg] at hx
  rw [jU] at yI ⊢
  match qs,hq,hI with
  | [],_,hI=>exact absurd rfl hI
  | [q],hq,_ =>
   have v0:c=0:=by simp at yI;exact yI
   subst v0
   have he:zAK x 0 [q]=q:=by cases x<;>first | rfl | simp [PV.isAgg] at hx
   rw [he,(zBl (hq q (by simp))).1];simp
  | _::_::_,_,_=>simp only [List.length_cons,List.length_nil] at yI;omega
theorem zJh {b o k:Nat} {row:Array Value} {vs:List Value} (yA:zEQ w b row) (hZ:o+vs.length≤row.size) (hk:k<o∨o+vs.length≤k):(w.setRow b (zBf row o vs)).cell? ⟨b,k,none⟩=w.cell? ⟨b,k,none⟩:=by
 obtain ⟨el,yc⟩:=yA
 have jZ:zIL (w.setRow b (zBf row o vs)) b (zBf row o vs):=⟨el,_,setRow_heap w _ _ _ el _ yc⟩
 rw [zC6 jZ,zC6 ⟨el,_,yc⟩]
 have:(zBf row o vs)[k]? = (row.toList.take o++vs++row.toList.drop (o+vs.length))[k]?:=by simp [zBf]
 rw [this,zCS (by simpa using hZ)]
 rcases hk with hk | hk
 ·rw [if_pos hk];simp
 ·rw [if_neg (by omega),if_neg (by omega)];simp
theorem zLM {A:Al} {np q':PV} {nv:Value} {Li:List Nat} (h:Rep w Φ A np nv Li) (yQ:Li.Nodup) {xs:List PV} (hx:zBa np=some xs) {i c:Nat} {x:PV} (hi:xs[i]? = some x) {qs:List PV} {vs:List Value}
  (hq:∀ q∈qs,q.oneCell=true) (hO:vs.length=qs.length) (hI:qs.length≠0) (hc:c+qs.length≤x.cells.length) (hw:zAJ np (xs.set i (zAK x c qs))=some q') {ad:Addr} {row:Array Value}
  (yz:zA7 nv np i c=some ad) (yA:zEQ w ad.block row) (hZ:ad.off+vs.length≤row.size) :
  ∀ (rest:zAT) (nv2:Value) (np2:PV),zAR (w.setRow ad.block (zBf row ad.off vs)) nv q' rest=some (nv2,np2)→np2.heavy0=true →
   (∃ j q rest',qs[j]? = some q∧q.heavy=true∧rest=(i,c+j)::rest')∨∃ np0,zAR w nv np rest=some (nv2,np0)∧zCd np0 np2:=by
 intro rest nv2 np2 hf hh
 have kq:zCd np q'∧zA0 q'=some (xs.set i (zAK x c qs)):=by
  cases np<;>simp only [zBa] at hx<;>try cases hx
  ·simp only [zAJ,Option.some.injEq] at hw;subst hw;exact ⟨rfl,rfl⟩
  ·have jl:i=0:=by have:=(List.getElem?_eq_some_iff.1 hi).1;simpa using this
   subst jl
   simp only [List.set_cons_zero,zAJ,Option.some.injEq] at hw ⊢;subst hw;exact ⟨trivial,rfl⟩
 cases rest with
 | nil =>
  simp only [zAR,Option.some.injEq,Prod.mk.injEq] at hf
  obtain ⟨rfl,rfl⟩:=hf
  exact .inr ⟨np,rfl,kq.1⟩
 | cons y rest =>
  obtain ⟨i2,c2⟩:=y
  rw [zA4] at hf
  cases ya:Eng.child q' i2 c2 with
  | none=>rw [ya] at hf;cases hf
  | some q2 =>
   rw [ya] at hf;simp only [Option.bind_some] at hf
   cases hk:kid (w.setRow ad.block (zBf row ad.off vs)) nv q' i2 c2 with
   | none=>rw [hk] at hf;cases hf
   | some u2 =>
    rw [hk] at hf;simp only [Option.bind_some] at hf
    have jP:i<xs.length:=(List.getElem?_eq_some_iff.1 hi).1
    simp only [Eng.child,kq.2,Option.bind_some] at ya
    by_cases hin:i2=i∧c≤c2∧c2<c+qs.length
    ·obtain ⟨rfl,h1,h2⟩:=hin
     rw [List.getElem?_set_self jP] at ya
     simp only [Option.bind_some] at ya
     rw [zGf hq hI hc,zCS hc,if_neg (by omega),if_pos h2] at ya
     cases qA:q2.heavy with
     | true=>exact .inl ⟨c2-c,q2,rest,ya,qA,by rw [show c+(c2-c)=c2 by omega]⟩
     | false =>
      have:=zEc qA hf
      rw [zFC hh] at this;cases this
    ·
     have hold:∃ x2,xs[i2]? = some x2∧x2.cells[c2]? = some q2:=by
      by_cases kJ:i2=i
      ·subst kJ
       rw [List.getElem?_set_self jP] at ya
       simp only [Option.bind_some] at ya
       rw [zGf hq hI hc,zCS hc] at ya
       refine ⟨x,hi,?_⟩
       by_cases h1:c2<c
       ·rw [if_pos h1] at ya;exact ya
       ·rw [if_neg h1,if_neg (fun h2=>hin ⟨rfl,by omega,h2⟩)] at ya;exact ya
      ·rw [List.getElem?_set_ne (Ne.symm kJ)] at ya
       cases jG:xs[i2]? with
       | none=>rw [jG] at ya;cases ya
       | some x2=>rw [jG] at ya;exact ⟨x2,rfl,ya⟩
     obtain ⟨x2,jG,kL⟩:=hold
     obtain ⟨M,ux,Lx,ad2,g1,g2,g3,g4,g5,g6⟩:=zQT h hx jG
     obtain ⟨u,La,Lu,Lb,hu,hLx,kU,_,_⟩:=g3.cell kL g5
     have jk:=g6 c2 u hu
     have hblk:ad2.block=ad.block:=by
      have:=g2
      cases np<;>simp only [zBa] at hx<;>try cases hx
      ·cases nv<;>try (simp [zA7] at yz;done)
       rename_i sa _ _
       cases sa with
       | none=>cases yz
       | some sa =>
        simp only [zA7,Option.some.injEq] at yz
        have:=this 0
        simp only [zA7,Option.some.injEq] at this
        rw [← yz]
        exact (congrArg Addr.block this).symm
      ·cases nv<;>try (cases i<;>simp [zA7] at yz;done)
       rename_i sa
       cases sa with
       | none=>cases i<;>cases yz
       | some sa =>
        have jl:i=0:=by have:=(List.getElem?_eq_some_iff.1 hi).1;simpa using this
        have qg:i2=0:=by have:=(List.getElem?_eq_some_iff.1 jG).1;simpa using this
        subst jl;subst qg
        simp only [zA7,Option.some.injEq] at yz
        have:=this 0
        simp only [zA7,Option.some.injEq] at this
        rw [← yz]
        exact (congrArg Addr.block this).symm
     have yr:kid (w.setRow ad.block (zBf row ad.off vs)) nv q' i2 c2=kid w nv np i2 c2:=by
      have hc2l:c2<x2.cells.length:=(List.getElem?_eq_some_iff.1 kL).1
      cases np<;>simp only [zBa] at hx<;>try cases hx
      case own sz =>
       simp only [zAJ,Option.some.injEq] at hw;subst hw
       cases nv<;>try (simp [zA7] at yz;done)
       rename_i sa _ _
       cases sa with
       | none=>cases yz
       | some sa =>
        simp only [zA7,Option.some.injEq] at yz;subst yz
        simp only [kid]
        refine zJh yA hZ ?_
        obtain ⟨hh1,_⟩ | ⟨_,_,_,_,_,_,_,_,_,_,_,yC,_⟩:=h
        ·subst hh1;simp at hi
        ·have e1:=yC x (List.mem_of_getElem? hi)
         have e2:=yC x2 (List.mem_of_getElem? jG)
         simp only [zAy]
         rw [hO]
         by_cases kJ:i2=i
         ·subst kJ
          have:¬ (c≤c2∧c2<c+qs.length):=fun h=>hin ⟨rfl,h⟩
          omega
         ·rcases Nat.lt_or_gt_of_ne kJ with yK | hgt
          ·have:=Nat.mul_le_mul_right x.cells.length (Nat.succ_le_of_lt yK)
           rw [Nat.succ_mul,e1] at this;left;omega
          ·have:=Nat.mul_le_mul_right x.cells.length (Nat.succ_le_of_lt hgt)
           rw [Nat.succ_mul,e1] at this;right;omega
      case box q0 =>
       have jl:i=0:=by have:=(List.getElem?_eq_some_iff.1 hi).1;simpa using this
       have qg:i2=0:=by have:=(List.getElem?_eq_some_iff.1 jG).1;simpa using this
       subst jl;subst qg
       simp only [List.set_cons_zero,zAJ,Option.some.injEq] at hw;subst hw
       cases nv<;>try (simp [zA7] at yz;done)
       rename_i sa
       cases sa with
       | none=>cases yz
       | some sa =>
        simp only [zA7,Option.some.injEq] at yz;subst yz
        simp only [kid]
        refine zJh yA hZ ?_
        simp only [zAy]
        rw [hO]
        have:¬ (c≤c2∧c2<c+qs.length):=fun h=>hin ⟨rfl,h⟩
        omega
     rw [yr,jk] at hk;cases hk
     have wQ:=zEM (w':=w.setRow ad.block (zBf row ad.off vs)) (pre:=rest) kU fun t ht=>setRow_other w _ t _ fun hc=>by
      rw [g1,hblk] at yQ
      exact (List.nodup_cons.1 yQ).1 (g4 _ (by rw [hLx,← hc];simp [ht]))
     rw [wQ] at hf
     refine .inr ⟨np2,?_,zCd.refl hh⟩
     rw [zA4]
     have:Eng.child np i2 c2=some q2:=by simp only [Eng.child,zGY hx,Option.bind_some,jG,kL]
     rw [this];simp only [Option.bind_some];rw [jk];exact hf
theorem St.write (S:St w0 U Φ0 nt hv a w e Φ rv E L) {g r:Nat} {pre:zAT} {i c:Nat} {sh:Option Nat} (hg:zAd≤g) {va:Value} (ha:Rep w Φ (zA6 w rv E) (.addr r pre i c sh) va [])
  (jR:(E g).heavy=false∨∀ x∈(E g).ways,zAQ r pre x.1 x.2=false∨x.2.length≤pre.length) (yJ:∀ q∈(E g).cells,q.oneCell=true) (hI:(E g).cells.length≠0)
  (hva:zCh (rv g)=(E g).isAgg) {k:PM} (h:(zDE r pre i c (E g).cells (.wcells r pre i c (E g).cells k)).run o e=some e') :
  ∃ b row e1 E1 L1,va = .pointer (some b)∧b.spot=none∧zEQ w b.block row∧b.off+(rv g).cells.size≤row.size∧(∀ v∈(rv g).cells.toList,v.oneCell'=true)∧k.run o e1=some e' ∧
   St w0 U Φ0 nt hv a (w.setRow b.block (zBf row b.off (rv g).cells.toList)) e1 Φ rv E1 L1∧E1 g = .bad∧(∀ s,zAd≤s→s≠g→E s = .bad→E1 s = .bad)∧(∀ s,zAd≤s→s≠g→E1 s=(E s).mapW (zDz r pre i c (E g).cells))∧b.block∈L r:=by
 obtain ⟨e1,h1,yS⟩:=zGl _ _ h
 have hf:=zKP r pre i (E g).cells c
 have j0:=ha.2
 obtain ⟨hr,b,rfl,yY,hn⟩:=ha.2
 simp only [PM.run] at h1
 cases wV:zA5 (e1.get r) pre i c (E g).cells with
 | none=>rw [wV] at h1;cases h1
 | some root =>
  rw [wV] at h1;simp only at h1
  have v1:e1.get r=(E r).mapW (zDz r pre i c (E g).cells):=by rw [yS r,S.env r hr]
  rw [v1] at wV
  simp only [zA5] at wV
  cases yL:(zDr ((E r).mapW (zDz r pre i c (E g).cells)) pre && !(zBB (E g).cells).isEmpty) with
  | true=>rw [yL] at wV;cases wV
  | false =>
   rw [yL] at wV;simp only [cond_false] at wV
   obtain ⟨np,q',gU,ju,j4⟩:=zLu wV
   cases hx:zBa np with
   | none=>rw [hx] at ju;cases ju
   | some xs =>
    rw [hx] at ju;simp only at ju
    cases hi:xs[i]? with
    | none=>rw [hi] at ju;cases ju
    | some x =>
     rw [hi] at ju;simp only at ju
     cases yI:Nat.ble (c+(E g).cells.length) x.cells.length with
     | false=>rw [yI] at ju;cases ju
     | true =>
      rw [yI] at ju;simp only [cond_true] at ju
      have yI:=Nat.le_of_ble_eq_true yI
      have jH:((E r).mapW (zDz r pre i c (E g).cells)).unlock=(E r).mapW (zDz r pre i c (E g).cells):=zJz gU (by cases np<;>first | rfl | cases hx)
      obtain ⟨nv,Li,uV,hH,qh,u9,v3⟩:=S.conf.mod hr hf jH gU
      have jn:=(S.conf.rep g).cellsAll hva
      have uw:(rv g).cells.toList.length=(E g).cells.length:=jn.length
      have qB:∀ v∈(rv g).cells.toList,v.oneCell'=true:=by
       intro v hv
       obtain ⟨j,hj⟩:=List.getElem?_of_mem hv
       have kO:j<(E g).cells.length:=by rw [← uw];exact (List.getElem?_eq_some_iff.1 hj).1
       obtain ⟨v',La,Li',Lb,yB,_,yq,_⟩:=jn.split (i:=j) (List.getElem?_eq_getElem kO)
       rw [hj] at yB;cases yB
       exact zB7 (fun a v hw h=>zCW hw h) yq (yJ _ (List.getElem_mem kO))
      have qi:=zKi (p:=E g)
      have wW:q'.isAgg=false∧q'.unlock=q'∧q'.isTup=false∧np.isAgg=false∧zCd np q':=by
       cases np<;>simp only [zBa] at hx<;>try cases hx
       ·simp only [zAJ,Option.some.injEq] at ju;subst ju;exact ⟨rfl,rfl,rfl,rfl,rfl⟩
       ·simp only [zAJ] at ju
        split at ju<;>first | (cases ju;done) | skip
        ·simp_all
        ·cases ju;exact ⟨rfl,rfl,rfl,rfl,trivial⟩
        ·simp_all
      obtain ⟨ad,row,La,Lm,Lb,k1,k2,k3,k4,uA,jp⟩:=zRt hH hx hi yJ qB uw hI yI ju
      have hfo':∃ np0,zAR w (rv r) (E r).unlock pre=some (nv,np0)∧zCd np0 np:=by
       rw [← jH,zDn (zDj hf)] at uV
       exact zCN (zDj hf) uV (by cases np<;>first | rfl | cases hx)
      obtain ⟨np0,hfo0,kq⟩:=hfo'
      have uy:=hn nv np0 hfo0 ad (by rw [zEj kq];exact k1)
      subst uy
      have jC:b.block∈L r:=u9 _ (by rw [uA];simp)
      have qj:r≠g:=by omega
      have yd:∀ t,t≠b.block→(w.setRow b.block (zBf row b.off (rv g).cells.toList)).heap[t]? = w.heap[t]?:=fun t ht=>setRow_other w _ t _ ht
      have jZ:zEQ (w.setRow b.block (zBf row b.off (rv g).cells.toList)) b.block (zBf row b.off (rv g).cells.toList):=by
       obtain ⟨el,yc⟩:=k3;exact ⟨el,setRow_heap w _ _ _ el _ yc⟩
      have LF:∀ t,t≠r→b.block∉L t:=fun t ht hm=>S.conf.disj t r ht _ hm jC
      have hΦ:zDf w (w.setRow b.block (zBf row b.off (rv g).cells.toList)) Φ Φ:=fun t ht=>⟨ht,yd t fun hc=>(S.conf.own r _ jC).2.1 (hc▸ht)⟩
      have v4:=qh
      rw [uA] at v4
      have qk:∀ t∈La++Lb,t≠b.block:=by
       intro t ht hc
       subst hc
       refine (List.nodup_cons.1 v4).1 ?_
       simp at ht ⊢;rcases ht with h | h<;>simp [h]
      have LG:∀ a v,a.isWay=true→(∀ x∈a.ways,x∈(E g).ways)→zA6 w rv E a v→Eng.stays (zDz r pre i c (E g).cells) (zA6 w rv E) a v:=by
       intro a v hw hx ha
       refine ⟨ha,?_⟩
       rcases jR with jR | jR
       ·exact zIF qi jR a
       ·exact zIP _ _ fun x jS=>jR x (hx x jS)
      have hcont:∀ A:Al,(∀ a u,a.isWay=true→Eng.stays (zDz r pre i c (E g).cells) (zA6 w rv E) a u→A a u) →
        zA1 (w.setRow b.block (zBf row b.off (rv g).cells.toList)) Φ (zGp (zH9 A ((E r).mapW (zDz r pre i c (E g).cells)) pre) np) (E g).cells (rv g).cells.toList (L g):=by
       intro A hA
       have h1:zA1 (w.setRow b.block (zBf row b.off (rv g).cells.toList)) Φ (zA6 w rv E) (E g).cells (rv g).cells.toList (L g) :=
        jn.mono hΦ (fun _ _ _ h=>h) fun t ht=>yd t fun hc=>LF g (Ne.symm qj) (hc▸ht)
       refine h1.ways _ _ _ fun a v hw hx ha=>?_
       simp only [Bool.and_eq_false_iff] at yL
       rcases yL with yL | yL
       ·exact zLd yL gU a v (hA a v hw (LG a v hw (fun y hy=>zOR (hx y hy)) ha))
       ·have h0:zBB (E g).cells=[]:=by simpa using yL
        rw [h0] at hx
        have h1:=zIs hw ha
        cases u6:a.ways with
        | nil=>exact absurd u6 h1
        | cons z zs=>have:=hx z (by rw [u6];simp);cases this
      obtain ⟨kk1,kk2⟩:=zBL wW.2.1 wW.2.2.1 j4
      obtain ⟨L1,hL1,hconf⟩:=v3 (fun s=>s==g) (w.setRow b.block (zBf row b.off (rv g).cells.toList)) q' root (b.block::(La++L g++Lb)) (fun s hs=>by have:=eq_of_beq hs;omega)
       (fun _=>by rw [wW.1,wW.2.2.2.1]) j4 kk1
       (fun A hA=>jp (zL9 hA) hΦ (fun t ht=>yd t (qk t ht)) jZ (hcont A hA))
       (by
        have uU:∀ t∈L g,t∉L r:=fun t ht=>S.conf.disj g r (Ne.symm qj) t ht
        have hin:∀ t,t=b.block∨t∈La++Lb→t∈L r:=by
         intro t ht
         rcases ht with rfl | ht
         ·exact jC
         ·exact u9 t (by rw [uA];simp at ht ⊢;rcases ht with h | h<;>simp [h])
        have vM:=(List.nodup_cons.1 v4).2
        simp only [List.nodup_append] at vM
        refine List.nodup_cons.2 ⟨fun hm=>?_,?_⟩
        ·simp only [List.mem_append] at hm
         rcases hm with (hm | hm) | hm
         ·exact qk _ (by simp [hm]) rfl
         ·exact uU _ hm jC
         ·exact qk _ (by simp [hm]) rfl
        ·simp only [List.nodup_append]
         refine ⟨⟨vM.1.1,S.conf.nodup g,fun x hx y hy e=>uU y hy (e▸hin x (.inr (by simp [hx])))⟩,vM.2.1,fun x hx y hy e=>?_⟩
         simp only [List.mem_append] at hx
         rcases hx with hx | hx
         ·exact vM.2.2 x (by simp [hx]) y hy e
         ·exact uU x hx (e▸hin y (.inr (by simp [hy]))))
       (fun t ht=>by
        simp only [List.mem_cons,List.mem_append] at ht
        rcases ht with rfl | (ht | ht) | ht
        ·exact .inl (by rw [uA];simp)
        ·exact .inl (by rw [uA];simp [ht])
        ·exact .inr (.inl ⟨g,ht,by simp⟩)
        ·exact .inl (by rw [uA];simp [ht]))
       (by rw [setRow_size];exact Nat.le_refl _)
       (fun t _ ht _=>yd t fun hc=>ht (by rw [uA,hc];simp))
       (fun rest nv2 np2 jf qA=>by
        rcases zLM hH qh hx hi yJ uw hI yI ju k1 k3 k4 rest nv2 np2 jf qA with ⟨j,q,rest',h1,h2,h3⟩ | h3
        ·refine .inl fun a ha ua=>?_
         subst h3
         refine zIM _ _ _ h1 h2 a ha rest' ua (fun y hy=>?_) (fun ys k hy=>?_)
         ·subst hy;simp only [zA8,Prod.mk.injEq] at ua;have:=ua.2;simp at this
         ·subst hy;simp only [zA8,Prod.mk.injEq] at ua;have:=ua.2;simp at this
        ·exact .inr h3)
       ⟨rfl,rfl,rfl⟩
      refine ⟨b,row,e1.set r root,_,L1,rfl,yY,k3,by rw [show (rv g).cells.size=(rv g).cells.toList.length by simp];exact k4,qB,h1,S.turn hconf (fun s hs=>?_) (fun _ _=>rfl) (fun d ps hd hp=>?_),?_,?_⟩
      ·rw [Env.get_set]
       by_cases yW:s=r
       ·subst yW;simp
       ·have:(s==g)=false:=by simp;omega
        simp only [yW,if_false,this,Bool.false_eq_true]
        rw [yS s,S.env s hs]
      ·by_cases jt:d=r
       ·simp only [jt,if_true] at hp;rw [hp] at kk2;cases kk2
       ·have:(d==g)=false:=by simp only [zAd] at hg;simp;omega
        simp only [jt,if_false,this,Bool.false_eq_true] at hp
        refine zDJ (fun p hp=>?_) hp
        rcases hf p with h | ⟨_,h⟩
        ·rw [h];cases p<;>first | rfl | cases hp
        ·rw [h];rfl
      ·simp [Ne.symm qj]
      ·refine ⟨fun s hs y5 hb=>?_,fun s hs y5=>?_,jC⟩
       ·have:s≠r:=by omega
        simp [this,y5,hb,PV.mapW]
       ·have:s≠r:=by omega
        simp [this,y5]
end
end Go.Eng
namespace Go.Eng
open Go
section
variable {P:Program} {w0 w:World} {U Φ0 Φ:Nat→Prop} {nt:Nat} {hv:Hid} {a:Act} {e e':Env} {rv:Nat→Value} {E:Nat→PV} {L:Nat→List Nat} {o:zAL}
theorem zCl {r:Nat} {pre:zAT} {q:PV} {k:PM} (h:(PM.wnode r pre q k).run o e=some e'):∃ root,(e.get r).isLock=false∧zAr (fun _=>some q) (e.get r) pre=some root∧k.run o (e.set r root)=some e':=by
 simp only [PM.run] at h
 cases hl:(e.get r).isLock with
 | true=>rw [hl] at h;cases h
 | false =>
  rw [hl] at h;simp only [cond_false] at h
  cases hm:zAr (fun _=>some q) (e.get r) pre with
  | none=>rw [hm] at h;cases h
  | some root=>rw [hm] at h;exact ⟨root,rfl,rfl,h⟩
theorem zNJ (S:St w0 U Φ0 nt hv a w e Φ rv E L) {p:PV} {v:Value} (hp:Rep w Φ (zA6 w rv E) p v []) {k:PV→PM} {k2:PM} (h:(zM5 p k k2).run o e=some e') :
  k2.run o e=some e'∨(k p).run o e=some e'∨∃ r pre q root,r<zAd∧(E r).unlock=E r∧zAz (E r) pre=some q∧q.oneCell=true∧p.oneCell=true∧zAr (fun _=>some .bad) (E r) pre=some root∧root.unlock=root∧root.isTup=false ∧
   (k q).run o (e.set r root)=some e'∧∀ nv,zAR w (rv r) (E r) pre=some (nv,q)→nv=v:=by
 cases p<;>simp only [zM5] at h<;>try (exact .inr (.inl h))
 case bor r pre z lo n =>
  obtain ⟨q,hq,h1⟩:=zBU h
  obtain ⟨_,hr,⟨b,cap,yB,_⟩,hn⟩:=hp
  split at h1
  ·rename_i sz xs
   cases hc:(Nat.beq lo 0&&Nat.beq n xs.length) with
   | false=>rw [hc] at h1;exact .inl h1
   | true =>
    rw [hc] at h1;simp only [cond_true] at h1
    simp only [Bool.and_eq_true] at hc
    have uC:=Nat.eq_of_beq_eq_true hc.1
    have qC:=Nat.eq_of_beq_eq_true hc.2
    subst uC
    obtain ⟨root,hl,hm,h2⟩:=zCl h1
    have yF:=zBE hl
    rw [yF,← S.env r hr] at hq
    rw [← S.env r hr] at yF hm
    obtain ⟨k1,k2'⟩:=zBL (q' := .bad) rfl rfl hm
    refine .inr (.inr ⟨r,pre,_,root,hr,yF,hq,rfl,rfl,hm,k1,k2',h2,fun nv hf=>?_⟩)
    obtain ⟨sz2,xs2,g1,g2,g3⟩:=hn nv _ (by rw [yF];exact hf) rfl
    cases g1;subst g2
    obtain ⟨nv',Li,ye,_,hH⟩:=zBM (S.conf.rep r) hq
    rw [hf] at ye;cases ye
    obtain ⟨q1,q2,q3⟩ | ⟨x,m,c,us,M,q0,q1,q2,_⟩:=hH
    ·subst q3;exact g3.1.symm
    ·subst q1
     simp only [zBW] at g3
     rw [g3.1,qC]
     congr 2
     ·cases x;simp_all [zAy]
  ·exact .inl h1
 case bmap r pre =>
  obtain ⟨q,hq,h1⟩:=zBU h
  obtain ⟨_,hr,⟨b,yB⟩,hn⟩:=hp
  split at h1
  ·rename_i es
   obtain ⟨root,hl,hm,h2⟩:=zCl h1
   have yF:=zBE hl
   rw [yF,← S.env r hr] at hq
   rw [← S.env r hr] at yF hm
   obtain ⟨k1,k2'⟩:=zBL (q' := .bad) rfl rfl hm
   exact .inr (.inr ⟨r,pre,_,root,hr,yF,hq,rfl,rfl,hm,k1,k2',h2,fun nv hf=>(hn nv _ (by rw [yF];exact hf) _ rfl).symm⟩)
  ·exact .inl h1
theorem St.taken (S:St w0 U Φ0 nt hv a w e Φ rv E L) {g r:Nat} (hg:zAd≤g) (hr:r<zAd) {pre:zAT} {q root:PV} (yF:(E r).unlock=E r) (hq:zAz (E r) pre=some q) (h1:q.oneCell=true)
  (hm:zAr (fun _=>some .bad) (E r) pre=some root) (hk:root.unlock=root) (ky:root.isTup=false) :
  ∃ nv Li,zAR w (rv r) (E r) pre=some (nv,q)∧Rep w Φ (zA6 w rv E) q nv Li∧Li.Nodup∧(∀ b∈Li,b∉L g)∧∀ (p':PV) (v':Value) (Lg:List Nat),Rep w Φ (zA6 w rv E) p' v' Lg→Lg.Nodup→(∀ b∈Lg,b∈Li∨b∈L g) →
   ∃ L',St w0 U Φ0 nt hv a w (e.set r root) Φ (upd rv g v') (upd (upd E r root) g p') L'∧∀ s,zAd≤s→s≠g→L' s=L s:=by
 obtain ⟨nv,Li,g1,g2,g3,g4,g5⟩:=S.conf.takeNode hr hg yF hq (zBl h1).2 hm hk
 refine ⟨nv,Li,g1,g2,g3,fun b hb jN=>S.conf.disj r g (by omega) b (g4 b hb) jN,fun p' v' Lg q1 q2 q3=>?_⟩
 obtain ⟨L',hc,hL⟩:=g5 p' v' Lg q1 q2 q3
 refine ⟨L',S.turn hc (fun s hs=>?_) (fun s hs=>zAf (by omega)) (fun d ps hd hp=>?_),fun s hs y5=>hL s (by omega) y5⟩
 ·rw [zAf (by omega),Env.get_set]
  by_cases yW:s=r
  ·subst yW;rw [zAh,if_pos rfl]
  ·rw [zAf yW,if_neg yW];exact S.env s hs
 ·rw [zAf (by simp only [zAd] at hg;omega)] at hp
  by_cases jt:d=r
  ·subst jt;rw [zAh] at hp;rw [hp] at ky;cases ky
  ·rw [zAf jt] at hp;exact ⟨ps,hp,rfl⟩
structure Worked (w0:World) (U Φ0:Nat→Prop) (nt:Nat) (hv:Hid) (a:Act) (w:World) (rv:Nat→Value) (E:Nat→PV) (g:Nat) (e1:Env) (rv1:Nat→Value) (E1:Nat→PV):Prop where
 st:∃ Φ1 L1,St w0 U Φ0 nt hv a w e1 Φ1 rv1 E1 L1
 val:rv1 g=rv g
 low:∀ s,s<zAd→rv1 s=rv s
 rest:∀ s,zAd≤s→s≠g→E1 s=E s∧rv1 s=rv s
 agg:(E1 g).isAgg=(E g).isAgg
 len:(E1 g).cells.length=(E g).cells.length
theorem zMf {p:PV} (h:p.isWay=true):p.heavy=false:=by cases p<;>first | rfl | cases h
theorem zND (S:St w0 U Φ0 nt hv a w e Φ rv E L) {g:Nat} (hg:zAd≤g) {k:PV→PM} (h:(zLn (E g) k).run o e=some e'):∃ e1 rv1 E1,(k (E1 g)).run o e1=some e'∧Worked w0 U Φ0 nt hv a w rv E g e1 rv1 E1:=by
 have qD:Worked w0 U Φ0 nt hv a w rv E g e rv E:=⟨⟨Φ,L,S⟩,rfl,fun _ _=>rfl,fun _ _ _=>⟨rfl,rfl⟩,rfl,rfl⟩
 by_cases uz:(E g).isWay=true
 ·have hH:=S.conf.rep g
  have hL:L g=[]:=zC3 _ _ _ (zMf uz) hH
  rw [hL] at hH
  rcases zNJ S hH h with h1 | h1 | ⟨r,pre,q,root,c1,c2,c3,c4,c5,c6,c7,c8,c9,c10⟩
  ·obtain ⟨e1,Φ1,E1,L1,h2,S1,_,h3,_,_,h4,h5⟩:=zIU hg (Nat.le_refl _) zDG S h1
   exact ⟨e1,rv,E1,h2,⟨Φ1,L1,S1⟩,rfl,fun _ _=>rfl,fun s hs hI=>⟨h3 s hs hI,rfl⟩,h4,h5⟩
  ·exact ⟨e,rv,E,h1,qD⟩
  ·obtain ⟨nv,Li,g1,g2,g3,g4,g5⟩:=S.taken hg c1 c2 c3 c4 c6 c7 c8
   have hnv:=c10 nv g1
   obtain ⟨L',S',vT⟩:=g5 q nv Li g2 g3 (fun b hb => .inl hb)
   have jn:r≠g:=by omega
   refine ⟨_,_,_,by rw [zAh];exact c9,⟨Φ,L',S'⟩,by rw [zAh,hnv],fun s hs=>zAf (by omega),fun s hs hI=>?_,?_,?_⟩
   ·rw [zAf hI,zAf hI,zAf (by omega)];exact ⟨rfl,rfl⟩
   ·rw [zAh,(zBl c4).2,(zBl c5).2]
   ·rw [zAh,(zBl c4).1,(zBl c5).1];rfl
 ·have:(k (E g)).run o e=some e':=by
   revert h
   simp only [zLn,zM5]
   cases hE:E g<;>first | (rw [hE] at uz;exact absurd rfl uz) | exact fun h=>h
  exact ⟨e,rv,E,this,qD⟩
theorem Worked.self (S:St w0 U Φ0 nt hv a w e Φ rv E L) {g:Nat}:Worked w0 U Φ0 nt hv a w rv E g e rv E:=⟨⟨Φ,L,S⟩,rfl,fun _ _=>rfl,fun _ _ _=>⟨rfl,rfl⟩,rfl,rfl⟩
theorem Worked.trans {g:Nat} {e1 e2:Env} {rv1 rv2:Nat→Value} {E1 E2:Nat→PV} (h1:Worked w0 U Φ0 nt hv a w rv E g e1 rv1 E1) (h2:Worked w0 U Φ0 nt hv a w rv1 E1 g e2 rv2 E2):Worked w0 U Φ0 nt hv a w rv E g e2 rv2 E2 :=
 ⟨h2.st,h2.val.trans h1.val,fun s hs=>(h2.low s hs).trans (h1.low s hs),fun s hs hI=>⟨(h2.rest s hs hI).1.trans (h1.rest s hs hI).1,(h2.rest s hs hI).2.trans (h1.rest s hs hI).2⟩,h2.agg.trans h1.agg,h2.len.trans h1.len⟩
theorem zP0 (S:St w0 U Φ0 nt hv a w e Φ rv E L) {g:Nat} (hg:zAd≤g) {k:PV→PM} (h:(zLk zAd zDG (E g) k).run o e=some e'):∃ e1 rv1 E1,(k (E1 g)).run o e1=some e'∧Worked w0 U Φ0 nt hv a w rv E g e1 rv1 E1:=by
 obtain ⟨e1,Φ1,E1,L1,h2,S1,_,h3,_,_,h4,h5⟩:=zIU hg (Nat.le_refl _) zDG S h
 exact ⟨e1,rv,E1,h2,⟨Φ1,L1,S1⟩,rfl,fun _ _=>rfl,fun s hs hI=>⟨h3 s hs hI,rfl⟩,h4,h5⟩
theorem zG8 {g:Nat} (hg:zAd≤g) {k:PV→PM}:∀ (ps done:List PV) {e:Env} {Φ:Nat→Prop} {rv:Nat→Value} {E:Nat→PV} {L:Nat→List Nat},St w0 U Φ0 nt hv a w e Φ rv E L→E g = .agg (done++ps) →
  (zJw ps fun qs=>k (.agg (done++qs))).run o e=some e'→∃ e1 rv1 E1,(k (E1 g)).run o e1=some e'∧Worked w0 U Φ0 nt hv a w rv E g e1 rv1 E1
 | [],done,e,Φ,rv,E,L,S,hE,h=>by
  refine ⟨e,rv,E,?_,.self S⟩
  rw [hE];exact h
 | p :: ps,done,e,Φ,rv,E,L,S,hE,h=>by
  have hH:=S.conf.rep g
  rw [hE] at hH
  obtain ⟨vs,yB,hr⟩:=hH
  have LC:(done++p::ps)[done.length]? = some p:=by simp
  obtain ⟨v,La,Lp,Lb,hvi,hL,uD,yU,_⟩:=hr.split LC
  simp only [zJw] at h
  by_cases uz:p.isWay=true
  ·have hLp:=zC3 _ _ _ (zMf uz) uD
   subst hLp
   rcases zNJ S uD h with h1 | h1 | ⟨r,pre,q,root,c1,c2,c3,c4,c5,c6,c7,c8,c9,c10⟩
   ·cases h1
   ·exact zG8 hg ps (done++[p]) S (by rw [hE];simp) (by simpa using h1)
   ·obtain ⟨nv,Li,g1,g2,g3,g4,g5⟩:=S.taken hg c1 c2 c3 c4 c6 c7 c8
    have hnv:=c10 nv g1
    subst hnv
    have yQ:=S.conf.nodup g
    rw [hL] at yQ
    simp only [List.append_nil,List.nodup_append] at yQ
    have jZ:=yU w Φ (zA6 w rv E) q Li (fun _ _ _ h=>h) zDf.refl (fun _ _=>rfl) g2
    have jJ:∀ b∈La++Lb,b∈L g:=fun b hb=>by rw [hL];simpa using hb
    obtain ⟨L',S',vT⟩:=g5 (.agg ((done++p::ps).set done.length q)) (rv g) (La++Li++Lb) ⟨vs,yB,jZ⟩
     (by
      simp only [List.nodup_append]
      refine ⟨⟨yQ.1,g3,fun x hx y hy e=>g4 y hy (jJ y (by rw [← e];simp [hx]))⟩,yQ.2.1,fun x hx y hy e=>?_⟩
      rcases List.mem_append.1 hx with hx | hx
      ·exact yQ.2.2 x hx y hy e
      ·exact g4 x hx (jJ x (by rw [e];simp [hy])))
     (fun b hb=>by
      simp only [List.mem_append] at hb
      rcases hb with (hb | hb) | hb
      ·exact .inr (jJ b (by simp [hb]))
      ·exact .inl hb
      ·exact .inr (jJ b (by simp [hb])))
    have jn:r≠g:=by omega
    have hEq:(done++p::ps).set done.length q=done++q::ps:=by simp
    obtain ⟨e1,rv1,E1,h2,W⟩:=zG8 hg ps (done++[q]) S' (by rw [zAh,hEq];simp) (by simpa using c9)
    refine ⟨e1,rv1,E1,h2,?_⟩
    have W0:Worked w0 U Φ0 nt hv a w rv E g (e.set r root) (upd rv g (rv g)) (upd (upd E r root) g (.agg ((done++p::ps).set done.length q))):=by
     refine ⟨⟨Φ,L',S'⟩,zAh,fun s hs=>zAf (by omega),fun s hs hI=>?_,?_,?_⟩
     ·rw [zAf hI,zAf hI,zAf (by omega)];exact ⟨rfl,rfl⟩
     ·rw [zAh,hE];rfl
     ·rw [zAh,hE];simp [PV.cells]
    exact W0.trans W
  ·have:(zJw ps fun qs=>k (.agg (done++p::qs))).run o e=some e':=by
    revert h
    cases p<;>first | (exact absurd rfl uz) | exact fun h=>h
   exact zG8 hg ps (done++[p]) S (by rw [hE];simp) (by simpa using this)
theorem zMz (S:St w0 U Φ0 nt hv a w e Φ rv E L) {g:Nat} (hg:zAd≤g) {tk:Bool} {k:PV→PM} (h:(zFd tk (E g) k).run o e=some e'):∃ e1 rv1 E1,(k (E1 g)).run o e1=some e'∧Worked w0 U Φ0 nt hv a w rv E g e1 rv1 E1:=by
 have plain:(k (E g)).run o e=some e'→∃ e1 rv1 E1,(k (E1 g)).run o e1=some e'∧Worked w0 U Φ0 nt hv a w rv E g e1 rv1 E1:=fun h=>⟨e,rv,E,h,.self S⟩
 have ice:(zLk zAd zDG (E g) k).run o e=some e'→∃ e1 rv1 E1,(k (E1 g)).run o e1=some e'∧Worked w0 U Φ0 nt hv a w rv E g e1 rv1 E1:=zP0 S hg
 have take:(zLn (E g) k).run o e=some e'→∃ e1 rv1 E1,(k (E1 g)).run o e1=some e'∧Worked w0 U Φ0 nt hv a w rv E g e1 rv1 E1:=zND S hg
 cases hE:E g<;>rw [hE] at h plain ice take<;>simp only [zFd] at h<;>try (exact plain h)
 case agg cs =>
  cases tk with
  | true=>exact zG8 hg cs [] S (by rw [hE];rfl) (by simpa using h)
  | false =>
   simp only [cond_false] at h
   revert h
   cases cs.any _ with
   | true=>exact ice
   | false=>exact plain
 case bor=>cases tk<;>first | exact take h | exact ice h
 case bmap=>cases tk<;>first | exact take h | exact ice h
 case bsl=>exact ice h
theorem St.iced (S:St w0 U Φ0 nt hv a w e Φ rv E L) {g:Nat} (hg:zAd≤g):∃ Φ1 L1,St w0 U Φ0 nt hv a w e Φ1 rv (upd E g (zAZ (E g))) L1:=by
 have hA:∀ a u,a.isWay=true→zA6 w rv E a u→zA6 w rv (upd E g (zAZ (E g))) a u:=by
  intro a u _ ha
  have:=zCP ha
  exact zCD S.conf zCc ha (by rw [zAf (by omega),zBg]) rfl (fun _ _=>rfl)
 have hΦ:zDf w w Φ (fun b=>Φ b∨b∈L g):=fun b hb=>⟨.inl hb,rfl⟩
 have hc:Conf w0 U Φ0 w (fun b=>Φ b∨b∈L g) rv (upd E g (zAZ (E g))) (upd L g []):=by
  refine ⟨fun s=>?_,fun s=>?_,fun s s' hI b hb yE=>?_,fun s b hb=>?_,fun b hb=>?_,fun b hb => .inl (S.conf.frz0 b hb),S.conf.size,S.conf.kept,S.conf.os,S.conf.tape,S.conf.output⟩
  ·by_cases hs:s=g
   ·subst hs;rw [zAh,zAh]
    exact (zDU (fun b hb => .inl hb) _ _ _ (fun b hb => .inr hb) (S.conf.rep s)).mono zDf.refl hA (by simp)
   ·rw [zAf hs,zAf hs];exact (S.conf.rep s).mono hΦ hA (fun _ _=>rfl)
  ·by_cases hs:s=g
   ·subst hs;rw [zAh];exact List.nodup_nil
   ·rw [zAf hs];exact S.conf.nodup s
  ·by_cases hs:s=g
   ·subst hs;rw [zAh] at hb;cases hb
   ·rw [zAf hs] at hb
    by_cases jB:s'=g
    ·subst jB;rw [zAh] at yE;cases yE
    ·rw [zAf jB] at yE;exact S.conf.disj s s' hI b hb yE
  ·by_cases hs:s=g
   ·subst hs;rw [zAh] at hb;cases hb
   ·rw [zAf hs] at hb
    have:=S.conf.own s b hb
    exact ⟨this.1,fun hp=>hp.elim this.2.1 fun hbg=>S.conf.disj s g hs b hb hbg,this.2.2⟩
  ·rcases hb with hb | hb
   ·exact S.conf.frz b hb
   ·have:=S.conf.own g b hb;exact ⟨this.1,.inr this.2.2⟩
 exact ⟨_,_,S.turn hc (fun s hs=>by rw [zAf (by omega)];exact S.env s hs) (fun _ _=>rfl) fun d ps hd hp=>by
  rw [zAf (by simp only [zAd] at hg;omega)] at hp;exact ⟨ps,hp,rfl⟩⟩
theorem St.clear (S:St w0 U Φ0 nt hv a w e Φ rv E L):Fr w0 U Φ0 nt hv a w e:=by
 have hc:=S.conf.drop fun s=>decide (zAd≤s)
 refine ⟨_,_,_,_,S.turn hc (fun s hs=>?_) (fun _ _=>rfl) (fun d ps hd hp=>?_),fun s hs=>?_⟩
 ·have:decide (zAd≤s)=false:=by simp;omega
  simp only [this,Bool.false_eq_true,if_false];exact S.env s hs
 ·have:decide (zAd≤d)=false:=decide_eq_false (by simp only [zAd];omega)
  simp only [this,Bool.false_eq_true,if_false] at hp;exact ⟨ps,hp,rfl⟩
 ·simp [hs]
theorem zIn {A:Al} {sz lo n:Nat} {xs:List PV} {nv v:Value} {Li:List Nat} (h:Rep w Φ A (.own sz xs) nv Li) (yI:lo+n≤xs.length) (hs:zBW v nv sz lo n) :
  ∃ Lg,Rep w Φ A (.own sz ((xs.drop lo).take n)) v Lg∧(∀ b∈Lg,b∈Li)∧(Li.Nodup→Lg.Nodup):=by
 obtain ⟨h1,h2,h3⟩ | ⟨x,m,c,us,M,rfl,h1,h2,h3,h4,h5,h6,⟨h7,km⟩,h8,h9⟩:=h
 ·subst h1;subst h3
  exact ⟨[],.inl ⟨by simp,rfl,hs.1⟩,by simp,fun _=>List.nodup_nil⟩
 ·subst h1
  simp only [zBW] at hs
  obtain ⟨rfl,yO⟩:=hs
  have yt:us.length=xs.length:=by have:=congrArg List.length km;simpa using this
  obtain ⟨M1,M23,rfl,_,hB⟩:=h9.cut lo
  obtain ⟨M2,M3,rfl,hC,_⟩:=hB.cut n
  have hO:((xs.drop lo).take n).length=n:=by simp;omega
  refine ⟨x.block::M2,.inr ⟨zAy x (lo*sz),m-lo,c,(us.drop lo).take n,M2,rfl,by rw [hO],rfl,by rw [hO];omega,h4,?_,fun y hy=>h6 y (List.mem_of_mem_drop (List.mem_of_mem_take hy)),⟨fun u hu=>h7 u (List.mem_of_mem_drop (List.mem_of_mem_take hu)),zA1.map_isAgg km lo n⟩,?_,hC⟩,?_,?_⟩
  ·simp only [zAy]
   have:lo*sz+(m-lo)*sz=m*sz:=by rw [← Nat.add_mul];congr 1;omega
   omega
  ·rw [hO];exact zIk h7 yt h8 yI
  ·intro b hb;simp only [List.mem_cons,List.mem_append] at hb ⊢;rcases hb with h | h<;>simp [h]
  ·intro hn
   simp only [List.nodup_cons,List.mem_append,not_or,List.nodup_append] at hn ⊢
   exact ⟨hn.1.2.1,hn.2.2.1.1⟩
theorem zLX {t:TypeId} {n:Nat} (hn:szT P t=some n) {b:Addr} (yY:b.spot=none) {row:Array Value} (yA:zEQ w b.block row) {v:Value} (hv:v.cells.size=n) (hZ:b.off+v.cells.size≤row.size) (yJ:∀ u∈v.cells.toList,u.oneCell'=true) :
  (Instr.storeAt t (.pointer (some b)) v).run P w = .ok () (w.setRow b.block (zBf row b.off v.cells.toList)):=by
 obtain ⟨ti,jD,yC⟩:=zCf hn
 obtain ⟨el,yc⟩:=yA
 have hb:b=⟨b.block,b.off,none⟩:=by cases b;simp_all
 simp only [Instr.storeAt,Instr.sureAddr,Sem.run_bind,Sem.run_pure,Result.andThen_ok,storeVar,zAX jD]
 rw [if_neg (by simp only [ne_eq,Decidable.not_not];omega)]
 have:=run_storeCells_at (P:=P) b.block b.off el v.cells.toList 0 row w yc (by simpa using hZ) yJ
 rw [← hb] at this
 simp only [Nat.add_zero] at this
 exact this
theorem zKY (S:St w0 U Φ0 nt hv a w e Φ rv E L) {g r:Nat} (hg:zAd≤g) {pre:zAT} {i c:Nat} {sh:Option Nat} {t:TypeId} {va:Value} (ha:Rep w Φ (zA6 w rv E) (.addr r pre i c sh) va [])
  (hn:szT P t=some (E g).cells.length) (h:(zHY r pre i c (E g)).run o e=some e') :
  ∃ w',(Instr.storeAt t va (rv g)).run P w = .ok () w'∧Fr w0 U Φ0 nt hv a w' e':=by
 simp only [zHY] at h
 obtain ⟨hc,h1⟩:=zAU h
 simp only [Bool.and_eq_true,Bool.or_eq_true,Bool.not_eq_true'] at hc
 obtain ⟨⟨jR,yy⟩,uE⟩:=hc
 have yJ:∀ q∈(E g).cells,q.oneCell=true:=fun q hq=>List.all_eq_true.1 yy q hq
 have hva:zCh (rv g)=(E g).isAgg:=by
  have hH:=S.conf.rep g
  cases hx:(E g).isAgg with
  | true =>
   cases hE:E g<;>rw [hE] at hx<;>simp [PV.isAgg] at hx
   rw [hE] at hH;obtain ⟨vs,yB,_⟩:=hH;rw [yB];rfl
  | false =>
   have jU:(E g).cells=[E g]:=by cases hE:E g<;>first | rfl | (rw [hE] at hx;simp [PV.isAgg] at hx)
   have:=yJ (E g) (by rw [jU];simp)
   exact (zBH (zB7 (fun a v hw h=>zCW hw h) hH this)).2
 have yk:(E g).heavy=false∨∀ x∈(E g).ways,zAQ r pre x.1 x.2=false∨x.2.length≤pre.length:=by
  rcases jR with h | h
  ·exact .inl h
  ·refine .inr fun x hx=>?_
   have:=List.all_eq_true.1 h x hx
   simp only [Bool.not_eq_true',Bool.and_eq_false_iff] at this
   rcases this with h | h
   ·exact .inl h
   ·refine .inr (Nat.le_of_not_lt fun yK=>?_)
    rw [show Nat.blt pre.length x.2.length=true from Nat.ble_eq_true_of_le yK] at h;cases h
 have hI:(E g).cells.length≠0:=by
  intro h0;rw [List.eq_nil_of_length_eq_zero h0] at uE;cases uE
 obtain ⟨b,row,e1,E1,L1,rfl,k1,k2,k3,k4,k5,k6,_,_⟩:=S.write hg ha yk yJ hI hva h1
 simp only [PM.run,Option.some.injEq] at k5;subst k5
 have yC:(rv g).cells.size=(E g).cells.length:=by
  have:=((S.conf.rep g).cellsAll hva).length
  simpa using this
 exact ⟨_,zLX hn k1 k2 yC k3 k4,k6.clear⟩
theorem zHb (S:St w0 U Φ0 nt hv a w e Φ rv E L) {g:Nat} (hg:zAd≤g) (hE2:E (g+1) = .bad) {r:Nat} {pre:zAT} {i c:Nat} {sh:Option Nat} {t:TypeId} {va:Value} (ha:Rep w Φ (zA6 w rv E) (.addr r pre i c sh) va [])
  (hn:szT P t=some (E g).cells.length) {tk:Bool} (h:(zH0 tk r pre i c (E g)).run o e=some e') :
  ∃ w',(Instr.storeAt t va (rv g)).run P w = .ok () w'∧Fr w0 U Φ0 nt hv a w' e':=by
 have S1:=S.hold (g:=g+1) (by omega) ha
 have kP:g≠g+1:=by omega
 simp only [zH0] at h
 split at h
 ·rename_i m kD
  cases uB:E g<;>rw [uB] at kD<;>simp only [zPz] at kD<;>try (cases kD;done)
  rename_i r' q z lo n
  cases lo with
  | succ lo=>cases kD
  | zero =>
   simp only [zPz] at kD
   split at kD
   ·rename_i hrq
    simp only [Bool.and_eq_true,decide_eq_true_eq] at hrq
    obtain ⟨rfl,rfl⟩:=hrq
    simp only [Option.some.injEq] at kD;subst kD
    obtain ⟨x,hx,h1⟩:=zBU h
    split at h1
    ·rename_i s xs
     obtain ⟨yI,h2⟩:=zAU h1
     have yI:=Nat.le_of_ble_eq_true yI
     obtain ⟨root,hl,hm,h3⟩:=zCl h2
     have hr:r'<zAd:=ha.2.1
     have yF:=zBE hl
     rw [yF,← S.env r' hr] at hx
     rw [← S.env r' hr] at yF hm
     have ql:r'≠g+1:=by omega
     obtain ⟨kk1,kk2⟩:=zBL (q' := .bad) rfl rfl hm
     have v1:upd E (g+1) (.addr r' pre i c sh) r'=E r':=zAf ql
     obtain ⟨nv,Li,g1,g2,g3,g4,g5⟩:=S1.taken (g:=g) hg hr (by rw [v1];exact yF) (by rw [v1];exact hx) rfl (by rw [v1];exact hm) kk1 kk2
     have qE:=S.conf.rep g
     rw [uB] at qE
     obtain ⟨_,_,_,v5⟩:=qE
     have j8:zBW (rv g) nv s 0 n:=by
      obtain ⟨s2,xs2,q1,q2,q3⟩:=v5 nv _ (by rw [yF];rw [v1,zAf ql] at g1;exact g1) rfl
      cases q1;subst q2;exact q3
     obtain ⟨Lg,p1,p2,p3⟩:=zIn g2 (by omega) j8
     obtain ⟨L',S2,_⟩:=g5 _ (rv g) Lg p1 (p3 g3) (fun b hb => .inl (p2 b hb))
     have j5:=S2.conf.rep (g+1)
     rw [zAf (Ne.symm kP),zAf (Ne.symm ql),zAh,zAf (Ne.symm kP),zAh] at j5
     have ub:L' (g+1)=[]:=j5.1
     rw [ub] at j5
     have:=zKY (P:=P) (t:=t) S2 hg j5 (by rw [zAh];rw [uB] at hn;exact hn) (by rw [zAh];exact h3)
     rw [zAh] at this;exact this
    ·cases h1
   ·cases kD
 ·have key:(zFd tk (E g) fun v=>zHY r pre i c v).run o e=some e'∨(zHY r pre i c (E g)).run o e=some e':=by
   simp only [zIl] at h
   cases hb:(pre.isEmpty && !tk) with
   | false=>rw [hb] at h;exact .inl h
   | true =>
    rw [hb] at h;simp only [cond_true,PM.run] at h
    split at h
    ·exact .inr h
    ·exact .inl h
  rcases key with h | h
  ·have hEg1:upd E (g+1) (.addr r pre i c sh) g=E g:=zAf kP
   obtain ⟨e1,rv1,E1,h1,W⟩:=zMz S1 (g:=g) hg (by rw [hEg1];exact h)
   obtain ⟨Φ1,L1,S2⟩:=W.st
   have j5:=S2.conf.rep (g+1)
   obtain ⟨q1,q2⟩:=W.rest (g+1) (by omega) (Ne.symm kP)
   rw [q1,q2,zAh,zAh] at j5
   have ub:L1 (g+1)=[]:=j5.1
   rw [ub] at j5
   have hO:=W.len
   rw [hEg1] at hO
   have:=zKY (P:=P) (t:=t) S2 hg j5 (by rw [hO];exact hn) h1
   rw [W.val,zAf kP] at this;exact this
  ·exact zKY S hg ha hn h
theorem zT2 {t el:TypeId} {s:Nat} (h:(zBX P t).bind (szT P)=some s):∃ el,zBX P t=some el∧szT P el=some s:=by
 cases he:zBX P t with
 | none=>rw [he] at h;cases h
 | some el=>rw [he] at h;exact ⟨el,rfl,h⟩
theorem zCw {t:TypeId} {el:TypeId} (h:zBX P t=some el):P.underlying t=some (.slice el):=by
 simp only [zBX] at h
 split at h
 ·cases h;assumption
 ·cases h
theorem zRy (S:St w0 U Φ0 nt hv a w e Φ rv E L) (hb:zBy E) {fz tk:Bool} {t:TypeId} {x y:Operand} (hx:zAW nt x=true) (hy:zAW nt y=true) (h:(zNy P fz tk t x y).run o e=some e') :
  ∃ w',(Instr.storeAt t (a.eval x) (a.eval y)).run P w = .ok () w'∧Fr w0 U Φ0 nt hv a w' e':=by
 obtain ⟨pa,h1,vY⟩:=zBD S hx h
 have gen:(match pa,shT P t,szT P t with
   | .addr r pre i c _,some sh,some n=>(bif fz&&tk then opd y else zOL y) fun v=>bif Nat.beq v.cells.length n&&v.isAgg==sh.isSome then zH0 (tk && !fz) r pre i c (bif fz && !tk then zAZ v else v) else .fail
   | _,_,_ => .fail).run o e=some e'→∃ w',(Instr.storeAt t (a.eval x) (a.eval y)).run P w = .ok () w'∧Fr w0 U Φ0 nt hv a w' e':=by
  intro h2
  clear h1
  split at h2
  ·rename_i r pre i c s' sh n ja hn
   have S1:=S.hold (g:=zAd+2) (by omega) vY
   cases hfk:(fz&&tk) with
   | true =>
    rw [Bool.and_eq_true] at hfk
    obtain ⟨rfl,rfl⟩:=hfk
    simp only [Bool.and_self,cond_true,Bool.not_true,Bool.and_false,cond_false] at h2
    obtain ⟨v,h2,hv⟩:=zBD S1 hy h2
    obtain ⟨hc,h5⟩:=zAU h2
    simp only [Bool.and_eq_true] at hc
    have hO:=Nat.eq_of_beq_eq_true hc.1
    have S2:=S1.hold (g:=zAd) (Nat.le_refl _) hv
    have j5:=S2.conf.rep (zAd+2)
    rw [zAf (show zAd+2≠zAd by omega),zAf (show zAd+2≠zAd by omega),zAf (show zAd+2≠zAd by omega),zAh,zAh,zAh] at j5
    have:=zHb (P:=P) (t:=t) S2 (Nat.le_refl zAd) (by rw [zAf (show zAd+1≠zAd by omega),zAf (show zAd+1≠zAd+2 by omega)];exact hb _ (by omega)) j5 (by rw [zAh,hO];exact hn) (by rw [zAh];exact h5)
    rwa [zAh] at this
   | false =>
   rw [hfk,cond_false] at h2
   obtain ⟨e1,rv1,E1,L1,h2,S2,h3,h4⟩:=zHB S1 hy (g:=zAd) (Nat.le_refl _) h2
   obtain ⟨hc,h5⟩:=zAU h2
   simp only [Bool.and_eq_true] at hc
   have hO:=Nat.eq_of_beq_eq_true hc.1
   have h6:=h4 (zAd+2) (by omega) (by omega)
   rw [zAh,zAh,zAh] at h6
   have h7:=h4 (zAd+1) (by omega) (by omega)
   rw [zAf (show zAd+1≠zAd+2 by omega)] at h7
   have v1:E1 (zAd+1) = .bad:=by rw [h7.1];exact hb _ (by omega)
   cases fz with
   | false =>
    simp only [Bool.false_and,cond_false] at h5
    have j5:=S2.conf.rep (zAd+2)
    rw [h6.1,h6.2.1,h6.2.2] at j5
    have:=zHb (P:=P) (t:=t) S2 (Nat.le_refl zAd) v1 j5 (by rw [hO];exact hn) h5
    rwa [h3] at this
   | true =>
    simp only [Bool.true_and] at hfk
    subst hfk
    simp only [Bool.not_false,Bool.and_self,cond_true] at h5
    obtain ⟨Φ2,L2,S3⟩:=S2.iced (g:=zAd) (Nat.le_refl _)
    have j5:=S3.conf.rep (zAd+2)
    rw [zAf (show zAd+2≠zAd by omega),h6.1,h6.2.1] at j5
    have ub:L2 (zAd+2)=[]:=j5.1
    rw [ub] at j5
    have:=zHb (P:=P) (t:=t) S3 (Nat.le_refl zAd) (by rw [zAf (show zAd+1≠zAd by omega)];exact v1) j5 (by rw [zAh,zC1,hO];exact hn) (by rw [zAh];exact h5)
    rwa [h3] at this
  ·cases h2
 split at h1
 ·rename_i r pre i c s'
  obtain ⟨s,hs,jQ⟩:=zBI h1
  obtain ⟨j8,h2⟩:=zC5 jQ
  have S1:=S.hold (g:=zAd) (p := .own s []) (v := .slice none 0 0) (Nat.le_refl _) (.inl ⟨rfl,rfl,rfl⟩)
  have hpa':Rep w Φ (zA6 w (upd rv zAd (.slice none 0 0)) (upd E zAd (.own s []))) (.addr r pre i c s') (a.eval x) []:=by
   have hr:=zCP vY.2
   refine ⟨rfl,zCD S.conf zCc vY.2 ?_ ?_ (fun _ _=>rfl)⟩
   ·rw [zAf (Nat.ne_of_lt hr),zBg]
   ·rw [zAf (Nat.ne_of_lt hr)]
  have:=zHb (P:=P) (t:=t) S1 (Nat.le_refl zAd) (by rw [zAf (show zAd+1≠zAd by omega)];exact hb _ (by omega)) hpa' (by rw [zAh];exact j8) (by rw [zAh];exact h2)
  rwa [zAh] at this
 ·exact gen h1
theorem Fr.congr {e1 e2:Env} (h:∀ s,e1.get s=e2.get s) (hf:Fr w0 U Φ0 nt hv a w e1):Fr w0 U Φ0 nt hv a w e2:=by
 obtain ⟨Φ,rv,E,L,S,hb⟩:=hf
 exact ⟨Φ,rv,E,L,{S with env:=fun s hs=>(S.env s hs).trans (h s)},hb⟩
theorem zJO (S:St w0 U Φ0 nt hv a w e Φ rv E L) {g:Nat} (hg:zAd≤g) {d:Option Nat} (hd:∀ x,d=some x→x<nt) (hb:∀ s,zAd≤s→s≠g→E s = .bad) (h:(zFm d (E g)).run o e=some e'):Fr w0 U Φ0 nt hv (a.put d (rv g)) w e':=by
 have plain:(put d (E g)).run o e=some e'→Fr w0 U Φ0 nt hv (a.put d (rv g)) w e':=fun h=>zFJ S hd hg h hb
 have kN:=S.small
 simp only [zFm] at h
 split at h
 ·rename_i d' r z lo n uB
  split at h
  ·rename_i hrd
   subst hrd
   have hr:r<nt:=hd r rfl
   have jn:r<zAd:=by simp only [zAd];omega
   simp only [PM.run] at h
   split at h
   ·cases h
   ·rename_i root qC
    split at h
    ·rename_i sz xs kX
     obtain ⟨yI,h1⟩:=zAU h
     have yI:=Nat.le_of_ble_eq_true yI
     simp only [PM.run,Option.some.injEq] at h1
     have hE:E r = .own sz xs:=by rw [S.env r jn,kX]
     obtain ⟨nv,Li,g1,g2,g3,g4,g5⟩:=S.taken (g:=g) hg jn (pre:=[]) (q := .own sz xs) (root := .bad) (by rw [hE];rfl) (by rw [hE];rfl) rfl rfl rfl rfl
     have hH:=S.conf.rep g
     rw [uB] at hH
     obtain ⟨_,_,_,hn⟩:=hH
     have j8:zBW (rv g) nv sz lo n:=by
      obtain ⟨s2,xs2,q1,q2,q3⟩:=hn nv _ (by rw [hE];rw [hE] at g1;exact g1) rfl
      cases q1;subst q2;exact q3
     obtain ⟨Lg,p1,p2,p3⟩:=zIn g2 yI j8
     obtain ⟨L',S2,_⟩:=g5 _ (rv g) Lg p1 (p3 g3) (fun b hb => .inl (p2 b hb))
     have jp:(put (some r) (upd (upd E r .bad) g (.own sz ((xs.drop lo).take n)) g)).run o (e.set r .bad)=some (((e.set r .bad).kill r []).set r (.own sz ((xs.drop lo).take n))):=by
      rw [zAh];rfl
     have:=zFJ S2 hd hg jp (fun s hs hI=>by rw [zAf hI,zAf (by omega)];exact hb s hs hI)
     rw [zAh] at this
     refine this.congr fun s=>?_
     rw [← h1,Env.get_set,Env.get_set,Env.get_kill,Env.get_kill,Env.get_set]
     by_cases hs:s=r
     ·simp [hs]
     ·simp [hs]
    ·cases h
  ·exact plain h
 ·exact plain h
theorem zQe (S:St w0 U Φ0 nt hv a w e Φ rv E L) (hb:zBy E) {d:Option Nat} (hd:∀ x,d=some x→x<nt) {tk nl:Bool} {t:TypeId} {x:Operand} (hx:zAW nt x=true) (h:(zFW P tk nl d t x).run o e=some e'):Fr w0 U Φ0 nt hv (a.put d (a.eval x)) w e':=by
 have gen:(zOL x fun p=>bif tk then zLn p (zFm d) else zFm d p).run o e=some e'→Fr w0 U Φ0 nt hv (a.put d (a.eval x)) w e':=by
  intro h
  obtain ⟨e1,rv1,E1,L1,h1,S1,h2,h3⟩:=zHB S hx (g:=zAd) (Nat.le_refl _) h
  have yT:∀ s,zAd≤s→s≠zAd→E1 s = .bad:=fun s hs hI=>by rw [(h3 s hs hI).1];exact hb s hs
  cases tk with
  | false =>
   have:=zJO S1 (Nat.le_refl zAd) hd yT h1
   rwa [h2] at this
  | true =>
   obtain ⟨e2,rv2,E2,h4,W⟩:=zND S1 (Nat.le_refl zAd) h1
   obtain ⟨Φ2,L2,S2⟩:=W.st
   have:=zJO S2 (Nat.le_refl zAd) hd (fun s hs hI=>by rw [(W.rest s hs hI).1];exact yT s hs hI) h4
   rw [W.val,h2] at this;exact this
 simp only [zFW] at h
 split at h
 ·have nilR:∀ s,Rep w Φ (zA6 w rv E) (.own s []) (.slice none 0 0) []:=fun s => .inl ⟨rfl,rfl,rfl⟩
  cases nl with
  | true=>obtain ⟨s,_,h1⟩:=zBI h;exact zAG S hb hd h1 ⟨rfl,rfl⟩
  | false =>
   simp only [cond_false,zSm] at h
   split at h
   ·exact zAG S hb hd h (nilR _)
   ·cases h
 ·exact gen h
theorem zGT {d i d' i':Nat} (h:zBr d i=zBr d' i') (hi:i<16) (qm:i'<16):d=d'∧i=i':=by
 simp only [zBr] at h;omega
theorem zOx (S:St w0 U Φ0 nt hv a w e Φ rv E L) (hb:zBy E) {d:Option Nat} (hd:∀ x,d=some x→x<nt) {s i:Nat} (hs:s<nt) (h:(zIW d s i).run o e=some e') :
  ∃ v,(Instr.extract (a.eval (.tmp s)) i).run P w = .ok v w∧Fr w0 U Φ0 nt hv (a.put d v) w e':=by
 have kN:=S.small
 have y5:s<zAd:=by simp only [zAd];omega
 simp only [zIW,PM.run] at h
 split at h
 ·cases h
 ·rename_i m qC
  split at h
  ·rename_i ps y6
   obtain ⟨hi,h1⟩:=zAU h
   have hi:=zB2 hi
   have hE:E s = .tup ps:=by rw [S.env s y5,y6]
   obtain ⟨h16,vs,uc,kS⟩:=S.parts s ps i hs hE hi
   have gV:zBr s i<zAd:=by simp only [zBr,zAd];omega
   have vW:a.eval (.tmp s) = .tuple vs:=by rw [← uc];exact S.tmps s hs
   have hX:(Instr.extract (a.eval (.tmp s)) i).run P w = .ok (rv (zBr s i)) w:=by
    rw [vW];simp only [Instr.extract,kS];rfl
   refine ⟨_,hX,?_⟩
   simp only [PM.run] at h1
   split at h1
   ·cases h1
   ·rename_i p hnl2
    have hH:=S.conf.rep (zBr s i)
    rw [S.env _ gV] at hH
    cases hh:(e.get (zBr s i)).heavy with
    | false =>
     rw [hh] at h1;simp only [cond_false] at h1
     rw [zC3 _ _ _ hh hH] at hH
     exact zAG S hb hd h1 hH
    | true =>
     rw [hh] at h1;simp only [cond_true,PM.run] at h1
     have hc:=S.conf.take (s:=zBr s i) (g:=zAd) gV (Nat.le_refl _)
     have S1:=S.turn (e':=e.set (zBr s i) .bad) hc (fun t ht=>by
      rw [zAf (by omega),Env.get_set]
      by_cases ud:t=zBr s i
      ·subst ud;rw [zAh,if_pos rfl]
      ·rw [zAf ud,if_neg ud];exact S.env t ht) (fun t ht=>zAf (by omega)) (fun d ps hd hp=>by
      rw [zAf (by simp only [zAd];omega),zAf (by simp only [zBr];omega)] at hp;exact ⟨ps,hp,rfl⟩)
     have:=zFJ S1 hd (g:=zAd) (Nat.le_refl _) (by rw [zAh,S.env _ gV];exact h1) (fun t ht hI=>by rw [zAf hI,zAf (by omega)];exact hb t ht)
     rwa [zAh] at this
  ·cases h
end
end Go.Eng
namespace Go.Eng
open Go
mutual
theorem zDw {f:PV→PV}:∀ p:PV,(∀ a,a.isWay=true→(∀ x∈a.ways,x∈p.ways)→(∀ xs k,a ≠ .log xs k)→f a=a)→(∀ xs k,f (.log xs k) = .log xs k)→p.mapW f=p
 | .agg cs,h,hl=>by rw [PV.mapW,zEs cs h hl]
 | .tup cs,h,hl=>by rw [PV.mapW,zEs cs h hl]
 | .func k a b,h,hl=>by rw [PV.mapW,zEs a (fun x hx hw hn=>h x hx (fun y hy=>List.mem_append.2 (.inl (hw y hy))) hn) hl,zEs b (fun x hx hw hn=>h x hx (fun y hy=>List.mem_append.2 (.inr (hw y hy))) hn) hl]
 | .ref q,h,hl=>by rw [PV.mapW,zDw q h hl]
 | .box q,h,hl=>by rw [PV.mapW,zDw q h hl]
 | .lock q,h,hl=>by rw [PV.mapW,zDw q h hl]
 | .addr ..,h,_=>h _ rfl (fun _ h=>h) (fun _ _=>by simp)
 | .bor ..,h,_=>h _ rfl (fun _ h=>h) (fun _ _=>by simp)
 | .bsl ..,h,_=>h _ rfl (fun _ h=>h) (fun _ _=>by simp)
 | .bmap ..,h,_=>h _ rfl (fun _ h=>h) (fun _ _=>by simp)
 | .yld ..,_,_=>rfl
 | .log ..,_,hl=>hl _ _
 | .bad,_,_=>rfl
 | .und,_,_=>rfl
 | .int ..,_,_=>rfl
 | .bool ..,_,_=>rfl
 | .nilp,_,_=>rfl
 | .nilf,_,_=>rfl
 | .nilm,_,_=>rfl
 | .nn,_,_=>rfl
 | .nils _,_,_=>rfl
 | .sl _,_,_=>rfl
 | .own ..,_,_=>rfl
 | .map _,_,_=>rfl
 | .omap _,_,_=>rfl
theorem zEs {f:PV→PV}:∀ ps:List PV,(∀ a,a.isWay=true→(∀ x∈a.ways,x∈zBB ps)→(∀ xs k,a ≠ .log xs k)→f a=a)→(∀ xs k,f (.log xs k) = .log xs k)→zCF f ps=ps
 | [],_,_=>rfl
 | p::ps,h,hl=>by
  rw [zCF,zDw p (fun x hx hw hn=>h x hx (fun y hy=>List.mem_append.2 (.inl (hw y hy))) hn) hl,zEs ps (fun x hx hw hn=>h x hx (fun y hy=>List.mem_append.2 (.inr (hw y hy))) hn) hl]
end
theorem zLP {p:PV} {x:Nat×zAT}:∀ {ps:List PV},p∈ps→x∈p.ways→x∈zBB ps
 | y::ys,h,hx=>by
  simp only [zBB,List.mem_append]
  rcases List.mem_cons.1 h with rfl | hm
  ·exact .inl hx
  ·exact .inr (zLP hm hx)
theorem zPP {r:Nat} {p:PV} (h:∀ x∈p.ways,x.1≠r):p.mapW (lose r [])=p:=by
 refine zDw p (fun a ha hw hn=>?_) (fun _ _=>rfl)
 have key:∀ r',(∀ x∈a.ways,x.1=r')→a.ways≠[]→Nat.beq r' r=false:=by
  intro r' h1 h2
  cases hb:Nat.beq r' r with
  | false=>rfl
  | true =>
   have hr:=Nat.eq_of_beq_eq_true hb
   cases hy:a.ways with
   | nil=>exact absurd hy h2
   | cons z zs =>
    have hz:z∈a.ways:=by rw [hy];simp
    exact absurd ((h1 z hz).trans hr) (h z (hw z hz))
 cases a<;>first | (cases ha;done) | (exact absurd rfl (hn _ _)) | skip
 all_goals
  simp only [lose]
  rw [key _ (by simp [PV.ways];done) (by simp [PV.ways])]
  rfl
section
variable {P:Program} {w0 w:World} {U Φ0 Φ:Nat→Prop} {nt:Nat} {hv:Hid} {a:Act} {e e':Env} {rv:Nat→Value} {E:Nat→PV} {L:Nat→List Nat} {o:zAL}
theorem zQu (S:St w0 U Φ0 nt hv a w e Φ rv E L) (hb:zBy E) {d:Option Nat} (hd:∀ x,d=some x→x<nt) {tk:Bool} {t:TypeId} {x:Operand} (hx:zAW nt x=true) (h:(zNH P tk d t x).run o e=some e') :
  ∃ v,(Instr.loadAt t (a.eval x)).run P w = .ok v w∧Fr w0 U Φ0 nt hv (a.put d v) w e':=by
 obtain ⟨sh,ja,h1⟩:=zBI h
 obtain ⟨p,h2,hp⟩:=zBD S hx h1
 cases tk with
 | false=>exact zN3 S hb hd ja hp h2
 | true =>
  simp only [cond_true] at h2
  split at h2
  ·rename_i r pre i c s'
   obtain ⟨b,u,q,yE,h3,h4,h5⟩:=zKR S ja hp h2
   have S1:=S.hold (Nat.le_refl zAd) h5
   obtain ⟨e1,rv1,E1,h6,W⟩:=zP0 S1 (g:=zAd) (Nat.le_refl _) (by rw [zAh];exact h4)
   obtain ⟨Φ1,L1,S2⟩:=W.st
   have:=zFJ S2 hd (g:=zAd) (Nat.le_refl _) h6 (fun s hs hI=>by rw [(W.rest s hs hI).1,zAf hI];exact hb s hs)
   rw [W.val,zAh] at this
   refine ⟨u,?_,this⟩
   rw [yE]
   simp only [Instr.loadAt,Instr.sureAddr,Sem.run_bind,Sem.run_pure,Result.andThen_ok]
   exact h3
  ·exact zN3 S hb hd ja hp h2
theorem St.layPart (S:St w0 U Φ0 nt hv a w e Φ rv E L) {d i g:Nat} (hd:d<nt) (hi:i<16) (hg:zAd≤g) (hEd:∀ ps,E d ≠ .tup ps) {k:PM} (h:(lay (zBr d i) (E g) k).run o e=some e') :
  ∃ e1 E1 L1,k.run o e1=some e'∧St w0 U Φ0 nt hv a w e1 Φ (upd rv (zBr d i) (rv g)) E1 L1∧(∀ ps,E1 d ≠ .tup ps)∧E1 g = .bad∧∀ s,zAd≤s→s≠g→(∀ x∈(E s).ways,x.1≠zBr d i)→E1 s=E s:=by
 have kN:=S.small
 have yg:zBr d i<zAl:=by simp only [zBr,zAl];omega
 obtain ⟨e1,E1,L1,h1,h2,h3,h4,h5,h6,h7⟩:=zS6 S yg hg h
 have qF:∀ d' ps,d'<2000000→E1 d' = .tup ps→∃ ps',E d' = .tup ps'∧ps'.length=ps.length:=by
  intro d' ps vz hp
  have hI:d'≠zBr d i:=by simp only [zBr];omega
  rcases h4 d' hI (by simp only [zAd];omega) with h8 | h8
  ·exact ⟨ps,by rw [← h8];exact hp,rfl⟩
  ·rw [h8] at hp;exact zDJ (zIo _ _) hp
 refine ⟨e1,E1,L1,h1,⟨h2,h3,S.size,S.small,fun t ht=>?_,fun d' ps j vz hp hj=>?_,fun s u5 uY=>?_,S.dfr⟩,fun ps hp=>?_,h6,fun s hs hI hw=>?_⟩
 ·rw [zAf (by simp only [zBr];omega)];exact S.tmps t ht
 ·obtain ⟨ps',h8,h9⟩:=qF d' ps (by omega) hp
  obtain ⟨h10,vs,h11,h12⟩:=S.parts d' ps' j vz h8 (by omega)
  have vu:d'≠d:=fun hc=>hEd ps' (hc▸h8)
  refine ⟨h10,vs,by rw [zAf (by simp only [zBr];omega)];exact h11,?_⟩
  rw [zAf fun hc=>vu (zGT hc h10 hi).1];exact h12
 ·rw [zAf (by omega)];exact S.hid s u5 uY
 ·obtain ⟨ps',h8,_⟩:=qF d ps (by omega) hp
  exact hEd ps' h8
 ·rcases h7 s hs hI with h8 | h8
  ·exact h8
  ·rw [h8];exact zPP hw
theorem St.empty (S:St w0 U Φ0 nt hv a w e Φ rv E L) {d:Nat} (hd:d<nt):∃ L',St w0 U Φ0 nt hv a w (e.set d .bad) Φ rv (upd E d .bad) L':=by
 have kN:=S.small
 have hc:=S.conf.drop fun s=>s==d
 have hE:(fun s=>if (s==d)=true then PV.bad else E s)=upd E d .bad:=by
  funext s;by_cases hs:s=d<;>simp [upd,hs]
 rw [hE] at hc
 refine ⟨_,S.turn hc (fun s hs=>?_) (fun _ _=>rfl) (fun d' ps vz hp=>?_)⟩
 ·rw [Env.get_set]
  by_cases wX:s=d
  ·subst wX;rw [zAh,if_pos rfl]
  ·rw [zAf wX,if_neg wX];exact S.env s hs
 ·by_cases vu:d'=d
  ·subst vu;rw [zAh] at hp;cases hp
  ·rw [zAf vu] at hp;exact ⟨ps,hp,rfl⟩
theorem St.mark (S:St w0 U Φ0 nt hv a w e Φ rv E L) (hb:zBy E) {d n:Nat} (hd:d<nt) (hn:n≤16) {vs:Array Value} (hs:vs.size=n) (hp:∀ i,i<n→vs[i]? = some (rv (zBr d i))) :
  Fr w0 U Φ0 nt hv (a.put (some d) (.tuple vs)) w (e.set d (.tup (List.replicate n .bad))):=by
 have kN:=S.small
 have hH:Rep w Φ (zA6 w rv E) (.tup (List.replicate n .bad)) (.tuple vs) []:=by
  refine ⟨vs,rfl,?_⟩
  have key:∀ (n:Nat) (us:List Value),us.length=n→zA1 w Φ (zA6 w rv E) (List.replicate n .bad) us []:=by
   intro n
   induction n with
   | zero=>intro us h;rw [List.eq_nil_of_length_eq_zero h];exact ⟨rfl,rfl⟩
   | succ n ih =>
    intro us h
    match us,h with
    | u::us,h=>exact ⟨u,us,[],[],rfl,rfl,rfl,ih us (by simpa using h)⟩
  exact key n vs.toList (by simpa using hs)
 have kE:(PV.tup (List.replicate n .bad)).heavy=false:=by
  have key:∀ n,zCU (List.replicate n .bad)=false:=by
   intro n
   induction n with
   | zero=>rfl
   | succ n ih=>simp [List.replicate_succ,zCU,PV.heavy,ih]
  exact key n
 have hc:=S.conf.put (s:=d) kE hH
 have LB:d<a.tmps.size:=by rw [S.size];exact hd
 refine ⟨_,_,_,_,⟨hc,fun s hs=>?_,by simp only [Act.put,Array.size_setIfInBounds];exact S.size,S.small,fun t ht=>?_,fun d' ps j vz jI hj=>?_,fun s u5 uY=>?_,S.dfr⟩,fun g hg=>?_⟩
 ·rw [Env.get_set]
  by_cases wX:s=d
  ·subst wX;rw [zAh,if_pos rfl]
  ·rw [zAf wX,if_neg wX];exact S.env s hs
 ·rw [Act.put_tmps a LB]
  by_cases vX:t=d
  ·subst vX;simp [zAh]
  ·rw [if_neg vX,zAf vX];exact S.tmps t ht
 ·by_cases vu:d'=d
  ·subst vu
   rw [zAh] at jI
   simp only [PV.tup.injEq] at jI
   rw [← jI] at hj
   simp only [List.length_replicate] at hj
   exact ⟨by omega,vs,zAh,by rw [zAf (by simp only [zBr];omega)];exact hp j hj⟩
  ·rw [zAf vu] at jI
   obtain ⟨h10,us,h11,h12⟩:=S.parts d' ps j vz jI hj
   exact ⟨h10,us,by rw [zAf vu];exact h11,by rw [zAf (by simp only [zBr];omega)];exact h12⟩
 ·rw [zAf (by simp only [zAl] at u5;omega)];exact S.hid s u5 uY
 ·rw [zAf (by simp only [zAd] at hg;omega)];exact hb g hg
theorem zHT {s d:Nat} (hd:d<nt) (hs:s<nt) {vs:Array Value}:∀ (n i:Nat) {e:Env} {rv:Nat→Value} {E:Nat→PV} {L:Nat→List Nat},St w0 U Φ0 nt hv a w e Φ rv E L→zBy E→(∀ ps,E d ≠ .tup ps)→i+n≤16→vs.size=i+n →
  (∀ j,j<i→vs[j]? = some (rv (zBr d j)))→(∀ j,i≤j→j<i+n→vs[j]? = some (rv (zBr s j)))→(zFE s d i n).run o e=some e'→Fr w0 U Φ0 nt hv (a.put (some d) (.tuple vs)) w e'
 | 0,i,e,rv,E,L,S,hb,hE,h16,yC,h1,h2,h=>by
  simp only [zFE,PM.run,Option.some.injEq] at h;subst h
  exact S.mark hb hd (by omega) (by simpa using yC) h1
 | n + 1,i,e,rv,E,L,S,hb,hE,h16,yC,h1,h2,h=>by
  have kN:=S.small
  have gV:zBr s i<zAd:=by simp only [zBr,zAd];omega
  simp only [zFE,PM.run] at h
  split at h
  ·cases h
  ·have hc:=S.conf.take (s:=zBr s i) (g:=zAd) gV (Nat.le_refl _)
   have S1:=S.turn (e':=e.set (zBr s i) .bad) hc (fun t ht=>by
    rw [zAf (by omega),Env.get_set]
    by_cases ud:t=zBr s i
    ·subst ud;rw [zAh,if_pos rfl]
    ·rw [zAf ud,if_neg ud];exact S.env t ht) (fun t ht=>zAf (by omega)) (fun d ps hd hp=>by
    rw [zAf (by simp only [zAd];omega),zAf (by simp only [zBr];omega)] at hp;exact ⟨ps,hp,rfl⟩)
   obtain ⟨e2,E2,L2,k1,S2,k2,k3,k4⟩:=S1.layPart (i:=i) (g:=zAd) hd (by omega) (Nat.le_refl _) (fun ps hp=>by
    rw [zAf (by simp only [zAd];omega),zAf (by simp only [zBr];omega)] at hp;exact hE ps hp) (by rw [zAh,S.env _ gV];exact h)
   have j6:∀ t,t<zAd→upd (upd rv zAd (rv (zBr s i))) (zBr d i) (upd rv zAd (rv (zBr s i)) zAd) t=if t=zBr d i then rv (zBr s i) else rv t:=by
    intro t ht
    by_cases vX:t=zBr d i
    ·subst vX;rw [zAh,zAh,if_pos rfl]
    ·rw [zAf vX,zAf (by omega),if_neg vX]
   have yK:∀ x j,x<nt→j<16→zBr x j<zAd:=by intro x j hx hj;simp only [zBr,zAd];omega
   refine zHT hd hs n (i+1) S2 (fun t ht=>?_) k2 (by omega) (by omega) (fun j hj=>?_) (fun j hj1 hj2=>?_) k1
   ·by_cases yb:t=zAd
    ·subst yb;exact k3
    ·rw [k4 t ht yb (by rw [zAf yb,zAf (by omega),hb t ht];simp [PV.ways]),zAf yb,zAf (by omega)];exact hb t ht
   ·rw [j6 _ (yK d j hd (by omega))]
    by_cases v6:j=i
    ·subst v6;rw [if_pos rfl];exact h2 j (by omega) (by omega)
    ·rw [if_neg fun hc=>v6 (zGT hc (by omega) (by omega)).2];exact h1 j (by omega)
   ·rw [j6 _ (yK s j hs (by omega)),if_neg fun hc=>by have:=(zGT hc (by omega) (by omega)).2;omega]
    exact h2 j (by omega) (by omega)
theorem zTN (S:St w0 U Φ0 nt hv a w e Φ rv E L) (hb:zBy E) {d:Option Nat} (hd:∀ x,d=some x→x<nt) {t:TypeId} {x:Operand} (hx:zAW nt x=true) (h:(zP1 P d t x).run o e=some e'):Fr w0 U Φ0 nt hv (a.put d (a.eval x)) w e':=by
 have gen:(opd x (put d)).run o e=some e'→Fr w0 U Φ0 nt hv (a.put d (a.eval x)) w e':=by
  intro h
  obtain ⟨p,h1,h2⟩:=zBD S hx h
  exact zAG S hb hd h1 h2
 simp only [zP1] at h
 split at h
 ·simp only [zSm] at h
  split at h
  ·exact zAG S hb hd h (.inl ⟨rfl,rfl,rfl⟩)
  ·cases h
 ·rename_i s
  have hs:s<nt:=zB2 hx
  have kN:=S.small
  have y5:(s:Nat)<zAd:=Nat.lt_of_lt_of_le hs (Nat.le_trans S.small (by decide))
  simp only [zLp] at h
  split at h
  ·rename_i ts d' _
   simp only [PM.run] at h
   split at h
   ·cases h
   ·split at h
    ·rename_i ps y6
     obtain ⟨⟨hO,h16⟩,h1⟩:=zC5 h
     simp only [PM.run] at h1
     have hE:E s = .tup ps:=by rw [S.env s y5,y6]
     have hH:=S.conf.rep s
     rw [hE] at hH
     obtain ⟨vs,uc,hr⟩:=hH
     have uw:vs.size=ps.length:=by have:=hr.length;simpa using this
     have vW:a.eval (.tmp s) = .tuple vs:=by rw [← uc];exact S.tmps s hs
     obtain ⟨L',S1⟩:=S.empty (hd d' rfl)
     rw [vW]
     refine zHT (vs:=vs) (hd d' rfl) hs ts.size 0 S1 (fun g hg=>?_) (fun ps hp=>by rw [zAh] at hp;cases hp) (by omega) (by omega) (fun j hj=>by omega) (fun j _ hj=>?_) h1
     ·rw [zAf (by have:=hd d' rfl;simp only [zAd] at hg;omega)];exact hb g hg
     ·obtain ⟨_,us,g1,g2⟩:=S.parts s ps j hs hE (by omega)
      rw [uc] at g1;cases g1;exact g2
    ·cases h
  ·exact gen h
 ·exact gen h
theorem zGy {d:Nat} (hd:d<nt) {vs:Array Value}:∀ (ps:List PV) (i:Nat) {e:Env} {rv:Nat→Value} {E:Nat→PV} {L:Nat→List Nat},St w0 U Φ0 nt hv a w e Φ rv E L→(∀ ps,E d ≠ .tup ps)→i+ps.length≤16→vs.size=i+ps.length →
  (∀ j p,ps[j]? = some p→E (zAd+i+j)=p∧vs[i+j]? = some (rv (zAd+i+j)))→(∀ g,zAd≤g→(∀ j,j<ps.length→g≠zAd+i+j)→E g = .bad)→(∀ x∈zBB ps,zI9 d x.1=false) →
  (∀ j,j<i→vs[j]? = some (rv (zBr d j)))→(zEL d i ps .ok).run o e=some e'→Fr w0 U Φ0 nt hv (a.put (some d) (.tuple vs)) w e'
 | [],i,e,rv,E,L,S,hE,h16,yC,hp,hb,hw,h1,h=>by
  simp only [zEL,PM.run,Option.some.injEq] at h;subst h
  exact S.mark (fun g hg=>hb g hg (by simp)) hd (by simpa using h16) (by simpa using yC) h1
 | p :: ps,i,e,rv,E,L,S,hE,h16,yC,hp,hb,hw,h1,h=>by
  have kN:=S.small
  simp only [List.length_cons] at h16 yC
  obtain ⟨q1,q2⟩:=hp 0 p rfl
  simp only [Nat.add_zero] at q1 q2
  simp only [zEL] at h
  rw [← q1] at h
  obtain ⟨e2,E2,L2,k1,S2,k2,k3,k4⟩:=S.layPart (i:=i) (g:=zAd+i) hd (by omega) (by omega) hE h
  have hvd:zBr d i<zAd:=by simp only [zBr,zAd];omega
  have hinp:∀ j,j<16→zI9 d (zBr d j)=true:=by
   intro j hj
   simp only [zI9,Bool.and_eq_true]
   exact ⟨Nat.ble_eq_true_of_le (by simp only [zBr];omega),Nat.ble_eq_true_of_le (by simp only [zBr];omega)⟩
  have hkeep:∀ j p',ps[j]? = some p'→E2 (zAd+(i+1)+j)=p':=by
   intro j p' hj
   obtain ⟨q3,_⟩:=hp (j+1) p' (by simpa using hj)
   have e1:zAd+i+(j+1)=zAd+(i+1)+j:=by omega
   rw [e1] at q3
   rw [k4 _ (by omega) (by omega) (fun x hx hc=>?_),q3]
   rw [q3] at hx
   have:=hw x (by
    simp only [zBB,List.mem_append]
    exact .inr (zLP (List.mem_of_getElem? hj) hx))
   rw [hc,hinp i (by omega)] at this;cases this
  refine zGy hd ps (i+1) S2 k2 (by omega) (by omega) (fun j p' hj=>⟨hkeep j p' hj,?_⟩) (fun g hg hI=>?_) (fun x hx=>hw x (by simp [zBB,hx])) (fun j hj=>?_) k1
  ·obtain ⟨_,q4⟩:=hp (j+1) p' (by simpa using hj)
   have e1:zAd+i+(j+1)=zAd+(i+1)+j:=by omega
   have e2:i+(j+1)=i+1+j:=by omega
   rw [e1,e2] at q4
   rw [zAf (by omega)];exact q4
  ·by_cases hgi:g=zAd+i
   ·subst hgi;exact k3
   ·have uy:E g = .bad:=hb g hg fun j hj hc=>by
     cases j with
     | zero=>exact hgi (by simpa using hc)
     | succ j=>exact hI j (by simpa using hj) (by omega)
    rw [k4 g hg hgi (by rw [uy];simp [PV.ways]),uy]
  ·by_cases v6:j=i
   ·subst v6;rw [zAh];exact q2
   ·rw [zAf fun hc=>v6 (zGT hc (by omega) (by omega)).2];exact h1 j (by omega)
end
end Go.Eng
namespace Go.Eng
open Go
section
variable {P:Program} {w0 w:World} {U Φ0 Φ:Nat→Prop} {nt:Nat} {hv:Hid} {a:Act} {e e':Env} {rv:Nat→Value} {E:Nat→PV} {L:Nat→List Nat} {o:zAL} {A:Al}
theorem zNS {r:Nat} {pre:zAT} {z lo n i:Nat} {sh:Option Nat} {v:Value} (hp:Rep w Φ (zA6 w rv E) (.bor r pre z lo n) v []) (yK:i<n) :
  ∃ b cap,v = .slice (some b) n cap∧b.spot=none∧Rep w Φ (zA6 w rv E) (.addr r pre (lo+i) 0 sh) (.pointer (some (b.add (i*z)))) []:=by
 obtain ⟨_,hg,⟨x,cap,rfl,yO,yX,yZ⟩,hn⟩:=hp
 cases x with
 | none=>have:=yX rfl;omega
 | some b =>
  refine ⟨b,cap,rfl,yZ b rfl,rfl,hg,b.add (i*z),rfl,by rw [zBT (yZ b rfl)];rfl,fun nv np hf a' ha=>?_⟩
  have hh:np.heavy0=true:=by cases np<;>first | rfl | (simp [zA7] at ha;done)
  obtain ⟨sz,xs,h3,h4,h5⟩:=hn nv np hf hh
  subst h3;subst h4
  cases nv<;>simp only [zBW] at h5
  rename_i y l c
  cases y with
  | none=>cases ha
  | some y =>
   simp only [zBW,Value.slice.injEq,Option.some.injEq] at h5
   simp only [zA7,Option.some.injEq] at ha
   rw [← ha,zBT (yZ b rfl),h5.1.1]
   simp [zAy,Nat.add_mul,Nat.add_assoc]
theorem zIK {p:PV} (h:p.plain=true):∀ q∈p.cells,q.oneCell=true:=by
 have h0:∀ p:PV,p.plain0=true→p.oneCell=true:=by intro p h;cases p<;>first | rfl | cases h
 cases p<;>first | (intro q hq;simp only [PV.cells,List.mem_singleton] at hq;subst hq;exact h0 _ h) | skip
 rename_i cs
 intro q hq
 simp only [PV.plain,List.all_eq_true] at h
 exact h0 q (h q hq)
theorem zKV {row:Array Value} {o:Nat} {xs ys:List Value} (h:o+xs.length+ys.length≤row.size):zBf (zBf row o xs) (o+xs.length) ys=zBf row o (xs++ys):=by
 apply Array.ext'
 simp only [zBf,List.length_append]
 rw [List.take_append_of_le_length (by simp;omega),List.take_of_length_le (by simp;omega)]
 have:List.drop (o+xs.length+ys.length) (List.take o row.toList++xs++List.drop (o+xs.length) row.toList)=List.drop (o+(xs.length+ys.length)) row.toList:=by
  rw [List.drop_append,List.drop_of_length_le (by simp;omega)]
  simp
  congr 1;omega
 rw [this];simp
theorem zK7 {p:PV} (h:p.plain=true):p.heavy=false∧p.ways=[]:=by
 have h0:∀ p:PV,p.plain0=true→p.heavy=false∧p.ways=[]:=by
  intro p h
  cases p<;>first | (cases h;done) | exact ⟨rfl,rfl⟩ | skip
  simp only [PV.plain0] at h
  exact ⟨rfl,by simpa [PV.ways] using h⟩
 cases p<;>first | exact h0 _ h | skip
 rename_i cs
 simp only [PV.plain] at h
 have key:∀ cs:List PV,cs.all PV.plain0=true→zCU cs=false∧zBB cs=[]:=by
  intro cs
  induction cs with
  | nil=>intro _;exact ⟨rfl,rfl⟩
  | cons c cs ih =>
   intro h
   simp only [List.all_cons,Bool.and_eq_true] at h
   obtain ⟨h1,h2⟩:=h0 c h.1
   obtain ⟨h3,h4⟩:=ih h.2
   exact ⟨by simp [zCU,h1,h3],by simp [zBB,h2,h4]⟩
 exact key cs h
theorem zKB {r:Nat} {pre:zAT} {z lo n:Nat} {v:Value} {k:PM} (hz:0<z):∀ (ys:List PV) (us:List Value) (j:Nat) {w:World} {e:Env} {rv:Nat→Value} {E:Nat→PV} {L:Nat→List Nat},St w0 U Φ0 nt hv a w e Φ rv E L→E (zAd+2) = .bor r pre z lo n→rv (zAd+2)=v→(∀ s,zAd≤s→s≠zAd+2→E s = .bad) →
  (∀ y∈ys,y.plain=true∧y.cells.length=z)→(us.map zCh=ys.map PV.isAgg)→zA1 w Φ zCj ys us []→j+ys.length≤n→(zF9 r pre (lo+j) ys k).run o e=some e' →
  ∃ w1 e1 rv1 E1 L1,k.run o e1=some e'∧St w0 U Φ0 nt hv a w1 e1 Φ rv1 E1 L1∧(∀ s,zAd≤s→s≠zAd+2→E1 s = .bad)∧(E1 (zAd+2) = .bor r pre z lo n∧rv1 (zAd+2)=v) ∧
   (ys=[]∧w1=w∨∃ b cap row,v = .slice (some b) n cap∧b.spot=none∧zEQ w b.block row∧b.off+j*z+(flat us).length≤row.size∧(∀ u∈flat us,u.oneCell'=true)∧w1=w.setRow b.block (zBf row (b.off+j*z) (flat us)))
 | [],us,j,w,e,rv,E,L,S,hE,j6,hb,hy,jX,hr,hl,h=>⟨w,e,rv,E,L,h,S,hb,⟨hE,j6⟩,.inl ⟨rfl,rfl⟩⟩
 | y :: ys,us,j,w,e,rv,E,L,S,hE,j6,hb,hy,jX,hr,hl,h=>by
  obtain ⟨u,us',L1,L2,rfl,hL,kU,jg⟩:=hr
  have vT:=List.append_eq_nil_iff.1 hL.symm
  obtain ⟨rfl,rfl⟩:=vT
  simp only [List.map_cons,List.cons.injEq] at jX
  simp only [zF9] at h
  obtain ⟨ue,hyz⟩:=hy y (by simp)
  obtain ⟨kE,yi⟩:=zK7 ue
  have wY:=S.conf.rep (zAd+2)
  rw [hE,j6] at wY
  have ub:L (zAd+2)=[]:=wY.1
  rw [ub] at wY
  obtain ⟨b,cap,hv,yY,kY⟩:=zNS (sh:=none) wY (i:=j) (by simp at hl;omega)
  have S1:=S.hold (g:=zAd) (Nat.le_refl _) (p:=y) (v:=u) (kU.mono zDf.refl (fun _ _ _ h=>h.elim) (by simp))
  have qG:=S1.conf.rep (zAd+2)
  rw [zAf (show zAd+2≠zAd by omega),zAf (show zAd+2≠zAd by omega),zAf (show zAd+2≠zAd by omega),hE,j6,ub] at qG
  obtain ⟨b0,cap0,wB,_,v7⟩:=zNS (sh:=none) qG (i:=j) (by simp at hl;omega)
  rw [hv] at wB
  simp only [Value.slice.injEq,Option.some.injEq] at wB
  rw [← wB.1] at v7
  obtain ⟨b',row,e1,E1,L1,yE,hsp',yA,hZ,yJ,h1,S2,kP,wt,hg3,jC⟩:=S1.write (g:=zAd) (Nat.le_refl _) v7 (.inl (by rw [zAh];exact kE)) (by rw [zAh];exact zIK ue) (by rw [zAh,hyz];omega) (by rw [zAh,zAh];exact jX.1) (k:=zF9 r pre (lo+(j+1)) ys k) (by rw [zAh];exact h)
  cases yE
  have hub:u.cells.size=z:=by
   have h1:us'.length=ys.length:=jg.length
   have:=((kU.mono (A':=zCj) zDf.refl (fun _ _ _ h=>h) (by simp)).cellsAll jX.1).length
   simpa [hyz] using this
  have jN:b.add (j*z)=⟨b.block,b.off+j*z,none⟩:=by rw [zBT yY];rfl
  rw [jN] at yA hZ jC S2
  rw [zAh] at hZ yJ S2
  simp only at yA hZ jC S2
  have hnΦ:¬ Φ b.block:=(S1.conf.own _ _ jC).2.1
  have v1:E1 (zAd+2) = .bor r pre z lo n:=by
   rw [hg3 _ (by omega) (by omega),zAf (show zAd+2≠zAd by omega),zAh,hE]
   show zDz _ _ _ _ _ _=_
   exact zIF (zKi) kE _
  obtain ⟨w1,e2,rv2,E2,L2,k1,k2,k3,k3',k4⟩:=zKB hz ys us' (j+1) S2 v1 (by rw [zAf (show zAd+2≠zAd by omega),j6]) (fun s hs hI=>by
   by_cases y5:s=zAd
   ·subst y5;exact kP
   ·exact wt s hs y5 (by rw [zAf y5];exact hb s hs hI)) (fun y uZ=>hy y (by simp [uZ])) jX.2 (jg.mono (fun b' yE=>⟨yE,setRow_other w _ _ _ (fun hc:b'=b.block=>hnΦ (hc▸yE))⟩) (fun _ _ _ h=>h) (by simp)) (by simp at hl;omega) h1
  refine ⟨w1,e2,rv2,E2,L2,k1,k2,k3,k3',.inr ⟨b,cap,row,hv,yY,yA,?_⟩⟩
  have ji:flat (u::us')=u.cells.toList++flat us':=by simp [flat]
  have wU:u.cells.toList.length=z:=by simpa using hub
  rcases k4 with ⟨rfl,rfl⟩ | ⟨b2,cap2,row2,kS,_,hrow2,uF,hone2,rfl⟩
  ·have:us'=[]:=List.eq_nil_of_length_eq_zero (by have:=jg.length;simpa using this)
   subst this
   rw [ji];simp only [flat,List.flatMap_nil,List.append_nil]
   refine ⟨by rw [wU];omega,yJ,?_⟩;first | rfl | trivial
  ·rw [hv] at kS
   simp only [Value.slice.injEq,Option.some.injEq] at kS
   obtain ⟨rfl,_⟩:=kS
   have jZ:zEQ (w.setRow b.block (zBf row (b.off+j*z) u.cells.toList)) b.block (zBf row (b.off+j*z) u.cells.toList):=by
    obtain ⟨el,yc⟩:=yA;exact ⟨el,setRow_heap w _ _ _ el _ yc⟩
   have:row2=zBf row (b.off+j*z) u.cells.toList:=by
    obtain ⟨e1,h1⟩:=jZ;obtain ⟨e2,h2⟩:=hrow2
    rw [h1] at h2;cases h2;rfl
   subst this
   rw [zGm (by rw [wU];omega)] at uF
   have qn:b.off+(j+1)*z=b.off+j*z+u.cells.toList.length:=by rw [wU,Nat.add_mul];omega
   rw [qn] at uF ⊢
   refine ⟨by rw [ji,List.length_append];omega,fun x hx=>?_,?_⟩
   ·rw [ji] at hx
    rcases List.mem_append.1 hx with h | h
    ·exact yJ x h
    ·exact hone2 x h
   ·rw [setRow_setRow,zKV uF,ji]
end
end Go.Eng
namespace Go.Eng
open Go
section
variable {P:Program} {w:World}
theorem zD6 {t t2 ty el e2:TypeId} {i:TypeInfo} (ht:P.underlying t=some (.slice el)) (kZ:P.underlying t2=some (.slice e2)) (hi:P.info? el=some i) {a xb:Option Addr} {sLen sCap n xc:Nat} {news:List Value}
  (uf:(Builtin.firstCells i.size n (.slice xb n xc)).run P w = .ok news.toArray w) (hZ:sLen+n≤sCap) (w':World) (yR:∀ b,a=some b→(storeCells (b.add (sLen*i.size)) news).run P w = .ok () w') (jm:a=none→w'=w) :
  (Builtin.append_ #[t,t2] ty #[.slice a sLen sCap,.slice xb n xc]).run P w = .ok (.slice a (sLen+n) sCap) w':=by
 cases a with
 | none =>
  rw [jm rfl]
  simp [Builtin.append_,run_underlying ht,run_underlying kZ,sizeOf,typeInfo,hi,Builtin.lenOf,hZ,uf]
 | some b =>
  have:=yR b rfl
  simp [Builtin.append_,run_underlying ht,run_underlying kZ,sizeOf,typeInfo,hi,Builtin.lenOf,hZ,uf,this]
theorem zFD {t t2 ty el e2:TypeId} {i:TypeInfo} {z:Value} (ht:P.underlying t=some (.slice el)) (kZ:P.underlying t2=some (.slice e2)) (hi:P.info? el=some i) (hz:i.zero=some z) {a xb:Option Addr} {sLen sCap n xc:Nat} {old news:List Value}
  (hold:(Builtin.firstCells i.size sLen (.slice a sLen sCap)).run P w.drew = .ok old.toArray w.drew) (uf:(Builtin.firstCells i.size n (.slice xb n xc)).run P w.drew = .ok news.toArray w.drew)
  (hZ:¬ sLen+n≤sCap) (h32:sLen+n≤4294967296) (wZ:i.bytes≤16384) :
  (Builtin.append_ #[t,t2] ty #[.slice a sLen sCap,.slice xb n xc]).run P w =
   .ok (.slice (some ⟨w.heap.size,0,none⟩) (sLen+n) (grownCap w (sLen+n) sCap el)) (w.drew.alloc (.cells (old.toArray++news.toArray++Builtin.zeroCells z.cells (grownCap w (sLen+n) sCap el-(sLen+n))) el)):=by
 have hgr':¬ (281474976710656<Builtin.nextslicecap (sLen+n) sCap*i.bytes):=by
  have h1:(sLen+n)*i.bytes≤4294967296*16384:=Nat.mul_le_mul h32 wZ
  have:=growslice_fits (need:=sLen+n) (old:=sCap) (bytes:=i.bytes) (by omega) (by omega)
  omega
 have h63':¬ (9223372036854775807<((sLen:Int)+(n:Int))):=by omega
 simp [Builtin.append_,run_underlying ht,run_underlying kZ,sizeOf,typeInfo,zeroValue,hi,hz,Builtin.lenOf,hZ,h63',hgr',Question.forced,hold,uf,newRow,grownCap]
 congr 2
 apply Array.ext'
 simp [List.append_assoc]
end
section
variable {P:Program} {w0 w:World} {U Φ0 Φ:Nat→Prop} {nt:Nat} {hv:Hid} {a:Act} {e e':Env} {rv:Nat→Value} {E:Nat→PV} {L:Nat→List Nat} {o:zAL}
structure Listed (w:World) (Φ:Nat→Prop) (v:Value) (ys:List PV) (us:List Value) (Ly:List Nat):Prop where
 val:∃ xb xc,v = .slice xb ys.length xc∧∀ sz,(∀ y∈ys,y.cells.length=sz)→∀ (P:Program) (w1:World),(∀ t,w1.cell? t=w.cell? t)→(Builtin.firstCells sz ys.length v).run P w1 = .ok (flat us).toArray w1
 reps:zA1 w Φ zCj ys us Ly
 size:∀ sz,(∀ y∈ys,y.cells.length=sz)→∀ u∈us,u.cells.size=sz
 agg:us.map zCh=ys.map PV.isAgg
theorem zId {b:Addr} {n xc sz:Nat} {us:List Value} (yY:b.spot=none) {row:Array Value} (yA:zIL w b.block row) (hl:us.length=n) (yC:∀ u∈us,u.cells.size=sz) (h:seg row b.off (n*sz)=flat us) (P:Program) (w1:World) (hw:∀ t,w1.cell? t=w.cell? t) :
  (Builtin.firstCells sz n (.slice (some b) n xc)).run P w1 = .ok (flat us).toArray w1:=by
 refine run_firstCells_some w1 sz n b n xc (flat us) (by rw [zBn yC,hl]) fun j v hj=>?_
 rw [hw]
 exact zHH yY yA (by rw [zBn yC,hl];exact h) j v hj
theorem zEz {v:Value} {xb:Option Addr} {xc:Nat} (hv:v = .slice xb 0 xc):Listed w Φ v [] [] []:=by
 refine ⟨⟨xb,xc,hv,fun sz _ P w1 _=>?_⟩,⟨rfl,rfl⟩,by simp,rfl⟩
 subst hv
 cases xb with
 | none=>exact run_firstCells_none w1 sz 0 0 xc
 | some b=>exact run_firstCells_some w1 sz 0 b 0 xc [] (by simp) (by simp)
theorem zFT {A:Al}:∀ {ys:List PV} {us:List Value} {Ly:List Nat},(∀ y∈ys,y.plain=true)→zA1 w Φ A ys us Ly→Ly=[]
 | [],_,_,_,h=>h.2
 | y::ys,us,Ly,hp,h=>by
  obtain ⟨v,vs,L1,L2,rfl,rfl,h1,h2⟩:=h
  rw [zC3 _ _ _ (zK7 (hp y (by simp))).1 h1,zFT (fun z hz=>hp z (by simp [hz])) h2];rfl
theorem zOA {c:Array Value} {o m n:Nat} (h:m≤n):seg c o m=(seg c o n).take m:=by
 simp only [seg,List.take_take];rw [Nat.min_eq_left h]
theorem zLO (S:St w0 U Φ0 nt hv a w e Φ rv E L) {p:PV} {v:Value} (hp:Rep w Φ (zA6 w rv E) p v []) {k:List PV→PM} (h:(zG3 p k).run o e=some e'):∃ ys us Ly,(k ys).run o e=some e'∧Listed w Φ v ys us Ly:=by
  cases p<;>simp only [zG3] at h<;>try (cases h;done)
  case nils=>exact ⟨[],[],[],h,zEz hp.1⟩
  case nn =>
    obtain ⟨_,b,n,yB⟩:=hp
    exact ⟨[],[],[],h,zEz yB⟩
  case sl xs =>
    obtain ⟨_,⟨rfl,b,n,yB,_⟩ | ⟨b,n,c,us,sz,yB,yY,yI,hΦ,yA,jO,⟨kM,wM⟩,jY,hr⟩⟩:=hp
    · exact ⟨[],[],[],h,zEz yB⟩
    · have hl:us.length=xs.length:=by have:=congrArg List.length wM;simpa using this
      refine ⟨xs,us,[],h,⟨some b,n,yB,fun sz' jE P w1 hw=>?_⟩,hr,fun sz' jE u hu=>?_,wM⟩
      · by_cases hx:xs=[]
        · subst hx
          have:us=[]:=List.eq_nil_of_length_eq_zero (by simpa using hl)
          subst this;subst yB
          exact run_firstCells_some w1 sz' 0 b 0 n [] (by simp) (by simp)
        · obtain ⟨y,ys,rfl⟩:=List.exists_cons_of_ne_nil hx
          have:sz'=sz:=by rw [← jE y (by simp),jO y (by simp)]
          subst this;subst yB
          exact zId yY yA hl kM jY P w1 hw
      · cases xs with
        | nil => have h0:us=[]:=List.eq_nil_of_length_eq_zero (by simpa using hl)
                 rw [h0] at hu;cases hu
        | cons y ys=>rw [kM u hu,← jE y (by simp),jO y (by simp)]
  case bor r pre z lo n =>
    obtain ⟨_,hr,_,hn⟩:=hp
    obtain ⟨q,hq,h1⟩:=zBU h
    split at h1
    · rename_i sz xs
      obtain ⟨yI,h2⟩:=zAU h1
      have yI:=Nat.le_of_ble_eq_true yI
      rw [← S.env r hr] at hq
      obtain ⟨nv,Li,hf,_,hH⟩:=zBM (zB4 (S.conf.rep r)) hq
      obtain ⟨sz2,xs2,g1,g2,g3⟩:=hn nv _ hf rfl
      cases g1;subst g2
      obtain ⟨q1,q2,q3⟩ | ⟨x,m,c,us,M,q0,q1,q2,q3,q4,q5,q6,⟨q7,q7'⟩,q8,q9⟩:=hH
      · subst q1;subst q3
        have kA:n=0:=by simp at yI;omega
        subst kA
        simp only [zBW] at g3
        refine ⟨_,[],[],h2,?_⟩
        simp only [List.drop_nil,List.take_nil]
        exact zEz g3.1
      · subst q1
        simp only [zBW] at g3
        obtain ⟨yB,yO⟩:=g3
        have yt:us.length=xs.length:=by have:=congrArg List.length q7';simpa using this
        obtain ⟨Ly,_,wP⟩:=zGn q9 lo n
        have hO:((xs.drop lo).take n).length=n:=by simp;omega
        have qH:((us.drop lo).take n).length=n:=by simp;omega
        refine ⟨_,(us.drop lo).take n,Ly,h2,⟨_,_,by rw [hO];exact yB,fun sz' jE P w1 hw=>?_⟩,wP,fun sz' jE u hu=>?_,zA1.map_isAgg q7' lo n⟩
        · rw [hO,yB]
          by_cases kA:n=0
          · subst kA
            simp only [List.take_zero]
            exact run_firstCells_some w1 sz' 0 _ 0 _ [] (by simp) (by simp)
          · have:sz'=z:=by
              cases jO:(xs.drop lo).take n with
              | nil=>rw [jO] at hO;simp at hO;omega
              | cons y ys =>
                have hy:y∈(xs.drop lo).take n:=by rw [jO];simp
                rw [← jE y hy,q6 y (List.mem_of_mem_drop (List.mem_of_mem_take hy))]
            subst this
            exact zId (b:=zAy x (lo*sz')) rfl q4.any qH (fun u hu=>q7 u (List.mem_of_mem_drop (List.mem_of_mem_take hu))) (zIk q7 yt q8 yI) P w1 hw
        · cases jO:(xs.drop lo).take n with
          | nil =>
            rw [jO] at hO
            have h0:(us.drop lo).take n=[]:=List.eq_nil_of_length_eq_zero (by rw [qH];simpa using hO.symm)
            rw [h0] at hu;cases hu
          | cons y ys =>
            have hy:y∈(xs.drop lo).take n:=by rw [jO];simp
            rw [q7 u (List.mem_of_mem_drop (List.mem_of_mem_take hu)),← jE y hy,q6 y (List.mem_of_mem_drop (List.mem_of_mem_take hy))]
    · cases h1
  case bsl r pre i c sz ag n =>
    obtain ⟨_,hr,b,cap,yB,yO,yY,hn⟩:=hp
    simp only [PM.run] at h
    split at h
    · rename_i g cs hq
      rw [← S.env r hr] at hq
      obtain ⟨nv,np,ad,us,h1,h2,h3,h4,h5,h6⟩:=S.conf.cells hr hq
      have:=hn nv np h1 ad h2;subst this
      obtain ⟨hc,h7⟩:=zAU h
      simp only [Bool.and_eq_true,zCi] at hc
      obtain ⟨⟨yL,qa⟩,ue⟩:=hc
      have yL:=Nat.eq_of_beq_eq_true yL
      have hw0:∀ (cs:List PV),cs.all (fun q=>q.plain0)=true→zBB cs=[]:=by
        intro cs
        induction cs with
        | nil=>intro _;rfl
        | cons c cs ih =>
          intro h
          simp only [List.all_cons,Bool.and_eq_true] at h
          have v0:c.ways=[]:=by
            have h0:=h.1
            cases c<;>first | (cases h0;done) | rfl | skip
            simpa [PV.plain0,PV.ways] using h0
          simp [zBB,v0,ih h.2]
      have vN:zA1 w Φ zCj cs us []:=h6.ways _ _ _ fun a v hw hx ha=>by
        rw [hw0 cs ue] at hx
        have h1:=zIs hw ha
        cases u6:a.ways with
        | nil=>exact absurd u6 h1
        | cons z zs=>have:=hx z (by rw [u6];simp);cases this
      obtain ⟨us',q1,q2,q3,q4,q5⟩:=zFX (ag:=ag) (sz:=sz) (fun a v _ h=>h.elim) n cs us yL (fun jX=>by
        simp only [jX,Bool.false_or,Bool.and_eq_true] at qa
        exact ⟨Nat.eq_of_beq_eq_true qa.1,fun q hq=>List.all_eq_true.1 qa.2 q hq⟩) vN
      have hO:=zDT ag sz n cs
      refine ⟨_,us',[],h7,⟨some b,cap,by rw [hO];exact yB,fun sz' jE P w1 hw=>?_⟩,q1,fun sz' jE u hu=>?_,q4⟩
      · rw [hO,yB,q2]
        by_cases kA:n=0
        · subst kA
          have:us=[]:=List.eq_nil_of_length_eq_zero (by rw [h4];simp)
          subst this
          exact run_firstCells_some w1 sz' 0 b 0 cap [] (by simp) (by simp)
        · have:sz'=sz:=by
            cases jO:zCg ag sz n cs with
            | nil=>rw [jO] at hO;simp at hO;omega
            | cons y ys =>
              have hy:y∈zCg ag sz n cs:=by rw [jO];simp
              rw [← jE y hy,q5 y hy]
          subst this
          exact run_firstCells_some w1 sz' n b n cap us h4 (fun j v hj=>by rw [hw];exact h5 j v hj)
      · cases jO:zCg ag sz n cs with
        | nil =>
          have yt:us'.length=(zCg ag sz n cs).length:=q1.length
          rw [jO] at yt
          have h0:us'=[]:=List.eq_nil_of_length_eq_zero (by simpa using yt)
          rw [h0] at hu;cases hu
        | cons y ys =>
          have hy:y∈zCg ag sz n cs:=by rw [jO];simp
          rw [q3 u hu,← jE y hy,q5 y hy]
    · cases h
theorem zSw (S:St w0 U Φ0 nt hv a w e Φ rv E L) {g:Nat} (hg:zAd≤g) (uB:E g = .bad) {x:Operand} (hx:zAW nt x=true) {k:List PV→PM} (h:(zNr x k).run o e=some e') :
  ∃ e1 rv1 E1 L1 ys us Ly,(k ys).run o e1=some e'∧St w0 U Φ0 nt hv a w e1 Φ rv1 E1 L1∧zUh g rv rv1 E E1 L L1∧Listed w Φ (a.eval x) ys us Ly∧Ly.Nodup∧∀ b∈Ly,b∈L1 g:=by
 have hLg:L g=[]:=by have:=S.conf.rep g;rw [uB] at this;exact this
 have copy:∀ {p:PV},Rep w Φ (zA6 w rv E) p (a.eval x) []→(zG3 p fun xs=>if xs.all (fun x=>x.plain) then k xs else .fail).run o e=some e' →
   ∃ e1 rv1 E1 L1 ys us Ly,(k ys).run o e1=some e'∧St w0 U Φ0 nt hv a w e1 Φ rv1 E1 L1∧zUh g rv rv1 E E1 L L1∧Listed w Φ (a.eval x) ys us Ly∧Ly.Nodup∧∀ b∈Ly,b∈L1 g:=by
  intro p hp h
  obtain ⟨ys,us,Ly,h1,h2⟩:=zLO S hp h
  obtain ⟨h3,h4⟩:=zC5 h1
  have:Ly=[]:=zFT (fun y hy=>List.all_eq_true.1 h3 y hy) h2.reps
  subst this
  exact ⟨e,rv,E,L,ys,us,[],h4,S,fun _ _ _=>⟨rfl,rfl,rfl⟩,h2,List.nodup_nil,by simp⟩
 cases x with
 | const v=>simp only [zNr] at h;obtain ⟨p,h1,h2⟩:=zBD S hx h;exact copy h2 h1
 | func f=>simp only [zNr] at h;obtain ⟨p,h1,h2⟩:=zBD S hx h;exact copy h2 h1
 | global f=>cases h
 | tmp t =>
  have ht:(t:Nat)<nt:=zB2 hx
  have yb:(t:Nat)<zAd:=Nat.lt_of_lt_of_le ht (Nat.le_trans S.small (by decide))
  have vW:a.eval (.tmp t)=rv t:=S.tmps t ht
  simp only [zNr,PM.run] at h
  split at h
  ·cases h
  ·split at h
   ·rename_i sz xs kX
    simp only [PM.run] at h
    have hE:E t = .own sz xs:=by rw [S.env t yb,kX]
    have hc:=S.conf.take (s:=t) (g:=g) yb hg
    have hgt:t≠g:=by intro hc;subst hc;exact absurd yb (Nat.not_lt.2 hg)
    have S1:=S.turn (e':=e.set t .bad) hc (fun s hs=>by
     rw [zAf (by omega),Env.get_set]
     by_cases yR:s=t
     ·subst yR;rw [zAh,if_pos rfl]
     ·rw [zAf yR,if_neg yR];exact S.env s hs) (fun s hs=>zAf (by omega)) (fun d ps hd hp=>by
     rw [zAf (by simp only [zAd] at hg;omega)] at hp
     by_cases hdt:d=t
     ·subst hdt;rw [zAh] at hp;cases hp
     ·rw [zAf hdt] at hp;exact ⟨ps,hp,rfl⟩)
    have hH:=S.conf.rep t
    rw [hE] at hH
    have yQ:=S.conf.nodup t
    have ka:zUh g rv (upd rv g (rv t)) E (upd (upd E t .bad) g (E t)) L (upd (upd L t []) g (L t)):=by
     intro s hs hI
     have yR:s≠t:=by intro hc;subst hc;exact absurd yb (Nat.not_lt.2 hs)
     rw [zAf hI,zAf hI,zAf hI,zAf yR,zAf yR];exact ⟨rfl,rfl,rfl⟩
    rw [vW]
    obtain ⟨q1,q2,q3⟩ | ⟨x,m,c,us,M,q0,q1,q2,q3,q4,q5,q6,⟨q7,q7'⟩,q8,q9⟩:=hH
    ·subst q1
     exact ⟨_,_,_,_,[],[],[],h,S1,ka,zEz q3,List.nodup_nil,by simp⟩
    ·have yt:us.length=xs.length:=by have:=congrArg List.length q7';simpa using this
     rw [q0] at yQ
     refine ⟨_,_,_,_,xs,us,M,h,S1,ka,⟨⟨some x,m,q1,fun sz' jE P w1 hw=>?_⟩,q9,fun sz' jE u hu=>?_,q7'⟩,(List.nodup_cons.1 yQ).2,fun b hb=>by rw [zAh,q0];simp [hb]⟩
     ·rw [q1]
      cases xs with
      | nil =>
       have h0:us=[]:=List.eq_nil_of_length_eq_zero (by simpa using yt)
       subst h0
       exact run_firstCells_some w1 sz' 0 x 0 m [] (by simp) (by simp)
      | cons y ys =>
       have:sz'=sz:=by rw [← jE y (by simp),q6 y (by simp)]
       subst this
       exact zId q2 q4.any yt q7 q8 P w1 hw
     ·cases xs with
      | nil =>
       have h0:us=[]:=List.eq_nil_of_length_eq_zero (by simpa using yt)
       rw [h0] at hu;cases hu
      | cons y ys=>rw [q7 u hu,← jE y (by simp),q6 y (by simp)]
   ·simp only [PM.run] at h
    have hv:=S.conf.view yb
    rw [S.env t yb] at hv
    exact copy (by rw [vW];exact hv) h
theorem zQm {A:Al} {w':World} {z:Value} {sz len m cap:Nat} {xs ys:List PV} {us uys:List Value} {M Ly:List Nat} (hz:z.cells.size=sz) (hO:us.length=len) (hm:uys.length=m) (vZ:xs.length=len) (jv:ys.length=m)
  (jO:∀ x∈xs,x.cells.length=sz) (w5:∀ y∈ys,y.cells.length=sz) (wC:∀ u∈us,u.cells.size=sz) (w6:∀ u∈uys,u.cells.size=sz) (jX:us.map zCh=xs.map PV.isAgg) (qo:uys.map zCh=ys.map PV.isAgg)
  (hr:zA1 w' Φ zCj xs us M) (wP:zA1 w' Φ zCj ys uys Ly) (yO:len+m≤cap) {b:Nat} (yA:zEQ w' b ((flat us).toArray++(flat uys).toArray++Builtin.zeroCells z.cells (cap-(len+m)))) :
  Rep w' Φ A (.own sz (xs++ys)) (.slice (some ⟨b,0,none⟩) (len+m) cap) (b::(M++Ly)):=by
 have ji:(flat us++flat uys).length=(len+m)*sz:=by rw [List.length_append,zBn wC,zBn w6,hO,hm,Nat.add_mul]
 refine .inr ⟨⟨b,0,none⟩,cap,_,us++uys,M++Ly,rfl,by simp [vZ,jv],rfl,by simp [vZ,jv,yO],yA,?_,fun x hx=>?_,⟨fun u hu=>?_,by simp [jX,qo]⟩,?_,hr.append wP⟩
 ·simp only [Array.size_append,size_zeroCells,hz]
  have h1:=congrArg (·) ji
  simp at ji
  have:(len+m)*sz+(cap-(len+m))*sz=cap*sz:=by rw [← Nat.add_mul];congr 1;omega
  simp;omega
 ·rcases List.mem_append.1 hx with h | h
  ·exact jO x h
  ·exact w5 x h
 ·rcases List.mem_append.1 hu with h | h
  ·exact wC u h
  ·exact w6 u h
 ·rw [zCO,List.length_append,vZ,jv]
  simp only [seg,List.drop_zero,Array.toList_append]
  rw [← ji]
  exact List.take_left
theorem zOv:∀ {ys:List PV} {us:List Value} {Ly:List Nat},zA1 w Φ zCj ys us Ly→us.map zCh=ys.map PV.isAgg→(∀ y∈ys,∀ q∈y.cells,q.oneCell=true)→∀ u∈flat us,u.oneCell'=true
 | [],us,Ly,h,_,_,u,hu=>by rw [h.1] at hu;cases hu
 | y :: ys,us,Ly,h,ha,ho,u,hu=>by
  obtain ⟨v,vs,L1,L2,rfl,rfl,h1,h2⟩:=h
  simp only [List.map_cons,List.cons.injEq] at ha
  rw [zCH] at hu
  rcases List.mem_append.1 hu with hu | hu
  ·have hc:=h1.cellsAll ha.1
   obtain ⟨j,hj⟩:=List.getElem?_of_mem hu
   have kO:j<y.cells.length:=by rw [← hc.length];exact (List.getElem?_eq_some_iff.1 hj).1
   obtain ⟨v',La,Li',Lb,yB,_,yq,_⟩:=hc.split (i:=j) (List.getElem?_eq_getElem kO)
   rw [hj] at yB;cases yB
   exact zB7 (fun a v _ h=>h.elim) yq (ho y (by simp) _ (List.getElem_mem kO))
  ·exact zOv h2 ha.2 (fun z hz=>ho z (by simp [hz])) u hu
theorem St.made (S:St w0 U Φ0 nt hv a w e Φ rv E L) (hb:∀ s,zAd+3≤s→E s = .bad) {d:Option Nat} (hd:∀ x,d=some x→x<nt) {w':World} {p:PV} {v:Value} {Lp:List Nat} (hr:∀ A:Al,Rep w' Φ A p v Lp) (uu:Lp.Nodup)
  (ho:∀ b∈Lp,(∃ t,zAd≤t∧t<zAd+3∧b∈L t)∨(w.heap.size≤b∧b<w'.heap.size)) (hw:w.heap.size≤w'.heap.size)
  (hk:∀ b,b<w.heap.size→(∀ t,zAd≤t→t<zAd+3→b∉L t)→w'.heap[b]? = w.heap[b]?) (kn:w'.os=w.os∧w'.tape=w.tape∧w'.output=w.output) (h:(put d p).run o e=some e') :
  Fr w0 U Φ0 nt hv (a.put d v) w' e':=by
 have hG:∀ s,decide (zAd≤s∧s<zAd+3)=true↔zAd≤s∧s<zAd+3:=fun s=>decide_eq_true_iff
 have hc:=S.conf.make (w':=w') (fun s=>decide (zAd≤s∧s<zAd+3)) (fun s hs=>((hG s).1 hs).1) (g:=zAd+3) (by omega) (fun A _=>hr A) uu
  (fun b hb=>(ho b hb).imp (fun ⟨t,h1,h2,h3⟩=>⟨t,h3,(hG t).2 ⟨h1,h2⟩⟩) id) hw
  (fun b hb hn=>hk b hb fun t h1 h2 h3=>by have:=hn t h3;rw [(hG t).2 ⟨h1,h2⟩] at this;cases this) kn
 have S1:=S.turn (e':=e) hc (fun s hs=>by
  rw [zAf (by omega)]
  have:decide (zAd≤s∧s<zAd+3)=false:=decide_eq_false (by omega)
  simp only [this,Bool.false_eq_true,if_false];exact S.env s hs) (fun s hs=>zAf (by omega)) (fun d ps hd hp=>by
  rw [zAf (by simp only [zAd];omega)] at hp
  have:decide (zAd≤d∧d<zAd+3)=false:=decide_eq_false (by simp only [zAd];omega)
  simp only [this,Bool.false_eq_true,if_false] at hp;exact ⟨ps,hp,rfl⟩)
 have:=zFJ S1 hd (g:=zAd+3) (by omega) (by rw [zAh];exact h) (fun s hs hI=>by
  rw [zAf hI]
  by_cases h3:s<zAd+3
  ·have:decide (zAd≤s∧s<zAd+3)=true:=(hG s).2 ⟨hs,h3⟩
   simp [this]
  ·have:decide (zAd≤s∧s<zAd+3)=false:=decide_eq_false (by omega)
   simp only [this,Bool.false_eq_true,if_false];exact hb s (by omega))
 rwa [zAh] at this
theorem St.regrown (S:St w0 U Φ0 nt hv a w e Φ rv E L) (hb:∀ s,zAd+3≤s→E s = .bad) {d:Option Nat} (hd:∀ x,d=some x→x<nt) {z:Value} {el:TypeId} {sz len m cap:Nat} {xs ys:List PV} {us uys:List Value} {M Ly:List Nat} (hz:z.cells.size=sz) (hO:us.length=len) (hm:uys.length=m) (vZ:xs.length=len) (jv:ys.length=m)
  (jO:∀ x∈xs,x.cells.length=sz) (w5:∀ y∈ys,y.cells.length=sz) (wC:∀ u∈us,u.cells.size=sz) (w6:∀ u∈uys,u.cells.size=sz) (jX:us.map zCh=xs.map PV.isAgg) (qo:uys.map zCh=ys.map PV.isAgg)
  (hr:zA1 w Φ zCj xs us M) (wP:zA1 w Φ zCj ys uys Ly) (yO:len+m≤cap) (w7:∀ b∈M,b∈L (zAd+1)) (qI:∀ b∈Ly,b∈L zAd) (gW:M.Nodup) (hLn:Ly.Nodup) (h:(put d (.own sz (xs++ys))).run o e=some e') :
  Fr w0 U Φ0 nt hv (a.put d (.slice (some ⟨w.heap.size,0,none⟩) (len+m) cap)) (w.drew.alloc (.cells ((flat us).toArray++(flat uys).toArray++Builtin.zeroCells z.cells (cap-(len+m))) el)) e':=by
 have hold:∀ t,t<w.heap.size→(w.drew.alloc (.cells ((flat us).toArray++(flat uys).toArray++Builtin.zeroCells z.cells (cap-(len+m))) el)).heap[t]? = w.heap[t]?:=fun t ht=>by
  show (w.heap.push _)[t]? = _
  rw [Array.getElem?_push,if_neg (by omega)]
 have hΦ:zDf w (w.drew.alloc (.cells ((flat us).toArray++(flat uys).toArray++Builtin.zeroCells z.cells (cap-(len+m))) el)) Φ Φ:=fun t ht=>⟨ht,hold t (S.conf.frz t ht).1⟩
 refine S.made hb hd (Lp:=w.heap.size::(M++Ly)) (fun A=>zQm hz hO hm vZ jv jO w5 wC w6 jX qo (hr.mono hΦ (fun _ _ _ h=>h) fun b hb=>hold b (S.conf.own _ b (w7 b hb)).1) (wP.mono hΦ (fun _ _ _ h=>h) fun b hb=>hold b (S.conf.own _ b (qI b hb)).1) yO ⟨el,?_⟩) ?_ (fun b hb=>?_) ?_ (fun b hb _=>hold b hb) ⟨rfl,rfl,rfl⟩ h
 ·show (w.heap.push _)[w.heap.size]? = _
  simp
 ·refine List.nodup_cons.2 ⟨fun hm=>?_,?_⟩
  ·rcases List.mem_append.1 hm with hm | hm
   ·exact absurd (S.conf.own _ _ (w7 _ hm)).1 (Nat.lt_irrefl _)
   ·exact absurd (S.conf.own _ _ (qI _ hm)).1 (Nat.lt_irrefl _)
  ·rw [List.nodup_append]
   exact ⟨gW,hLn,fun x hx y hy e=>S.conf.disj (zAd+1) zAd (by omega) x (w7 x hx) (e▸qI y hy)⟩
 ·rcases List.mem_cons.1 hb with rfl | hb
  ·exact .inr ⟨Nat.le_refl _,by show _<(w.heap.push _).size;simp⟩
  ·rcases List.mem_append.1 hb with hb | hb
   ·exact .inl ⟨zAd+1,by omega,by omega,w7 b hb⟩
   ·exact .inl ⟨zAd,by omega,by omega,qI b hb⟩
 ·show _≤(w.heap.push _).size
  simp
theorem zMJ (S1:St w0 U Φ0 nt hv a w e Φ rv E L) (y7:∀ s,zAd≤s→s≠zAd→s≠zAd+2→E s = .bad) {d:Option Nat} (hd:∀ x,d=some x→x<nt) {t t2 ty el e2:TypeId} {i:TypeInfo} {vx vy:Value} {r:Nat} {pre:zAT} {zz lo n s sz:Nat} {xs ys:List PV} {uys:List Value} {Ly:List Nat} {xb:Option Addr} {xc:Nat}
  (hE2:E (zAd+2) = .bor r pre zz lo n) (hrv2:rv (zAd+2)=vx) (qp:(Builtin.firstCells sz ys.length (.slice xb ys.length xc)).run P w = .ok (flat uys).toArray w) (jF:zA1 w Φ zCj ys uys Ly) (jq:∀ y∈ys,y.cells.length=sz) (jr:uys.map zCh=ys.map PV.isAgg)
  (hq:zAz (E r).unlock pre=some (.own s xs)) (hs:s=sz) (ht:P.underlying t=some (.slice el)) (kZ:P.underlying t2=some (.slice e2)) (hi:P.info? el=some i) (yf:i.size=sz) (vA:vy = .slice xb ys.length xc) (uE:Nat.beq (lo+n) xs.length=false)
  (h:(zKA d r pre zz lo n s xs ys).run o e=some e'):∃ v w',(Builtin.append_ #[t,t2] ty #[vx,vy]).run P w = .ok v w'∧Fr w0 U Φ0 nt hv (a.put d v) w' e':=by
 subst hs
 obtain ⟨hc,h1⟩:=zAU h
 simp only [Bool.and_eq_true,List.all_eq_true] at hc
 obtain ⟨⟨⟨c1,c2⟩,c3⟩,c4⟩:=hc
 have c1:=zB2 c1
 have c2:=Nat.eq_of_beq_eq_true c2
 have c3:=Nat.le_of_ble_eq_true c3
 subst c2
 have qI:Ly=[]:=zFT c4 jF
 subst qI
 have h2:=S1.conf.drop fun s=>s==zAd
 have S2:=S1.turn (e':=e) h2 (fun s hs=>by
  have:(s==zAd)=false:=by simp;omega
  simp only [this,Bool.false_eq_true,if_false];exact S1.env s hs) (fun _ _=>rfl) (fun d ps hd hp=>by
  have:(d==zAd)=false:=by simp only [zAd,beq_eq_false_iff_ne];omega
  simp only [this,Bool.false_eq_true,if_false] at hp;exact ⟨ps,hp,rfl⟩)
 have hp:=S2.conf.rep (zAd+2)
 have wt:((zAd+2:Nat)==zAd)=false:=by simp
 simp only [wt,Bool.false_eq_true,if_false] at hp
 rw [hE2,hrv2] at hp
 obtain ⟨_,hr,⟨b,cap,yB,yO,wD,uG⟩,hn⟩:=hp
 have jn:(r==zAd)=false:=by simp;omega
 obtain ⟨nv,Li,hf,_,hH⟩:=zBM (zB4 (S2.conf.rep r)) (by simp only [jn,Bool.false_eq_true,if_false];exact hq)
 obtain ⟨sz2,xs2,g1,g2,g3⟩:=hn nv _ hf rfl
 cases g1
 obtain ⟨q1,q2,q3⟩ | ⟨x,m,c,us,M,q0,q1,q2,q3,q4,q5,q6,⟨q7,q7'⟩,q8,q9⟩:=hH
 ·subst q1
  have:lo+n=0:=by simp at c3;omega
  rw [this] at uE;cases uE
 ·subst q1
  simp only [zBW] at g3
  obtain ⟨g3,g4⟩:=g3
  have hO:lo+n+ys.length≤m:=by omega
  have hw:Rep w Φ (zA6 w rv fun s=>if (s==zAd)=true then .bad else E s) (.bor r pre zz lo (n+ys.length)) (.slice (some (zAy x (lo*zz))) (n+ys.length) (m-lo)) []:=by
   refine ⟨rfl,hr,⟨_,_,rfl,by omega,by simp,fun b hb=>by simp only [Option.some.injEq] at hb;rw [← hb];rfl⟩,fun nv' np' ye hh=>?_⟩
   rw [hf] at ye
   cases ye
   exact ⟨_,_,rfl,rfl,rfl,by omega⟩
  have S3:=S2.hold (g:=zAd+2) (by omega) hw
  obtain ⟨w1,e1,rv1,E1,L1,k1,S4,k3,⟨k5,k6⟩,k4⟩:=zKB (z:=zz) (lo:=lo) (n:=n+ys.length) (v := .slice (some (zAy x (lo*zz))) (n+ys.length) (m-lo)) c1 ys uys n S3 zAh zAh (fun s hs hI=>by
   rw [zAf hI]
   by_cases y5:s=zAd
   ·subst y5;simp
   ·have:(s==zAd)=false:=by simpa using y5
    simp only [this,Bool.false_eq_true,if_false];exact y7 s hs y5 hI) (fun y hy=>⟨c4 y hy,jq y hy⟩) jr jF (Nat.le_refl _) h1
  have yH:=zFJ S4 hd (g:=zAd+2) (by omega) (by rw [k5];exact k1) k3
  rw [k6] at yH
  refine ⟨_,w1,?_,yH⟩
  rw [g3,vA]
  have hZ:n+ys.length≤m-lo:=by omega
  rcases k4 with ⟨rfl,rfl⟩ | ⟨b',cap',row,kS,yY,yA,hrm,yJ,rfl⟩
  ·have yt:uys=[]:=List.eq_nil_of_length_eq_zero (by have:=jF.length;simpa using this)
   subst yt
   exact zD6 (i:=i) ht kZ hi (by rw [yf];exact qp) hZ w1 (fun b hb=>by simp [storeCells,flat]) (by simp)
  ·simp only [Value.slice.injEq,Option.some.injEq] at kS
   obtain ⟨rfl,_,_⟩:=kS
   obtain ⟨et,jb⟩:=yA
   have yR:=run_storeCells_at (P:=P) (zAy x (lo*zz)).block ((zAy x (lo*zz)).off+n*zz) et (flat uys) 0 row w jb (by simpa using hrm) yJ
   simp only [Nat.add_zero] at yR
   have qq:(zAy x (lo*zz)).add (n*zz)=⟨(zAy x (lo*zz)).block,(zAy x (lo*zz)).off+n*zz,none⟩:=by rw [zBT rfl];rfl
   exact zD6 (i:=i) ht kZ hi (by rw [yf];exact qp) hZ _ (fun b hb=>by cases hb;rw [yf,qq];exact yR) (by simp)
theorem zPW (S:St w0 U Φ0 nt hv a w e Φ rv E L) (hb:zBy E) {d:Option Nat} (hd:∀ x,d=some x→x<nt) {t t2 ty:TypeId} {x y:Operand} (hx:zAW nt x=true) (hy:zAW nt y=true)
  (h:(zBw P d .append [t,t2] [x,y]).run o e=some e'):∃ v w',(Builtin.append_ #[t,t2] ty #[a.eval x,a.eval y]).run P w = .ok v w'∧Fr w0 U Φ0 nt hv (a.put d v) w' e':=by
 simp only [zBw] at h
 cases jW:(zBX P t2).isNone with
 | true=>rw [jW] at h;cases h
 | false =>
 rw [jW] at h;simp only [cond_false] at h
 have kZ:∃ e2,P.underlying t2=some (.slice e2):=by
  cases he:zBX P t2 with
  | none=>rw [he] at jW;cases jW
  | some e2=>exact ⟨e2,zCw he⟩
 obtain ⟨e2,kZ⟩:=kZ
 split at h
 ·rename_i sz by_ z yC wZ hzz
  obtain ⟨⟨hby16,kb⟩,h1⟩:=zC5 h
  cases yc:zBX P t with
  | none=>rw [yc] at yC;cases yC
  | some el =>
   rw [yc] at yC wZ hzz
   simp only [Option.bind_some] at yC wZ hzz
   have ht:=zCw yc
   obtain ⟨i,hi,yf⟩:=zCf yC
   have hib:i.bytes=by_:=by simp only [zHV,hi,Option.map_some,Option.some.injEq] at wZ;exact wZ
   obtain ⟨i2,z0,vL,kB,_,kW⟩:=zD0 hzz
   rw [hi] at vL;cases vL
   have w8:z0.cells.size=sz:=by rw [(zCt (w:=w) (Φ:=Φ) (A:=zCj) kW).2.1,kb]
   obtain ⟨p,h2,hp⟩:=zBD S hx h1
   have S0:=S.hold (g:=zAd+2) (by omega) hp
   obtain ⟨e1,rv1,E1,L1,ys,uys,Ly,h3,S1,ka,kF,w9,hLyg⟩:=zSw S0 (g:=zAd) (Nat.le_refl _) (by rw [zAf (show zAd≠zAd+2 by omega)];exact hb _ (Nat.le_refl _)) hy h2
   obtain ⟨⟨xb,xc,vA,yM⟩,jF,v8,jr⟩:=kF
   simp only [zKL] at h3
   obtain ⟨hc,h4⟩:=zAU h3
   simp only [Bool.and_eq_true] at hc
   have jq:∀ q∈ys,q.cells.length=sz:=fun q hq=>by
    have:=List.all_eq_true.1 hc.1 q hq
    simp only [Bool.and_eq_true] at this
    exact Nat.eq_of_beq_eq_true this.1
   have ke:=v8 sz jq
   have vB:uys.length=ys.length:=jF.length
   have uH:=ka (zAd+2) (by omega) (by omega)
   rw [zAh,zAh,zAh] at uH
   have kf:=S1.conf.rep (zAd+2)
   rw [uH.1,uH.2.1,uH.2.2] at kf
   have kQ:∀ s,zAd≤s→s≠zAd→s≠zAd+2→E1 s = .bad:=fun s hs h1 h2=>by rw [(ka s hs h1).1,zAf h2];exact hb s hs
   have yJ:∀ u∈flat uys,u.oneCell'=true:=zOv jF jr fun q hq z hz=>by
    have:=List.all_eq_true.1 hc.1 q hq
    simp only [Bool.and_eq_true] at this
    exact List.all_eq_true.1 this.2 z hz
   have y7:∀ s,zAd+3≤s→E1 s = .bad:=fun s hs=>kQ s (by omega) (by omega) (by omega)
   have qJ:∀ t,w.drew.cell? t=w.cell? t:=fun t=>rfl
   have hfd:=yM sz jq P w.drew qJ
   have qp:=yM sz jq P w (fun _=>rfl)
   rw [vA] at hfd qp
   split at h4
   ·rename_i r pre zz lo n
    obtain ⟨q,hq,h5⟩:=zBU h4
    split at h5
    ·rename_i s xs
     obtain ⟨yy,h6⟩:=zAU h5
     cases uE:Nat.beq (lo+n) xs.length with
     | false =>
      rw [uE] at h6
      simp only [cond_false] at h6
      simp only [Bool.and_eq_true] at yy
      exact zMJ S1 kQ hd uH.1 uH.2.1 qp jF jq jr (by rw [S1.env r kf.2.1];exact hq) (Nat.eq_of_beq_eq_true yy.1.1) ht kZ hi yf vA uE h6
     | true =>
     rw [uE] at h6
     have h7:=h6
     simp only [cond_true] at h7
     obtain ⟨gX,h8⟩:=zAU h7
     simp only [Bool.and_eq_true] at yy
     have hs:=Nat.eq_of_beq_eq_true yy.1.1
     have kG:=Nat.le_of_ble_eq_true yy.2
     have hln:=Nat.eq_of_beq_eq_true uE
     have uC:=Nat.eq_of_beq_eq_true gX
     subst hs;subst uC
     have v5:n=xs.length:=by omega
     subst v5
     obtain ⟨root,hl,hm,h9⟩:=zCl h8
     have hr:r<zAd:=kf.2.1
     have yF:=zBE hl
     rw [yF,← S1.env r hr] at hq
     rw [← S1.env r hr] at yF hm
     obtain ⟨kk1,kk2⟩:=zBL (q' := .bad) rfl rfl hm
     obtain ⟨nv,Li,g1,g2,g3,g4,g5⟩:=S1.taken (g:=zAd+1) (by omega) hr yF hq rfl hm kk1 kk2
     have j8:zBW (a.eval x) nv s 0 xs.length:=by
      obtain ⟨_,_,_,hn⟩:=kf
      obtain ⟨s2,xs2,q1,q2,q3⟩:=hn nv _ (by rw [yF];exact g1) rfl
      cases q1;subst q2;exact q3
     obtain ⟨L2,S2,ub⟩:=g5 _ nv Li g2 g3 (fun b hb => .inl hb)
     have uI:∀ t,zAd+3≤t→upd (upd E1 r root) (zAd+1) (PV.own s xs) t = .bad:=fun t ht=>by
      rw [zAf (by omega),zAf (by omega)];exact y7 t ht
     have vC:∀ b∈Ly,b∈L2 zAd:=fun b hb=>by rw [ub zAd (Nat.le_refl _) (by omega)];exact hLyg b hb
     have hg1r:zAd+1≠r:=by omega
     have hLi2:Rep w Φ (zA6 w (upd rv1 (zAd+1) nv) (upd (upd E1 r root) (zAd+1) (.own s xs))) (.own s xs) nv (L2 (zAd+1)):=by
      have:=S2.conf.rep (zAd+1)
      rwa [zAh,zAh] at this
     have hLiE:Li=L2 (zAd+1):=Rep.uniq _ _ _ _ g2 hLi2
     obtain ⟨q1,q2,q3⟩ | ⟨b,cap,c,us,M,q0,q1,q2,q3,q4,q5,q6,⟨q7,q7'⟩,q8,q9⟩:=g2
     ·
      subst q1;subst q3
      have wB:a.eval x = .slice none 0 0:=j8.1
      rw [wB,vA]
      by_cases hy0:ys.length=0
      ·have hyn:ys=[]:=List.eq_nil_of_length_eq_zero hy0
       subst hyn
       have hun:uys=[]:=List.eq_nil_of_length_eq_zero (by simpa using vB)
       subst hun
       refine ⟨_,w,zD6 (i:=i) ht kZ hi (by rw [yf];exact qp) (by simp) w (by simp) (fun _=>rfl),?_⟩
       exact zAG (S2.clear.choose_spec.choose_spec.choose_spec.choose_spec.1) (S2.clear.choose_spec.choose_spec.choose_spec.choose_spec.2) hd h9 (v := .slice none (0+0) 0) (.inl ⟨rfl,rfl,rfl⟩)
      ·have yO:0+ys.length≤grownCap w (0+ys.length) 0 el:=grownCap_ge w _ _ _
       refine ⟨_,_,zFD (a:=none) (old:=[]) (news:=flat uys) ht kZ hi kB (by rw [yf];exact run_firstCells_none _ _ _ _ _) (by rw [yf];exact hfd) (by omega) (by simp only [zAC,List.length_nil] at kG;omega) (by omega),?_⟩
       have:=S2.regrown uI hd (z:=z0) (el:=el) (sz:=s) (len:=0) (m:=ys.length) (xs:=[]) (us:=[]) (M:=[]) w8 rfl vB rfl rfl (by simp) jq (by simp) ke rfl jr ⟨rfl,rfl⟩ jF yO (by simp) vC List.nodup_nil w9 (by simpa using h9)
       simpa [flat] using this
     ·have yt:us.length=xs.length:=by have:=congrArg List.length q7';simpa using this
      subst q1
      simp only [zBW] at j8
      have v9:zAy b (0*s)=b:=by cases b;simp_all [zAy]
      have wN:a.eval x = .slice (some b) xs.length cap:=by rw [j8.1,v9];rfl
      have w7:∀ t∈M,t∈L2 (zAd+1):=fun t ht=>by rw [← hLiE,q0];simp [ht]
      have jC:b.block∈L2 (zAd+1):=by rw [← hLiE,q0];simp
      have gW:M.Nodup∧b.block∉M:=by rw [q0] at g3;exact ⟨(List.nodup_cons.1 g3).2,(List.nodup_cons.1 g3).1⟩
      rw [wN,vA]
      by_cases hZ:xs.length+ys.length≤cap
      ·
       have wT:(xs.length+ys.length)*s≤cap*s:=Nat.mul_le_mul_right _ hZ
       rw [Nat.add_mul] at wT
       have hful:(flat uys).length=ys.length*s:=by rw [zBn ke,vB]
       have zLA:b.off+xs.length*s+(flat uys).length≤c.size:=by omega
       obtain ⟨et,jb⟩:=q4
       have yR:=run_storeCells_at (P:=P) b.block (b.off+xs.length*s) et (flat uys) 0 c w jb (by simpa using zLA) yJ
       simp only [Nat.add_zero] at yR
       have qq:b.add (xs.length*s)=⟨b.block,b.off+xs.length*s,none⟩:=by rw [zBT q2];rfl
       refine ⟨_,_,zD6 (i:=i) ht kZ hi (by rw [yf];exact qp) hZ (w.setRow b.block (zBf c (b.off+xs.length*s) (flat uys))) (fun b' yE=>by cases yE;rw [yf,qq];exact yR) (by simp),?_⟩
       have yd:∀ t,t≠b.block→(w.setRow b.block (zBf c (b.off+xs.length*s) (flat uys))).heap[t]? = w.heap[t]?:=fun t ht=>setRow_other w _ t _ ht
       have hΦ:zDf w (w.setRow b.block (zBf c (b.off+xs.length*s) (flat uys))) Φ Φ:=fun t ht=>⟨ht,yd t fun hc=>(S2.conf.own _ _ jC).2.1 (hc▸ht)⟩
       refine S2.made uI hd (Lp:=b.block::(M++Ly)) (fun A=>?_) ?_ (fun t ht=>?_) (by rw [setRow_size];exact Nat.le_refl _) (fun t _ hn=>yd t fun hc=>hn (zAd+1) (by omega) (by omega) (hc▸jC)) ⟨rfl,rfl,rfl⟩ h9
       ·refine .inr ⟨b,cap,_,us++uys,M++Ly,rfl,by simp,q2,by simpa using hZ,⟨et,setRow_heap w _ _ _ et _ jb⟩,?_,fun y hy=>?_,⟨fun u hu=>?_,by simp [q7',jr]⟩,?_,?_⟩
        ·rw [zGm zLA];exact q5
        ·rcases List.mem_append.1 hy with h | h
         ·exact q6 y h
         ·exact jq y h
        ·rcases List.mem_append.1 hu with h | h
         ·exact q7 u h
         ·exact ke u h
        ·rw [List.length_append,Nat.add_mul,zCO,zHu (by omega) (by omega) (by omega),show b.off+xs.length*s-b.off=xs.length*s by omega,← zOA (by omega),q8]
         have:(seg c b.off (xs.length*s+ys.length*s)).drop (xs.length*s+(flat uys).length)=[]:=by
          apply List.drop_of_length_le;simp only [seg,List.length_take];omega
         rw [this];simp
        ·exact (q9.mono hΦ (fun _ _ _ h=>h) fun t ht=>yd t fun hc=>gW.2 (hc▸ht)).append (jF.mono hΦ (fun _ _ _ h=>h) fun t ht=>yd t fun hc=>S2.conf.disj (zAd+1) zAd (by omega) _ jC (hc▸vC t ht))
       ·refine List.nodup_cons.2 ⟨fun hm=>?_,?_⟩
        ·rcases List.mem_append.1 hm with hm | hm
         ·exact gW.2 hm
         ·exact S2.conf.disj (zAd+1) zAd (by omega) _ jC (vC _ hm)
        ·rw [List.nodup_append]
         exact ⟨gW.1,w9,fun t ht y hy e=>S2.conf.disj (zAd+1) zAd (by omega) t (w7 t ht) (e▸vC y hy)⟩
       ·rcases List.mem_cons.1 ht with rfl | ht
        ·exact .inl ⟨zAd+1,by omega,by omega,jC⟩
        ·rcases List.mem_append.1 ht with ht | ht
         ·exact .inl ⟨zAd+1,by omega,by omega,w7 t ht⟩
         ·exact .inl ⟨zAd,by omega,by omega,vC t ht⟩
      ·have yO:xs.length+ys.length≤grownCap w (xs.length+ys.length) cap el:=grownCap_ge w _ _ _
       have hold:=zId (n:=xs.length) (xc:=cap) q2 q4.any yt q7 q8 P w.drew qJ
       refine ⟨_,_,zFD (a:=some b) (old:=flat us) (news:=flat uys) ht kZ hi kB (by rw [yf];exact hold) (by rw [yf];exact hfd) hZ (by simp only [zAC] at kG;omega) (by omega),?_⟩
       exact S2.regrown uI hd (z:=z0) (el:=el) (sz:=s) (len:=xs.length) (m:=ys.length) w8 yt vB rfl rfl q6 jq q7 ke q7' jr q9 jF yO w7 vC gW.1 w9 h9
    ·cases h5
   ·rename_i zz
    obtain ⟨kG,h5⟩:=zAU h4
    have kG:=Nat.le_of_ble_eq_true kG
    have wB:a.eval x = .slice none 0 0:=kf.1
    rw [wB,vA]
    by_cases hy0:ys.length=0
    ·have hyn:ys=[]:=List.eq_nil_of_length_eq_zero hy0
     subst hyn
     have hun:uys=[]:=List.eq_nil_of_length_eq_zero (by simpa using vB)
     subst hun
     have hf:=yM sz (by simp) P w (fun _=>rfl)
     rw [vA] at hf
     refine ⟨_,w,zD6 (i:=i) ht kZ hi (by rw [yf];exact hf) (by simp) w (by simp) (fun _=>rfl),?_⟩
     have:=zAG (S1.clear.choose_spec.choose_spec.choose_spec.choose_spec.1) (S1.clear.choose_spec.choose_spec.choose_spec.choose_spec.2) hd h5 (v := .slice none (0+0) 0) (.inl ⟨rfl,rfl,rfl⟩)
     exact this
    ·have hL1:L1 (zAd+1)=[]:=by
      have:=S1.conf.rep (zAd+1)
      rw [kQ (zAd+1) (by omega) (by omega) (by omega)] at this;exact this
     have yO:0+ys.length≤grownCap w (0+ys.length) 0 el:=grownCap_ge w _ _ _
     refine ⟨_,_,zFD (a:=none) (old:=[]) (news:=flat uys) ht kZ hi kB (by rw [yf];exact run_firstCells_none _ _ _ _ _) (by rw [yf];exact hfd) (by omega) (by simp only [zAC] at kG;omega) (by omega),?_⟩
     have:=S1.regrown y7 hd (z:=z0) (el:=el) (sz:=sz) (len:=0) (m:=ys.length) (xs:=[]) (us:=[]) (M:=[]) w8 rfl vB rfl rfl (by simp) jq (by simp) ke rfl jr ⟨rfl,rfl⟩ jF yO (by simp) hLyg List.nodup_nil w9 (by simpa using h5)
     simpa [flat] using this
   ·cases h4
 ·cases h
end
end Go.Eng
namespace Go.Eng
open Go
section
variable {P:Program} {w0 w:World} {U Φ0 Φ:Nat→Prop} {nt:Nat} {hv:Hid} {a:Act} {e e':Env} {rv:Nat→Value} {E:Nat→PV} {L:Nat→List Nat} {o:zAL}
theorem zOS (S:St w0 U Φ0 nt hv a w e Φ rv E L) (hb:zBy E) {d:Option Nat} (hd:∀ x,d=some x→x<nt) {t:TypeId} (h:(put d (.omap [])).run o e=some e') :
  ∃ v w',(Instr.makeMap t none).run P w = .ok v w'∧Fr w0 U Φ0 nt hv (a.put d v) w' e':=by
 refine ⟨.map (some w.heap.size),{w with heap:=w.heap.push (.map #[] 0)},by simp [Instr.makeMap],?_⟩
 refine S.made (p := .omap []) (v := .map (some w.heap.size)) (fun s hs=>hb s (by omega)) hd (Lp:=[w.heap.size]) (fun A=>⟨w.heap.size,#[],rfl,rfl,by simp,rfl⟩) (by simp) (fun b yE => .inr ?_) (by simp) (fun b yE _=>?_) ⟨rfl,rfl,rfl⟩ h
 ·simp only [List.mem_singleton] at yE;subst yE;exact ⟨Nat.le_refl _,by simp⟩
 ·show (w.heap.push _)[b]? = _
  rw [Array.getElem?_push,if_neg (by omega)]
theorem zGc {z:Value} {s:Nat} (hz:z.cells.size=s) {l k:Nat} {u:Value} (h:(flat (List.replicate l z))[k]? = some u):(madeCells z.cells (k+1))[k]? = some u:=by
 have hO:(flat (List.replicate l z)).length=l*s:=by
  rw [zBn (sz:=s) (fun u hu=>by rw [List.eq_of_mem_replicate hu];exact hz)];simp
 have hk:k<l*s:=by rw [← hO];exact (List.getElem?_eq_some_iff.1 h).1
 have hs:0<s:=Nat.pos_of_ne_zero fun h0=>by subst h0;simp at hk
 have hdm:k / s*s+k % s=k:=Nat.div_add_mod' k s
 have hq:k / s<l:=Nat.div_lt_of_lt_mul (by rw [Nat.mul_comm];exact hk)
 have hr:k % s<s:=Nat.mod_lt _ hs
 have hzc : z.cells.toList[k % s]? = some (z.cells[k % s]'(by omega)) := by simp
 have:=zDQ (sz:=s) (us:=List.replicate l z) (fun u hu=>by rw [List.eq_of_mem_replicate hu];exact hz) (i:=k / s) (c:=k % s) (x:=z) (by simp [hq]) hzc
 rw [hdm,h] at this
 simp only [Option.some.injEq] at this
 subst this
 simp [madeCells,hz,getElem!_pos,hr]
theorem zNI {z:Array Value} {n m k:Nat} (hk:k<n) (hm:k<m):(madeCells z n)[k]? = (madeCells z m)[k]?:=by
 simp [madeCells,hk,hm]
theorem zLZ (S:St w0 U Φ0 nt hv a w e Φ rv E L) (hb:zBy E) {d:Option Nat} (hd:∀ x,d=some x→x<nt) {t:TypeId} {l c:Operand} (hl:zAW nt l=true) (hc:zAW nt c=true) (h:(zEX P d t l c).run o e=some e') :
  ∃ v w',(Instr.makeSlice t (a.eval l) (a.eval c)).run P w = .ok v w'∧Fr w0 U Φ0 nt hv (a.put d v) w' e':=by
 obtain ⟨p,h1,hp⟩:=zBD S hl h
 obtain ⟨kl,l,rfl,vb,h2⟩:=zEy h1
 obtain ⟨q,h3,hq⟩:=zBD S hc h2
 obtain ⟨kc,c,rfl,v0,h4⟩:=zEy h3
 split at h4
 ·rename_i el yc
  split at h4
  ·rename_i z s by_ hz hs wZ
   obtain ⟨⟨hlc,kG,hb16,kb⟩,h5⟩:=zC5 h4
   obtain ⟨i,zv,hi,hzv,_,kW⟩:=zD0 hz
   obtain ⟨i2,vL,qK⟩:=zCf hs
   rw [hi] at vL;cases vL
   have hib:i.bytes=by_:=by simp only [zHV,hi,Option.map_some,Option.some.injEq] at wZ;exact wZ
   have ht:=zCw yc
   simp only [zAC] at kG
   have hbb:(i.bytes:Int)*c≤281474976710656:=by
    have h1:i.bytes*c.toNat≤16384*4294967296:=Nat.mul_le_mul (by omega) kG
    have h2:((i.bytes*c.toNat:Nat):Int)=(i.bytes:Int)*c:=by rw [Int.natCast_mul,Int.toNat_of_nonneg v0]
    omega
   have hX:=run_make (P:=P) w t el i zv ht hi hzv kl kc l c vb (by omega) hbb (by omega)
   obtain ⟨vN,uv,kR,_⟩:=zCt (w:=w) (Φ:=Φ) (A:=zCj) kW
   have ug:zv.cells.size=s:=by rw [uv,kb]
   rw [hp.1,hq.1]
   refine ⟨_,_,hX,?_⟩
   refine S.made (p := .own s (List.replicate l.toNat z)) (fun s hs=>hb s (by omega)) hd (Lp:=[w.heap.size]) (fun A=>?_) (by simp) (fun b yE => .inr ?_) (by simp) (fun b yE _=>?_) ⟨rfl,rfl,rfl⟩ h5
   ·refine .inr ⟨⟨w.heap.size,0,none⟩,c.toNat,_,List.replicate l.toNat zv,[],rfl,by simp,rfl,by simpa using hlc,⟨el,by show (w.heap.push _)[w.heap.size]? = _;simp;rfl⟩,?_,fun x hx=>?_,⟨fun u hu=>?_,?_⟩,?_,?_⟩
    ·rw [size_madeCells,qK];simp
    ·rw [List.eq_of_mem_replicate hx];exact kb
    ·rw [List.eq_of_mem_replicate hu];exact ug
    ·simp [kR]
    ·rw [List.length_replicate]
     refine zHq ?_ fun k u hk=>?_
     ·rw [zBn (sz:=s) (fun u hu=>by rw [List.eq_of_mem_replicate hu];exact ug)];simp
     ·have hO:(flat (List.replicate l.toNat zv)).length=l.toNat*s:=by
       rw [zBn (sz:=s) (fun u hu=>by rw [List.eq_of_mem_replicate hu];exact ug)];simp
      have uh:k<l.toNat*s:=by rw [← hO];exact (List.getElem?_eq_some_iff.1 hk).1
      have yI:l.toNat*s≤c.toNat*s:=Nat.mul_le_mul_right _ hlc
      rw [Nat.zero_add,qK,zNI (m:=k+1) (by omega) (by omega)]
      exact zGc ug hk
    ·have key:∀ n,zA1 (w.alloc (.cells (madeCells zv.cells (c.toNat*i.size)) el)) Φ zCj (List.replicate n z) (List.replicate n zv) []:=by
      intro n
      induction n with
      | zero=>exact ⟨rfl,rfl⟩
      | succ n ih =>
       exact ⟨zv,_,[],[],rfl,rfl,(zCt kW).1,ih⟩
     exact key _
   ·simp only [List.mem_singleton] at yE;subst yE
    exact ⟨Nat.le_refl _,by show _<(w.heap.push _).size;simp⟩
   ·show (w.heap.push _)[b]? = _
    rw [Array.getElem?_push,if_neg (by omega)]
  ·cases h4
 ·cases h4
theorem zIq (S:St w0 U Φ0 nt hv a w e Φ rv E L) {x:Option Operand} (hx:∀ y,x=some y→zAW nt y=true) {n:Nat} {k:Nat→PM} (h:(zRd x n k).run o e=some e') :
  ∃ m,(k m).run o e=some e'∧((x=none∧m=n)∨∃ y ik z,x=some y∧a.eval y = .int ik z∧0≤z∧m=z.toNat):=by
 cases x with
 | none=>exact ⟨n,h,.inl ⟨rfl,rfl⟩⟩
 | some y =>
  obtain ⟨p,h1,h2⟩:=zBD S (hx y rfl) h
  obtain ⟨ik,z,rfl,hz,h3⟩:=zEy h1
  exact ⟨z.toNat,h3,.inr ⟨y,ik,z,rfl,h2.1,hz,rfl⟩⟩
theorem zEu {ik:IntKind} {z:Int} {y:Nat} {cd:BoundsCode} (h0:0≤z) (h:z.toNat≤y):(Instr.sliceBound (.int ik z) y cd).run P w = .ok z.toNat w:=by
 have:z≤y:=by omega
 simp [Instr.sliceBound,asIntOf,h0,this]
theorem zJN {isS:Bool} {len cap l h:Nat} {lo hi:Option Value} (hh:(hi=none∧h=len)∨∃ ik z,hi=some (.int ik z)∧0≤z∧h=z.toNat) (hl:(lo=none∧l=0)∨∃ ik z,lo=some (.int ik z)∧0≤z∧l=z.toNat)
  (hlh:l≤h) (hhc:hi≠none→h≤cap):(Instr.sliceBounds isS len cap lo hi none).run P w = .ok (l,h,cap) w:=by
 rcases hh with ⟨rfl,rfl⟩ | ⟨ik,z,rfl,hz,rfl⟩
 ·simp only [Instr.sliceBounds,Sem.run_bind,Sem.run_pure,Result.andThen_ok,Option.isSome_none,Bool.false_eq_true,if_false]
  rcases hl with ⟨rfl,rfl⟩ | ⟨ik',z',rfl,hz',rfl⟩
  ·simp
  ·simp only [Sem.run_bind,zEu hz' hlh,Result.andThen_ok,Sem.run_pure]
 ·simp only [Instr.sliceBounds,Sem.run_bind,Sem.run_pure,Result.andThen_ok,Option.isSome_none,Bool.false_eq_true,if_false]
  rw [zEu hz (hhc (by simp))]
  simp only [Result.andThen_ok]
  rcases hl with ⟨rfl,rfl⟩ | ⟨ik',z',rfl,hz',rfl⟩
  ·simp
  ·simp only [Sem.run_bind,zEu hz' hlh,Result.andThen_ok,Sem.run_pure]
theorem zRL (S : St w0 U Φ0 nt hv a w e Φ rv E L) (hb:zBy E) {d:Option Nat} (hd:∀ x,d=some x→x<nt) {t:TypeId} {x:Operand} {lo hi mx:Option Operand} (hx:zAW nt x=true) (uC:∀ y,lo=some y→zAW nt y=true) (hhi:∀ y,hi=some y→zAW nt y=true) (hmx:∀ y,mx=some y→zAW nt y=true)
  (h:(zJl P d t x lo hi mx).run o e=some e'):∃ v,(Instr.sliceAt t (a.eval x) (lo.map a.eval) (hi.map a.eval) (mx.map a.eval)).run P w = .ok v w∧Fr w0 U Φ0 nt hv (a.put d v) w e':=by
 cases mx with
 | some m =>
  simp only [zJl] at h
  obtain ⟨p,h1,hp⟩:=zBD S hx h
  split at h1
  ·rename_i r pre z a0 n el ht
   obtain ⟨s,hs,h2⟩:=zBI h1
   obtain ⟨ti,jD,yC⟩:=zCf hs
   obtain ⟨mm,h3,h4⟩:=zIq S hmx h2
   obtain ⟨_,hg,⟨b,cap,yB,yO,wD,uG⟩,wA⟩:=hp
   rcases h4 with ⟨h4,_⟩ | ⟨ym,ikm,zm,hym,hem,hzm,rfl⟩
   ·cases h4
   cases hym
   cases hi with
   | none=>cases h3
   | some hi =>
    obtain ⟨hm,h5,h6⟩:=zIq S hhi h3
    rcases h6 with ⟨h6,_⟩ | ⟨yh,ikh,zh,hyh,heh,hzh,rfl⟩
    ·cases h6
    cases hyh
    obtain ⟨lm,h7,h8⟩:=zIq S uC h5
    obtain ⟨hc,h9⟩:=zAU h7
    simp only [Bool.and_eq_true] at hc
    have c1:=Nat.le_of_ble_eq_true hc.1.1
    have c2:=Nat.le_of_ble_eq_true hc.1.2
    have c3:=Nat.le_of_ble_eq_true hc.2
    refine ⟨_,?_,zAG S hb hd h9 (p := .bad) (v := .slice (if zm.toNat=lm then b else b.map (·.add (lm*ti.size))) (zh.toNat-lm) (zm.toNat-lm)) rfl⟩
    rw [yB]
    simp only [Instr.sliceAt,Instr.slice,Sem.run_bind,run_underlying ht,Result.andThen_ok,Option.map_some,hem,heh,Instr.sliceBounds,zEu hzm (show zm.toNat≤cap by omega),zEu hzh c2]
    rcases h8 with ⟨rfl,rfl⟩ | ⟨yl,ikl,zl,rfl,yc,kb,rfl⟩
    ·simp only [Option.map_none,Sem.run_pure,Result.andThen_ok,zAX jD,Sem.run_bind]
    ·simp only [Option.map_some,yc,zEu kb c1,Sem.run_pure,Result.andThen_ok,zAX jD,Sem.run_bind]
  ·cases h1
 | none =>
  simp only [zJl] at h
  obtain ⟨p,h1,hp⟩:=zBD S hx h
  have low:∀ {m:Nat},((lo=none∧m=0)∨∃ y ik z,lo=some y∧a.eval y = .int ik z∧0≤z∧m=z.toNat)→(lo.map a.eval=none∧m=0)∨∃ ik z,lo.map a.eval=some (.int ik z)∧0≤z∧m=z.toNat:=by
   rintro m (⟨rfl,rfl⟩ | ⟨y,ik,z,rfl,h2,h3,h4⟩)
   ·exact .inl ⟨rfl,rfl⟩
   ·exact .inr ⟨ik,z,by simp [h2],h3,h4⟩
  have hgh:∀ {m n:Nat},((hi=none∧m=n)∨∃ y ik z,hi=some y∧a.eval y = .int ik z∧0≤z∧m=z.toNat)→(hi.map a.eval=none∧m=n)∨∃ ik z,hi.map a.eval=some (.int ik z)∧0≤z∧m=z.toNat:=by
   rintro m n (⟨rfl,rfl⟩ | ⟨y,ik,z,rfl,h2,h3,h4⟩)
   ·exact .inl ⟨rfl,rfl⟩
   ·exact .inr ⟨ik,z,by simp [h2],h3,h4⟩
  split at h1
  ·
   rename_i n el ht
   split at h1
   ·rename_i s sh hs ja
    obtain ⟨hm,h2,h3⟩:=zIq S hhi h1
    obtain ⟨lm,h4,h5⟩:=zIq S uC h2
    obtain ⟨hc,h6⟩:=zAU h4
    simp only [Bool.and_eq_true,Bool.or_eq_true] at hc
    obtain ⟨⟨c1,c2⟩,c3⟩:=hc
    have c1:=Nat.le_of_ble_eq_true c1
    have c2:=Nat.le_of_ble_eq_true c2
    obtain ⟨ti,jD,yC⟩:=zCf hs
    have hbnd:=zJN (P:=P) (w:=w) (isS:=false) (len:=n) (cap:=n) (hgh h3) (low h5) c1 (fun _=>c2)
    have kY:∀ b:Addr,b.spot=none→(if n=lm then b else b.add (lm*ti.size))=zAy b (lm*s):=by
     intro b yY
     split
     ·rename_i qC
      have vb:lm=0:=by
       rcases c3 with c3 | c3
       ·exact Nat.eq_of_beq_eq_true c3
       ·have:=zB2 c3;omega
      rw [vb];cases b;simp_all [zAy]
     ·rw [zBT yY,yC]
    split at h6
    ·rename_i r pre i c s'
     obtain ⟨_,hg,b,yT,yY,hn⟩:=hp
     refine ⟨.slice (some (zAy b (lm*s))) (hm-lm) (n-lm),?_,zAG S hb hd h6 ⟨rfl,hg,zAy b (lm*s),n-lm,rfl,by omega,rfl,fun nv np hf a' kC=>?_⟩⟩
     ·rw [yT]
      simp only [Instr.sliceAt,Sem.run_bind,run_underlying ht,Result.andThen_ok,Instr.sureAddr,Sem.run_pure,Option.map_none]
      rw [hbnd]
      simp only [Result.andThen_ok,zAX jD,Sem.run_bind,Sem.run_pure]
      rw [kY b yY]
     ·have key:∃ a0,zA7 nv np i c=some a0∧a'=zAy a0 (lm*s):=by
       cases np<;>try (simp [zA7] at kC;done)
       ·cases nv with
        | slice x _ _ =>
         cases x with
         | none=>cases kC
         | some x=>simp only [zA7] at kC ⊢;cases kC;exact ⟨_,rfl,by simp [zAy,Nat.add_assoc]⟩
        | pointer x=>cases x<;>cases kC
        | _=>cases kC
       ·cases nv with
        | pointer x =>
         cases x with
         | none=>cases i<;>cases kC
         | some x=>cases i<;>simp only [zA7] at kC ⊢ <;> cases kC;exact ⟨_,rfl,by simp [zAy,Nat.add_assoc]⟩
        | slice x _ _=>cases x<;>cases kC
        | _=>cases kC
      obtain ⟨a0,k1,k2⟩:=key
      rw [k2,hn nv np hf a0 k1]
    ·rename_i cs
     obtain ⟨gX,h7⟩:=zAU h6
     simp only [Bool.and_eq_true,zCi] at gX
     obtain ⟨⟨c4,⟨c5,c6⟩⟩,c7⟩:=gX
     have c4:=Nat.le_of_ble_eq_true c4
     have c5:=Nat.eq_of_beq_eq_true c5
     obtain ⟨_,b,c,u,yT,yY,hΦ,yA,jY,⟨yt,jX⟩,hr⟩:=hp
     obtain ⟨vs,rfl,hr⟩:=hr
     have uw:=hr.length
     have vN:zA1 w Φ zCj cs vs.toList []:=hr.ways _ _ _ fun a v hw hx ha=>by
      have h0:zBB cs=[]:=by simpa using c7
      rw [h0] at hx
      have h1:=zIs hw ha
      cases u6:a.ways with
      | nil=>exact absurd u6 h1
      | cons z zs=>have:=hx z (by rw [u6];simp);cases this
     obtain ⟨us',q1,q2,q3,q4,q5⟩:=zFX (ag:=sh.isSome) (sz:=s) (fun a v _ h=>h.elim) (hm-lm) _ _ c5 (fun jX=>by
      simp only [jX,Bool.false_or,Bool.and_eq_true] at c6
      exact ⟨Nat.eq_of_beq_eq_true c6.1,fun q hq=>List.all_eq_true.1 c6.2 q hq⟩) (zBS vN (lm*s) ((hm-lm)*s))
     have yL:=zDT sh.isSome s (hm-lm) ((cs.drop (lm*s)).take ((hm-lm)*s))
     refine ⟨.slice (some (zAy b (lm*s))) (hm-lm) (n-lm),?_,zAG S hb hd h7 ?_⟩
     ·rw [yT]
      simp only [Instr.sliceAt,Sem.run_bind,run_underlying ht,Result.andThen_ok,Instr.sureAddr,Sem.run_pure,Option.map_none]
      rw [hbnd]
      simp only [Result.andThen_ok,zAX jD,Sem.run_bind,Sem.run_pure]
      rw [kY b yY]
     ·by_cases gY:hm-lm=0
      ·rw [gY];exact ⟨rfl,.inl ⟨rfl,_,_,rfl,fun h=>by cases h⟩⟩
      ·refine ⟨rfl,.inr ⟨zAy b (lm*s),n-lm,c,us',s,by rw [yL],rfl,by rw [yL];omega,hΦ,yA,q5,⟨q3,q4⟩,?_,q1⟩⟩
       rw [yL,q2]
       simp only [PV.cells,Value.cells] at jY uw
       refine zHq (by simp at c5 uw ⊢;omega) fun k y hk=>?_
       simp only [List.getElem?_take,List.getElem?_drop] at hk
       split at hk
       ·have:(seg c b.off cs.length)[lm*s+k]? = some y:=by rw [jY];exact hk
        have:=zDo this
        simp only [zAy,Nat.add_assoc];exact this
       ·cases hk
    ·cases h6
   ·cases h1
  ·
   rename_i el ht
   split at h1
   ·rename_i s n hs hn
    obtain ⟨hm,h2,h3⟩:=zIq S hhi h1
    obtain ⟨lm,h4,h5⟩:=zIq S uC h2
    obtain ⟨ti,jD,yC⟩:=zCf hs
    have hX:∀ (b:Option Addr) (cap:Nat),a.eval x = .slice b n cap→lm≤hm→hm≤cap→(Instr.sliceAt t (a.eval x) (lo.map a.eval) (hi.map a.eval) (Option.map a.eval none)).run P w = .ok (.slice (if cap=lm then b else b.map (·.add (lm*ti.size))) (hm-lm) (cap-lm)) w:=by
     intro b cap yB k1 k2
     rw [yB]
     simp only [Instr.sliceAt,Instr.slice,Sem.run_bind,run_underlying ht,Result.andThen_ok,Option.map_none]
     rw [zJN (hgh h3) (low h5) k1 (fun _=>k2)]
     simp only [Result.andThen_ok,zAX jD,Sem.run_bind,Sem.run_pure]
    cases p<;>simp only [zNC] at h4<;>try (cases h4;done)
    case sl xs =>
     simp only [lenOf,Option.some.injEq] at hn
     obtain ⟨hc,h6⟩:=zAU h4
     simp only [Bool.and_eq_true] at hc
     obtain ⟨⟨c1,c2⟩,c3⟩:=hc
     have c1:=Nat.le_of_ble_eq_true c1
     have c2:=Nat.le_of_ble_eq_true c2
     obtain ⟨_,⟨rfl,b,n',yB,wD⟩ | ⟨b,n',c,us,sz,yB,yY,yI,hΦ,yA,jO,⟨kM,wM⟩,jY,hr⟩⟩:=hp
     ·have gY:hm=0:=by simpa using c2
      have vb:lm=0:=by omega
      subst gY;subst vb
      refine ⟨_,hX b n' (by rw [yB,← hn];rfl) (Nat.le_refl _) (Nat.zero_le _),zAG S hb hd h6 ?_⟩
      simp only [List.drop_nil,List.take_nil]
      exact ⟨rfl,.inl ⟨rfl,_,_,rfl,fun h=>by
       have v9:b=none:=by cases b<;>first | rfl | (split at h<;>cases h)
       rw [wD v9]⟩⟩
     ·refine ⟨_,hX (some b) n' (by rw [yB,← hn]) c1 (by omega),zAG S hb hd h6 ?_⟩
      have hO:((xs.drop lm).take (hm-lm)).length=hm-lm:=by simp;omega
      by_cases gY:hm-lm=0
      ·have:(xs.drop lm).take (hm-lm)=[]:=List.eq_nil_of_length_eq_zero (by rw [hO,gY])
       rw [this,gY];exact ⟨rfl,.inl ⟨rfl,_,_,rfl,fun h=>by split at h<;>cases h⟩⟩
      ·have yt:us.length=xs.length:=by have:=congrArg List.length wM;simpa using this
       have hx0:∃ x,x∈xs:=by
        cases xs with
        | nil=>simp at c2;omega
        | cons x _=>exact ⟨x,by simp⟩
       obtain ⟨x0,hx0⟩:=hx0
       have wE:sz=s:=by
        have:=Nat.eq_of_beq_eq_true (List.all_eq_true.1 c3 x0 hx0)
        rw [← jO x0 hx0,this]
       subst wE
       rw [if_neg (by omega)]
       simp only [Option.map_some]
       rw [zBT yY,yC]
       refine ⟨rfl,.inr ⟨zAy b (lm*sz),n'-lm,c,(us.drop lm).take (hm-lm),sz,by rw [hO],rfl,by rw [hO];omega,hΦ,yA,fun y hy=>jO y (List.mem_of_mem_drop (List.mem_of_mem_take hy)),⟨fun u hu=>kM u (List.mem_of_mem_drop (List.mem_of_mem_take hu)),zA1.map_isAgg wM lm (hm-lm)⟩,?_,zBS hr lm (hm-lm)⟩⟩
       rw [hO];exact zIk kM yt jY (by omega)
    case bor r pre z a0 n0 =>
     simp only [lenOf,Option.some.injEq] at hn
     subst hn
     obtain ⟨hc,h6⟩:=zAU h4
     simp only [Bool.and_eq_true] at hc
     have ug:=Nat.eq_of_beq_eq_true hc.1
     have c1:=Nat.le_of_ble_eq_true hc.2
     subst ug
     obtain ⟨_,hg,⟨b,cap,yB,yO,wD,uG⟩,wA⟩:=hp
     have go : hm≤cap→(put d (bif Nat.beq lm 0||Nat.blt lm hm then .bor r pre z (a0+lm) (hm-lm) else .sl [])).run o e=some e'→∃ v,(Instr.sliceAt t (a.eval x) (lo.map a.eval) (hi.map a.eval) (Option.map a.eval none)).run P w = .ok v w∧Fr w0 U Φ0 nt hv (a.put d v) w e':=by
      intro k1 h6
      refine ⟨_,hX b cap yB c1 k1,zAG S hb hd h6 ?_⟩
      cases ui:(Nat.beq lm 0||Nat.blt lm hm) with
      | false =>
       simp only [Bool.or_eq_false_iff] at ui
       have:¬ lm<hm:=fun yK=>by rw [show Nat.blt lm hm=true from Nat.ble_eq_true_of_le yK] at ui;exact absurd ui.2 (by simp)
       have:hm-lm=0:=by omega
       rw [this];exact ⟨rfl,.inl ⟨rfl,_,_,rfl,fun h=>by
        have v9:b=none:=by cases b<;>first | rfl | (split at h<;>cases h)
        have:=wD v9;omega⟩⟩
      | true =>
       simp only [cond_true]
       have jc:lm=0∨lm<hm:=by
        simp only [Bool.or_eq_true] at ui
        rcases ui with h | h
        ·exact .inl (Nat.eq_of_beq_eq_true h)
        ·exact .inr (zB2 h)
       have kY:(if cap=lm then b else b.map (·.add (lm*ti.size)))=b.map (fun y=>zAy y (lm*z)):=by
        cases b with
        | none=>simp
        | some y =>
         have hy:=uG y rfl
         simp only [Option.map_some]
         split
         ·have vb:lm=0:=by omega
          subst vb;cases y;simp_all [zAy]
         ·rw [zBT hy,yC]
       rw [kY]
       refine ⟨rfl,hg,⟨_,cap-lm,rfl,by omega,fun v9=>?_,fun y hy=>?_⟩,fun nv np hf hh=>?_⟩
       ·have:b=none:=by cases b<;>first | rfl | cases v9
        have:=wD this;omega
       ·cases b with
        | none=>cases hy
        | some y0=>simp only [Option.map_some,Option.some.injEq] at hy;rw [← hy];rfl
       ·obtain ⟨sz2,xs2,g1,g2,g3⟩:=wA nv np hf hh
        refine ⟨sz2,xs2,g1,g2,?_⟩
        subst g2
        rw [yB] at g3
        cases nv<;>simp only [zBW] at g3
        rename_i y l c
        cases y with
        | none =>
         simp only [zBW,Value.slice.injEq] at g3 ⊢
         obtain ⟨⟨k2,k3,k4⟩,k5⟩:=g3
         subst k2
         refine ⟨⟨rfl,by omega,by omega⟩,by omega⟩
        | some y =>
         simp only [zBW,Value.slice.injEq] at g3 ⊢
         obtain ⟨⟨k2,_,k4⟩,k5⟩:=g3
         subst k2
         refine ⟨⟨?_,trivial,by omega⟩,by omega⟩
         simp [zAy,Nat.add_mul,Nat.add_assoc]
     cases qr:Nat.ble hm n0 with
     | true =>
      rw [qr] at h6
      exact go (Nat.le_trans (Nat.le_of_ble_eq_true qr) yO) h6
     | false =>
      rw [qr] at h6;simp only [cond_false] at h6
      obtain ⟨q,hq,h7⟩:=zBU h6
      split at h7
      ·rename_i sz2 xs2
       obtain ⟨yI,h8⟩:=zAU h7
       have yI:=Nat.le_of_ble_eq_true yI
       refine go ?_ h8
       rw [← S.env r hg] at hq
       obtain ⟨nv,Li,hf,_,hH⟩:=zBM (zB4 (S.conf.rep r)) hq
       obtain ⟨sz3,xs3,g1,g2,g3⟩:=wA nv _ hf rfl
       cases g1;subst g2
       rw [yB] at g3
       obtain ⟨q1,_,q3⟩ | ⟨y,m,c,us,M,_,q1,_,q3,_⟩:=hH
       ·subst q1;simp at yI;omega
       ·subst q1
        simp only [zBW,Value.slice.injEq] at g3
        omega
      ·cases h7
   ·cases h1
  ·cases h1
end
end Go.Eng
namespace Go.Eng
open Go
section
variable {w w':World} {Φ Φ':Nat→Prop}
mutual
theorem Rep.free {A A':Al}:∀ (p:PV) (v:Value) (L:List Nat),p.free=true→Rep w Φ A p v L→Rep w Φ' A' p v L
 | .int ..,_,_,_,h=>h
 | .bool _,_,_,_,h=>h
 | .nilp,_,_,_,h=>h
 | .nilf,_,_,_,h=>h
 | .nilm,_,_,_,h=>h
 | .nn,_,_,_,h=>h
 | .nils _,_,_,_,h=>h
 | .und,_,_,_,h=>h
 | .sl [],v,L,_,h=>by
  obtain ⟨h0,⟨_,a,n,h1⟩ | ⟨a,n,c,us,sz,h1,_⟩⟩:=h
  ·exact ⟨h0,.inl ⟨rfl,a,n,h1⟩⟩
  ·exact ⟨h0,.inl ⟨rfl,_,n,h1,fun h=>by cases h⟩⟩
 | .sl (_::_),_,_,hf,_=>by cases hf
 | .agg cs,v,L,hf,h=>by
  obtain ⟨vs,rfl,h⟩:=h
  exact ⟨vs,rfl,zA1.free cs _ L hf h⟩
 | .tup cs,v,L,hf,h=>by
  obtain ⟨vs,rfl,h⟩:=h
  exact ⟨vs,rfl,zA1.free cs _ L hf h⟩
 | .own sz xs,v,L,hf,h=>by
  obtain h | ⟨a,n,c,us,L',h0,h1,h2,h3,h4,h5,h6,h7,h8,h9⟩:=h
  ·exact .inl h
  ·exact .inr ⟨a,n,c,us,L',h0,h1,h2,h3,h4,h5,h6,h7,h8,zA1.free xs us L' hf h9⟩
 | .box q,v,L,hf,h=>by
  obtain ⟨a,c,u,L',h0,h1,h2,h4,h5,h6,h7⟩:=h
  exact ⟨a,c,u,L',h0,h1,h2,h4,h5,h6,Rep.free q u L' hf h7⟩
 | .omap es,v,L,hf,h=>by
  obtain ⟨b,ents,h0,h1,h3,h4⟩:=h
  exact ⟨b,ents,h0,h1,h3,zD8.free es _ 0 hf h4⟩
 | .bad,_,_,hf,_=>by cases hf
 | .ref _,_,_,hf,_=>by cases hf
 | .map _,_,_,hf,_=>by cases hf
 | .func ..,_,_,hf,_=>by cases hf
 | .addr ..,_,_,hf,_=>by cases hf
 | .bor ..,_,_,hf,_=>by cases hf
 | .bsl ..,_,_,hf,_=>by cases hf
 | .bmap ..,_,_,hf,_=>by cases hf
 | .lock _,_,_,hf,_=>by cases hf
 | .yld _,_,_,hf,_=>by cases hf
 | .log ..,_,_,hf,_=>by cases hf
theorem zA1.free {A A':Al}:∀ (ps:List PV) (vs:List Value) (L:List Nat),zER ps=true→zA1 w Φ A ps vs L→zA1 w Φ' A' ps vs L
 | [],_,_,_,h=>h
 | p::ps,vs,L,hf,h=>by
  simp only [zER,Bool.and_eq_true] at hf
  obtain ⟨v,vs',L1,L2,h0,h1,h2,h3⟩:=h
  exact ⟨v,vs',L1,L2,h0,h1,Rep.free p v L1 hf.1 h2,zA1.free ps vs' L2 hf.2 h3⟩
theorem zD8.free:∀ (es:List (PV×PV)) (ms:List MapEntry) (i:Nat),zNO es=true→zD8 w Φ es ms i→zD8 w Φ' es ms i
 | [],_,_,_,h=>h
 | (k,p)::es,ms,i,hf,h=>by
  simp only [zNO,Bool.and_eq_true] at hf
  obtain ⟨m,ms',h0,h1,h2,h3,h4⟩:=h
  exact ⟨m,ms',h0,h1,Rep.free k _ [] hf.1.1 h2,Rep.free p _ [] hf.1.2 h3,zD8.free es ms' (i+1) hf.2 h4⟩
end
end
theorem zCQ (m:List (Nat×Nat)):Tame (zEf m):=by
 constructor
 ·intro p
  cases p<;>simp only [zEf]<;>first | rfl | (split<;>rfl)
 ·intro p hp
  cases p<;>first | (cases hp;done) | skip
  all_goals
   simp only [zEf]
   first | rfl | (split<;>rfl)
section
variable {w w':World} {rv rv':Nat→Value} {E E':Nat→PV}
theorem zLf {m:List (Nat×Nat)} {Φ:Nat→Prop} {a:PV} {v:Value} (ha:zA6 w rv E a v)
  (h:∀ r h',m.lookup r=some h'→r<zAd→h'<zAd∧∀ pre nv np,zAR w' (rv' h') (E' h').unlock pre=some (nv,np)→np.heavy0=true→∃ np0,zAR w (rv r) (E r).unlock pre=some (nv,np0)∧zCd np0 np) :
  Rep w' Φ (zA6 w' rv' E') (zEf m a) v []:=by
 have hr:=zCP ha
 have key:∀ nv np i c a',zA7 nv np i c=some a'→np.heavy0=true:=by
  intro nv np i c a' h
  cases np<;>first | rfl | (simp [zA7] at h)
 cases a<;>simp only [zEf]<;>try (exact ha.elim)
 case addr r pre i c sh =>
  cases hm:m.lookup r with
  | none=>rfl
  | some h' =>
   obtain ⟨h1,h2⟩:=h r h' hm hr
   obtain ⟨_,b,h3,h4,h5⟩:=ha
   refine ⟨rfl,h1,b,h3,h4,fun nv np hn a' kC=>?_⟩
   obtain ⟨np0,h6,h7⟩:=h2 pre nv np hn (key _ _ _ _ _ kC)
   exact h5 nv np0 h6 a' (by rw [zEj h7];exact kC)
 case bor r pre z lo n =>
  cases hm:m.lookup r with
  | none=>rfl
  | some h' =>
   obtain ⟨h1,h2⟩:=h r h' hm hr
   obtain ⟨_,h3,h5⟩:=ha
   refine ⟨rfl,h1,h3,fun nv np hn hh=>?_⟩
   obtain ⟨np0,h6,h7⟩:=h2 pre nv np hn hh
   obtain ⟨sz,xs,g1,g2,g3⟩:=h5 nv np0 h6 (zDC h7)
   subst g1
   cases np<;>simp only [zCd] at h7
   subst h7
   exact ⟨_,_,rfl,g2,g3⟩
 case bsl r pre i c sz ag n =>
  cases hm:m.lookup r with
  | none=>rfl
  | some h' =>
   obtain ⟨h1,h2⟩:=h r h' hm hr
   obtain ⟨_,b,cap,h3,vr,h4,h5⟩:=ha
   refine ⟨rfl,h1,b,cap,h3,vr,h4,fun nv np hn a' kC=>?_⟩
   obtain ⟨np0,h6,h7⟩:=h2 pre nv np hn (key _ _ _ _ _ kC)
   exact h5 nv np0 h6 a' (by rw [zEj h7];exact kC)
 case bmap r pre =>
  cases hm:m.lookup r with
  | none=>rfl
  | some h' =>
   obtain ⟨h1,h2⟩:=h r h' hm hr
   obtain ⟨_,h3,h5⟩:=ha
   refine ⟨rfl,h1,h3,fun nv np hn es he=>?_⟩
   subst he
   obtain ⟨np0,h6,h7⟩:=h2 pre nv _ hn rfl
   cases np0<;>simp only [zCd] at h7
   exact h5 nv _ h6 _ rfl
end
theorem zHz {f:Nat→Nat→Nat×Nat}:∀ (R:List Nat) (k x y:Nat),((R.zipIdx k).map fun p=>f p.1 p.2).lookup x=some y→∃ j r,R[j]? = some r∧f r (k+j)=(x,y)
 | [],k,x,y,h=>by simp at h
 | r :: R,k,x,y,h=>by
  simp only [List.zipIdx_cons,List.map_cons] at h
  cases hf:f r k with
  | mk p1 p2 =>
   rw [hf,List.lookup_cons] at h
   by_cases hx:x=p1
   ·have:(x==p1)=true:=by simp [hx]
    rw [this] at h
    simp only [Option.some.injEq] at h
    exact ⟨0,r,rfl,by rw [Nat.add_zero,hf,hx,h]⟩
   ·have:(x==p1)=false:=by simp [hx]
    rw [this] at h
    obtain ⟨j,r',h1,h2⟩:=zHz R (k+1) x y h
    exact ⟨j+1,r',by simpa using h1,by rw [show k+(j+1)=k+1+j by omega];exact h2⟩
theorem zLv {R:List Nat} {r h:Nat} (hl:(zDl R).lookup r=some h):∃ j,R[j]? = some r∧h=zAl+j:=by
 obtain ⟨j,r',h1,h2⟩:=zHz (f:=fun r j=>(r,zAl+j)) R 0 r h hl
 simp only [Nat.zero_add,Prod.mk.injEq] at h2
 exact ⟨j,h2.1▸h1,h2.2.symm⟩
theorem zNd {R:List Nat} {h r:Nat} (hl:(zB9 R).lookup h=some r):∃ j,R[j]? = some r∧h=zAl+j:=by
 obtain ⟨j,r',h1,h2⟩:=zHz (f:=fun r j=>(zAl+j,r)) R 0 h r hl
 simp only [Nat.zero_add,Prod.mk.injEq] at h2
 exact ⟨j,h2.2▸h1,h2.1.symm⟩
theorem zGe:∀ {R:List Nat},zHc R=true→R.Nodup
 | [],_=>List.nodup_nil
 | r::R,h=>by
  simp only [zHc,Bool.and_eq_true,Bool.not_eq_true'] at h
  exact List.nodup_cons.2 ⟨fun hm=>by have:=List.contains_iff_mem.2 hm;rw [this] at h;exact absurd h.1 (by simp),zGe h.2⟩
section
variable {o:zAL} {e e':Env}
theorem zIE:∀ {R:List Nat} {k:List PV→PM},(zNe R k).run o e=some e'→(∀ r∈R,(e.get r).isLock=false)∧(k (R.map e.get)).run o e=some e'
 | [],k,h=>⟨by simp,h⟩
 | r :: R,k,h=>by
  simp only [zNe,PM.run] at h
  split at h
  ·cases h
  ·rename_i p hp
   obtain ⟨h1,h2⟩:=zIE h
   refine ⟨fun x hx=>?_,h2⟩
   rcases List.mem_cons.1 hx with rfl | hx
   ·cases hl:(e.get x)<;>first | rfl | exact absurd hl (hp _)
   ·exact h1 x hx
theorem zJ4:∀ {n:Nat} {R:List Nat} {k:List Nat→PM},(zJM n R k).run o e=some e'→∃ R',(k R').run o e=some e'
 | 0,R,k,h=>⟨R,h⟩
 | n+1,R,k,h=>by
  simp only [zJM] at h
  obtain ⟨_,h1⟩:=zIE h
  revert h1
  cases Nat.beq _ _ with
  | true=>exact fun h=>⟨_,h⟩
  | false=>exact fun h=>zJ4 h
def zDD:List Nat→PV→PV
 | [],a=>a
 | r::R,a=>if (zBK r [] a).isWay=true then zDD R a else zBK r [] a
theorem zGU (r:Nat) (p:PV):zBK r [] p=p∨(p.isWay=true∧zBK r [] p = .bad):=by
 cases p<;>first | exact .inl rfl | skip
 all_goals
  simp only [zBK,PV.isWay,true_and]
  cases (Nat.beq _ r&&_)<;>simp
theorem zI1:∀ (R:List Nat) (p:PV),zDD R p=p∨(p.isWay=true∧zDD R p = .bad)
 | [],p => .inl rfl
 | r::R,p=>by
  simp only [zDD]
  split
  ·exact zI1 R p
  ·exact zGU r p
theorem zJ8 {k:PM}:∀ {R:List Nat} {e:Env},(zJ2 R k).run o e=some e'→∃ e1,k.run o e1=some e'∧∀ s,e1.get s=(e.get s).mapW (zDD R)
 | [],e,h=>⟨e,h,fun s=>by rw [show zDD []=fun x=>x from rfl,zBg]⟩
 | r::R,e,h=>by
  simp only [zJ2,PM.run] at h
  obtain ⟨e1,h1,h2⟩:=zJ8 h
  refine ⟨e1,h1,fun s=>?_⟩
  rw [h2 s,Env.get_killEx,zEG]
  refine zDq (fun a ha=>?_) _
  simp only [zDD]
  rcases zGU r a with h3 | ⟨_,h3⟩
  ·rw [h3,if_pos ha,zFQ ha]
  ·rw [h3];rfl
theorem zVm {pre:zAT} {y:PV} (hI:PV.bad≠y) (h:(bif !pre.isEmpty then PV.bad else y)=y):pre=[]:=by
 cases pre with
 | nil=>rfl
 | cons x xs=>exact absurd h hI
theorem zJd:∀ {R:List Nat} {a:PV},a.isWay=true→zDD R a=a→(∀ k,a ≠ .yld k)→(∀ xs k,a ≠ .log xs k)→(zA8 a).1∈R→(zA8 a).2=[]
 | [],_,_,_,_,_,h=>by cases h
 | r :: R,a,ha,hk,hy,hl,hm=>by
  simp only [zDD] at hk
  by_cases hr:(zA8 a).1=r
  ·have uC:zBK r [] a=a:=by
    rcases zGU r a with h3 | ⟨_,h3⟩
    ·exact h3
    ·rw [h3] at hk;simp only [PV.isWay,Bool.false_eq_true,if_false] at hk;rw [← hk] at ha;cases ha
   cases a<;>first | (cases ha;done) | (exact absurd rfl (hy _)) | (exact absurd rfl (hl _ _)) | skip
   all_goals
    simp only [zA8] at hr ⊢
    subst hr
    simp only [zBK,Nat.beq_refl,Bool.true_and,List.any_nil,Bool.or_false] at uC
    exact zVm (by simp) uC
  ·have hm':(zA8 a).1∈R:=(List.mem_cons.1 hm).resolve_left hr
   rcases zGU r a with h3 | ⟨_,h3⟩
   ·rw [h3,if_pos ha] at hk;exact zJd ha hk hy hl hm'
   ·rw [h3] at hk;simp only [PV.isWay,Bool.false_eq_true,if_false] at hk;rw [← hk] at ha;cases ha
theorem zLl {k:PM}:∀ {R:List Nat} {os ps:List PV} {e:Env},R.Nodup→(zM7 R os ps k).run o e=some e'→∃ e1,k.run o e1=some e'∧ps.length=R.length∧os.length=R.length∧(∀ (j:Nat) (x y:PV),os[j]? = some x→ps[j]? = some y→zF8 x y=true) ∧
   (∀ s,s∉R→e1.get s=e.get s)∧∀ (j r:Nat) (p:PV),R[j]? = some r→ps[j]? = some p→e1.get r=p
 | [],os,ps,e,hn,h=>by
  cases os<;>cases ps<;>simp only [zM7] at h<;>try (cases h;done)
  exact ⟨e,h,rfl,rfl,by simp,fun _ _=>rfl,by simp⟩
 | r :: R,os,ps,e,hn,h=>by
  cases os<;>cases ps<;>simp only [zM7] at h<;>try (cases h;done)
  rename_i x os y ps
  obtain ⟨h1,h2⟩:=zAU h
  obtain ⟨root,_,hm,h3⟩:=zCl h2
  simp only [zAr,Option.some.injEq] at hm;subst hm
  obtain ⟨hnr,hnR⟩:=List.nodup_cons.1 hn
  obtain ⟨e1,g1,g2,g3,g4,g5,g6⟩:=zLl hnR h3
  refine ⟨e1,g1,by simp [g2],by simp [g3],fun j x' y' hx hy=>?_,fun s hs=>?_,fun j r' p hr hp=>?_⟩
  ·cases j with
   | zero=>simp at hx hy;subst hx;subst hy;exact h1
   | succ j=>exact g4 j x' y' (by simpa using hx) (by simpa using hy)
  ·simp only [List.mem_cons,not_or] at hs
   rw [g5 s hs.2,Env.get_set,if_neg hs.1]
  ·cases j with
   | zero =>
    simp at hr hp;subst hr;subst hp
    rw [g5 _ hnr,Env.get_set,if_pos rfl]
   | succ j=>exact g6 j r' p (by simpa using hr) (by simpa using hp)
theorem zMH (k:Nat):∀ (ps:List PV) (i:Nat) (s:Nat),Env.get ((ps.zipIdx i).map fun x=>(k+x.2,x.1)) s=if k+i≤s∧s<k+i+ps.length then ps.getD (s-k-i) .bad else .bad
 | [],i,s=>by simp [Env.get]
 | p :: ps,i,s=>by
  simp only [List.zipIdx_cons,List.map_cons,Env.get,zMH k ps (i+1) s]
  by_cases h:s=k+i
  ·subst h
   simp
  ·have:Nat.beq (k+i) s=false:=by
    cases hb:Nat.beq (k+i) s with
    | false=>rfl
    | true=>exact absurd (Nat.eq_of_beq_eq_true hb).symm h
   rw [this,cond_false]
   by_cases h2:k+i≤s∧s<k+i+(p::ps).length
   ·have h3:k+(i+1)≤s∧s<k+(i+1)+ps.length:=by simp at h2;omega
    rw [if_pos h2,if_pos h3]
    have e1:s-k-i=(s-k-(i+1))+1:=by omega
    rw [e1];simp
   ·have h3:¬ (k+(i+1)≤s∧s<k+(i+1)+ps.length):=by simp at h2 ⊢;omega
    rw [if_neg h2,if_neg h3]
theorem zOC (a b:Env) (s:Nat):Env.get (a++b) s=bif a.any (fun x=>Nat.beq x.1 s) then Env.get a s else Env.get b s:=by
 induction a with
 | nil=>rfl
 | cons x a ih =>
  obtain ⟨k,v⟩:=x
  simp only [List.cons_append,Env.get,ih,List.any_cons]
  cases Nat.beq k s<;>rfl
end
structure Gave (v:PV) (u:Value) (rv:Nat→Value) (E:Nat→PV):Prop where
 one:(∀ ps,v ≠ .tup ps)→E zAI=v∧rv zAI=u
 many:∀ ps,v = .tup ps→∃ us:Array Value,u = .tuple us∧us.size=ps.length∧∀ (j:Nat) (p:PV),ps[j]? = some p→E (zAI+j)=p∧us[j]? = some (rv (zAI+j))
def zF6 (P:Program) (f:FuncId) (args hid:List PV) (v:PV) (hid':List PV):Prop :=
 ∀ (w:World) (Φ:Nat→Prop) (rv:Nat→Value) (E:Nat→PV) (L:Nat→List Nat) (vs:Array Value),(∀ s,s<zAd→E s=(zA9 args hid).get s)→(∀ s,zAd≤s→E s = .bad)→Conf w (fun b=>∃ s,b∈L s) Φ w Φ rv E L→vs.size=args.length→(∀ i,i<args.length→vs[i]? = some (rv i))→(∀ s,args.length≤s→s<zAl→rv s=undef) →
  Calls P f vs w fun e w'=>∃ u Φ' rv' E' L',e = .returned u∧Conf w (fun b=>∃ s,b∈L s) Φ w' Φ' rv' E' L'∧hid'.length=hid.length ∧
   (∀ j,j<hid.length→E' (zAl+j)=hid'.getD j .bad∧rv' (zAl+j)=rv (zAl+j))∧Gave v u rv' E'
def zCL (P:Program) (f:FuncId):Prop:=∃ fn,P.funcs[f]? = some fn∧fn.body.isNone=false
def zF3 (P:Program) (o:zAL):Prop:=∀ f args hid v hid',o f args hid=some (v,hid')→zCL P f∧zF6 P f args hid v hid'
theorem zC2 {args hid:List PV} (ha:args.length≤zAl) (s:Nat):(zA9 args hid).get s=if s<args.length then args.getD s .bad else if zAl≤s∧s<zAl+hid.length then hid.getD (s-zAl) .bad else .bad:=by
  have e1:(args.zipIdx.map fun (p,i)=>(i,p))=(args.zipIdx 0).map fun x=>(0+x.2,x.1):=by
    apply List.map_congr_left;intro x _;simp
  have e2:(hid.zipIdx.map fun (p,j)=>(zAl+j,p))=(hid.zipIdx 0).map fun x=>(zAl+x.2,x.1):=rfl
  have wa:∀ (ps:List PV) (i:Nat),((ps.zipIdx i).map fun x=>(0+x.2,x.1)).any (fun x=>Nat.beq x.1 s)=decide (i≤s∧s<i+ps.length):=by
    intro ps
    induction ps with
    | nil => intro i;have:¬ (i≤s∧s<i):=by omega
             simp [this]
    | cons p ps ih =>
      intro i
      simp only [List.zipIdx_cons,List.map_cons,List.any_cons,ih (i+1)]
      by_cases h:s=i
      · subst h;simp
      · have:Nat.beq (0+i) s=false:=by
          cases hb:Nat.beq (0+i) s with
          | false=>rfl
          | true=>exact absurd (Nat.eq_of_beq_eq_true hb) (by omega)
        rw [this,Bool.false_or]
        apply decide_eq_decide.2
        simp;omega
  simp only [zA9]
  rw [e1,e2,zOC,wa args 0,zMH,zMH]
  by_cases h:s<args.length
  · have h1:decide (0≤s∧s<0+args.length)=true:=decide_eq_true (by omega)
    rw [h1,cond_true,if_pos (by omega),if_pos h];simp
  · have h1:decide (0≤s∧s<0+args.length)=false:=decide_eq_false (by omega)
    rw [h1,cond_false,if_neg h];simp
section
variable {w0 w w':World} {U Φ0 Φ Φ1 Φ' Φ2:Nat→Prop} {rv rv':Nat→Value} {E E':Nat→PV} {L L':Nat→List Nat}
def zUx (w:World) (rv:Nat→Value) (E:Nat→PV) (Φ1:Nat→Prop) (i:Nat) (x:Arg):Prop :=
 (x.byref=true∧x.p=E (zAd+i))∨(x.byref=false∧x.p=E (zAd+i)∧(E (zAd+i)).ways=[])∨(x.byref=false∧Rep w Φ1 zCj x.p (rv (zAd+i)) [])
def zMP (R:List Nat) (x:Arg):PV:=if x.byref then zGg (zDl R) x.p else x.p
theorem zSU {A A':Al} {p:PV} {v:Value} {M:List Nat} (hp:p.ways=[]) (hA:∀ a v,a.isWay=true→A a v→a.ways≠[]) (h:Rep w Φ A p v M):Rep w Φ A' p v M :=
 h.ways _ _ _ fun a v hw hx ha=>by
  rw [hp] at hx
  have h1:=hA a v hw ha
  cases u6:a.ways with
  | nil=>exact absurd u6 h1
  | cons z zs=>have:=hx z (by rw [u6];simp);cases this
open Classical in
theorem zO4 (C:Conf w0 U Φ0 w Φ rv E L) {R:List Nat} (hR:R.Nodup) (gZ:∀ r∈R,(E r).isLock=false) (vc:∀ r∈R,r<zAd) (hRn:R.length≤1000) {as:List Arg} (hAn:as.length≤1000) (hΦ:∀ b,Φ b→Φ1 b) (hΦs:∀ b,Φ1 b→b<w.heap.size)
  (hΦR:∀ r∈R,∀ b∈L r,¬ Φ1 b) (hΦa:∀ i,i<as.length→∀ b∈L (zAd+i),¬ Φ1 b) (hA:∀ i x,as[i]? = some x→zUx w rv E Φ1 i x) :
  ∃ rvc Ec Lc,(∀ s,s<zAd→Ec s=(zA9 (as.map (zMP R)) (R.map fun r=>zGg (zDl R) (E r))).get s)∧(∀ s,zAd≤s→Ec s = .bad)∧Conf w (fun b=>∃ s,b∈Lc s) Φ1 w Φ1 rvc Ec Lc ∧
   (∀ i,i<as.length→rvc i=rv (zAd+i))∧(∀ (j r:Nat),R[j]? = some r→rvc (zAl+j)=rv r)∧(∀ s,as.length≤s→s<zAl→rvc s=undef)∧∀ b,(∃ s,b∈Lc s)→(∃ r∈R,b∈L r)∨∃ i,i<as.length∧b∈L (zAd+i):=by
 let K:Nat→Prop:=fun i=>∃ x,as[i]? = some x∧x.byref=false∧Rep w Φ1 zCj x.p (rv (zAd+i)) []
 let src:Nat→Option Nat:=fun s=>if s<as.length then (if K s then none else some (zAd+s)) else if zAl≤s then R[s-zAl]? else none
 let rvc:Nat→Value:=fun s=>if s<as.length then rv (zAd+s) else match src s with | some t=>rv t | none=>undef
 let Lc:Nat→List Nat:=fun s=>match src s with | some t=>L t | none=>[]
 let Ec:Nat→PV:=fun s=>if s<zAd then (zA9 (as.map (zMP R)) (R.map fun r=>zGg (zDl R) (E r))).get s else .bad
 have hh:zAl=50000000:=rfl
 have wF:zAd=1000000000:=rfl
 have yS:∀ s,s<zAd→Ec s=if s<as.length then (as.map (zMP R)).getD s .bad else if zAl≤s∧s<zAl+R.length then (R.map fun r=>zGg (zDl R) (E r)).getD (s-zAl) .bad else .bad:=by
  intro s hs
  simp only [Ec,if_pos hs]
  rw [zC2 (by simp;omega)]
  simp
 have hEh:∀ (j r:Nat),R[j]? = some r→Ec (zAl+j)=(E r).mapW (zEf (zDl R)):=by
  intro j r hj
  have kO:j<R.length:=(List.getElem?_eq_some_iff.1 hj).1
  rw [yS _ (by omega),if_neg (by omega),if_pos (by omega)]
  simp [List.getD,hj,zGg]
 have hrh:∀ (j r:Nat),R[j]? = some r→rvc (zAl+j)=rv r:=by
  intro j r hj
  have kO:j<R.length:=(List.getElem?_eq_some_iff.1 hj).1
  have:src (zAl+j)=some r:=by
   simp only [src]
   rw [if_neg (by omega),if_pos (by omega),Nat.add_sub_cancel_left,hj]
  simp only [rvc,this]
  rw [if_neg (by omega)]
 have qt:∀ s t,src s=some t→(t∈R∧∃ j,s=zAl+j∧R[j]? = some t)∨(s<as.length∧t=zAd+s∧¬ K s):=by
  intro s t h
  simp only [src] at h
  split at h
  ·rename_i hs
   split at h
   ·cases h
   ·rename_i hk;cases h;exact .inr ⟨hs,rfl,hk⟩
  ·split at h
   ·rename_i hs
    exact .inl ⟨List.mem_of_getElem? h,s-zAl,by omega,h⟩
   ·cases h
 have qu:∀ s s' t,src s=some t→src s'=some t→s=s':=by
  intro s s' t h h'
  rcases qt s t h with ⟨h1,j,h2,h3⟩ | ⟨h1,h2,_⟩<;>rcases qt s' t h' with ⟨jT,j',jQ,vr⟩ | ⟨jT,jQ,_⟩
  ·have hj:j<R.length:=(List.getElem?_eq_some_iff.1 h3).1
   have:j=j':=(List.getElem?_inj hj hR).1 (h3.trans vr.symm)
   omega
  ·have:=vc t h1;omega
  ·have:=vc t jT;omega
  ·omega
 have kq:∀ a v,a.isWay=true→zA6 w rv E a v→Rep w Φ1 (zA6 w rvc Ec) (zEf (zDl R) a) v []:=by
  intro a v _ ha
  refine zLf ha fun r h' hl hr=>?_
  obtain ⟨j,hj,rfl⟩:=zLv hl
  have kO:j<R.length:=(List.getElem?_eq_some_iff.1 hj).1
  refine ⟨by omega,fun pre nv np hn hh=>?_⟩
  rw [hrh j r hj,hEh j r hj,zDn (zCQ _)] at hn
  exact zCN (zCQ _) hn hh
 have hS:zDf w w Φ Φ1:=fun b hb=>⟨hΦ b hb,rfl⟩
 have hLs:∀ s b,b∈Lc s→∃ t,src s=some t∧b∈L t:=by
  intro s b hb
  simp only [Lc] at hb
  cases h:src s with
  | none=>rw [h] at hb;cases hb
  | some t=>rw [h] at hb;exact ⟨t,rfl,hb⟩
 have hU:∀ b,(∃ s,b∈Lc s)→(∃ r∈R,b∈L r)∨∃ i,i<as.length∧b∈L (zAd+i):=by
  rintro b ⟨s,hb⟩
  obtain ⟨t,h1,h2⟩:=hLs s b hb
  rcases qt s t h1 with ⟨h3,_⟩ | ⟨h3,rfl,_⟩
  ·exact .inl ⟨t,h3,h2⟩
  ·exact .inr ⟨s,h3,h2⟩
 have hnΦ:∀ b,(∃ s,b∈Lc s)→¬ Φ1 b:=by
  intro b hb
  rcases hU b hb with ⟨r,h1,h2⟩ | ⟨i,h1,h2⟩
  ·exact hΦR r h1 b h2
  ·exact hΦa i h1 b h2
 refine ⟨rvc,Ec,Lc,fun s hs=>if_pos hs,fun s hs=>if_neg (by omega),⟨fun s=>?_,fun s=>?_,fun s s' hI b hb yE=>?_,fun s b hb=>?_,fun b hb=>⟨hΦs b hb,.inl hb⟩,fun b hb=>hb,Nat.le_refl _,fun _ _ _=>rfl,rfl,rfl,rfl⟩,fun i hi=>if_pos hi,hrh,fun s h1 h2=>by simp only [rvc,src,if_neg (by omega:¬ s<as.length),if_neg (by omega:¬ zAl≤s)],hU⟩
 ·by_cases hs:s<as.length
  ·have hx:as[s]? = some (as[s]):=List.getElem?_eq_getElem hs
   have hE:Ec s=zMP R as[s]:=by rw [yS s (by omega),if_pos hs];simp [List.getD,hx]
   have hrvs:rvc s=rv (zAd+s):=if_pos hs
   rw [hE,hrvs]
   by_cases hk:K s
   ·have hL:Lc s=[]:=by simp only [Lc,src,if_pos hs,if_pos hk]
    rw [hL]
    obtain ⟨x,h1,h2,h3⟩:=hk
    rw [hx] at h1;cases h1
    simp only [zMP,h2,Bool.false_eq_true,if_false]
    exact h3.mono zDf.refl (fun _ _ _ h=>h.elim) (by simp)
   ·have hL:Lc s=L (zAd+s):=by simp only [Lc,src,if_pos hs,if_neg hk]
    rw [hL]
    rcases hA s _ hx with ⟨h1,h2⟩ | ⟨h1,h2,h3⟩ | ⟨h1,h2⟩
    ·simp only [zMP,h1,if_true,h2]
     exact Rep.map (zCQ _).agg hS kq _ _ _ (fun _ _=>rfl) (C.rep (zAd+s))
    ·simp only [zMP,h1,Bool.false_eq_true,if_false,h2]
     exact (zSU h3 (fun a v hw h=>zIs hw h) (C.rep (zAd+s))).mono (A:=zCj) hS (fun _ _ _ h=>h.elim) (fun _ _=>rfl)
    ·exact absurd ⟨_,hx,h1,h2⟩ hk
  ·by_cases hhs:zAl≤s∧s<zAl+R.length
   ·obtain ⟨j,rfl⟩:∃ j,s=zAl+j:=⟨s-zAl,by omega⟩
    have kO:j<R.length:=by omega
    obtain ⟨r,hj⟩:∃ r,R[j]? = some r:=⟨_,List.getElem?_eq_getElem kO⟩
    have hL:Lc (zAl+j)=L r:=by simp only [Lc,src,if_neg hs,if_pos hhs.1,Nat.add_sub_cancel_left,hj]
    rw [hL,hEh j r hj,hrh j r hj]
    exact Rep.map (zCQ _).agg hS kq _ _ _ (fun _ _=>rfl) (C.rep r)
   ·have hL:Lc s=[]:=by
     simp only [Lc,src,if_neg hs]
     by_cases hb:zAl≤s
     ·rw [if_pos hb,List.getElem?_eq_none (by omega)]
     ·rw [if_neg hb]
    have hE:Ec s = .bad:=by
     by_cases hg:s<zAd
     ·rw [yS s hg,if_neg hs,if_neg hhs]
     ·exact if_neg hg
    rw [hL,hE];rfl
 ·simp only [Lc]
  cases h:src s with
  | none=>exact List.nodup_nil
  | some t=>exact C.nodup t
 ·obtain ⟨t,h1,h2⟩:=hLs s b hb
  obtain ⟨t',jT,jQ⟩:=hLs s' b yE
  have:t=t':=Classical.byContradiction fun h=>C.disj t t' h b h2 jQ
  subst this
  exact hI (qu s s' t h1 jT)
 ·obtain ⟨t,h1,h2⟩:=hLs s b hb
  exact ⟨(C.own t b h2).1,hnΦ b ⟨s,hb⟩,.inl ⟨s,hb⟩⟩
theorem zMk {x y:PV} (h:zF8 x y=true) (hx:x.isLock=false) (hh:y.unlock.heavy0=true):y.unlock=y∧zCd x.unlock y:=by
 cases y<;>simp only [PV.unlock,PV.heavy0] at hh<;>try (cases hh;done)
 ·cases x<;>simp only [zF8] at h<;>try (cases h;done)
  exact ⟨rfl,(Nat.eq_of_beq_eq_true h).symm⟩
 ·cases x<;>simp only [zF8] at h<;>try (cases h;done)
  exact ⟨rfl,trivial⟩
 ·cases x<;>simp only [zF8] at h<;>try (cases h;done)
  exact ⟨rfl,trivial⟩
 ·cases x<;>simp only [zF8] at h<;>cases h
theorem zKb (C:Conf w0 U Φ0 w Φ rv E L) {R:List Nat} (hR:R.Nodup) (gZ:∀ r∈R,(E r).isLock=false) (vc:∀ r∈R,r<zAd) (hRn:R.length≤1000) {m:Nat} {Uc:Nat→Prop}
    (hUc:∀ b,Uc b→(∃ r∈R,b∈L r)∨∃ i,i<m∧b∈L (zAd+i)) (C':Conf w Uc Φ1 w' Φ' rv' E' L') (j6:∀ (j r:Nat),R[j]? = some r→rv' (zAl+j)=rv r)
    (yD:∀ (j r:Nat),R[j]? = some r→zF8 (E r) (zGg (zB9 R) (E' (zAl+j)))=true) {n:Nat} (hn:n≤1000)
    (hΦ2:∀ b,Φ b→Φ2 b) (hΦ2s:∀ b,Φ2 b→b<w'.heap.size∧(Φ0 b∨U b∨w0.heap.size≤b)) (hΦ2o:∀ s,s<zAd→s∉R→∀ b∈L s,¬ Φ2 b) (hΦ2n:∀ t b,b∈L' t→¬ Φ2 b)
    (hT:∀ t,((∃ j,j<R.length∧t=zAl+j)∨∃ j,j<n∧t=zAI+j)→Rep w' Φ2 (zA6 w' rv' E') (E' t) (rv' t) (L' t)) :
    ∃ rv2 E2 L2,Conf w0 U Φ0 w' Φ2 rv2 E2 L2∧(∀ s,s<zAd→rv2 s=rv s)∧(∀ s,s<zAd→s∉R→E2 s=(E s).mapW (zDD R))∧(∀ (j r:Nat),R[j]? = some r→E2 r=zGg (zB9 R) (E' (zAl+j))) ∧
      (∀ j,j<n→E2 (zAd+j)=zGg (zB9 R) (E' (zAI+j))∧rv2 (zAd+j)=rv' (zAI+j))∧∀ s,zAd+n≤s→E2 s = .bad:=by
  have hh:zAl=50000000:=rfl
  have ho:zAI=60000000:=rfl
  have wF:zAd=1000000000:=rfl
  let cal:Nat→Option Nat:=fun s=>if s<zAd then (match R.findIdx? (· == s) with | some j=>some (zAl+j) | none=>none) else if s<zAd+n then some (zAI+(s-zAd)) else none
  let rv2:Nat→Value:=fun s=>if s<zAd then rv s else match cal s with | some t=>rv' t | none=>undef
  let E2:Nat→PV:=fun s=>match cal s with | some t=>zGg (zB9 R) (E' t) | none=>if s<zAd then (E s).mapW (zDD R) else .bad
  let L2:Nat→List Nat:=fun s=>match cal s with | some t=>L' t | none=>if s<zAd then L s else []
  have kg:∀ (j r:Nat),R[j]? = some r→cal r=some (zAl+j):=by
    intro j r hj
    have hr:=vc r (List.mem_of_getElem? hj)
    have:R.findIdx? (· == r)=some j:=by
      rw [List.findIdx?_eq_some_iff_getElem]
      have kO:j<R.length:=(List.getElem?_eq_some_iff.1 hj).1
      have hjr:R[j]=r:=(List.getElem?_eq_some_iff.1 hj).2
      refine ⟨kO,by simp [hjr],fun k hk=>?_⟩
      simp only [beq_iff_eq,Bool.not_eq_true,beq_eq_false_iff_ne]
      intro hc
      have uh:k<R.length:=by omega
      have h1:R[k]? = R[j]?:=by rw [List.getElem?_eq_getElem uh,hc,hj]
      have:=(List.getElem?_inj uh hR).1 h1
      omega
    simp only [cal,if_pos hr,this]
  have vd:∀ s,s<zAd→s∉R→cal s=none:=by
    intro s hs yv
    have:R.findIdx? (· == s)=none:=by
      rw [List.findIdx?_eq_none_iff]
      intro x hx
      simp only [beq_eq_false_iff_ne]
      intro hc;subst hc;exact yv hx
    simp only [cal,if_pos hs,this]
  have yn:∀ s t,cal s=some t→(∃ j,R[j]? = some s∧t=zAl+j∧j<R.length∧s<zAd)∨∃ j,j<n∧s=zAd+j∧t=zAI+j:=by
    intro s t h
    by_cases hs:s<zAd
    · by_cases yv:s∈R
      · obtain ⟨j,hj⟩:=List.getElem?_of_mem yv
        rw [kg j s hj] at h;cases h
        exact .inl ⟨j,hj,rfl,(List.getElem?_eq_some_iff.1 hj).1,hs⟩
      · rw [vd s hs yv] at h;cases h
    · simp only [cal,if_neg hs] at h
      split at h
      · have h:=Option.some.inj h;exact .inr ⟨s-zAd,by omega,by omega,h.symm⟩
      · cases h
  have qu:∀ s s' t,cal s=some t→cal s'=some t→s=s':=by
    intro s s' t h h'
    rcases yn s t h with ⟨j,h1,h2,h3,_⟩ | ⟨j,h1,h2,h3⟩<;>rcases yn s' t h' with ⟨j',jT,jQ,vr,_⟩ | ⟨j',jT,jQ,vr⟩
    · have:j=j':=by omega
      subst this
      rw [h1] at jT;simpa using jT
    · omega
    · omega
    · omega
  have yX:∀ s,cal s=none→s<zAd→s∉R:=by
    intro s h hs yv
    obtain ⟨j,hj⟩:=List.getElem?_of_mem yv
    rw [kg j s hj] at h;cases h
  have qL:∀ s,s<zAd→s∉R→∀ b∈L s,¬ Uc b:=by
    intro s hs yv b hb hu
    rcases hUc b hu with ⟨r,h1,h2⟩ | ⟨i,h1,h2⟩
    · exact C.disj s r (fun hc=>yv (hc▸h1)) b hb h2
    · exact C.disj s (zAd+i) (by omega) b hb h2
  have yr:∀ s,s<zAd→s∉R→∀ b∈L s,w'.heap[b]? = w.heap[b]?:=fun s hs yv b hb=>C'.kept b (C.own s b hb).1 (qL s hs yv b hb)
  have hΦsame:zDf w w' Φ Φ2:=fun b hb=>⟨hΦ2 b hb,C'.kept b (C.frz b hb).1 fun hu=>by
    rcases hUc b hu with ⟨r,_,h2⟩ | ⟨i,_,h2⟩
    · exact (C.own r b h2).2.1 hb
    · exact (C.own _ b h2).2.1 hb⟩
  have qv:=zI1 R
  have hown:∀ a v,a.isWay=true→zA6 w rv E a v→zDD R a=a→zA6 w' rv2 E2 a v:=by
    intro a v hw ha hk
    have hr:=zCP ha
    have hy:∀ k,a ≠ .yld k:=fun k hc=>by subst hc;exact ha.elim
    have hl:∀ xs k,a ≠ .log xs k:=fun xs k hc=>by subst hc;exact ha.elim
    by_cases hrR:(zA8 a).1∈R
    · have hp:=zJd hw hk hy hl hrR
      obtain ⟨j,hj⟩:=List.getElem?_of_mem hrR
      refine ha.mono fun nv np jW qA=>?_
      rw [hp] at jW ⊢
      simp only [zAR,Option.some.injEq,Prod.mk.injEq] at jW
      obtain ⟨h1,h2⟩:=jW
      have hE2:E2 (zA8 a).1=zGg (zB9 R) (E' (zAl+j)):=by simp only [E2,kg j _ hj]
      rw [hE2] at h2
      obtain ⟨g1,g2⟩:=zMk (yD j _ hj) (gZ _ hrR) (by rw [h2];exact qA)
      refine ⟨(E (zA8 a).1).unlock,?_,by rw [← h2,g1];exact g2⟩
      simp only [zAR,Option.some.injEq,Prod.mk.injEq,and_true]
      rw [← h1];simp only [rv2,if_pos hr]
    · refine zCD C (zDj qv) ha ?_ ?_ (yr _ hr hrR)
      · simp only [E2,vd _ hr hrR,if_pos hr]
      · simp only [rv2,if_pos hr]
  have hown':∀ a v,a.isWay=true→zA6 w rv E a v→Rep w' Φ2 (zA6 w' rv2 E2) (zDD R a) v []:=by
    intro a v hw ha
    rcases qv a with hk | ⟨_,hk⟩
    · rw [hk];exact zCR hw (hown a v hw ha hk)
    · rw [hk];rfl
  have jK:∀ a v,a.isWay=true→zA6 w' rv' E' a v→Rep w' Φ2 (zA6 w' rv2 E2) (zEf (zB9 R) a) v []:=by
    intro a v _ ha
    refine zLf ha fun r h' hl hr=>?_
    obtain ⟨j,hj,rfl⟩:=zNd hl
    have yq:=vc h' (List.mem_of_getElem? hj)
    refine ⟨yq,fun pre nv np jW qA=>?_⟩
    have e1:rv2 h'=rv' (zAl+j):=by simp only [rv2,if_pos yq];exact (j6 j h' hj).symm
    have e2:E2 h'=(E' (zAl+j)).mapW (zEf (zB9 R)):=by simp only [E2,kg j h' hj];rfl
    rw [e1,e2,zDn (zCQ _)] at jW
    exact zCN (zCQ _) jW qA
  have ub:∀ s b,b∈L2 s→(∃ t,cal s=some t∧b∈L' t)∨(cal s=none∧s<zAd∧b∈L s):=by
    intro s b hb
    simp only [L2] at hb
    cases h:cal s with
    | some t=>rw [h] at hb;exact .inl ⟨t,rfl,hb⟩
    | none =>
      rw [h] at hb
      by_cases hs:s<zAd
      · simp only [if_pos hs] at hb;exact .inr ⟨rfl,hs,hb⟩
      · simp only [if_neg hs] at hb;cases hb
  have ve:∀ t s b,b∈L' t→s<zAd→s∉R→b∉L s:=by
    intro t s b hb hs yv uG
    rcases (C'.own t b hb).2.2 with h1 | h1
    · exact qL s hs yv b uG h1
    · have:=(C.own s b uG).1;omega
  refine ⟨rv2,E2,L2,⟨fun s=>?_,fun s=>?_,fun s s' hI b hb yE=>?_,fun s b hb=>?_,hΦ2s,fun b hb=>hΦ2 b (C.frz0 b hb),Nat.le_trans C.size C'.size,fun b hb hu=>?_,C'.os.trans C.os,C'.tape.trans C.tape,C'.output.trans C.output⟩,fun s hs=>if_pos hs,fun s hs yv=>?_,fun j r hj=>?_,fun j hj=>?_,fun s hs=>?_⟩
  · cases h:cal s with
    | some t =>
      have e1:E2 s=zGg (zB9 R) (E' t):=by simp only [E2,h]
      have e2:L2 s=L' t:=by simp only [L2,h]
      have e3:rv2 s=rv' t:=by
        rcases yn s t h with ⟨j,h1,h2,_,h4⟩ | ⟨j,h1,h2,h3⟩
        · simp only [rv2,if_pos h4];rw [h2];exact (j6 j s h1).symm
        · simp only [rv2];rw [if_neg (by omega),h]
      rw [e1,e2,e3]
      refine Rep.map (zCQ _).agg zDf.refl jK _ _ _ (fun _ _=>rfl) (hT t ?_)
      rcases yn s t h with ⟨j,_,h2,h3,_⟩ | ⟨j,h1,_,h3⟩
      · exact .inl ⟨j,h3,h2⟩
      · exact .inr ⟨j,h1,h3⟩
    | none =>
      by_cases hs:s<zAd
      · have e1:E2 s=(E s).mapW (zDD R):=by simp only [E2,h,if_pos hs]
        have e2:L2 s=L s:=by simp only [L2,h,if_pos hs]
        have e3:rv2 s=rv s:=if_pos hs
        rw [e1,e2,e3]
        exact Rep.map (zDj qv).agg hΦsame hown' _ _ _ (yr s hs (yX s h hs)) (C.rep s)
      · have e1:E2 s = .bad:=by simp only [E2,h,if_neg hs]
        have e2:L2 s=[]:=by simp only [L2,h,if_neg hs]
        rw [e1,e2];rfl
  · simp only [L2]
    cases h:cal s with
    | some t=>exact C'.nodup t
    | none => by_cases hs:s<zAd
              · simp only [if_pos hs];exact C.nodup s
              · simp only [if_neg hs];exact List.nodup_nil
  · rcases ub s b hb with ⟨t,h1,h2⟩ | ⟨h1,h2,h3⟩<;>rcases ub s' b yE with ⟨t',jT,jQ⟩ | ⟨jT,jQ,vr⟩
    · have:t=t':=Classical.byContradiction fun h=>C'.disj t t' h b h2 jQ
      subst this;exact hI (qu s s' t h1 jT)
    · exact ve t s' b h2 jQ (yX s' jT jQ) vr
    · exact ve t' s b jQ h2 (yX s h1 h2) h3
    · exact C.disj s s' hI b h3 vr
  · rcases ub s b hb with ⟨t,h1,h2⟩ | ⟨h1,h2,h3⟩
    · have:=C'.own t b h2
      refine ⟨this.1,hΦ2n t b h2,?_⟩
      rcases this.2.2 with h4 | h4
      · rcases hUc b h4 with ⟨r,_,h5⟩ | ⟨i,_,h5⟩
        · exact (C.own r b h5).2.2
        · exact (C.own _ b h5).2.2
      · exact .inr (Nat.le_trans C.size h4)
    · have:=C.own s b h3
      exact ⟨Nat.lt_of_lt_of_le this.1 C'.size,hΦ2o s h2 (yX s h1 h2) b h3,this.2.2⟩
  · rw [C'.kept b (Nat.lt_of_lt_of_le hb C.size) fun h=>?_]
    · exact C.kept b hb hu
    · have hx:∀ t,b∈L t→False:=fun t ht=>by
        rcases (C.own t b ht).2.2 with h1 | h1
        · exact hu h1
        · omega
      rcases hUc b h with ⟨r,_,h5⟩ | ⟨i,_,h5⟩
      · exact hx r h5
      · exact hx _ h5
  · simp only [E2,vd s hs yv,if_pos hs]
  · simp only [E2,kg j r hj]
  · have:cal (zAd+j)=some (zAI+j):=by
      simp only [cal];rw [if_neg (by omega),if_pos (by omega),Nat.add_sub_cancel_left]
    refine ⟨by simp only [E2,this],?_⟩
    simp only [rv2,this];rw [if_neg (by omega)]
  · have:cal s=none:=by simp only [cal];rw [if_neg (by omega),if_neg (by omega)]
    simp only [E2,this];rw [if_neg (by omega)]
end
theorem zEo {w:World}:∀ {pre:zAT} {v nv:Value} {p q:PV},zAR w v p pre=some (nv,q)→zAz p pre=some q
 | [],v,nv,p,q,h=>by simp only [zAR,Option.some.injEq,Prod.mk.injEq] at h;simp [zAz,h.2]
 | (i,c)::rest,v,nv,p,q,h=>by
  rw [zA4] at h
  rw [zB5]
  cases hc:Eng.child p i c with
  | none=>rw [hc] at h;cases h
  | some x =>
   rw [hc] at h;simp only [Option.bind_some] at h ⊢
   cases hk:kid w v p i c with
   | none=>rw [hk] at h;cases h
   | some u=>rw [hk] at h;exact zEo h
theorem zOI (R:List Nat) (p:PV) (hp:p.isWay=true):(zDD R p).isTup=false:=by
 rcases zI1 R p with h | ⟨_,h⟩
 ·rw [h];cases p<;>first | rfl | cases hp
 ·rw [h];rfl
theorem zO7 (m:List (Nat×Nat)) (p:PV) (hp:p.isWay=true):(zEf m p).isTup=false:=by
 cases p<;>first | (cases hp;done) | skip
 all_goals
  simp only [zEf]
  first | rfl | (split<;>rfl)
section
variable {P:Program} {w0 w:World} {U Φ0 Φ:Nat→Prop} {nt:Nat} {hv:Hid} {a:Act} {e e':Env} {rv:Nat→Value} {E:Nat→PV} {L:Nat→List Nat} {o:zAL}
def zM9 (w:World) (Φ:Nat→Prop) (rv:Nat→Value) (E:Nat→PV) (i:Nat) (x:Arg):Prop :=
 (∀ y∈x.shared,y.1<zAd)∧((x.byref=true∧x.p=E (zAd+i))∨(x.byref=false∧x.p=E (zAd+i)∧(E (zAd+i)).ways=[]) ∨
  (x.byref=false∧∀ Φ1:Nat→Prop,(∀ b,Φ b→Φ1 b)→(∀ y∈x.shared,Cov w Φ rv E Φ1 y)→Rep w Φ1 zCj x.p (rv (zAd+i)) []))
theorem zOm (yx:zF3 P o) (S:St w0 U Φ0 nt hv a w e Φ rv E L) {d:Option Nat} (hd:∀ x,d=some x→x<nt) {f:FuncId} {as:List Arg} {vs:Array Value} (yC:vs.size=as.length) (yg:∀ i,i<as.length→vs[i]? = some (rv (zAd+i)))
  (hA:∀ i x,as[i]? = some x→zM9 w Φ rv E i x) {again:PM} (h:(zPt d f as again).run o e=some e') :
  again.run o e=some e'∨zCL P f∧Calls P f vs w fun en w''=>∃ u,en = .returned u∧Fr w0 U Φ0 nt hv (a.put d u) w'' e':=by
 have hh:zAl=50000000:=rfl
 have ho:zAI=60000000:=rfl
 have wF:zAd=1000000000:=rfl
 have kN:=S.small
 obtain ⟨R,h1⟩:=zJ4 h
 obtain ⟨hc,h2⟩:=zAU h1
 simp only [Bool.and_eq_true] at hc
 obtain ⟨⟨⟨⟨jR,yy⟩,uE⟩,gX⟩,hc5⟩:=hc
 have hR:=zGe jR
 have vc:∀ r∈R,r<zAd:=fun r hr=>zB2 (List.all_eq_true.1 yy r hr)
 have hRn:=Nat.le_of_ble_eq_true uE
 have hAn:=Nat.le_of_ble_eq_true gX
 obtain ⟨hRl',h3⟩:=zIE h2
 have gZ:∀ r∈R,(E r).isLock=false:=fun r hr=>by rw [S.env r (vc r hr)];exact hRl' r hr
 have uJ:R.map e.get=R.map E:=List.map_congr_left fun r hr=>(S.env r (vc r hr)).symm
 rw [uJ] at h3
 simp only [PM.run] at h3
 cases hof:o f (as.map fun a=>if a.byref then zGg (zDl R) a.p else a.p) ((R.map E).map (zGg (zDl R))) with
 | none=>rw [hof] at h3;cases h3
 | some r =>
  obtain ⟨v,hid'⟩:=r
  rw [hof] at h3;simp only at h3
  cases hb:((as.flatMap (·.shared)).isEmpty||v.free&&zER hid') with
  | false=>rw [hb] at h3;exact .inl h3
  | true =>
   rw [hb] at h3;simp only [cond_true] at h3
   refine .inr ⟨(yx f _ _ v hid' hof).1,?_⟩
   let sh:=as.flatMap (·.shared)
   let Φ1:Nat→Prop:=fun b=>Φ b∨∃ y∈sh,∃ nv q Li A,zAR w (rv y.1) (E y.1).unlock y.2=some (nv,q)∧Rep w Φ A q nv Li∧b∈Li
   have yk:∀ y∈sh,y.1∉R:=fun y hy hyR=>by
    have:=List.all_eq_true.1 hc5 y hy
    rw [List.contains_iff_mem.2 hyR] at this;cases this
   have uA:∀ (y:Nat×zAT) nv q Li A,zAR w (rv y.1) (E y.1).unlock y.2=some (nv,q)→Rep w Φ A q nv Li→∀ b∈Li,b∈L y.1:=by
    intro y nv q Li A hf hr b jC
    obtain ⟨nv',Li',h4,h5,h6⟩:=zBM (zB4 (S.conf.rep y.1)) (zEo hf)
    rw [hf] at h4;cases h4
    have:=Rep.uniq _ _ _ _ hr h6
    subst this;exact h5 b jC
   have hshg:∀ y∈sh,y.1<zAd:=by
    intro y hy
    obtain ⟨x,hx,hyx⟩:=List.mem_flatMap.1 hy
    obtain ⟨i,hi⟩:=List.getElem?_of_mem hx
    exact (hA i x hi).1 y hyx
   have hΦ:∀ b,Φ b→Φ1 b:=fun b hb => .inl hb
   have ur:∀ t,(∀ y∈sh,y.1≠t)→∀ b∈L t,¬ Φ1 b:=by
    intro t ht b kK yT
    rcases yT with h4 | ⟨y,hy,nv,q,Li,A,h4,h5,h6⟩
    ·exact (S.conf.own t b kK).2.1 h4
    ·exact S.conf.disj y.1 t (ht y hy) b (uA y nv q Li A h4 h5 b h6) kK
   have hΦs:∀ b,Φ1 b→b<w.heap.size:=by
    rintro b (yT | ⟨y,hy,nv,q,Li,A,h4,h5,h6⟩)
    ·exact (S.conf.frz b yT).1
    ·exact (S.conf.own _ b (uA y nv q Li A h4 h5 b h6)).1
   have hA':∀ i x,as[i]? = some x→zUx w rv E Φ1 i x:=by
    intro i x hx
    rcases (hA i x hx).2 with h4 | h4 | ⟨h4,h5⟩
    ·exact .inl h4
    ·exact .inr (.inl h4)
    ·refine .inr (.inr ⟨h4,h5 Φ1 hΦ fun y hy nv q Li A hf hr b jC => .inr ⟨y,List.mem_flatMap.2 ⟨x,List.mem_of_getElem? hx,hy⟩,nv,q,Li,A,hf,hr,jC⟩⟩)
   obtain ⟨rvc,Ec,Lc,q1,q2,q3,q4,q5,q5u,q6⟩:=zO4 S.conf hR gZ vc hRn hAn hΦ hΦs (fun r hr=>ur r fun y hy hc=>yk y hy (hc▸hr)) (fun i hi=>ur (zAd+i) fun y hy hc=>by have:=hshg y hy;omega) hA'
   have qw:=(yx f _ _ v hid' hof).2 w Φ1 rvc Ec Lc vs (fun s hs=>by rw [q1 s hs,List.map_map];rfl) q2 q3 (by simpa using yC) (fun i hi=>by
    have qm:i<as.length:=by simpa using hi
    rw [q4 i qm];exact yg i qm) (fun s h1 h2=>q5u s (by simpa using h1) h2)
   refine qw.mono fun en w' vf=>?_
   obtain ⟨u,Φ',rv',E',L',rfl,C',hO,uK,uj⟩:=vf
   refine ⟨u,rfl,?_⟩
   obtain ⟨e1,g1,g2⟩:=zJ8 h3
   obtain ⟨e2,g3,g4,g5,g6,g7,g8⟩:=zLl hR g1
   simp only [List.length_map] at g4 hO uK
   have hE'h:∀ (j r:Nat),R[j]? = some r→∃ p,hid'[j]? = some p∧E' (zAl+j)=p:=by
    intro j r hj
    have kO:j<R.length:=(List.getElem?_eq_some_iff.1 hj).1
    have hjh:j<hid'.length:=by omega
    refine ⟨hid'[j],List.getElem?_eq_getElem hjh,?_⟩
    rw [(uK j kO).1];simp [List.getD,List.getElem?_eq_getElem hjh]
   have j6:∀ (j r:Nat),R[j]? = some r→rv' (zAl+j)=rv r:=fun j r hj=>by
    rw [(uK j (List.getElem?_eq_some_iff.1 hj).1).2,q5 j r hj]
   have yD:∀ (j r:Nat),R[j]? = some r→zF8 (E r) (zGg (zB9 R) (E' (zAl+j)))=true:=by
    intro j r hj
    obtain ⟨p,ko,uo⟩:=hE'h j r hj
    rw [uo]
    exact g6 j _ _ (by simp [hj]) (by simp [ko])
   have hΦ1sh:sh.isEmpty=true→∀ b,Φ1 b→Φ b:=by
    intro hs b yT
    rcases yT with h4 | ⟨y,hy,_⟩
    ·exact h4
    ·rw [List.isEmpty_iff.1 hs] at hy;cases hy
   have y8:∀ s,s<zAd→s∉R→∀ b∈L s,¬ (∃ t,b∈Lc t):=by
    intro s hs yv b hb hu
    rcases q6 b hu with ⟨r,h4,h5⟩ | ⟨i,h4,h5⟩
    ·exact S.conf.disj s r (fun hc=>yv (hc▸h4)) b hb h5
    ·exact S.conf.disj s (zAd+i) (by omega) b hb h5
   have vg:zER hid'=true→∀ j,j<R.length→(E' (zAl+j)).free=true:=by
    intro hf j hj
    rw [(uK j hj).1]
    have hjh:j<hid'.length:=by omega
    have key:∀ (l:List PV),zER l=true→∀ j,j<l.length→(l.getD j .bad).free=true:=by
     intro l
     induction l with
     | nil=>intro _ j hj;simp at hj
     | cons x l ih =>
      intro h j hj
      simp only [zER,Bool.and_eq_true] at h
      cases j with
      | zero=>exact h.1
      | succ j=>simpa using ih h.2 j (by simpa using hj)
    exact key hid' hf j hjh
   have back : ∀ n,n≤1000→(v.free=true→∀ j,j<n→(E' (zAI+j)).free=true) →
     ∃ Φ2 rv2 E2 L2,Conf w0 U Φ0 w' Φ2 rv2 E2 L2∧(∀ s,s<zAd→rv2 s=rv s)∧(∀ s,s<zAd→s∉R→E2 s=(E s).mapW (zDD R))∧(∀ (j r:Nat),R[j]? = some r→E2 r=zGg (zB9 R) (E' (zAl+j))) ∧
     (∀ j,j<n→E2 (zAd+j)=zGg (zB9 R) (E' (zAI+j))∧rv2 (zAd+j)=rv' (zAI+j))∧∀ s,zAd+n≤s→E2 s = .bad:=by
    intro n hn vV
    by_cases jo:sh.isEmpty=true
    ·obtain ⟨rv2,E2,L2,hl⟩:=zKb (Φ2:=Φ') S.conf hR gZ vc hRn q6 C' j6 yD hn (fun b yT=>C'.frz0 b (hΦ b yT))
      (fun b yT=>by
       refine ⟨(C'.frz b yT).1,?_⟩
       rcases (C'.frz b yT).2 with h4 | h4 | h4
       ·exact (S.conf.frz b (hΦ1sh jo b h4)).2
       ·rcases q6 b h4 with ⟨r,_,h5⟩ | ⟨i,_,h5⟩
        ·exact .inr (S.conf.own r b h5).2.2
        ·exact .inr (S.conf.own _ b h5).2.2
       ·exact .inr (.inr (Nat.le_trans S.conf.size h4)))
      (fun s hs yv b yT hp=>by
       rcases (C'.frz b hp).2 with h4 | h4 | h4
       ·exact (S.conf.own s b yT).2.1 (hΦ1sh jo b h4)
       ·exact y8 s hs yv b yT h4
       ·have:=(S.conf.own s b yT).1;omega)
      (fun t b yT=>(C'.own t b yT).2.1) (fun t _=>C'.rep t)
     exact ⟨Φ',rv2,E2,L2,hl⟩
    ·have hvf:v.free=true∧zER hid'=true:=by
      have hse':sh.isEmpty=false:=by simpa using jo
      rw [show (as.flatMap (·.shared)).isEmpty=false from hse'] at hb
      simpa using hb
     obtain ⟨rv2,E2,L2,hl⟩:=zKb (Φ2:=Φ) S.conf hR gZ vc hRn q6 C' j6 yD hn (fun b yT=>yT)
      (fun b yT=>⟨Nat.lt_of_lt_of_le (S.conf.frz b yT).1 C'.size,(S.conf.frz b yT).2⟩)
      (fun s _ _ b yT=>(S.conf.own s b yT).2.1)
      (fun t b yT hp=>(C'.own t b yT).2.1 (C'.frz0 b (hΦ b hp)))
      (fun t ht=>by
       refine Rep.free _ _ _ ?_ (C'.rep t)
       rcases ht with ⟨j,hj,rfl⟩ | ⟨j,hj,rfl⟩
       ·exact vg hvf.2 j hj
       ·exact vV hvf.1 j hj)
     exact ⟨Φ,rv2,E2,L2,hl⟩
   have st:∀ {Φ2:Nat→Prop} {rv2:Nat→Value} {E2:Nat→PV} {L2:Nat→List Nat},Conf w0 U Φ0 w' Φ2 rv2 E2 L2→(∀ s,s<zAd→rv2 s=rv s)→(∀ s,s<zAd→s∉R→E2 s=(E s).mapW (zDD R)) →
     (∀ (j r:Nat),R[j]? = some r→E2 r=zGg (zB9 R) (E' (zAl+j)))→St w0 U Φ0 nt hv a w' e2 Φ2 rv2 E2 L2:=by
    intro Φ2 rv2 E2 L2 C2 k1 k2 k3
    refine S.turn C2 (fun s hs=>?_) k1 (fun d ps hd hp=>?_)
    ·by_cases yv:s∈R
     ·obtain ⟨j,hj⟩:=List.getElem?_of_mem yv
      obtain ⟨p,ko,uo⟩:=hE'h j s hj
      rw [k3 j s hj,g8 j s (zGg (zB9 R) p) hj (by simp [ko]),uo]
     ·rw [k2 s hs yv,g7 s yv,g2 s,S.env s hs]
    ·have uU:d<zAd:=by omega
     by_cases hdR:d∈R
     ·obtain ⟨j,hj⟩:=List.getElem?_of_mem hdR
      have:=yD j d hj
      rw [k3 j d hj] at hp
      rw [hp] at this
      cases E d<;>cases this
     ·rw [k2 d uU hdR] at hp
      exact zDJ (zOI R) hp
   cases d with
   | none =>
    obtain ⟨Φ2,rv2,E2,L2,C2,k1,k2,k3,k4,k5⟩:=back 0 (by omega) (fun _ j hj=>by omega)
    have jp:(put none (zGg (zB9 R) v)).run o e2=some e':=by
     revert g3;cases zGg (zB9 R) v<;>exact fun h=>h
    simp only [put,PM.run,Option.some.injEq] at jp
    subst jp
    exact ⟨Φ2,rv2,E2,L2,st C2 k1 k2 k3,fun g hg=>k5 g hg⟩
   | some d =>
    have uu:=hd d rfl
    cases hvt:v.isTup with
    | false =>
     have uL:∀ ps,v ≠ .tup ps:=fun ps hc=>by rw [hc] at hvt;cases hvt
     obtain ⟨o1,o2⟩:=uj.one uL
     obtain ⟨Φ2,rv2,E2,L2,C2,k1,k2,k3,k4,k5⟩:=back 1 (by omega) (fun hf j hj=>by
      have:j=0:=by omega
      subst this;rw [Nat.add_zero,o1];exact hf)
     obtain ⟨m1,m2⟩:=k4 0 (by omega)
     simp only [Nat.add_zero] at m1 m2
     have jp:(put (some d) (zGg (zB9 R) v)).run o e2=some e':=by
      have hnt2:∀ ps,zGg (zB9 R) v ≠ .tup ps:=fun ps hc=>by
       obtain ⟨ps',jI,_⟩:=zDJ (zO7 _) hc
       exact uL ps' jI
      revert g3
      simp only [zEE]
      split
      ·rename_i hc;exact absurd hc (hnt2 _)
      ·exact fun h=>h
     have:=zFJ (st C2 k1 k2 k3) hd (g:=zAd) (Nat.le_refl _) (by rw [m1,o1];exact jp) (fun s hs hI=>k5 s (by omega))
     rw [m2,o2] at this;exact this
    | true =>
     cases uc:v<;>rw [uc] at hvt<;>try (cases hvt;done)
     rename_i ps
     subst uc
     obtain ⟨us,rfl,o2,o3⟩:=uj.many ps rfl
     have e1:zGg (zB9 R) (.tup ps) = .tup (zCF (zEf (zB9 R)) ps):=rfl
     rw [e1] at g3
     simp only [zEE] at g3
     obtain ⟨ui,g9⟩:=zAU g3
     simp only [Bool.and_eq_true] at ui
     have hl16:=Nat.le_of_ble_eq_true ui.1
     rw [zCY] at hl16
     obtain ⟨Φ2,rv2,E2,L2,C2,k1,k2,k3,k4,k5⟩:=back ps.length (by omega) (fun hf j hj=>by
      obtain ⟨p,hp⟩:∃ p,ps[j]? = some p:=⟨_,List.getElem?_eq_getElem hj⟩
      rw [(o3 j p hp).1]
      have key:∀ (l:List PV),zER l=true→∀ p∈l,p.free=true:=by
       intro l
       induction l with
       | nil=>intro _ p hp;cases hp
       | cons x l ih =>
        intro h p hp
        simp only [zER,Bool.and_eq_true] at h
        rcases List.mem_cons.1 hp with rfl | hp
        ·exact h.1
        ·exact ih h.2 p hp
      exact key ps hf p (List.mem_of_getElem? hp))
     simp only [PM.run] at g9
     obtain ⟨L3,S3⟩:=(st C2 k1 k2 k3).empty uu
     have ut:∀ g,zAd≤g→g≠d:=fun g hg=>by omega
     refine zGy uu (vs:=us) (zCF (zEf (zB9 R)) ps) 0 S3 (fun ps hp=>by rw [zAh] at hp;cases hp) (by rw [zCY];omega) (by rw [zCY];omega) (fun j p hp=>?_) (fun g hg hI=>?_) (fun x hx=>?_) (fun j hj=>by omega) g9
     ·rw [zGZ] at hp
      cases vD:ps[j]? with
      | none=>rw [vD] at hp;cases hp
      | some p0 =>
       rw [vD] at hp;simp only [Option.map_some,Option.some.injEq] at hp
       have hj:j<ps.length:=(List.getElem?_eq_some_iff.1 vD).1
       obtain ⟨m1,m2⟩:=k4 j hj
       obtain ⟨m3,m4⟩:=o3 j p0 vD
       simp only [Nat.add_zero,Nat.zero_add]
       rw [zAf (ut _ (by omega)),m1,m3,m2]
       exact ⟨hp,m4⟩
     ·rw [zAf (ut g hg)]
      refine k5 g ?_
      refine Nat.le_of_not_lt fun yK=>hI (g-zAd) (by rw [zCY];omega) (by omega)
     ·have:=List.all_eq_true.1 ui.2 x hx
      simpa using this
end
end Go.Eng
