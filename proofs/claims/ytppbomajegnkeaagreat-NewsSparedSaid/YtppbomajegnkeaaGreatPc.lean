/- For all numbers, cries, which and when the law NewsSpared ends in true: without a cry that is told all yn hold the same, without another one some hold something else; without conditions. -/
import Derived.Test.YtppbomajegnkeaaGreatPb
import Derived.MapKept
import Derived.OrdersIn
import Derived.LoopNIn
import Derived.RangeFuncRecord
import Derived.RangeFuncLeaves
import Derived.RangeFuncSeq
set_option linter.unusedVariables false
set_option linter.unusedSimpArgs false
set_option linter.unusedSectionVars false
namespace Go.Eng
open Go
section
variable {P:Program} {w0 w:World} {U Φ0 Φ:Nat→Prop} {nt:Nat} {hv:Hid} {a:Act} {e e':Env} {rv:Nat→Value} {E:Nat→PV} {L:Nat→List Nat} {o:zAF} {A:Al}
theorem zO7 {empty:Bool} {n:Nat} {ok:TypeId→PV→Bool} {p:PV} {xs:Array Value} (hp:Rep w Φ A p (.agg xs) [])
    (hd:∀ t p x,ok t p=true→Rep w Φ A p x []→(Instr.checkKey empty n t x).run P w = .ok () w) :
    ∀ (fs:List Field),zTO ok (shT P) p fs=true→((forIn fs () fun f _=>do
      if f.name ≠ "_" then
        Instr.checkKey empty n f.type (← part f.type xs f.offset)
        pure (.yield ())
      else pure (.yield ()):Sem Unit)).run P w = .ok () w
  | [],_=>by simp
  | f :: fs,h=>by
    simp only [zTO,Bool.and_eq_true] at h
    have ih:=zO7 hp hd fs h.2
    simp only [List.forIn_cons,Sem.run_bind]
    by_cases hn : f.name = "_"
    · simp only [hn,ne_eq,not_true_eq_false,if_false,Sem.run_pure,Result.andThen_ok]
      exact ih
    · have h1:=h.1
      rw [if_neg hn] at h1
      rw [if_pos hn]
      cases hs:shT P f.type with
      | none=>rw [hs] at h1;cases h1
      | some sh =>
        rw [hs] at h1;simp only at h1
        cases ya:sub p f.offset sh with
        | none=>rw [ya] at h1;cases h1
        | some q =>
          rw [ya] at h1;simp only at h1
          obtain ⟨u,h3,h4⟩:=zFQ hs hp ya
          simp only [Sem.run_bind,h3,Result.andThen_ok,hd _ _ _ h1 h4,Sem.run_pure]
          exact ih
theorem zOc {empty:Bool} {n:Nat} {ok:PV→Bool} {el:TypeId} {sh:Option Nat} {i:TypeInfo} (hs:shT P el=some sh) (hi:P.info? el=some i) {p:PV} {xs:Array Value} (hp:Rep w Φ A p (.agg xs) [])
  (hd:∀ p x,ok p=true→Rep w Φ A p x []→(Instr.checkKey empty n el x).run P w = .ok () w) :
  ∀ (m k:Nat),zTY ok sh i.size p k m=true→((forIn (List.range' k m 1) () fun j _=>do
   Instr.checkKey empty n el (← part el xs (j*(← sizeOf el)))
   pure (.yield ()):Sem Unit)).run P w = .ok () w
 | 0,k,_=>by simp
 | m + 1,k,h=>by
  simp only [zTY,Bool.and_eq_true] at h
  have ih:=zOc (empty:=empty) hs hi hp hd m (k+1) h.2
  have h1:=h.1
  simp only [List.range'_succ,List.forIn_cons,Sem.run_bind]
  cases ya:sub p (k*i.size) sh with
  | none=>rw [ya] at h1;cases h1
  | some q =>
   rw [ya] at h1;simp only at h1
   obtain ⟨u,h3,h4⟩:=zFQ hs hp ya
   simp only [zAY hi,Result.andThen_ok,h3,hd _ _ h1 h4,Sem.run_pure]
   exact ih
theorem zIT {empty:Bool}:∀ (n d:Nat) (t:TypeId) (p:PV) (x:Value),n≤d→zOL P n t p=true→Rep w Φ A p x []→(Instr.checkKey empty d t x).run P w = .ok () w
 | 0,d,t,p,x,_,h,_=>by cases h
 | n+1,0,t,p,x,hd,h,_=>by omega
 | n + 1,d+1,t,p,x,hd,h,hp=>by
  have yN:n≤d:=by omega
  simp only [zOL] at h
  split at h
  ·rename_i ht
   rw [hp.1];simp [Instr.checkKey,run_underlying ht]
  ·rename_i ht
   rw [hp.1];simp [Instr.checkKey,run_underlying ht]
  ·rename_i fs xs ht
   obtain ⟨vs,rfl,jh⟩:=hp
   have:=zO7 (empty:=empty) (n:=d) (p := .agg xs) ⟨vs,rfl,jh⟩ (fun t p x h1 h2=>zIT n d t p x yN h1 h2) fs.toList h
   simp only [Instr.checkKey,Sem.run_bind,run_underlying ht,Result.andThen_ok]
   simp only [ne_eq,ite_not] at this ⊢
   simp at this ⊢
   rw [this];rfl
  ·rename_i len el xs ht
   split at h
   ·rename_i sz sh yD j8
    obtain ⟨vs,rfl,jh⟩:=hp
    obtain ⟨i,hi,_⟩:=zFc (w:=w) j8
    have gF:i.size=sz:=by simp only [szT,hi,Option.map_some,Option.some.injEq] at yD;exact yD
    subst gF
    have:=zOc (empty:=empty) (n:=d) (p := .agg xs) j8 hi ⟨vs,rfl,jh⟩ (fun p x h1 h2=>zIT n d el p x yN h1 h2) len 0 h
    simp only [Instr.checkKey,Sem.run_bind,run_underlying ht,Result.andThen_ok,Std.Legacy.Range.forIn_eq_forIn_range',Std.Legacy.Range.size,Nat.sub_zero,Nat.add_sub_cancel,Nat.div_one]
    simp at this ⊢
    rw [this];rfl
   ·cases h
  ·cases h
theorem zKt {kt:TypeId} {d:TypeDesc} {kv:Value} (hd:P.underlying kt=some d):∀ {ms:List MapEntry} {i:Nat},(∀ x y,Instr.sameNow d x y=none)→Instr.findNow d kv ms i=none∨ms=[]
 | [],_,_ => .inr rfl
 | m::ms,i,h => .inl (by simp only [Instr.findNow,h])
theorem zDx {kt:TypeId} {key:PV} {kv:Value} (hk:Rep w Φ A key kv []):∀ (es:List (PV×PV)) (ms:List MapEntry) (i:Nat) (r:Option Nat),zDb P kt key es i=some r→zDR w Φ es ms i →
  (Instr.findAsking kt kv ms i).run P w = .ok (r.bind fun j=>(ms[j-i]?).map fun m=>(j,m.val)) w∧∀ j,r=some j→i≤j∧j-i<ms.length∧∃ k v m,es[j-i]? = some (k,v)∧ms[j-i]? = some m∧zFO key.cells k.cells=some true∧Rep w Φ zCe k m.key []∧Rep w Φ zCe v m.val []∧m.born=j
 | [],ms,i,r,h,hm=>by
  simp only [zDb,Option.some.injEq] at h;subst h
  simp only [zDR] at hm;subst hm
  exact ⟨rfl,fun j hj=>by cases hj⟩
 | (k, p)::es,ms,i,r,h,hm=>by
  obtain ⟨m,ms',rfl,hb,h1,h2,h3⟩:=hm
  have j5:Rep w Φ A k m.key []:=h1.mono zDc.refl (fun _ _ _ h=>h.elim) (by simp)
  simp only [zDb] at h
  split at h
  ·rename_i he
   split at h
   ·rename_i hc
    simp only [Option.some.injEq] at h;subst h
    have:=zKO 20 kt key k true kv m.key Op.maxDepth (by decide) he hk j5
    refine ⟨?_,fun j hj=>?_⟩
    ·simp [Instr.findAsking,Op.equal,this]
    ·cases hj
     exact ⟨Nat.le_refl _,by simp,k,p,m,by simp,by simp,hc,h1,h2,hb⟩
   ·cases h
  ·rename_i he
   have:=zKO 20 kt key k false kv m.key Op.maxDepth (by decide) he hk j5
   obtain ⟨g1,g2⟩:=zDx hk es ms' (i+1) r h h3
   refine ⟨?_,fun j hj=>?_⟩
   ·simp only [Instr.findAsking,Op.equal,Sem.run_bind,this,Result.andThen_ok,Bool.false_eq_true,if_false,g1]
    cases r with
    | none=>rfl
    | some j =>
     obtain ⟨k1,k2,_⟩:=g2 j rfl
     simp only [Option.bind_some]
     rw [show j-i=(j-(i+1))+1 by omega];simp
   ·obtain ⟨k1,k2,k',v',m',k3,k4,k5⟩:=g2 j hj
    have vw:j-i=(j-(i+1))+1:=by omega
    refine ⟨by omega,by rw [vw];simp;omega,k',v',m',by rw [vw];simpa using k3,by rw [vw];simpa using k4,k5⟩
  ·cases h
theorem zJV {kt:TypeId} {k:IntKind} {n:Int} {key:PV} {kv:Value} (hd:∃ k0,P.underlying kt=some (.int k0)) (qJ:kv = .int k n) (yX:key = .int k n):∀ (es:List (PV×PV)) (ms:List MapEntry) (i:Nat) (r:Option Nat),zDb P kt key es i=some r→zDR w Φ es ms i →
  ∀ k0,Instr.findNow (.int k0) kv ms i=some (r.bind fun j=>(ms[j-i]?).map fun m=>(j,m.val))
 | [],ms,i,r,h,hm,_=>by
  simp only [zDb,Option.some.injEq] at h;subst h
  simp only [zDR] at hm;subst hm;rfl
 | (q, p)::es,ms,i,r,h,hm,k0=>by
  obtain ⟨k1,hd⟩:=hd
  obtain ⟨m,ms',rfl,hb,h1,h2,h3⟩:=hm
  simp only [zDb] at h
  have hq:∀ b,eqT P 20 kt key q=some b→∃ n',q = .int k n'∧b=(n==n'):=by
   intro b he
   rw [yX] at he
   simp only [eqT,hd] at he
   cases q<;>simp only at he<;>try (cases he;done)
   split at he
   ·rename_i wc;subst wc;cases he;exact ⟨_,rfl,rfl⟩
   ·cases he
  split at h
  ·rename_i he
   obtain ⟨n',rfl,hn⟩:=hq _ he
   split at h
   ·simp only [Option.some.injEq] at h;subst h
    simp only [Instr.findNow,h1.1,qJ,Instr.sameNow,if_true,← hn]
    simp
   ·cases h
  ·rename_i he
   obtain ⟨n',rfl,hn⟩:=hq _ he
   have g1:=zJV ⟨k1,hd⟩ qJ yX es ms' (i+1) r h h3 k0
   simp only [Instr.findNow,h1.1,qJ,Instr.sameNow,if_true,← hn]
   rw [qJ] at g1
   rw [g1]
   cases r with
   | none=>rfl
   | some j =>
    obtain ⟨k1,_⟩:=(zDx (P:=P) (A:=zCe) (key:=key) (kv := .int k n) (by rw [yX];exact ⟨rfl,rfl⟩) es ms' (i+1) (some j) h h3).2 j rfl
    simp only [Option.bind_some]
    rw [show j-i=(j-(i+1))+1 by omega];simp
  ·cases h
theorem zIa {kt:TypeId} {n:Bool} {key:PV} {kv:Value} (hd:P.underlying kt=some .bool) (qJ:kv = .bool n) (yX:key = .bool n):∀ (es:List (PV×PV)) (ms:List MapEntry) (i:Nat) (r:Option Nat),zDb P kt key es i=some r→zDR w Φ es ms i →
  Instr.findNow .bool kv ms i=some (r.bind fun j=>(ms[j-i]?).map fun m=>(j,m.val))
 | [],ms,i,r,h,hm=>by
  simp only [zDb,Option.some.injEq] at h;subst h
  simp only [zDR] at hm;subst hm;rfl
 | (q, p)::es,ms,i,r,h,hm=>by
  obtain ⟨m,ms',rfl,hb,h1,h2,h3⟩:=hm
  simp only [zDb] at h
  have hq:∀ b,eqT P 20 kt key q=some b→∃ n',q = .bool n'∧b=(n==n'):=by
   intro b he
   rw [yX] at he
   simp only [eqT,hd] at he
   cases q<;>simp only at he<;>try (cases he;done)
   cases he;exact ⟨_,rfl,rfl⟩
  split at h
  ·rename_i he
   obtain ⟨n',rfl,hn⟩:=hq _ he
   split at h
   ·simp only [Option.some.injEq] at h;subst h
    simp only [Instr.findNow,h1.1,qJ,Instr.sameNow,← hn]
    simp
   ·cases h
  ·rename_i he
   obtain ⟨n',rfl,hn⟩:=hq _ he
   have g1:=zIa hd qJ yX es ms' (i+1) r h h3
   simp only [Instr.findNow,h1.1,qJ,Instr.sameNow,← hn]
   rw [qJ] at g1
   rw [g1]
   cases r with
   | none=>rfl
   | some j =>
    obtain ⟨k1,_⟩:=(zDx (P:=P) (A:=zCe) (key:=key) (kv := .bool n) (by rw [yX];exact ⟨rfl,rfl⟩) es ms' (i+1) (some j) h h3).2 j rfl
    simp only [Option.bind_some]
    rw [show j-i=(j-(i+1))+1 by omega];simp
  ·cases h
theorem zHD {kt:TypeId} {key:PV} {kv:Value} (ht:zOL P 20 kt key=true) (hk:Rep w Φ A key kv []) {es:List (PV×PV)} {ms:List MapEntry} {r:Option Nat} (h:zDb P kt key es 0=some r) (hm:zDR w Φ es ms 0) :
  (Instr.findKey kt kv ms).run P w = .ok (r.bind fun j=>(ms[j]?).map fun m=>(j,m.val)) w:=by
 have h1:=(zDx hk es ms 0 r h hm).1
 simp only [Nat.sub_zero] at h1
 simp only [zOL] at ht
 split at ht
 ·rename_i k0 k n hd
  have h2:=zJV (key := .int k n) ⟨_,hd⟩ hk.1 rfl es ms 0 r h hm k0
  simp only [Nat.sub_zero] at h2
  simp only [Instr.findKey,Sem.run_bind,run_underlying hd,Result.andThen_ok,h2,Sem.run_pure]
 ·rename_i b hd
  have h2:=zIa (key := .bool b) hd hk.1 rfl es ms 0 r h hm
  simp only [Nat.sub_zero] at h2
  simp only [Instr.findKey,Sem.run_bind,run_underlying hd,Result.andThen_ok,h2,Sem.run_pure]
 ·rename_i fs xs hd
  simp only [Instr.findKey,Sem.run_bind,run_underlying hd,Result.andThen_ok]
  rcases zKt (kv:=kv) hd (ms:=ms) (i:=0) (fun x y=>by simp [Instr.sameNow]) with h2 | rfl
  ·rw [h2];exact h1
  ·simp only [Instr.findNow,Sem.run_pure];rw [← h1];rfl
 ·rename_i len el xs hd
  simp only [Instr.findKey,Sem.run_bind,run_underlying hd,Result.andThen_ok]
  rcases zKt (kv:=kv) hd (ms:=ms) (i:=0) (fun x y=>by simp [Instr.sameNow]) with h2 | rfl
  ·rw [h2];exact h1
  ·simp only [Instr.findNow,Sem.run_pure];rw [← h1];rfl
 ·cases ht
theorem zLS {p:PV} {v:Value} (h:Rep w Φ A p v []):Rep w Φ A (zJG p) v []:=by
 unfold zJG
 split
 ·rcases h with ⟨_,_,rfl⟩ | ⟨a,n,c,us,L',h,_⟩
  ·exact ⟨rfl,.inl ⟨rfl,none,0,rfl,fun _=>rfl⟩⟩
  ·cases h
 ·exact h
theorem zM5 {p:PV} {v:Value} {M:List Nat} (hp:p.lone0=true) (h:Rep w Φ A p v M):M=[]∧Rep w Φ zCe p v []:=by
 cases p<;>first | (cases hp;done) | skip
 case int=>exact ⟨h.2,h.1,rfl⟩
 case bool=>exact ⟨h.2,h.1,rfl⟩
 case nilp=>exact ⟨h.2,h.1,rfl⟩
 case nilf=>exact ⟨h.2,h.1,rfl⟩
 case nilm=>exact ⟨h.2,h.1,rfl⟩
 case nn=>exact ⟨h.1,rfl,h.2⟩
 case nils=>exact ⟨h.2,h.1,rfl⟩
 case sl=>exact ⟨h.1,rfl,h.2⟩
 case map=>exact ⟨h.1,rfl,h.2⟩
theorem zKN:∀ {ps:List PV} {vs:List Value} {M:List Nat},ps.all PV.lone0=true→zA2 w Φ A ps vs M→M=[]∧zA2 w Φ zCe ps vs []
 | [],vs,M,_,h=>⟨h.2,h.1,rfl⟩
 | p::ps,vs,M,hp,h=>by
  simp only [List.all_cons,Bool.and_eq_true] at hp
  obtain ⟨v,vs',L1,L2,rfl,rfl,h1,h2⟩:=h
  obtain ⟨rfl,h3⟩:=zM5 hp.1 h1
  obtain ⟨rfl,h4⟩:=zKN hp.2 h2
  exact ⟨rfl,v,vs',[],[],rfl,rfl,h3,h4⟩
theorem zHi {p:PV} {v:Value} {M:List Nat} (hp:p.lone=true) (h:Rep w Φ A p v M):M=[]∧Rep w Φ zCe p v []:=by
 cases p<;>first | exact zM5 hp h | skip
 obtain ⟨vs,rfl,h⟩:=h
 obtain ⟨rfl,h2⟩:=zKN hp h
 exact ⟨rfl,vs,rfl,h2⟩
theorem zKL (S:St w0 U Φ0 nt hv a w e Φ rv E L) (hb:zBs E) {d:Option Nat} (hd:∀ x,d=some x→x<nt) {p:PV} {v:Value} {b:Bool} (hp:Rep w Φ zCe p v []) (uu:p.lone=true) (h:(zDp d (.tup [p,.bool b])).run o e=some e') :
  Fr w0 U Φ0 nt hv (a.put d (.tuple #[v,.bool b])) w e':=by
 have kA:=S.small
 cases d with
 | none =>
  simp only [zDp] at h
  exact zAw S hb hd h ⟨#[v,.bool b],rfl,v,[.bool b],[],[],rfl,rfl,hp.mono zDc.refl (fun _ _ _ h=>h.elim) (by simp),.bool b,[],[],[],rfl,rfl,⟨rfl,rfl⟩,rfl,rfl⟩
 | some d =>
  have uM:=hd d rfl
  simp only [zDp] at h
  obtain ⟨u5,h⟩:=zAJ h
  simp only [PM.run] at h
  simp only [Bool.and_eq_true] at u5
  obtain ⟨L1,S1⟩:=S.empty uM
  have S2:=S1.hold (g:=zAb) (Nat.le_refl _) (hp.mono (A':=zA8 w rv (upd E d .bad)) zDc.refl (fun _ _ _ h=>h.elim) (by simp))
  have S3:=S2.hold (g:=zAb+1) (by omega) (p := .bool b) (v := .bool b) ⟨rfl,rfl⟩
  refine zE0 uM (vs:=#[v,.bool b]) [p,.bool b] 0 S3 (fun ps hp=>?_) (by simp) (by simp) (fun j q hq=>?_) (fun g hg hI=>?_) (fun x hx=>?_) (fun j hj=>by omega) h
  ·rw [zAf (by simp only [zAb];omega),zAf (by simp only [zAb];omega),zAj] at hp;cases hp
  ·match j,hq with
   | 0,hq =>
    simp at hq;subst hq
    rw [show zAb+0+0=zAb from rfl]
    refine ⟨by rw [zAf (by omega),zAj],?_⟩
    rw [zAf (by omega),zAj];rfl
   | 1,hq =>
    simp at hq;subst hq
    rw [show zAb+0+1=zAb+1 from rfl]
    refine ⟨by rw [zAj],?_⟩
    rw [zAj];rfl
  ·have h0:=hI 0 (by simp)
   have h1:=hI 1 (by simp)
   rw [zAf (by omega),zAf (by omega)]
   by_cases qp:g=d
   ·subst qp;rw [zAj]
   ·rw [zAf qp];exact hb g hg
  ·simpa using List.all_eq_true.1 u5.2 x hx
theorem zLa (S:St w0 U Φ0 nt hv a w e Φ rv E L) (hb:zBs E) {d:Option Nat} (hd:∀ x,d=some x→x<nt) {t kt el:TypeId} {z key:PV} {kv zv:Value} {ok:Bool} {es:List (PV×PV)} {ms:Array MapEntry} {mv:Value} (ht:P.underlying t=some (.map kt el)) (ve:zOL P 20 kt key=true) (hk:Rep w Φ (zA8 w rv E) key kv [])
  (hz:(zeroValue el).run P w = .ok zv w) (qK:Rep w Φ zCe z zv []) (hzp:z.lone=true) (hm:zDR w Φ es ms.toList 0) (vf:mv = .map none∧ms=#[]∨∃ b n,mv = .map (some b)∧w.heap[b]? = some (.map ms n))
  (h:(zI7 P d kt z key ok es).run o e=some e'):∃ v,(Instr.lookup t mv kv ok).run P w = .ok v w∧Fr w0 U Φ0 nt hv (a.put d v) w e':=by
 simp only [zI7] at h
 cases hf:zDb P kt key es 0 with
 | none=>rw [hf] at h;cases h
 | some r =>
  rw [hf] at h
  have yX:=zHD ve hk hf hm
  have vg:=zIT (empty:=ms.isEmpty) 20 10000 kt key kv (by decide) ve hk
  have yA:∀ v ok',(match (r.bind fun j=>(ms.toList[j]?).map fun m=>(j,m.val)) with
    | some (_,v)=>(v,true)
    | none=>(zv,false))=(v,ok')→(Instr.lookup t mv kv ok).run P w = .ok (if ok then .tuple #[v,.bool ok'] else v) w:=by
   intro v ok' he
   revert he yX
   generalize (r.bind fun j=>(ms.toList[j]?).map fun m=>(j,m.val))=q
   intro yX he
   rcases vf with ⟨rfl,rfl⟩ | ⟨b,n,rfl,yG⟩
   ·cases q with
    | none=>cases he;simp only [Instr.lookup,Sem.run_bind,run_underlying ht,Result.andThen_ok,Sem.run_pure,vg,yX,hz]
    | some x=>cases he;simp only [Instr.lookup,Sem.run_bind,run_underlying ht,Result.andThen_ok,Sem.run_pure,vg,yX]
   ·cases q with
    | none=>cases he;simp only [Instr.lookup,Sem.run_bind,run_underlying ht,Result.andThen_ok,Sem.run_pure,MapKept.run_getObj_map yG,vg,yX,hz]
    | some x=>cases he;simp only [Instr.lookup,Sem.run_bind,run_underlying ht,Result.andThen_ok,Sem.run_pure,MapKept.run_getObj_map yG,vg,yX]
  cases r with
  | none =>
   have:=yA zv false rfl
   refine ⟨_,this,?_⟩
   simp only at h
   cases ok with
   | true=>exact zKL S hb hd qK hzp (by simpa using h)
   | false =>
    simp only [Bool.false_eq_true,if_false] at h ⊢
    have h':(put d z).run o e=some e':=by
     revert h;cases d<;>simp only [zDp]<;>cases z<;>first | exact fun h=>h | (cases hzp;done)
    exact zAw S hb hd h' (qK.mono zDc.refl (fun _ _ _ h=>h.elim) (by simp))
  | some i =>
   obtain ⟨_,_,k,v,m,h3,h4,_,_,h5,_⟩:=(zDx hk es ms.toList 0 (some i) hf hm).2 i rfl
   simp only [Nat.sub_zero] at h3 h4
   have:=yA m.val true (by simp only [Option.bind_some,h4,Option.map_some])
   refine ⟨_,this,?_⟩
   simp only [h3] at h
   obtain ⟨hvp,h⟩:=zAJ h
   cases ok with
   | true=>exact zKL S hb hd h5 hvp (by simpa using h)
   | false =>
    simp only [Bool.false_eq_true,if_false] at h ⊢
    have h':(put d v).run o e=some e':=by
     revert h;cases d<;>simp only [zDp]<;>cases v<;>first | exact fun h=>h | (cases hvp;done)
    exact zAw S hb hd h' (h5.mono zDc.refl (fun _ _ _ h=>h.elim) (by simp))
theorem zLJ (S:St w0 U Φ0 nt hv a w e Φ rv E L) {r:Nat} {pre:zAU} {mv:Value} (hm:Rep w Φ (zA8 w rv E) (.bmap r pre) mv []) {es:List (PV×PV)} (hq:zAz (e.get r).unlock pre=some (.omap es)) :
  r<zAb∧∃ b ms,mv = .map (some b)∧w.heap[b]? = some (.map ms es.length)∧zDR w Φ es ms.toList 0:=by
 obtain ⟨_,hr,_,hn⟩:=hm
 rw [← S.env r hr] at hq
 obtain ⟨nv,La,Li,Lb,h1,_,h2,_⟩:=Rep.zip pre (zB7 (S.conf.rep r)) hq
 obtain ⟨b,ms,_,h3,h4,h5⟩:=h2
 have:=hn nv _ h1 es rfl
 exact ⟨hr,b,ms,this.trans h3,h4,h5⟩
theorem zQO (S:St w0 U Φ0 nt hv a w e Φ rv E L) (hb:zBs E) {d:Option Nat} (hd:∀ x,d=some x→x<nt) {t:TypeId} {m x:Operand} {ok:Bool} (hm:zAQ nt m=true) (hx:zAQ nt x=true) (h:(zIz P d t m x ok).run o e=some e') :
  ∃ v,(Instr.lookup t (a.eval m) (a.eval x) ok).run P w = .ok v w∧Fr w0 U Φ0 nt hv (a.put d v) w e':=by
 obtain ⟨p,h1,hp⟩:=zBv S hm h
 obtain ⟨key,h2,hk⟩:=zBv S hx h1
 split at h2
 ·rename_i kt el ht
  obtain ⟨ve,h3⟩:=zAJ h2
  obtain ⟨z,hz,h4⟩:=zBG h3
  obtain ⟨kR,h5⟩:=zAJ h4
  obtain ⟨i,zv,_,_,uE,kL⟩:=zDJ hz
  have qK:=zLS (zCj (w:=w) (Φ:=Φ) (A:=zCe) kL).1
  cases p<;>simp only [zS2] at h5<;>try (cases h5;done)
  case nilm=>exact zLa S hb hd (ms:=#[]) (es:=[]) ht ve hk (uE w) qK kR (by simp [zDR]) (.inl ⟨hp.1,rfl⟩) h5
  case map es =>
   obtain ⟨_,b,ms,q1,_,q2,q3⟩:=hp
   exact zLa S hb hd ht ve hk (uE w) qK kR q3 (.inr ⟨b,_,q1,q2⟩) h5
  case bmap r pre =>
   obtain ⟨q,hq,h6⟩:=zBL h5
   cases q<;>simp only at h6<;>try (cases h6;done)
   rename_i es
   obtain ⟨_,b,ms,q1,q2,q3⟩:=zLJ S hp hq
   exact zLa S hb hd ht ve hk (uE w) qK kR q3 (.inr ⟨b,_,q1,q2⟩) h6
 ·cases h2
theorem zGQ:∀ {ps qs:List PV} {us vs:List Value} {A A':Al},ps.all PV.num=true→zFO ps qs=some true→zA2 w Φ A ps us []→zA2 w Φ A' qs vs []→us=vs∧∀ u∈us,∀ n,Instr.sameBits n u u=true
 | [],[],us,vs,A,A',_,_,h1,h2=>by rw [h1.1,h2.1];exact ⟨rfl,by simp⟩
 | [],_::_,us,vs,A,A',_,h,_,_=>by cases h
 | p::ps,[],us,vs,A,A',_,h,_,_=>by cases h
 | p :: ps,q::qs,us,vs,A,A',hp,h,h1,h2=>by
  simp only [List.all_cons,Bool.and_eq_true] at hp
  obtain ⟨u,us',L1,L2,rfl,hL,h3,h4⟩:=h1
  obtain ⟨v,vs',M1,M2,rfl,hM,h5,h6⟩:=h2
  obtain ⟨rfl,rfl⟩:=List.append_eq_nil_iff.1 hL.symm
  obtain ⟨rfl,rfl⟩:=List.append_eq_nil_iff.1 hM.symm
  simp only [zFO] at h
  cases vh:zXL p q with
  | none=>rw [vh] at h;cases h
  | some b1 =>
   rw [vh] at h
   cases y1:zFO ps qs with
   | none=>rw [y1] at h;cases h
   | some b2 =>
    rw [y1] at h
    simp only [Option.some.injEq,Bool.and_eq_true] at h
    obtain ⟨rfl,rfl⟩:=h
    obtain ⟨ih1,ih2⟩:=zGQ hp.2 y1 h4 h6
    have huv:u=v∧∀ n,Instr.sameBits n u u=true:=by
     cases p<;>first | (cases hp.1;done) | skip
     case int k n =>
      cases q<;>simp only [zXL] at vh<;>try (cases vh;done)
      split at vh
      ·rename_i hk;subst hk
       simp only [Option.some.injEq,beq_iff_eq] at vh;subst vh
       refine ⟨h3.1.trans h5.1.symm,fun n=>?_⟩
       rw [h3.1];cases n<;>simp [Instr.sameBits]
      ·cases vh
     case bool b =>
      cases q<;>simp only [zXL] at vh<;>try (cases vh;done)
      simp only [Option.some.injEq,beq_iff_eq] at vh;subst vh
      refine ⟨h3.1.trans h5.1.symm,fun n=>?_⟩
      rw [h3.1];cases n<;>simp [Instr.sameBits]
    refine ⟨by rw [huv.1,ih1],fun x hx n=>?_⟩
    rcases List.mem_cons.1 hx with rfl | hx
    ·exact huv.2 n
    ·exact ih2 x hx n
theorem zOY {p q:PV} {x y:Value} {A A':Al} (hp:p.flat=true) (h:zFO p.cells q.cells=some true) (h1:Rep w Φ A p x []) (h2:Rep w Φ A' q y []) (ha:q.isAgg=p.isAgg):x=y∧Instr.sameBits 10000 x x=true:=by
 cases p<;>first | (cases hp;done) | skip
 case agg cs =>
  cases q<;>first | (cases ha;done) | skip
  rename_i ds
  obtain ⟨us,rfl,h3⟩:=h1
  obtain ⟨vs,rfl,h4⟩:=h2
  obtain ⟨k1,k2⟩:=zGQ (A:=A) (A':=A') hp h h3 h4
  refine ⟨by rw [Array.toList_inj.1 k1],?_⟩
  simp only [Instr.sameBits,BEq.rfl,Bool.true_and,List.all_eq_true]
  intro z hz
  obtain ⟨j,hj⟩:=List.getElem?_of_mem hz
  obtain ⟨g1,g2⟩:=List.getElem?_zip_eq_some.1 hj
  rw [g1] at g2
  simp only [Option.some.injEq] at g2
  rw [← g2]
  exact k2 _ (List.mem_of_getElem? g1) _
 case int k n =>
  cases q<;>first | (cases ha;done) | skip
  all_goals
   obtain ⟨k1,k2⟩:=zGQ (A:=A) (A':=A') (ps:=[.int k n]) rfl h ⟨_,[],[],[],rfl,rfl,h1,rfl,rfl⟩ ⟨_,[],[],[],rfl,rfl,h2,rfl,rfl⟩
   exact ⟨by simpa using k1,k2 _ (by simp) _⟩
 case bool b =>
  cases q<;>first | (cases ha;done) | skip
  all_goals
   obtain ⟨k1,k2⟩:=zGQ (A:=A) (A':=A') (ps:=[.bool b]) rfl h ⟨_,[],[],[],rfl,rfl,h1,rfl,rfl⟩ ⟨_,[],[],[],rfl,rfl,h2,rfl,rfl⟩
   exact ⟨by simpa using k1,k2 _ (by simp) _⟩
theorem zVv {n:Nat} {t:TypeId} {p q:PV} {b:Bool} (h:eqT P n t p q=some b):q.isAgg=p.isAgg:=by
 cases n with
 | zero=>cases h
 | succ n =>
  simp only [eqT] at h
  split at h<;>first | rfl | (cases h;done)
theorem zJO {kt:TypeId} {key:PV}:∀ {es:List (PV×PV)} {i j:Nat},zDb P kt key es i=some (some j)→i≤j∧∃ k v,es[j-i]? = some (k,v)∧k.isAgg=key.isAgg
 | [],i,j,h=>by cases h
 | (k, v)::es,i,j,h=>by
  simp only [zDb] at h
  split at h
  ·rename_i he
   split at h
   ·simp only [Option.some.injEq] at h;subst h
    exact ⟨Nat.le_refl _,k,v,by simp,zVv he⟩
   ·cases h
  ·obtain ⟨h1,k',v',h2,h3⟩:=zJO h
   exact ⟨by omega,k',v',by rw [show j-i=(j-(i+1))+1 by omega];simpa using h2,h3⟩
  ·cases h
theorem zNA (S:St w0 U Φ0 nt hv a w e Φ rv E L) {r b:Nat} {pre:zAU} {mv:Value} {es es':List (PV×PV)} {ms ms':Array MapEntry} {root:PV} (hm:Rep w Φ (zA8 w rv E) (.bmap r pre) mv []) (hq:zAz (e.get r).unlock pre=some (.omap es)) (vf:mv = .map (some b))
  (j0:w.heap[b]? = some (.map ms es.length)) (yF:(e.get r).isLock=false) (yx:zAu (fun _=>some (.omap es')) (e.get r) pre=some root) (hR:∀ w':World,(∀ c,Φ c→w'.heap[c]? = w.heap[c]?)→zDR w' Φ es' ms'.toList 0) :
  ∃ rv' E' L',St w0 U Φ0 nt hv a {w with heap:=w.heap.setIfInBounds b (.map ms' es'.length)} (e.set r root) Φ rv' E' L'∧zBs E'∧∀ c,Φ c→({w with heap:=w.heap.setIfInBounds b (.map ms' es'.length)}:World).heap[c]? = w.heap[c]?:=by
 obtain ⟨_,hr,_,hn⟩:=hm
 rw [← S.env r hr] at hq yF yx
 have jB:(E r).unlock=E r:=by cases hE:E r<;>first | rfl | (rw [hE] at yF;cases yF)
 rw [jB] at hq
 obtain ⟨kr,kt⟩:=zBR (q' := .omap es') rfl rfl yx
 obtain ⟨nv,Li,uS,hX,gK,uo,vt⟩:=S.conf.mod hr (f:=fun x=>x) (fun _ => .inl rfl) (pre:=pre) (q := .omap es) (by rw [zBk];exact jB) (by rw [zBk];exact hq)
 rw [zBk] at uS
 obtain ⟨b',ents,rfl,rfl,hh',_⟩:=hX
 have hbb:b'=b:=by
  have:=hn _ _ (by rw [jB];exact uS) es rfl
  rw [vf] at this;cases this;rfl
 subst hbb
 have jL:b'∈L r:=uo b' (by simp)
 have hnΦ:¬ Φ b':=(S.conf.own r b' jL).2.1
 obtain ⟨s1,s2⟩:=MapKept.heap_set (o' := .map ms' es'.length) j0
 have hG:∀ s,decide (zAb≤s)=true↔zAb≤s:=fun s=>decide_eq_true_iff
 obtain ⟨L',vl,hc⟩:=vt (fun s=>decide (zAb≤s)) {w with heap:=w.heap.setIfInBounds b' (.map ms' es'.length)} (.omap es') root [b'] (fun s hs=>(hG s).1 hs) (fun _=>rfl) (by rw [zBk];exact yx) kr
  (fun A hA=>⟨b',ms',rfl,rfl,s1,hR _ fun c hc=>s2 c fun h=>hnΦ (h▸hc)⟩) (by simp) (fun c hc => .inl hc) (by simp)
  (fun c hc qn _=>s2 c (by simpa using qn)) (fun rest nv2 np2 hf hh=>by
   cases rest with
   | nil =>
    simp only [zAR,Option.some.injEq,Prod.mk.injEq] at hf
    obtain ⟨rfl,rfl⟩:=hf
    exact .inr ⟨_,rfl,trivial⟩
   | cons ic rest=>obtain ⟨i,c⟩:=ic;rw [zA6] at hf;cases hf) ⟨rfl,rfl,rfl⟩
 have hdec:∀ s,s<zAb→decide (zAb≤s)=false:=fun s hs=>decide_eq_false (by omega)
 refine ⟨_,_,_,S.turn (e':=e.set r root) hc (fun s hs=>?_) (fun s hs=>rfl) (fun d ps hd hp=>?_),fun g hg=>?_,fun c hc=>s2 c fun h=>hnΦ (h▸hc)⟩
 ·rw [Env.get_set]
  by_cases yZ:s=r
  ·subst yZ;rw [if_pos rfl,if_pos rfl]
  ·rw [if_neg yZ,if_neg yZ,hdec s hs];simp only [Bool.false_eq_true,if_false,zBk];exact S.env s hs
 ·by_cases ji:d=r
  ·subst ji;rw [if_pos rfl] at hp;rw [hp] at kt;cases kt
  ·rw [if_neg ji,hdec d (by simp only [zAb];omega)] at hp
   simp only [Bool.false_eq_true,if_false,zBk] at hp
   exact ⟨ps,hp,rfl⟩
 ·show (if g=r then root else if decide (zAb≤g)=true then PV.bad else PV.mapW (fun x=>x) (E g))=PV.bad
  rw [if_neg (by omega),(hG g).2 hg];rfl
theorem zJy (S:St w0 U Φ0 nt hv a w e Φ rv E L) {r b:Nat} {pre:zAU} {mv:Value} {es es':List (PV×PV)} {ms ms':Array MapEntry} {root:PV} (hm:Rep w Φ (zA8 w rv E) (.bmap r pre) mv []) (hq:zAz (e.get r).unlock pre=some (.omap es)) (vf:mv = .map (some b))
  (j0:w.heap[b]? = some (.map ms es.length)) (yF:(e.get r).isLock=false) (yx:zAu (fun _=>some (.omap es')) (e.get r) pre=some root) (hR:∀ w':World,(∀ c,Φ c→w'.heap[c]? = w.heap[c]?)→zDR w' Φ es' ms'.toList 0) :
  Fr w0 U Φ0 nt hv a {w with heap:=w.heap.setIfInBounds b (.map ms' es'.length)} (e.set r root):=by
 obtain ⟨rv',E',L',h1,h2,_⟩:=zNA S hm hq vf j0 yF yx hR
 exact ⟨Φ,rv',E',L',h1,h2⟩
theorem zDR.modify' {w':World} (hΦ:∀ c,Φ c→w'.heap[c]? = w.heap[c]?) {key v:PV} {kv vv:Value} (hk:Rep w Φ zCe key kv []) (hv:Rep w Φ zCe v vv []):∀ (es:List (PV×PV)) (ms:List MapEntry) (i j:Nat),zDR w Φ es ms i→zDR w' Φ (es.modify j fun _=>(key,v)) (ms.modify j fun m=>{m with key:=kv,val:=vv}) i
 | [],ms,i,j,h=>by simp only [zDR] at h;subst h;cases j<;>simp [zDR]
 | (k,p)::es,ms,i,0,h=>by
  obtain ⟨m,ms',rfl,hb,h1,h2,h3⟩:=h
  simp only [List.modify_zero_cons]
  exact ⟨_,_,rfl,hb,hk.mono (fun c hc=>⟨hc,hΦ c hc⟩) (fun _ _ _ h=>h) (by simp),hv.mono (fun c hc=>⟨hc,hΦ c hc⟩) (fun _ _ _ h=>h) (by simp),zDR.same (fun c hc=>⟨hc,hΦ c hc⟩) _ _ _ h3⟩
 | (k,p)::es,ms,i,j+1,h=>by
  obtain ⟨m,ms',rfl,hb,h1,h2,h3⟩:=h
  simp only [List.modify_succ_cons]
  exact ⟨_,_,rfl,hb,h1.mono (fun c hc=>⟨hc,hΦ c hc⟩) (fun _ _ _ h=>h) (by simp),h2.mono (fun c hc=>⟨hc,hΦ c hc⟩) (fun _ _ _ h=>h) (by simp),zDR.modify' hΦ hk hv es ms' (i+1) j h3⟩
theorem zDR.push' {w':World} (hΦ:∀ c,Φ c→w'.heap[c]? = w.heap[c]?) {key v:PV} {kv vv:Value} (hk:Rep w Φ zCe key kv []) (hv:Rep w Φ zCe v vv []):∀ (es:List (PV×PV)) (ms:List MapEntry) (i:Nat),zDR w Φ es ms i→zDR w' Φ (es++[(key,v)]) (ms++[{key:=kv,val:=vv,born:=i+es.length}]) i
 | [],ms,i,h=>by
  simp only [zDR] at h;subst h
  exact ⟨_,_,rfl,rfl,hk.mono (fun c hc=>⟨hc,hΦ c hc⟩) (fun _ _ _ h=>h) (by simp),hv.mono (fun c hc=>⟨hc,hΦ c hc⟩) (fun _ _ _ h=>h) (by simp),by simp [zDR]⟩
 | (k,p)::es,ms,i,h=>by
  obtain ⟨m,ms',rfl,hb,h1,h2,h3⟩:=h
  have ih:=zDR.push' hΦ hk hv es ms' (i+1) h3
  rw [show i+1+es.length=i+(es.length+1) by omega] at ih
  exact ⟨m,_,rfl,hb,h1.mono (fun c hc=>⟨hc,hΦ c hc⟩) (fun _ _ _ h=>h) (by simp),h2.mono (fun c hc=>⟨hc,hΦ c hc⟩) (fun _ _ _ h=>h) (by simp),ih⟩
theorem zJN {p:PV} (h:p.flat=true):p.lone=true:=by
 cases p<;>first | (cases h;done) | rfl | skip
 rename_i cs
 simp only [PV.flat,PV.lone,List.all_eq_true] at h ⊢
 intro q hq
 have:=h q hq
 cases q<;>first | (cases this;done) | rfl
theorem zRt (S:St w0 U Φ0 nt hv a w e Φ rv E L) {t kt el:TypeId} {key v m:PV} {mv kv vv:Value} (ht:P.underlying t=some (.map kt el)) (ve:zOL P 20 kt key=true) (hkf:key.flat=true) (hEv:E zAb=v) (hEm:E (zAb+1)=m) (hEk:E (zAb+2)=key) (j3:rv zAb=vv) (hrm:rv (zAb+1)=mv) (hrk:rv (zAb+2)=kv)
  (h:(zMA P kt key v m).run o e=some e'):∃ w',(Instr.mapUpdate t mv kv vv).run P w = .ok () w'∧Fr w0 U Φ0 nt hv a w' e':=by
 have h0:=S.conf.rep zAb
 have h1:=S.conf.rep (zAb+1)
 have h2:=S.conf.rep (zAb+2)
 rw [hEv,j3] at h0
 rw [hEm,hrm] at h1
 rw [hEk,hrk] at h2
 cases m<;>simp only [zMA] at h<;>try (cases h;done)
 rename_i r pre
 obtain ⟨js,h⟩:=zAJ h
 obtain ⟨_,uN⟩:=zHi js h0
 obtain ⟨jR,vO⟩:=zHi (zJN hkf) h2
 rw [jR] at h2
 have hL1:L (zAb+1)=[]:=h1.1
 rw [hL1] at h1
 obtain ⟨q,hq,h⟩:=zBL h
 cases q<;>simp only at h<;>try (cases h;done)
 rename_i es
 obtain ⟨_,b,ms,rfl,j0,hM⟩:=zLJ S h1 hq
 cases hf:zDb P kt key es 0 with
 | none=>rw [hf] at h;cases h
 | some x =>
  rw [hf] at h
  have yX:=zHD ve h2 hf hM
  have vg:=zIT (empty:=false) 20 10000 kt key kv (by decide) ve h2
  cases x with
  | none =>
   obtain ⟨root,yF,yx,h⟩:=zBY h
   simp only [PM.run,Option.some.injEq] at h;subst h
   have:=zJy S (ms':=ms.push {key:=kv,val:=vv,born:=es.length}) h1 hq rfl j0 yF yx (fun w' hw=>by
    have:=zDR.push' hw vO uN es ms.toList 0 hM
    simpa using this)
   refine ⟨_,?_,this⟩
   simp only [Option.bind_none] at yX
   simp [Instr.mapUpdate,run_underlying ht,MapKept.run_getObj_map j0,vg,yX,MapKept.run_setObj_map _ j0]
  | some i =>
   obtain ⟨root,yF,yx,h⟩:=zBY h
   simp only [PM.run,Option.some.injEq] at h;subst h
   obtain ⟨_,hi,k,v',m,h3,h4,h5,h6,h7,h8⟩:=(zDx h2 es ms.toList 0 (some i) hf hM).2 i rfl
   simp only [Nat.sub_zero] at h3 h4 hi
   obtain ⟨_,k',v'',h9,jS⟩:=zJO hf
   simp only [Nat.sub_zero] at h9
   rw [h3] at h9;cases h9
   obtain ⟨wc,hsb⟩:=zOY hkf h5 h2 h6 jS
   have:=zJy S (ms':=ms.modify i fun m=>{m with key:=kv,val:=vv}) h1 hq rfl j0 yF yx (fun w' hw=>by
    have:=zDR.modify' hw vO uN es ms.toList 0 i hM
    simpa using this)
   refine ⟨_,?_,this⟩
   have gC:ms[i]? = some m:=by rw [← Array.getElem?_toList];exact h4
   simp only [Option.bind_some,h4,Option.map_some] at yX
   rw [wc] at hsb vg yX ⊢
   simp [Instr.mapUpdate,run_underlying ht,MapKept.run_getObj_map j0,vg,yX,gC,Instr.keyThatStays,hsb,MapKept.run_setObj_map _ j0]
theorem zJ9 (S:St w0 U Φ0 nt hv a w e Φ rv E L) (hb:zBs E) {t:TypeId} {m x y:Operand} (hm:zAQ nt m=true) (hx:zAQ nt x=true) (hy:zAQ nt y=true) (h:(zE5 P t m x y).run o e=some e') :
  ∃ w',(Instr.mapUpdate t (a.eval m) (a.eval x) (a.eval y)).run P w = .ok () w'∧Fr w0 U Φ0 nt hv a w' e':=by
 obtain ⟨p,h1,hp⟩:=zBv S hm h
 obtain ⟨key,h2,hk⟩:=zBv S hx h1
 split at h2
 ·rename_i kt el ht
  obtain ⟨hc,h3⟩:=zAJ h2
  simp only [Bool.and_eq_true] at hc
  have wD:=(zHi (zJN hc.2) hk).2
  have S1:=S.hold (g:=zAb+1) (by omega) hp
  have S2:=S1.hold (g:=zAb+2) (by omega) (wD.mono (A':=zA8 w (upd rv (zAb+1) (a.eval m)) (upd E (zAb+1) p)) zDc.refl (fun _ _ _ h=>h.elim) (by simp))
  obtain ⟨e1,rv1,E1,L1,h4,S3,h5,h6⟩:=zGx S2 hy (g:=zAb) (Nat.le_refl _) h3
  obtain ⟨e2,rv2,E2,h7,W⟩:=zOr S3 (g:=zAb) (Nat.le_refl _) h4
  obtain ⟨Φ2,L2,S4⟩:=W.st
  obtain ⟨Φ3,L3,S5⟩:=S4.iced (g:=zAb) (Nat.le_refl _)
  obtain ⟨a1,a2,_⟩:=h6 (zAb+1) (by omega) (by omega)
  obtain ⟨b1,b2,_⟩:=h6 (zAb+2) (by omega) (by omega)
  obtain ⟨c1,c2⟩:=W.rest (zAb+1) (by omega) (by omega)
  obtain ⟨d1,d2⟩:=W.rest (zAb+2) (by omega) (by omega)
  refine zRt S5 (vv:=a.eval y) (mv:=a.eval m) (kv:=a.eval x) ht hc.1 hc.2 zAj ?_ ?_ ?_ ?_ ?_ h7
  ·rw [zAf (by omega),c1,a1,zAf (by omega),zAj]
  ·rw [zAf (by omega),d1,b1,zAj]
  ·rw [W.val,h5]
  ·rw [c2,a2,zAf (by omega),zAj]
  ·rw [d2,b2,zAj]
 ·cases h2
end
end Go.Eng
namespace Go.Eng
open Go
section
variable {P:Program} {w0 w:World} {U Φ0 Φ:Nat→Prop} {nt:Nat} {hv:Hid} {a:Act} {e e':Env} {rv:Nat→Value} {E:Nat→PV} {L:Nat→List Nat} {o:zAF} {A:Al}
theorem zJY (S:St w0 U Φ0 nt hv a w e Φ rv E L) (hb:zBs E) {d:Option Nat} (hd:∀ x,d=some x→x<nt) {p:PV} {v:Value} {n:Int} (hp:Rep w Φ zCe p v []) (uu:p.lone=true) (h:(zDp d (.tup [p,.int .i64 n])).run o e=some e') :
  Fr w0 U Φ0 nt hv (a.put d (.tuple #[v,.int .i64 n])) w e':=by
 have kA:=S.small
 cases d with
 | none =>
  simp only [zDp] at h
  exact zAw S hb hd h ⟨#[v,.int .i64 n],rfl,v,[.int .i64 n],[],[],rfl,rfl,hp.mono zDc.refl (fun _ _ _ h=>h.elim) (by simp),.int .i64 n,[],[],[],rfl,rfl,⟨rfl,rfl⟩,rfl,rfl⟩
 | some d =>
  have uM:=hd d rfl
  simp only [zDp] at h
  obtain ⟨u5,h⟩:=zAJ h
  simp only [PM.run] at h
  simp only [Bool.and_eq_true] at u5
  obtain ⟨L1,S1⟩:=S.empty uM
  have S2:=S1.hold (g:=zAb) (Nat.le_refl _) (hp.mono (A':=zA8 w rv (upd E d .bad)) zDc.refl (fun _ _ _ h=>h.elim) (by simp))
  have S3:=S2.hold (g:=zAb+1) (by omega) (p := .int .i64 n) (v := .int .i64 n) ⟨rfl,rfl⟩
  refine zE0 uM (vs:=#[v,.int .i64 n]) [p,.int .i64 n] 0 S3 (fun ps hp=>?_) (by simp) (by simp) (fun j q hq=>?_) (fun g hg hI=>?_) (fun x hx=>?_) (fun j hj=>by omega) h
  ·rw [zAf (by simp only [zAb];omega),zAf (by simp only [zAb];omega),zAj] at hp;cases hp
  ·match j,hq with
   | 0,hq =>
    simp at hq;subst hq
    rw [show zAb+0+0=zAb from rfl]
    refine ⟨by rw [zAf (by omega),zAj],?_⟩
    rw [zAf (by omega),zAj];rfl
   | 1,hq =>
    simp at hq;subst hq
    rw [show zAb+0+1=zAb+1 from rfl]
    refine ⟨by rw [zAj],?_⟩
    rw [zAj];rfl
  ·have h0:=hI 0 (by simp)
   have h1:=hI 1 (by simp)
   rw [zAf (by omega),zAf (by omega)]
   by_cases qp:g=d
   ·subst qp;rw [zAj]
   ·rw [zAf qp];exact hb g hg
  ·simpa using List.all_eq_true.1 u5.2 x hx
theorem zNS {ms:Array MapEntry} {i:Nat} {m:MapEntry} {kv:Value} (h:ms[i]? = some m):ms.modify i (fun e=>{e with key:=kv})=ms.modify i (fun e=>{e with key:=kv,val:=m.val}):=by
 apply Array.ext_getElem?
 intro j
 rw [Array.getElem?_modify,Array.getElem?_modify]
 by_cases hj:i=j
 ·subst hj;simp [h]
 ·simp [hj]
theorem zLF (S:St w0 U Φ0 nt hv a w e Φ rv E L) (hb:zBs E) {d:Option Nat} (hd:∀ x,d=some x→x<nt) {t:TypeId} {m x:Operand} (hm:zAQ nt m=true) (hx:zAQ nt x=true) (h:(zF3 P d t m x).run o e=some e') :
  ∃ v w',(Instr.mapEntry t (a.eval m) (a.eval x)).run P w = .ok v w'∧Fr w0 U Φ0 nt hv (a.put d v) w' e':=by
 obtain ⟨p,h1,hp⟩:=zBv S hm h
 obtain ⟨key,h2,hk⟩:=zBv S hx h1
 split at h2
 ·rename_i kt el ht
  obtain ⟨hc,h3⟩:=zAJ h2
  simp only [Bool.and_eq_true] at hc
  obtain ⟨ve,hkf⟩:=hc
  obtain ⟨z,hz,h4⟩:=zBG h3
  obtain ⟨kR,h5⟩:=zAJ h4
  obtain ⟨_,zv,_,_,uE,kL⟩:=zDJ hz
  have qK:=zLS (zCj (w:=w) (Φ:=Φ) (A:=zCe) kL).1
  generalize zJG z=z at *
  have vO:=(zHi (zJN hkf) hk).2
  cases p<;>simp only [zN8] at h5<;>try (cases h5;done)
  rename_i r pre
  obtain ⟨q,hq,h6⟩:=zBL h5
  cases q<;>simp only at h6<;>try (cases h6;done)
  rename_i es
  obtain ⟨_,b,ms,vf,j0,hM⟩:=zLJ S hp hq
  cases hf:zDb P kt key es 0 with
  | none=>rw [hf] at h6;cases h6
  | some y =>
   rw [hf] at h6
   have yX:=zHD ve hk hf hM
   have vg:=zIT (empty:=false) 20 10000 kt key (a.eval x) (by decide) ve hk
   rw [vf]
   cases y with
   | none =>
    simp only at h6
    obtain ⟨root,yF,yx,h7⟩:=zBY h6
    obtain ⟨rv',E',L',S',yG,yt⟩:=zNA S (ms':=ms.push {key:=a.eval x,val:=zv,born:=es.length}) hp hq vf j0 yF yx (fun w' hw=>by
     have:=zDR.push' hw vO qK es ms.toList 0 hM
     simpa using this)
    have hzr':=qK.mono (w':={w with heap:=w.heap.setIfInBounds b (.map (ms.push {key:=a.eval x,val:=zv,born:=es.length}) (es++[(key,z)]).length)}) (fun c hc=>⟨hc,yt c hc⟩) (fun _ _ _ h=>h) (by simp)
    refine ⟨_,_,?_,zJY S' yG hd hzr' kR h7⟩
    simp only [Option.bind_none] at yX
    simp [Instr.mapEntry,run_underlying ht,MapKept.run_getObj_map j0,vg,yX,uE,MapKept.run_setObj_map _ j0,goInt]
   | some i =>
    obtain ⟨_,hi,k,v',m',g3,g4,g5,g6,g7,g8⟩:=(zDx hk es ms.toList 0 (some i) hf hM).2 i rfl
    simp only [Nat.sub_zero] at g3 g4 hi
    simp only [g3] at h6
    obtain ⟨js,h6⟩:=zAJ h6
    obtain ⟨root,yF,yx,h7⟩:=zBY h6
    obtain ⟨_,k',v'',g9,g10⟩:=zJO hf
    simp only [Nat.sub_zero] at g9
    rw [g3] at g9;cases g9
    obtain ⟨wc,hsb⟩:=zOY hkf g5 hk g6 g10
    have g4':ms[i]? = some m':=by rw [← Array.getElem?_toList];exact g4
    obtain ⟨rv',E',L',S',yG,yt⟩:=zNA S (ms':=ms.modify i fun e=>{e with key:=a.eval x,val:=m'.val}) hp hq vf j0 yF yx (fun w' hw=>by
     have:=zDR.modify' hw vO g7 es ms.toList 0 i hM
     simpa using this)
    have hvr':=g7.mono (w':={w with heap:=w.heap.setIfInBounds b (.map (ms.modify i fun e=>{e with key:=a.eval x,val:=m'.val}) (es.modify i fun _=>(key,v')).length)}) (fun c hc=>⟨hc,yt c hc⟩) (fun _ _ _ h=>h) (by simp)
    refine ⟨_,_,?_,zJY S' yG hd hvr' js h7⟩
    simp only [Option.bind_some,g4,Option.map_some] at yX
    have ws:=zNS (kv:=m'.key) g4'
    rw [wc] at hsb vg yX ⊢
    simp [Instr.mapEntry,run_underlying ht,MapKept.run_getObj_map j0,vg,yX,g4',Instr.keyThatStays,hsb,MapKept.run_setObj_map _ j0,goInt,ws,g8]
 ·cases h2
theorem zRw:∀ {es:List (PV×PV)} {ms:List MapEntry} {i j:Nat},zDR w Φ es ms j→i<ms.length→ms.findIdx? (fun e=>(e.born:Int)==((i+j:Nat):Int))=some i
 | [],ms,i,j,h,hi=>by simp only [zDR] at h;subst h;simp at hi
 | (k,p)::es,ms,0,j,h,hi=>by
  obtain ⟨m,ms',rfl,hb,_⟩:=h
  rw [List.findIdx?_cons,hb];simp
 | (k,p)::es,ms,i+1,j,h,hi=>by
  obtain ⟨m,ms',rfl,hb,_,_,h3⟩:=h
  have:=zRw (i:=i) h3 (by simpa using hi)
  rw [List.findIdx?_cons,hb]
  have hI:((j:Int)==((i+1+j:Nat):Int))=false:=by simp;omega
  rw [hI]
  simp only [Bool.false_eq_true,if_false]
  rw [show i+1+j=i+(j+1) by omega,this];rfl
theorem zQH:∀ {es:List (PV×PV)} {ms:List MapEntry} {i j:Nat} {k x:PV},zDR w Φ es ms j→es[i]? = some (k,x)→∃ m,ms[i]? = some m∧Rep w Φ zCe k m.key []
 | [],_,_,_,_,_,_,h=>by cases h
 | (k',p)::es,ms,0,j,k,x,h,hi=>by
  obtain ⟨m,ms',rfl,_,h1,_⟩:=h
  cases hi
  exact ⟨m,rfl,h1⟩
 | (k',p)::es,ms,i+1,j,k,x,h,hi=>by
  obtain ⟨m,ms',rfl,_,_,_,h3⟩:=h
  exact zQH (i:=i) h3 (by simpa using hi)
theorem zMX {ms:Array MapEntry} {i:Nat} {m:MapEntry} {vv:Value} (h:ms[i]? = some m):ms.modify i (fun e=>{e with val:=vv})=ms.modify i (fun e=>{e with key:=m.key,val:=vv}):=by
 apply Array.ext_getElem?
 intro j
 rw [Array.getElem?_modify,Array.getElem?_modify]
 by_cases hj:i=j
 ·subst hj;simp [h]
 ·simp [hj]
theorem zJg (S:St w0 U Φ0 nt hv a w e Φ rv E L) (hb:zBs E) {t:TypeId} {m s y:Operand} (hm:zAQ nt m=true) (hs:zAQ nt s=true) (hy:zAQ nt y=true) (h:(zEo m s y).run o e=some e') :
  ∃ w',(Instr.entryStore t (a.eval m) (a.eval s) (a.eval y)).run P w = .ok () w'∧Fr w0 U Φ0 nt hv a w' e':=by
 obtain ⟨p,h1,hp⟩:=zBv S hm h
 obtain ⟨q,h2,hq⟩:=zBv S hs h1
 obtain ⟨ik,n,rfl,hn,h3⟩:=zD8 h2
 have hq0:a.eval s = .int ik n:=hq.1
 have S1:=S.hold (g:=zAb+1) (by omega) hp
 obtain ⟨e1,rv1,E1,L1,h4,S3,h5,h6⟩:=zGx S1 hy (g:=zAb) (Nat.le_refl _) h3
 obtain ⟨e2,rv2,E2,h7,W⟩:=zOr S3 (g:=zAb) (Nat.le_refl _) h4
 obtain ⟨Φ2,L2,S4⟩:=W.st
 obtain ⟨Φ3,L3,S5⟩:=S4.iced (g:=zAb) (Nat.le_refl _)
 obtain ⟨a1,a2,_⟩:=h6 (zAb+1) (by omega) (by omega)
 obtain ⟨c1,c2⟩:=W.rest (zAb+1) (by omega) (by omega)
 have hEm:(upd E2 zAb (zAV (E2 zAb))) (zAb+1)=p:=by rw [zAf (by omega),c1,a1,zAj]
 have hrm:rv2 (zAb+1)=a.eval m:=by rw [c2,a2,zAj]
 have j3:rv2 zAb=a.eval y:=by rw [W.val,h5]
 have h0:=S5.conf.rep zAb
 have gg:=S5.conf.rep (zAb+1)
 rw [zAj,j3] at h0
 rw [hEm,hrm] at gg
 generalize yE:zAV (E2 zAb)=v at *
 cases p<;>simp only [zID] at h7<;>try (cases h7;done)
 rename_i r pre
 obtain ⟨js,h7⟩:=zAJ h7
 obtain ⟨_,uN⟩:=zHi js h0
 have hL1:L3 (zAb+1)=[]:=gg.1
 rw [hL1] at gg
 obtain ⟨q,hq,h8⟩:=zBL h7
 cases q<;>simp only at h8<;>try (cases h8;done)
 rename_i es
 obtain ⟨_,b,ms,vf,j0,hM⟩:=zLJ S5 gg hq
 cases hes:es[n.toNat]? with
 | none=>rw [hes] at h8;cases h8
 | some kx =>
  obtain ⟨k,x⟩:=kx
  rw [hes] at h8
  simp only at h8
  obtain ⟨root,yF,yx,h9⟩:=zBY h8
  simp only [PM.run,Option.some.injEq] at h9;subst h9
  obtain ⟨m',g4,g5⟩:=zQH hM hes
  have g4':ms[n.toNat]? = some m':=by rw [← Array.getElem?_toList];exact g4
  have yK:n.toNat<ms.toList.length:=(List.getElem?_eq_some_iff.1 g4).1
  have kF:=zRw hM yK
  rw [Nat.add_zero,Int.toNat_of_nonneg hn] at kF
  have:=zJy S5 (ms':=ms.modify n.toNat fun e=>{e with key:=m'.key,val:=a.eval y}) gg hq vf j0 yF yx (fun w' hw=>by
   have:=zDR.modify' hw g5 uN es ms.toList 0 n.toNat hM
   simpa using this)
  refine ⟨_,?_,this⟩
  have uL:a.eval s = .int ik n:=hq0
  rw [vf,uL]
  have hf:ms.findIdx? (fun e=>(e.born:Int)==n)=some n.toNat:=by first | (rw [← Array.findIdx?_toList];exact kF) | (rw [Array.findIdx?_toList] at kF;exact kF) | (rw [← kF];exact (Array.findIdx?_toList ..).symm) | (rw [← kF];exact (List.findIdx?_toArray ..))
  simp [Instr.entryStore,MapKept.run_getObj_map j0,asInt,asIntOf,hf,MapKept.run_setObj_map _ j0,zMX g4']
end
end Go.Eng
namespace Go.Eng
open Go
section
variable {w:World} {Φ:Nat→Prop} {rv:Nat→Value} {E:Nat→PV}
mutual
theorem zHf:∀ (p:PV) (v:Value) (L:List Nat),Rep w Φ (zA8 w rv E) p v L→∀ x∈p.ways,x.1<zAb
 | .agg cs,v,L,h,x,hx=>by obtain ⟨vs,_,h⟩:=h;exact zFn cs _ L h x hx
 | .tup cs,v,L,h,x,hx=>by obtain ⟨vs,_,h⟩:=h;exact zFn cs _ L h x hx
 | .ref q,v,L,h,x,hx=>by obtain ⟨_,a,c,u,_,_,_,_,_,_,h7⟩:=h;exact zHf q u [] h7 x hx
 | .box q,v,L,h,x,hx=>by obtain ⟨a,c,u,L',_,_,_,_,_,_,h7⟩:=h;exact zHf q u L' h7 x hx
 | .lock q,v,L,h,x,hx=>zHf q v L h x hx
 | .func g a b,v,L,h,x,hx=>by
  obtain ⟨_,fs,cs,_,h2,h3⟩:=h
  simp only [PV.ways,List.mem_append] at hx
  rcases hx with hx | hx
  ·exact zFn a _ [] h2 x hx
  ·exact zFn b _ [] h3 x hx
 | .addr ..,v,L,h,x,hx=>by simp only [PV.ways,List.mem_singleton] at hx;subst hx;exact h.2.1
 | .bor ..,v,L,h,x,hx=>by simp only [PV.ways,List.mem_singleton] at hx;subst hx;exact h.2.1
 | .bsl ..,v,L,h,x,hx=>by simp only [PV.ways,List.mem_singleton] at hx;subst hx;exact h.2.1
 | .bmap ..,v,L,h,x,hx=>by simp only [PV.ways,List.mem_singleton] at hx;subst hx;exact h.2.1
 | .yld _,v,L,h,x,hx=>by cases hx
 | .log ..,v,L,h,x,hx=>h.2.elim
 | .bad,_,_,_,x,hx=>by cases hx
 | .und,_,_,_,x,hx=>by cases hx
 | .int ..,_,_,_,x,hx=>by cases hx
 | .bool _,_,_,_,x,hx=>by cases hx
 | .nilp,_,_,_,x,hx=>by cases hx
 | .nilf,_,_,_,x,hx=>by cases hx
 | .nilm,_,_,_,x,hx=>by cases hx
 | .nn,_,_,_,x,hx=>by cases hx
 | .nils _,_,_,_,x,hx=>by cases hx
 | .sl _,_,_,_,x,hx=>by cases hx
 | .own ..,_,_,_,x,hx=>by cases hx
 | .map _,_,_,_,x,hx=>by cases hx
 | .omap _,_,_,_,x,hx=>by cases hx
theorem zFn:∀ (ps:List PV) (vs:List Value) (L:List Nat),zA2 w Φ (zA8 w rv E) ps vs L→∀ x∈zBA ps,x.1<zAb
 | [],_,_,_,x,hx=>by cases hx
 | p::ps,vs,L,h,x,hx=>by
  obtain ⟨v,vs',L1,L2,_,_,h1,h2⟩:=h
  simp only [zBA,List.mem_append] at hx
  rcases hx with hx | hx
  ·exact zHf p v L1 h1 x hx
  ·exact zFn ps vs' L2 h2 x hx
end
theorem zWS {w:World} {rv rv':Nat→Value} {E E':Nat→PV} (h:∀ s,s<zAb→E' s=E s∧rv' s=rv s) {a:PV} {v:Value} (ha:zA8 w rv E a v):zA8 w rv' E' a v:=by
 obtain ⟨h1,h2⟩:=h _ (zC3 ha)
 exact ha.mono fun nv np hn hh=>⟨np,by rw [h1,h2] at hn;exact hn,zCl.refl hh⟩
end
section
variable {P:Program} {w0 w:World} {U Φ0 Φ:Nat→Prop} {nt:Nat} {hv:Hid} {a:Act} {e e':Env} {rv:Nat→Value} {E:Nat→PV} {L:Nat→List Nat} {o:zAF}
theorem zLm:∀ (ps:List PV) (vs:List Value) (i:Nat) {rv:Nat→Value} {E:Nat→PV} {L:Nat→List Nat},St w0 U Φ0 nt hv a w e Φ rv E L→zA2 w Φ (zA8 w rv E) ps vs [] →
  ∃ rv1 E1 L1,St w0 U Φ0 nt hv a w e Φ rv1 E1 L1∧(∀ s,s<zAb→E1 s=E s∧rv1 s=rv s)∧(∀ (j:Nat) (p:PV) (v:Value),ps[j]? = some p→vs[j]? = some v→E1 (zAb+i+j)=p∧rv1 (zAb+i+j)=v∧L1 (zAb+i+j)=[]) ∧
   ∀ s,zAb≤s→(s<zAb+i∨zAb+i+ps.length≤s)→E1 s=E s∧rv1 s=rv s∧L1 s=L s
 | [],vs,i,rv,E,L,S,h=>⟨rv,E,L,S,fun _ _=>⟨rfl,rfl⟩,by simp,fun _ _ _=>⟨rfl,rfl,rfl⟩⟩
 | p :: ps,vs,i,rv,E,L,S,h=>by
  obtain ⟨v,vs',L1,L2,rfl,hL,h1,h2⟩:=h
  obtain ⟨rfl,rfl⟩:L1=[]∧L2=[]:=by simpa using hL.symm
  have S1:=S.hold (g:=zAb+i) (by omega) h1
  have yw:∀ s,s<zAb→upd E (zAb+i) p s=E s∧upd rv (zAb+i) v s=rv s:=fun s hs=>⟨zAf (by omega),zAf (by omega)⟩
  obtain ⟨rv1,E1,L1,S2,h3,h4,h5⟩:=zLm ps vs' (i+1) S1 (h2.mono zDc.refl (fun _ _ _ ha=>zWS yw ha) (fun _ _=>rfl))
  refine ⟨rv1,E1,L1,S2,fun s hs=>⟨(h3 s hs).1.trans (yw s hs).1,(h3 s hs).2.trans (yw s hs).2⟩,fun j q u hq hu=>?_,fun s hs jo=>?_⟩
  ·cases j with
   | zero =>
    simp at hq hu;subst hq;subst hu
    obtain ⟨k1,k2,k3⟩:=h5 (zAb+i) (by omega) (.inl (by omega))
    simp only [Nat.add_zero]
    rw [k1,k2,k3,zAj,zAj,zAj];exact ⟨rfl,rfl,rfl⟩
   | succ j =>
    have:=h4 j q u (by simpa using hq) (by simpa using hu)
    rwa [show zAb+i+(j+1)=zAb+(i+1)+j by omega]
  ·obtain ⟨k1,k2,k3⟩:=h5 s hs (by simp at jo;omega)
   have hI:s≠zAb+i:=by simp at jo;omega
   rw [k1,k2,k3,zAf hI,zAf hI,zAf hI];exact ⟨rfl,rfl,rfl⟩
structure Handed (rv1:Nat→Value) (E1:Nat→PV) (L1:Nat→List Nat) (i:Nat) (bs:List (Bool×PV)):Prop where
 at_:∀ (j:Nat) (b:Bool×PV),bs[j]? = some b→E1 (zAb+i+j)=b.2∧(b.1=true→b.2.ways=[])∧(b.1=false→L1 (zAb+i+j)=[])
theorem zGJ:∀ (ps:List PV) (ms:List Nat) (i:Nat) {k:List (Bool×PV)→PM} {e:Env} {Φ:Nat→Prop} {rv:Nat→Value} {E:Nat→PV} {L:Nat→List Nat},St w0 U Φ0 nt hv a w e Φ rv E L →
  (∀ (j:Nat) (p:PV),ps[j]? = some p→E (zAb+i+j)=p∧L (zAb+i+j)=[])→(zD6 ms ps k).run o e=some e' →
  ∃ e1 rv1 E1 L1 bs,(k bs).run o e1=some e'∧St w0 U Φ0 nt hv a w e1 Φ rv1 E1 L1∧bs.length=ps.length∧Handed rv1 E1 L1 i bs∧(∀ s,rv1 s=rv s)∧(∀ s,zAb≤s→(s<zAb+i∨zAb+i+ps.length≤s)→E1 s=E s∧L1 s=L s)
 | [],ms,i,k,e,Φ,rv,E,L,S,hp,h=>⟨e,rv,E,L,[],by simpa [zD6] using h,S,rfl,⟨by simp⟩,fun _=>rfl,fun _ _ _=>⟨rfl,rfl⟩⟩
 | p :: ps,ms,i,k,e,Φ,rv,E,L,S,hp,h=>by
  obtain ⟨hE,hL⟩:=hp 0 p rfl
  simp only [Nat.add_zero] at hE hL
  have plain:(zD6 ms.tail ps fun as=>k ((false,p)::as)).run o e=some e'→∃ e1 rv1 E1 L1 bs,(k bs).run o e1=some e'∧St w0 U Φ0 nt hv a w e1 Φ rv1 E1 L1∧bs.length=(p::ps).length∧Handed rv1 E1 L1 i bs∧(∀ s,rv1 s=rv s) ∧
    (∀ s,zAb≤s→(s<zAb+i∨zAb+i+(p::ps).length≤s)→E1 s=E s∧L1 s=L s):=by
   intro h
   obtain ⟨e1,rv1,E1,L1,bs,h1,S1,h2,h3,h4,h5⟩:=zGJ ps ms.tail (i+1) S (fun j q hq=>by
    rw [show zAb+(i+1)+j=zAb+i+(j+1) by omega];exact hp (j+1) q (by simpa using hq)) h
   refine ⟨e1,rv1,E1,L1,(false,p)::bs,h1,S1,by simp [h2],⟨fun j b hb=>?_⟩,h4,fun s hs jo=>h5 s hs (by simp at jo;omega)⟩
   cases j with
   | zero =>
    simp at hb;subst hb
    obtain ⟨k1,k2⟩:=h5 (zAb+i) (by omega) (.inl (by omega))
    simp only [Nat.add_zero]
    exact ⟨k1.trans hE,by simp,fun _=>k2.trans hL⟩
   | succ j =>
    have:=h3.at_ j b (by simpa using hb)
    rwa [show zAb+(i+1)+j=zAb+i+(j+1) by omega] at this
  simp only [zD6] at h
  split at h
  ·rename_i r pre z n _
   obtain ⟨q,hq,h1⟩:=zBL h
   split at h1
   ·rename_i sz xs
    obtain ⟨yN,h2⟩:=zAJ h1
    have yN:=Nat.le_of_ble_eq_true yN
    obtain ⟨root,hl,hm,h3⟩:=zBY h2
    have hX:=S.conf.rep (zAb+i)
    rw [hE] at hX
    obtain ⟨_,hr,_,hn⟩:=hX
    have yF:=zBC hl
    rw [yF,← S.env r hr] at hq
    rw [← S.env r hr] at yF hm
    obtain ⟨kk1,kk2⟩:=zBR (q' := .bad) rfl rfl hm
    obtain ⟨nv,Li,g1,g2,g3,g4,g5⟩:=S.taken (g:=zAb+i) (by omega) hr yF hq rfl hm kk1 kk2
    have jP:zBK (rv (zAb+i)) nv sz 0 n:=by
     obtain ⟨s2,xs2,q1,q2,q3⟩:=hn nv _ (by rw [yF];exact g1) rfl
     cases q1;subst q2;exact q3
    obtain ⟨Lg,p1,p2,p3⟩:=zIg g2 (by omega) jP
    obtain ⟨L',S1,vl⟩:=g5 _ (rv (zAb+i)) Lg p1 (p3 g3) (fun b hb => .inl (p2 b hb))
    have j3:∀ s,upd rv (zAb+i) (rv (zAb+i)) s=rv s:=fun s=>by
     by_cases hs:s=zAb+i
     ·subst hs;rw [zAj]
     ·rw [zAf hs]
    have vE:∀ s,zAb≤s→s≠zAb+i→upd (upd E r root) (zAb+i) (PV.own sz ((xs.drop 0).take n)) s=E s∧L' s=L s:=fun s hs hI=>⟨by rw [zAf hI,zAf (by omega)],vl s hs hI⟩
    obtain ⟨e1,rv1,E1,L1,bs,h4,S2,h5,h6,h7,h8⟩:=zGJ ps ms.tail (i+1) S1 (fun j q hq=>by
     obtain ⟨k1,k2⟩:=vE (zAb+(i+1)+j) (by omega) (by omega)
     rw [k1,k2,show zAb+(i+1)+j=zAb+i+(j+1) by omega];exact hp (j+1) q (by simpa using hq)) h3
    refine ⟨e1,rv1,E1,L1,_::bs,h4,S2,by simp [h5],⟨fun j b hb=>?_⟩,fun s=>(h7 s).trans (j3 s),fun s hs jo=>?_⟩
    ·cases j with
     | zero =>
      simp only [List.getElem?_cons_zero,Option.some.injEq] at hb;subst hb
      obtain ⟨k1,k2⟩:=h8 (zAb+i) (by omega) (.inl (by omega))
      simp only [Nat.add_zero]
      exact ⟨by rw [k1,zAj],fun _=>rfl,fun h=>by cases h⟩
     | succ j =>
      have:=h6.at_ j b (by simpa using hb)
      rwa [show zAb+(i+1)+j=zAb+i+(j+1) by omega] at this
    ·obtain ⟨k1,k2⟩:=h8 s hs (by simp at jo;omega)
     obtain ⟨k3,k4⟩:=vE s hs (by simp at jo;omega)
     exact ⟨k1.trans k3,k2.trans k4⟩
   ·cases h1
  ·exact plain h
theorem zHZ (S:St w0 U Φ0 nt hv a w e Φ rv E L):∀ (bs:List (Bool×PV)) (ms:List Nat) (i:Nat) {k:List Arg→PM},Handed rv E L i bs→(zCB ms bs k).run o e=some e' →
  ∃ as,(k as).run o e=some e'∧as.length=bs.length∧∀ (j:Nat) (x:Arg),as[j]? = some x→zNE w Φ rv E (i+j) x
 | [],ms,i,k,hb,h=>⟨[],by simpa [zCB] using h,rfl,by simp⟩
 | (m, p)::bs,ms,i,k,hb,h=>by
  obtain ⟨h1,h2,h3⟩:=hb.at_ 0 (m,p) rfl
  simp only [Nat.add_zero] at h1 h2 h3
  have uF:Handed rv E L (i+1) bs:=⟨fun j b hj=>by
   rw [show zAb+(i+1)+j=zAb+i+(j+1) by omega];exact hb.at_ (j+1) b (by simpa using hj)⟩
  have fin:∀ x,zNE w Φ rv E i x→(zCB ms.tail bs fun as=>k (x::as)).run o e=some e'→∃ as,(k as).run o e=some e'∧as.length=((m,p)::bs).length∧∀ (j:Nat) (x:Arg),as[j]? = some x→zNE w Φ rv E (i+j) x:=by
   intro x hx h
   obtain ⟨as,g1,g2,g3⟩:=zHZ S bs ms.tail (i+1) uF h
   refine ⟨x::as,g1,by simp [g2],fun j y hy=>?_⟩
   cases j with
   | zero=>simp at hy;subst hy;exact hx
   | succ j=>rw [show i+(j+1)=i+1+j by omega];exact g3 j y (by simpa using hy)
  cases m with
  | true=>exact fin _ ⟨by simp,.inr (.inl ⟨rfl,h1.symm,by rw [h1];exact h2 rfl⟩)⟩ h
  | false =>
   simp only [zCB] at h
   revert h
   cases Nat.beq (ms.headD 0) 1 with
   | true=>exact fun h=>fin _ ⟨by simp,.inl ⟨rfl,h1.symm⟩⟩ h
   | false =>
    intro h
    simp only [cond_false] at h
    have hX:=S.conf.rep (zAb+i)
    rw [h1,h3 rfl] at hX
    obtain ⟨q,l,g1,g2,g3⟩:=zO0 S hX h
    exact fin _ ⟨g2,.inr (.inr ⟨rfl,fun Φ1 k1 k2=>g3 Φ1 k1 k2 (by simp)⟩)⟩ g1
theorem zKf:∀ (bs:List (Bool×PV)) (ms:List Nat) (i:Nat) {k:List Arg→PM} {e:Env} {Φ:Nat→Prop} {E:Nat→PV} {L:Nat→List Nat},St w0 U Φ0 nt hv a w e Φ rv E L→Handed rv E L i bs→(zEa ms bs k).run o e=some e' →
  ∃ as e1 Φ1 E1 L1,(k as).run o e1=some e'∧St w0 U Φ0 nt hv a w e1 Φ1 rv E1 L1∧as.length=bs.length∧(∀ (j:Nat) (x:Arg),as[j]? = some x→zNE w Φ1 rv E1 (i+j) x)∧∀ s,zAb≤s→s<zAb+i→E1 s=E s
 | [],ms,i,k,e,Φ,E,L,S,hb,h=>⟨[],e,Φ,E,L,by simpa [zEa] using h,S,rfl,by simp,fun _ _ _=>rfl⟩
 | (m, p)::bs,ms,i,k,e,Φ,E,L,S,hb,h=>by
  obtain ⟨h1,h2,h3⟩:=hb.at_ 0 (m,p) rfl
  simp only [Nat.add_zero] at h1 h2 h3
  have uF:Handed rv E L (i+1) bs:=⟨fun j b hj=>by
   rw [show zAb+(i+1)+j=zAb+i+(j+1) by omega];exact hb.at_ (j+1) b (by simpa using hj)⟩
  have fin:∀ {e:Env} {Φ:Nat→Prop} {E2:Nat→PV} {L2:Nat→List Nat} (x:Arg),St w0 U Φ0 nt hv a w e Φ rv E2 L2→Handed rv E2 L2 (i+1) bs→(∀ s,zAb≤s→s<zAb+i→E2 s=E s)→(∀ (Φ1:Nat→Prop) (E1:Nat→PV),E1 (zAb+i)=E2 (zAb+i)→zNE w Φ1 rv E1 i x) →
    (zEa ms.tail bs fun as=>k (x::as)).run o e=some e'→∃ as e1 Φ1 E1 L1,(k as).run o e1=some e'∧St w0 U Φ0 nt hv a w e1 Φ1 rv E1 L1∧as.length=((m,p)::bs).length∧(∀ (j:Nat) (x:Arg),as[j]? = some x→zNE w Φ1 rv E1 (i+j) x)∧∀ s,zAb≤s→s<zAb+i→E1 s=E s:=by
   intro e Φ E2 L2 x S hh hE hx h
   obtain ⟨as,e1,Φ1,E1,L1,g1,S1,g2,g3,g4⟩:=zKf bs ms.tail (i+1) S hh h
   refine ⟨x::as,e1,Φ1,E1,L1,g1,S1,by simp [g2],fun j y hy=>?_,fun s hs yK=>(g4 s hs (by omega)).trans (hE s hs yK)⟩
   cases j with
   | zero=>simp at hy;subst hy;exact hx Φ1 E1 (g4 _ (by omega) (by omega))
   | succ j=>rw [show i+(j+1)=i+1+j by omega];exact g3 j y (by simpa using hy)
  cases m with
  | true=>exact fin _ S uF (fun _ _ _=>rfl) (fun Φ1 E1 he=>⟨by simp,.inr (.inl ⟨rfl,by rw [he,h1],by rw [he,h1];exact h2 rfl⟩)⟩) h
  | false =>
   simp only [zEa] at h
   revert h
   cases Nat.beq (ms.headD 0) 1 with
   | true=>exact fun h=>fin _ S uF (fun _ _ _=>rfl) (fun Φ1 E1 he=>⟨by simp,.inl ⟨rfl,by rw [he,h1]⟩⟩) h
   | false =>
    intro h
    simp only [cond_false] at h
    rw [← h1] at h
    obtain ⟨e1,Φ1,E1,L1,g1,S1,g2,g3,g4,g5,_,_⟩:=zIW (g:=zAb+i) (by omega) (Nat.le_refl _) zDw S h
    have hw:(E1 (zAb+i)).ways=[]:=by
     have yw:=zHf _ _ _ (S1.conf.rep (zAb+i))
     cases hw:(E1 (zAb+i)).ways with
     | nil=>rfl
     | cons x xs =>
      have k1:=yw x (by rw [hw];simp)
      have k2:=g5 x (by rw [hw];simp)
      omega
    refine fin _ S1 ⟨fun j b hj=>?_⟩ (fun s hs yK=>g3 s hs (by omega)) (fun Φ1 E1' he=>⟨by simp,.inr (.inl ⟨rfl,he.symm,by rw [he];exact hw⟩)⟩) g1
    rw [g3 _ (by omega) (by omega),g4 _ (by omega)]
    exact uF.at_ j b hj
variable {H:zBh}
theorem zUe (jF:zGc P o) (S:St w0 U Φ0 nt hv a w e Φ rv E L) {d:Option Nat} (hd:∀ x,d=some x→x<nt) {f:FuncId} {ps:List PV} {vs:Array Value} (hr:zA2 w Φ (zA8 w rv E) ps vs.toList [])
  (h:(zNW H d f ps).run o e=some e'):Callable P f∧Calls P f vs w fun en w''=>∃ u,en = .returned u∧Fr w0 U Φ0 nt hv (a.put d u) w'' e':=by
 have hZ:=hr.length
 obtain ⟨rv1,E1,L1,S1,_,h2,_⟩:=zLm ps vs.toList 0 S hr
 have hpv:∀ (j:Nat) (p:PV),ps[j]? = some p→∃ v,vs.toList[j]? = some v:=fun j p hj=>by
  have:j<ps.length:=(List.getElem?_eq_some_iff.1 hj).1
  exact ⟨_,List.getElem?_eq_getElem (by omega)⟩
 simp only [zNW] at h
 obtain ⟨e2,rv2,E2,L2,bs,h3,S2,h4,h5,h6,_⟩:=zGJ ps (H f).mode 0 S1 (fun j p hj=>by
  obtain ⟨v,yE⟩:=hpv j p hj
  have:=h2 j p v hj yE
  exact ⟨this.1,this.2.2⟩) h
 have ye:∀ i,i<bs.length→vs[i]? = some (rv2 (zAb+i)):=by
  intro i hi
  obtain ⟨p,hp⟩:∃ p,ps[i]? = some p:=⟨_,List.getElem?_eq_getElem (by omega)⟩
  obtain ⟨v,yE⟩:=hpv i p hp
  have:=h2 i p v hp yE
  simp only [Nat.add_zero] at this
  rw [h6,this.2.1]
  simpa using yE
 have hvsz:vs.size=bs.length:=by rw [h4,← hZ];simp
 obtain ⟨as,g1,g2,g3⟩:=zHZ S2 bs (H f).mode 0 h5 h3
 rcases zOE jF S2 hd (vs:=vs) (by rw [hvsz,g2]) (fun i hi=>ye i (by omega)) (fun i x hx=>by simpa using g3 i x hx) g1 with h7 | h7
 ·obtain ⟨as',e3,Φ3,E3,L3,k1,S3,k2,k3,_⟩:=zKf bs (H f).mode 0 S2 h5 h7
  rcases zOE jF S3 hd (vs:=vs) (by rw [hvsz,k2]) (fun i hi=>ye i (by omega)) (fun i x hx=>by simpa using k3 i x hx) k1 with h8 | h8
  ·cases h8
  ·exact h8
 ·exact h7
end
end Go.Eng
namespace Go.Eng
open Go
def zSF (P:Program) (o:Oper) (a:Act) (w:World) (K:Act→World→Prop):Prop :=
 match (execOp a.eval o).run P w with
 | .ok (.value v) w'=>K (a.put o.dst v) w'
 | .ok .skip w'=>K (a.put o.dst undef) w'
 | .ok (.enter f args) w'=>Calls P f args w' fun en w''=>∃ u,en = .returned u∧K (a.put o.dst u) w''
 | _=>False
def zSs:Op→Bool
 | .defer _=>true
 | _=>false
theorem zWc {P:Program} {o:Oper} {a:Act} {w:World} {K:Act→World→Prop} {n:Nat} {ro:Option Nat} {Q:Exit→Act→World→Prop} (hd:zSs o.op=false) (h:zSF P o a w K):o.wpIn {Fence.wide with round:=ro} n P a w K Q:=by
 refine ⟨fun _ _=>trivial,?_⟩
 rw [Oper.semAt_eq ro a.eval o (fun c hc=>by rw [hc] at hd;cases hd)]
 simp only [zSF] at h
 split at h
 ·rename_i v w' hr;rw [hr];exact h
 ·rename_i w' hr;rw [hr];exact h
 ·rename_i f args w' hr
  rw [hr]
  refine ⟨fun h=>(by cases h),?_⟩
  have h1:CallsIn Fence.wide (n-1) P f args w' _:=callsIn_wide.2 h
  refine CallsIn.mono (F:={Fence.wide with round:=ro}) ?_ (R:=fun en w''=>∃ u,en = .returned u∧K (a.put o.dst u) w'') (fun en w'' vA=>?_)
  ·exact h1
  ·obtain ⟨u,rfl,hk⟩:=vA;exact hk
 ·exact h.elim
def zSh (P:Program) (nt:Nat):Oper→Bool:=fun o =>
 (match o.dst with | some d=>Nat.blt d nt | none=>true) &&
 match o.op with
 | .move x | .assign x | .nilCheck x | .unOp _ _ x | .box _ x | .load _ x | .fieldAddr _ x _ | .field _ x _=>zAQ nt x
 | .pick c a b=>zAQ nt c&&zAQ nt a&&zAQ nt b
 | .alloc _=>true
 | .build _ ps | .buildSlice _ _ ps=>ps.toList.all fun x=>zAQ nt x.2
 | .store _ a x=>o.dst.isNone&&zAQ nt a&&zAQ nt x
 | .binOp _ _ x y _=>zAQ nt x&&zAQ nt y
 | .convert s _ x=>(P.underlying s).isSome&&zAQ nt x
 | .makeFunc _ fs cs=>fs.toList.all (zAQ nt)&&cs.toList.all (zAQ nt)
 | .makeMap _ _=>true
 | .makeSlice _ l c=>zAQ nt l&&zAQ nt c
 | .slice _ x lo hi mx=>zAQ nt x&&(match lo with | some y=>zAQ nt y | none=>true)&&(match hi with | some y=>zAQ nt y | none=>true)&&(match mx with | some y=>zAQ nt y | none=>true)
 | .indexAddr _ x i | .index _ x i=>zAQ nt x&&zAQ nt i
 | .lookup _ m x _=>zAQ nt m&&zAQ nt x
 | .mapUpdate _ m x y=>o.dst.isNone&&zAQ nt m&&zAQ nt x&&zAQ nt y
 | .mapEntry _ m x=>zAQ nt m&&zAQ nt x
 | .entryStore _ m s x=>o.dst.isNone&&zAQ nt m&&zAQ nt s&&zAQ nt x
 | .panic _ | .makeInterface .. => true
 | .extract (.tmp s) _=>Nat.blt s nt
 | .call c=>c.args.toList.all (zAQ nt)&&(match c.callee with
  | .builtin b=>match b with
   | .append | .copy=>Nat.beq c.argTypes.size 2
   | .len | .max | .min=>true
   | .clear=>Nat.blt 0 c.argTypes.size
   | _=>false
  | .value f=>zAQ nt f
  | _=>false)
 | _=>false
def zER (P : Program) : Prop := ∀ (f : FuncId) (fn : Func), P.funcs[f]? = some fn → (fn.name == "runtime.NumGoroutine") = false
section
variable {P:Program} {H:zBh} {w0 w:World} {U Φ0 Φ:Nat→Prop} {nt:Nat} {hv:Hid} {a:Act} {e e':Env} {rv:Nat→Value} {E:Nat→PV} {L:Nat→List Nat} {orc:zAF}
theorem zAO {o:Oper} {K:Act→World→Prop} {v:Value} {w':World} (h:(execOp a.eval o).run P w = .ok (.value v) w') (hk:K (a.put o.dst v) w'):zSF P o a w K:=by
 simp only [zSF,h];exact hk
theorem zWN (jF:zGc P orc) (hnm:zER P) (S:St w0 U Φ0 nt hv a w e Φ rv E L) (hb:zBs E) {o:Oper} (yH:zSh P nt o=true) {fz tk nl:Bool} (h:(opM P H fz tk nl o).run orc e=some e') :
    zSF P o a w fun a' w'=>Fr w0 U Φ0 nt hv a' w' e':=by
  obtain ⟨dst,op,type,pos,after,guard⟩:=o
  simp only [zSh,Bool.and_eq_true] at yH
  obtain ⟨gh,yH⟩:=yH
  have hd:∀ x,dst=some x→x<nt:=by
    intro x hx;subst hx;exact zB3 gh
  have all:∀ {xs:List Operand},xs.all (zAQ nt)=true→∀ x∈xs,zAQ nt x=true:=fun h=>List.all_eq_true.1 h
  cases op<;>simp only [opM] at h<;>try (cases h;done)
  case move x=>exact zAO (by simp [execOp]) (zVQ S hb hd yH h)
  case assign x=>exact zAO (by simp [execOp]) (zSg S hb hd yH h)
  case pick c x y =>
    simp only [Bool.and_eq_true] at yH
    obtain ⟨t,h1,h2⟩:=zVO S hb hd yH.1.1 yH.1.2 yH.2 h
    exact zAO (by simp [execOp,asBool,h1]) h2
  case alloc t =>
    obtain ⟨v,w',h1,h2⟩:=zS4 S hb hd h
    exact zAO (by simp [execOp,h1]) h2
  case box t x =>
    obtain ⟨v,w',h1,h2⟩:=zW5 S hb hd yH h
    exact zAO (by simp [execOp,h1]) h2
  case build t ps =>
    obtain ⟨v,h1,h2⟩:=zTI S hb hd (List.all_eq_true.1 yH) h
    exact zAO (by simp only [execOp,Sem.run_bind,h1,Result.andThen_ok,Sem.run_pure]) h2
  case buildSlice t n ps =>
    obtain ⟨v,w',h1,h2⟩:=zLL S hb hd (List.all_eq_true.1 yH) h
    exact zAO (by simp only [execOp,Sem.run_bind,h1,Result.andThen_ok,Sem.run_pure]) h2
  case load t x =>
    obtain ⟨v,h1,h2⟩:=zQK S hb hd yH h
    exact zAO (by simp [execOp,h1]) h2
  case store t x y =>
    simp only [Bool.and_eq_true,Option.isNone_iff_eq_none] at yH
    obtain ⟨⟨rfl,hx⟩,hy⟩:=yH
    obtain ⟨w',h1,h2⟩:=zSM S hb hx hy h
    simp only [zSF,execOp,Sem.run_bind,h1,Result.andThen_ok,Sem.run_pure,Act.put]
    exact h2
  case nilCheck x =>
    obtain ⟨h1,h2⟩:=zWJ S hb hd yH h
    refine zAO (v:=a.eval x) (w':=w) ?_ h2
    simp only [execOp]
    revert h1
    generalize a.eval x=v
    intro h1
    split<;>first | (exact h1.elim) | rfl
  case binOp op t x y ty =>
    simp only [Bool.and_eq_true] at yH
    obtain ⟨v,h1,h2⟩:=zXv S hb hd yH.1 yH.2 h
    exact zAO (by simp only [execOp,Sem.run_bind] at h1 ⊢;simp only [h1];rfl) h2
  case unOp op t x =>
    obtain ⟨v,h1,h2⟩:=zYr (P:=P) S hb hd yH h
    exact zAO (by simp [execOp,h1]) h2
  case convert s t x =>
    simp only [Bool.and_eq_true] at yH
    obtain ⟨v,h1,h2⟩:=zU7 S hb hd yH.1 yH.2 h
    exact zAO (by simp [execOp,h1]) h2
  case makeFunc f fs cs =>
    simp only [Bool.and_eq_true] at yH
    cases f<;>try (cases h;done)
    exact zAO (by simp [execOp,Instr.makeFunc]) (zU4 S hb hd (all yH.1) (all yH.2) h)
  case makeMap t r =>
    cases r with
    | some r=>cases h
    | none =>
      obtain ⟨v,w',h1,h2⟩:=zPS (P:=P) (t:=t) S hb hd h
      exact zAO (by simp [execOp,h1]) h2
  case makeSlice t l c =>
    simp only [Bool.and_eq_true] at yH
    obtain ⟨v,w',h1,h2⟩:=zL4 S hb hd yH.1 yH.2 h
    exact zAO (by simp [execOp,h1]) h2
  case slice t x lo hi mx =>
    simp only [Bool.and_eq_true] at yH
    obtain ⟨v,h1,h2⟩:=zTn S hb hd yH.1.1.1 (fun y hy=>by subst hy;exact yH.1.1.2) (fun y hy=>by subst hy;exact yH.1.2) (fun y hy=>by subst hy;exact yH.2) h
    exact zAO (by simp [execOp,h1]) h2
  case fieldAddr t x i =>
    obtain ⟨v,h1,h2⟩:=zMd S hb hd yH h
    exact zAO (by simp [execOp,h1]) h2
  case field t x i =>
    obtain ⟨v,h1,h2⟩:=zTs S hb hd yH h
    exact zAO (by simp [execOp,h1]) h2
  case indexAddr t x i =>
    simp only [Bool.and_eq_true] at yH
    obtain ⟨v,h1,h2⟩:=zMp S hb hd yH.1 yH.2 h
    exact zAO (by simp [execOp,h1]) h2
  case index t x i =>
    simp only [Bool.and_eq_true] at yH
    obtain ⟨v,h1,h2⟩:=zTD S hb hd yH.1 yH.2 h
    exact zAO (by simp [execOp,h1]) h2
  case lookup t m x ok =>
    simp only [Bool.and_eq_true] at yH
    obtain ⟨v,h1,h2⟩:=zQO S hb hd yH.1 yH.2 h
    exact zAO (by simp [execOp,h1]) h2
  case mapUpdate t m x y =>
    simp only [Bool.and_eq_true,Option.isNone_iff_eq_none] at yH
    obtain ⟨⟨⟨rfl,hm⟩,hx⟩,hy⟩:=yH
    obtain ⟨w',h1,h2⟩:=zJ9 S hb hm hx hy h
    simp only [zSF,execOp,Sem.run_bind,h1,Result.andThen_ok,Sem.run_pure,Act.put]
    exact h2
  case mapEntry t m x =>
    simp only [Bool.and_eq_true] at yH
    obtain ⟨v,w',h1,h2⟩:=zLF S hb hd yH.1 yH.2 h
    simp only [zSF,execOp,Sem.run_bind,h1,Result.andThen_ok,Sem.run_pure]
    exact h2
  case entryStore t m s x =>
    simp only [Bool.and_eq_true,Option.isNone_iff_eq_none] at yH
    obtain ⟨⟨⟨rfl,hm⟩,hs⟩,hx⟩:=yH
    obtain ⟨w',h1,h2⟩:=zJg (P:=P) (t:=t) S hb hm hs hx h
    simp only [zSF,execOp,Sem.run_bind,Act.put]
    rw [h1]
    exact h2
  case extract x i =>
    cases x<;>try (cases h;done)
    obtain ⟨v,h1,h2⟩:=zP9 (P:=P) S hb hd (zB3 yH) h
    exact zAO (by simp [execOp,h1]) h2
  case call c =>
    simp only [Bool.and_eq_true] at yH
    obtain ⟨yL,yz⟩:=yH
    obtain ⟨callee,args,argTypes⟩:=c
    replace yL:∀ x∈args.toList,zAQ nt x=true:=List.all_eq_true.1 yL
    simp only [zIY] at h
    cases callee with
    | invoke r m=>cases h
    | value f =>
      simp only at h yz yL
      obtain ⟨g,h1,hg⟩:=zBv S yz h
      cases g<;>simp only [zUa] at h1<;>try (cases h1;done)
      case func g fs cs =>
        obtain ⟨ps,h2,y1⟩:=zHz S yL h1
        obtain ⟨_,us,vs,hgv,vb,ye⟩:=hg
        have hr:zA2 w Φ (zA8 w rv E) (fs++ps++cs) (us++args.map a.eval++vs).toList []:=by
          have:=(vb.append y1).append ye
          simpa using this
        obtain ⟨⟨fn,kT,yY⟩,kU⟩:=zUe jF S hd hr h2
        have yA:(execOp a.eval ⟨dst,.call ⟨.value f,args,argTypes⟩,type,pos,after,guard⟩).run P w = .ok (.enter g (us++args.map a.eval++vs)) w:=by
          have hn:=hnm g fn kT
          have w7:¬ fn.body=none:=by intro hb;rw [hb] at yY;cases yY
          have v8 : ¬ fn.name = "runtime.NumGoroutine" := by simpa using hn
          simp [execOp,Go.resolve,hgv,Deferred.ofValue,invoke,callFunc,kT,w7,v8]
        simp only [zSF,yA]
        exact kU
    | builtin b =>
      simp only at h yz yL
      have yA:∀ v w',(builtin b argTypes type (args.map fun | .const _=>true | _=>false) (args.map a.eval)).run P w = .ok (.value v) w'→(execOp a.eval ⟨dst,.call ⟨.builtin b,args,argTypes⟩,type,pos,after,guard⟩).run P w = .ok (.value v) w':=by
        intro v w' hr
        simp only [execOp,Go.resolve,Sem.run_bind,Sem.run_pure,Result.andThen_ok,invoke]
        exact hr
      cases b<;>simp only at yz<;>try (cases yz;done)
      case len =>
        obtain ⟨v,h1,h2⟩:=zWP (ty:=type) S hb hd yL h
        exact zAO (yA v w (by simp [builtin,h1])) h2
      case max =>
        obtain ⟨v,h1,h2⟩:=zXi (ty:=type) S hb hd yL h
        exact zAO (yA v w (by simp [builtin,h1])) h2
      case min =>
        obtain ⟨v,h1,h2⟩:=zWt (ty:=type) S hb hd yL h
        exact zAO (yA v w (by simp [builtin,h1])) h2
      case append =>
        have yD:=Nat.eq_of_beq_eq_true yz
        obtain ⟨t,t2,rfl⟩:∃ t t2,argTypes=#[t,t2]:=by
          match argTypes,yD with
          | ⟨[t,t2]⟩,_=>exact ⟨t,t2,rfl⟩
        have hax:∃ x y,args=#[x,y]:=by
          obtain ⟨l⟩:=args
          simp only [zBu] at h
          match l,h with
          | [x,y],_=>exact ⟨x,y,rfl⟩
          | [],h=>cases h
          | [_],h=>cases h
          | _::_::_::_,h=>cases h
        obtain ⟨x,y,rfl⟩:=hax
        obtain ⟨v,w',h1,h2⟩:=zRM (ty:=type) S hb hd (yL x (by simp)) (yL y (by simp)) h
        exact zAO (yA v w' (by simp only [builtin,Sem.run_bind,List.map_toArray,List.map_cons,List.map_nil,h1,Result.andThen_ok,Sem.run_pure])) h2
      case clear =>
        obtain ⟨t,ts,rfl⟩:∃ t ts,argTypes=(t::ts).toArray:=by
          match argTypes,yz with
          | ⟨t::ts⟩,_=>exact ⟨t,ts,rfl⟩
        obtain ⟨x,rfl⟩:∃ x,args=#[x]:=by
          obtain ⟨l⟩:=args
          match l,h with
          | [x],_=>exact ⟨x,rfl⟩
          | [],h=>simp only [zBu] at h;cases h
          | _::_::_,h=>simp only [zBu] at h;cases h
        obtain ⟨w',h1,h2⟩:=zTC (ty:=type) S hb hd (yL x (by simp)) h
        exact zAO (yA _ w' (by simp only [builtin,Sem.run_bind,List.map_toArray,List.map_cons,List.map_nil,h1,Result.andThen_ok,Sem.run_pure])) h2
      case copy =>
        have yD:=Nat.eq_of_beq_eq_true yz
        obtain ⟨t,t2,rfl⟩:∃ t t2,argTypes=#[t,t2]:=by
          match argTypes,yD with
          | ⟨[t,t2]⟩,_=>exact ⟨t,t2,rfl⟩
        have hax:∃ x y,args=#[x,y]:=by
          obtain ⟨l⟩:=args
          simp only [zBu] at h
          match l,h with
          | [x,y],_=>exact ⟨x,y,rfl⟩
          | [],h=>cases h
          | [_],h=>cases h
          | _::_::_::_,h=>cases h
        obtain ⟨x,y,rfl⟩:=hax
        obtain ⟨v,w',h1,h2⟩:=zUQ (ty:=type) S hb hd (yL x (by simp)) (yL y (by simp)) h
        exact zAO (yA v w' (by simp only [builtin,Sem.run_bind,List.map_toArray,List.map_cons,List.map_nil,h1,Result.andThen_ok,Sem.run_pure])) h2
  all_goals first | (cases yH;done) | skip
end
end Go.Eng
namespace Go.Eng
open Go
def FF (ro:Option Nat):Fence:={Fence.wide with round:=ro}
def zNU (P:Program) (nt:Nat) (ops:Array Oper):Bool:=ops.toList.all (zSh P nt)
def zC4:Code→Bool
 | .seq a b=>zC4 a&&zC4 b
 | .cond _ a b=>zC4 a&&zC4 b
 | .block _ b=>zC4 b
 | .loop b=>zC4 b
 | .scope b=>zC4 b
 | .rangeFunc .. => false
 | _=>true
def zCL (P:Program) (nt:Nat):Code→Bool
 | .skip=>true
 | .region _ ops _=>zNU P nt ops
 | .seq a b=>zCL P nt a&&zCL P nt b
 | .cond c a b=>zAQ nt c&&zCL P nt a&&zCL P nt b
 | .block _ b=>zCL P nt b
 | .loop b=>zCL P nt b
 | .exit _=>true
 | .ret=>true
 | .label _=>true
 | .scope b=>zCL P nt b
 | .rangeFunc f ps a b=>zAQ nt f&&ps.toList.all (fun t=>Nat.blt t nt)&&zCL P nt a&&zCL P nt b&&zC4 a&&zC4 b
 | _=>false
def X.exit:X→Exit
 | .norm => .normal
 | .ex id => .exit id
 | .ret => .ret
section
variable {P:Program} {H:zBh} {w0 w:World} {U Φ0 Φ:Nat→Prop} {nt:Nat} {hv:Hid} {a:Act} {e e':Env} {rv:Nat→Value} {E:Nat→PV} {L:Nat→List Nat} {orc:zAF} {ro:Option Nat} {n:Nat} {Q:Exit→Act→World→Prop}
theorem zNa {o:Oper} (h:zSh P nt o=true):zSs o.op=false:=by
 obtain ⟨dst,op,type,pos,after,guard⟩:=o
 simp only [zSh,Bool.and_eq_true] at h
 cases op<;>first | rfl | (cases h.2;done)
theorem zIh {o:Oper} (h:zSh P nt o=true):∀ x,o.dst=some x→x<nt:=by
 intro x hx
 simp only [zSh,Bool.and_eq_true] at h
 rw [hx] at h
 exact zB3 h.1
theorem zDH {ops:Array Oper} {i:Nat} {F:Fence} {K K':Act→World→Prop} (h:wpOpIn F n P ops Q i K a w) (hk:∀ a w,K a w→K' a w):wpOpIn F n P ops Q i K' a w:=wpOpIn_mono hk h
theorem zKZ (jF:zGc P orc) (hnm:zER P) {ops:Array Oper} (jA:zNU P nt ops=true) (hf:Fr w0 U Φ0 nt hv a w e) {i:Nat} {o:Oper} (hi:ops[i]? = some o) {fz tk nl:Bool} (h:(zFP P H ops fz tk nl o).run orc e=some e') :
  wpOpIn (FF ro) n P ops Q i (fun a' w'=>Fr w0 U Φ0 nt hv a' w' e') a w:=by
 obtain ⟨Φ,rv,E,L,S,hb⟩:=hf
 have yW:∀ (j:Nat) (x:Oper),ops[j]? = some x→zSh P nt x=true:=fun j x hx=>List.all_eq_true.1 jA x (by
  rw [← Array.getElem?_toList] at hx;exact List.mem_of_getElem? hx)
 have yH:=yW i o hi
 have jz:=zIh yH
 simp only [wpOpIn,hi]
 simp only [zFP] at h
 have done:Region.wanted o (yielded ops a.tmps)=true→(opM P H fz tk nl o).run orc e=some e' →
   (if Region.wanted o (yielded ops a.tmps) then o.wpIn (FF ro) n P a w (fun a' w'=>Fr w0 U Φ0 nt hv a' w' e') Q else (∀ f,o.about P w a.eval=some f→(FF ro).fn f)∧(fun a' w'=>Fr w0 U Φ0 nt hv a' w' e') (a.put o.dst undef) w):=by
  intro hw h
  rw [if_pos hw]
  exact zWc (zNa yH) (zWN jF hnm S hb yH h)
 have skip:Region.wanted o (yielded ops a.tmps)=false→(put o.dst .und).run orc e=some e' →
   (if Region.wanted o (yielded ops a.tmps) then o.wpIn (FF ro) n P a w (fun a' w'=>Fr w0 U Φ0 nt hv a' w' e') Q else (∀ f,o.about P w a.eval=some f→(FF ro).fn f)∧(fun a' w'=>Fr w0 U Φ0 nt hv a' w' e') (a.put o.dst undef) w):=by
  intro hw h
  rw [hw]
  exact ⟨fun _ _=>trivial,zAw S hb jz h (p := .und) ⟨rfl,rfl⟩⟩
 cases hg:o.guard with
 | none =>
  rw [hg] at h
  exact done (by simp [Region.wanted,hg]) h
 | some x =>
  obtain ⟨j,want⟩:=x
  rw [hg] at h
  simp only at h
  cases hj:(ops[j]?).bind (·.dst) with
  | none=>rw [hj] at h;cases h
  | some t =>
   rw [hj] at h
   simp only [PM.run] at h
   have uP:t<nt:=by
    cases gi:ops[j]? with
    | none=>rw [gi] at hj;cases hj
    | some oj=>rw [gi] at hj;exact zIh (yW j oj gi) t hj
   have yk:t<zAb:=Nat.lt_of_lt_of_le uP (Nat.le_trans S.small (by decide))
   have hX:=S.conf.rep t
   rw [S.env t yk] at hX
   have htm:a.tmps[t]? = some (rv t):=by
    have h1:=S.tmps t uP
    have h2:t<a.tmps.size:=by rw [S.size];exact uP
    rw [Array.getElem?_eq_getElem h2]
    simp only [Array.getD,h2,dite_true] at h1
    rw [← h1];rfl
   have kC:yielded ops a.tmps j=match rv t with | .bool b=>some b | _=>none:=by
    simp only [yielded,hj,Option.bind_some,htm]
    cases rv t<;>rfl
   revert h
   cases hp:e.get t<;>intro h<;>try (cases h;done)
   case bool b =>
    simp only at h
    have yE:rv t = .bool b:=by rw [hp] at hX;exact hX.1
    rw [yE] at kC
    simp only at kC
    split at h
    ·rename_i gj
     subst gj
     exact done (by simp [Region.wanted,hg,kC]) h
    ·rename_i gj
     exact skip (by simp [Region.wanted,hg,kC,gj]) h
   case und =>
    have yE:rv t=undef:=by rw [hp] at hX;exact hX.1
    rw [yE] at kC
    exact skip (by simp only [Region.wanted,hg,kC];rfl) h
theorem Fr.drop (hf:Fr w0 U Φ0 nt hv a w e) (l:List Nat):Fr w0 U Φ0 nt hv a w (e.drop l):=by
 obtain ⟨Φ,rv,E,L,S,hb⟩:=hf
 have hc:=S.conf.drop (fun s=>decide (s<zAb)&&zMn l s)
 refine ⟨Φ,rv,_,_,S.turn hc (fun s hs=>?_) (fun _ _=>rfl) (fun d ps hd hp=>?_),fun g hg=>?_⟩
 ·rw [Env.get_drop,S.env s hs];simp [hs]
 ·by_cases h:(decide (d<zAb)&&zMn l d)=true
  ·simp only [h,if_true] at hp;cases hp
  ·simp only [h] at hp;exact ⟨ps,hp,rfl⟩
 ·have:¬ g<zAb:=by omega
  simp [this,hb g hg]
end
end Go.Eng
namespace Go.Eng
open Go
section
variable {w0 w w' w1 w2:World} {U Φ0 Φ U1 Φ1 U2 Φ2:Nat→Prop} {nt:Nat} {hv:Hid} {a:Act} {e e':Env} {rv rv':Nat→Value} {E E':Nat→PV} {L L':Nat→List Nat}
theorem zBn {α:Type} {b:Bool} {x y:Option α} {r:α} (h:(bif b then x else y)=some r):(b=true∧x=some r)∨(b=false∧y=some r):=by
 cases b with
 | true=>exact .inl ⟨rfl,h⟩
 | false=>exact .inr ⟨rfl,h⟩
theorem zId:∀ (p:PV),(zAV p).heavy=false:=by
 intro p
 induction p using PV.rec (motive_2:=fun ps=>zC5 (zAv ps)=false) (motive_3:=fun _=>True) (motive_4:=fun _=>True)<;>first | trivial | rfl | skip
 all_goals simp_all [zAV,zAv,PV.heavy,zC5]
mutual
theorem zKu {f:PV→PV} (hf:∀ a,a.isWay=true→(f a).heavy=false):∀ (p:PV),p.heavy=false→(p.mapW f).heavy=false
 | .agg cs,h=>zGI hf cs h
 | .tup cs,h=>zGI hf cs h
 | .addr ..,_=>hf _ rfl
 | .bor ..,_=>hf _ rfl
 | .bsl ..,_=>hf _ rfl
 | .bmap ..,_=>hf _ rfl
 | .log ..,_=>hf _ rfl
 | .own ..,h=>h
 | .box _,h=>by cases h
 | .omap _,h=>h
 | .lock _,h=>by cases h
 | .bad,h=>h
 | .und,h=>h
 | .int ..,h=>h
 | .bool _,h=>h
 | .nilp,h=>h
 | .nilf,h=>h
 | .nilm,h=>h
 | .nn,h=>h
 | .nils _,h=>h
 | .sl _,h=>h
 | .ref _,h=>rfl
 | .map _,h=>h
 | .func ..,h=>rfl
 | .yld _,h=>h
theorem zGI {f:PV→PV} (hf:∀ a,a.isWay=true→(f a).heavy=false):∀ (ps:List PV),zC5 ps=false→zC5 (zCt f ps)=false
 | [],h=>h
 | p::ps,h=>by
  simp only [zC5,Bool.or_eq_false_iff] at h
  simp only [zCt,zC5,zKu hf p h.1,zGI hf ps h.2,Bool.or_self]
end
theorem zSo (r:Nat) (pre:zAU) (q0:PV):∀ a:PV,a.isWay=true→(inl r pre q0 a).heavy=false:=by
 have at_:∀ {q:Option PV} {g:PV→PV},(∀ x,(g x).heavy=false)→(zGi q g).heavy=false:=by
  intro q g h;cases q<;>first | rfl | exact h _
 have h1:∀ i c sh x,(zDD i c sh x).heavy=false:=by
  intro i c sh x
  simp only [zDD]
  repeat' split
  all_goals first | rfl | (cases (_:Bool)<;>rfl) | skip
  all_goals (rename_i h;revert h;intro _)
  all_goals first | (generalize (Nat.ble _ _&&_)=b;cases b<;>rfl) | (generalize PV.oneCell _=b;cases b<;>rfl)
 have h2:∀ lo n x,(zCH lo n x).heavy=false:=by
  intro lo n x
  simp only [zCH]
  split
  ·generalize Nat.ble _ _=b;cases b<;>rfl
  ·rfl
 have h3:∀ i c sz ag m x,(zCA i c sz ag m x).heavy=false:=by
  intro i c sz ag m x
  simp only [zCA]
  repeat' split
  all_goals first | rfl | skip
  generalize (zCm _ _ _ _&&_)=b;cases b<;>rfl
 have h4:∀ x,(zEN x).heavy=false:=by intro x;cases x<;>rfl
 intro a ha
 cases a<;>first | (cases ha;done) | skip
 case addr=>simp only [inl];generalize zAL _ _ _ _=b;cases b<;>first | rfl | exact at_ (h1 _ _ _)
 case bor=>simp only [inl];generalize zAL _ _ _ _=b;cases b<;>first | rfl | exact at_ (h2 _ _)
 case bsl=>simp only [inl];generalize zAL _ _ _ _=b;cases b<;>first | rfl | exact at_ (h3 _ _ _ _ _)
 case bmap=>simp only [inl];generalize zAL _ _ _ _=b;cases b<;>first | rfl | exact at_ h4
 case log=>rfl
theorem zIX:∀ (R:List Nat) {e ef:Env} {Φ:Nat→Prop} {E:Nat→PV} {L:Nat→List Nat},St w0 U Φ0 nt hv a w e Φ rv E L→zBs E→zEu R e=some ef →
  ∃ Φ' E' L',St w0 U Φ0 nt hv a w ef Φ' rv E' L'∧zBs E'∧(∀ b,Φ b→Φ' b)∧(∀ b,Φ' b→Φ b∨∃ r∈R,b∈L r)∧(∀ r∈R,∀ b∈L r,Φ' b)∧∀ s,∀ b∈L' s,b∈L s
 | [],e,ef,Φ,E,L,S,hb,h=>by
  simp only [zEu,Option.some.injEq] at h;subst h
  exact ⟨Φ,E,L,S,hb,fun _ h=>h,fun _ h => .inl h,fun _ h=>(by cases h),fun _ _ h=>h⟩
 | r :: R, e,ef,Φ,E,L,S,hb,h=>by
  simp only [zEu] at h
  rcases zBn h with ⟨hr,h⟩ | ⟨_,h⟩
  ·have hr:=zB3 hr
   cases hf:e.frz r [] with
   | none=>rw [hf] at h;cases h
   | some e1 =>
    rw [hf] at h;simp only at h
    obtain ⟨q0,root,hl,hn,hm,yW⟩:=Env.frz_eq hf
    have yF:=zBC hl
    have hE:=S.env r hr
    obtain ⟨k1,k2⟩:=zBR (zFb q0).1 (zFb q0).2 hm
    obtain ⟨nv,Li,L1,h1,h2,h3,h4⟩:=S.conf.ice (fun _=>false) hr (pre:=[]) (q:=q0) (root':=root) (by rw [hE];exact yF) (by rw [hE];exact hn) (by rw [hE];exact hm) k1
    have hq:q0=E r:=by simp only [zAz,Option.some.injEq] at hn;rw [hE,hn]
    have kq:root=zAV q0:=by simp only [zAu,Option.some.injEq] at hm;exact hm.symm
    have kj:Li=L r:=by
     simp only [zAR,Option.some.injEq,Prod.mk.injEq] at h1
     rw [← h1.1,hq] at h2
     exact Rep.uniq _ _ _ _ h2 (by rw [show E r=(E r).unlock from (by rw [hE];exact yF.symm)];exact zB7 (S.conf.rep r))
    have hL1r:L1 r=[]:=by
     have:=h4.rep r
     simp only [hr,true_or,if_true] at this
     refine zDf _ _ _ ?_ this
     rw [kq]
     have hh:=zId q0
     exact zKu (zSo r [] q0) _ hh
    have S1:St w0 U Φ0 nt hv a w e1 (fun b=>Φ b∨b∈Li) rv (fun s=>if s<zAb∨False then (if s=r then root else E s).mapW (inl r [] q0) else E s) L1:=by
     refine S.turn (by simpa using h4) (fun s hs=>?_) (fun _ _=>rfl) (fun d ps hd hp=>?_)
     ·simp only [hs,true_or,if_true]
      rw [yW s]
      by_cases yZ:s=r
      ·subst yZ;simp
      ·rw [if_neg yZ,if_neg yZ,S.env s hs]
     ·have ug:d<zAb:=by simp only [zAb];omega
      simp only [ug,true_or,if_true] at hp
      obtain ⟨ps',h5,h6⟩:=zD3 (zQT r [] q0) hp
      by_cases ji:d=r
      ·rw [if_pos ji] at h5;rw [h5] at k2;cases k2
      ·rw [if_neg ji] at h5;exact ⟨ps',h5,h6⟩
    have y7:zBs fun s=>if s<zAb∨False then (if s=r then root else E s).mapW (inl r [] q0) else E s:=by
     intro g hg
     have:¬ g<zAb:=by omega
     simp [this,hb g hg]
    obtain ⟨Φ',E',L',g1,g2,g3,g4,g5,g6⟩:=zIX R S1 y7 h
    have ya:∀ s,∀ b∈L1 s,b∈L s:=by
     intro s b jy
     by_cases yZ:s=r
     ·subst yZ;rw [hL1r] at jy;cases jy
     ·rw [h3 s yZ] at jy;exact jy
    refine ⟨Φ',E',L',g1,g2,fun b hb=>g3 b (.inl hb),fun b hb=>?_,fun t ht b kX=>?_,fun s b jy=>ya s b (g6 s b jy)⟩
    ·rcases g4 b hb with (h5 | h5) | ⟨t,ht,h5⟩
     ·exact .inl h5
     ·exact .inr ⟨r,by simp,by rw [← kj];exact h5⟩
     ·exact .inr ⟨t,by simp [ht],ya t b h5⟩
    ·by_cases htr:t=r
     ·subst htr;exact g3 b (.inr (by rw [kj];exact kX))
     ·rcases List.mem_cons.1 ht with h5 | h5
      ·exact absurd h5 htr
      ·exact g5 t h5 b (by rw [h3 t htr];exact kX)
  ·cases h
theorem Fr.ice {R:List Nat} (hf:Fr w0 U Φ0 nt hv a w e):Fr w0 U Φ0 nt hv a w (zWp R e):=by
 simp only [zWp]
 cases h:zEu R e with
 | none=>exact hf
 | some ef =>
  obtain ⟨Φ,rv,E,L,S,hb⟩:=hf
  obtain ⟨Φ',E',L',S',yG,_⟩:=zIX R S hb h
  exact ⟨Φ',rv,E',L',S',yG⟩
end
end Go.Eng
namespace Go.Eng
open Go
theorem zD0 {r:Nat} {pre:zAU} {p:PV} (h:∀ x∈p.ways,zAL r pre x.1 x.2=false):p.mapW (lose r pre)=p:=by
 refine zDM p (fun a ha hw hn=>?_) (fun _ _=>rfl)
 have hx:∀ x,a.ways=[x]→zAL r pre x.1 x.2=false:=fun x hx=>h x (hw x (by rw [hx];simp))
 cases a<;>first | (cases ha;done) | (exact absurd rfl (hn _ _)) | skip
 case addr r' q i c sh=>have:=hx _ rfl;simp only [zAL] at this;simp only [lose,this];rfl
 case bor r' q z lo n=>have:=hx _ rfl;simp only [zAL] at this;simp only [lose,this];rfl
 case bsl r' q i c sz ag n=>have:=hx _ rfl;simp only [zAL] at this;simp only [lose,this];rfl
 case bmap r' q=>have:=hx _ rfl;simp only [zAL] at this;simp only [lose,this];rfl
theorem zCF {r:Nat} {keep:List zAU} {p:PV} (h:∀ x∈p.ways,(Nat.beq x.1 r && !x.2.isEmpty)=false):p.mapW (zBP r keep)=p:=by
 refine zDM p (fun a ha hw hn=>?_) (fun _ _=>rfl)
 have hx:∀ x,a.ways=[x]→(Nat.beq x.1 r && !x.2.isEmpty)=false:=fun x hx=>h x (hw x (by rw [hx];simp))
 have key:∀ r' (q:zAU),(Nat.beq r' r && !q.isEmpty)=false→(Nat.beq r' r && !(q.isEmpty||keep.any q.isPrefixOf))=false:=by
  intro r' q h
  cases hb:Nat.beq r' r with
  | false=>rfl
  | true=>rw [hb] at h;simp only [Bool.true_and,Bool.not_eq_false'] at h ⊢;rw [h];rfl
 cases a<;>first | (cases ha;done) | (exact absurd rfl (hn _ _)) | skip
 case addr r' q i c sh=>simp only [zBP,key _ _ (hx _ rfl)];rfl
 case bor r' q z lo n=>simp only [zBP,key _ _ (hx _ rfl)];rfl
 case bsl r' q i c sz ag n=>simp only [zBP,key _ _ (hx _ rfl)];rfl
 case bmap r' q=>simp only [zBP,key _ _ (hx _ rfl)];rfl
theorem zFv {r:Nat} {pre:zAU} {q0 p:PV} (h:∀ x∈p.ways,zAL r pre x.1 x.2=false):p.mapW (inl r pre q0)=p:=by
 refine zDM p (fun a ha hw hn=>?_) (fun _ _=>rfl)
 have hx:∀ x,a.ways=[x]→zAL r pre x.1 x.2=false:=fun x hx=>h x (hw x (by rw [hx];simp))
 cases a<;>first | (cases ha;done) | (exact absurd rfl (hn _ _)) | rfl | skip
 case addr r' q i c sh=>have:=hx _ rfl;simp only [inl,this];rfl
 case bor r' q z lo n=>have:=hx _ rfl;simp only [inl,this];rfl
 case bsl r' q i c sz ag n=>have:=hx _ rfl;simp only [inl,this];rfl
 case bmap r' q=>have:=hx _ rfl;simp only [inl,this];rfl
theorem zHG {x q q':PV} {c:Nat} (hq:x.cells[c]? = some q) (hg:q'.isAgg=q.isAgg∨q'.isAgg=false):(zAx x c [q']).cells=x.cells.set c q':=by
 rcases hg with hg | hg
 ·exact zL7 hq hg
 ·cases hx:x.isAgg with
  | true =>
   cases x<;>simp [PV.isAgg] at hx
   rename_i cs
   have hc:c<cs.length:=(List.getElem?_eq_some_iff.1 hq).1
   show cs.take c++[q']++cs.drop (c+1)=cs.set c q'
   rw [List.set_eq_take_append_cons_drop,if_pos hc];simp
  | false =>
   have j7:x.cells=[x]:=by cases x<;>first | rfl | simp [PV.isAgg] at hx
   rw [j7] at hq ⊢
   have hc:c=0:=by have:=(List.getElem?_eq_some_iff.1 hq).1;simp at this;exact this
   subst hc
   have he:zAx x 0 [q']=q':=by cases x<;>first | rfl | simp [PV.isAgg] at hx
   rw [he]
   cases q'<;>first | rfl | simp [PV.isAgg] at hg
theorem zG5 {p q q' p':PV} {i c:Nat} (hc:Eng.child p i c=some q) (hp:zB1 p i c q'=some p') :
  ∃ xs x,zA0 p=some xs∧xs[i]? = some x∧x.cells[c]? = some q∧zA0 p'=some (xs.set i (zAx x c [q']))∧((∃ sz,p = .own sz xs∧p' = .own sz (xs.set i (zAx x c [q'])))∨(∃ y,p = .box y∧i=0∧x=y∧p' = .box (zAx y c [q']))∨∃ cs,p = .agg cs∧i=0∧x = .agg cs∧p' = .agg (cs.take c++[q']++cs.drop (c+1))):=by
 simp only [Eng.child] at hc
 simp only [zB1] at hp
 cases hh:zA0 p with
 | none=>rw [hh] at hc;cases hc
 | some xs =>
  rw [hh] at hc hp;simp only [Option.bind_some] at hc hp
  cases hx:xs[i]? with
  | none=>rw [hx] at hc;cases hc
  | some x =>
   rw [hx] at hc hp;simp only [Option.bind_some] at hc hp
   have hi:i<xs.length:=(List.getElem?_eq_some_iff.1 hx).1
   refine ⟨xs,x,rfl,hx,hc,?_⟩
   cases p<;>simp only [zA0] at hh<;>try cases hh
   ·rename_i cs
    have jg:i=0:=by simpa using hi
    subst jg
    simp only [List.getElem?_cons_zero,Option.some.injEq] at hx;subst hx
    simp only [zAx,List.set_cons_zero,zAC,Option.some.injEq] at hp ⊢
    subst hp;refine ⟨?_,.inr (.inr ⟨cs,?_⟩)⟩<;>first | (simp [zA0];done) | rfl | exact ⟨rfl,rfl⟩ | exact ⟨rfl,rfl,rfl,rfl⟩
   ·rename_i sz
    simp only [zAC,Option.some.injEq] at hp
    subst hp;refine ⟨?_,.inl ⟨sz,?_⟩⟩<;>first | (simp [zA0];done) | rfl | exact ⟨rfl,rfl⟩ | exact ⟨rfl,rfl,rfl,rfl⟩
   ·rename_i q0
    have jg:i=0:=by simpa using hi
    subst jg
    simp only [List.getElem?_cons_zero,Option.some.injEq] at hx;subst hx
    simp only [List.set_cons_zero,zAC,Option.some.injEq] at hp ⊢
    subst hp;refine ⟨?_,.inr (.inl ⟨q0,?_⟩)⟩<;>first | (simp [zA0];done) | rfl | exact ⟨rfl,rfl⟩ | exact ⟨rfl,rfl,rfl,rfl⟩
theorem zPh {p q q' p':PV} {i c:Nat} (hc:Eng.child p i c=some q) (hg:q'.isAgg=q.isAgg∨q'.isAgg=false) (hp:zB1 p i c q'=some p') :
  Eng.child p' i c=some q'∧∀ i2 c2,(i2,c2)≠(i,c)→Eng.child p' i2 c2=Eng.child p i2 c2:=by
 obtain ⟨xs,x,hh,hx,hcx,wm,_⟩:=zG5 hc hp
 have y9:=zHG hcx hg
 have hi:i<xs.length:=(List.getElem?_eq_some_iff.1 hx).1
 have yO:c<x.cells.length:=(List.getElem?_eq_some_iff.1 hcx).1
 refine ⟨?_,fun i2 c2 hI=>?_⟩
 ·simp only [Eng.child,wm,Option.bind_some,List.getElem?_set_self hi,y9,List.getElem?_set_self yO]
 ·simp only [Eng.child,wm,hh,Option.bind_some]
  by_cases kW:i2=i
  ·subst kW
   rw [List.getElem?_set_self hi,hx];simp only [Option.bind_some,y9]
   rw [List.getElem?_set_ne (by intro e;exact hI (by rw [e]))]
  ·rw [List.getElem?_set_ne (by omega)]
theorem zMM (r:Nat) (pre:zAU) (a:PV):zHo r pre (.box a) = .addr r pre 0 0 (if a.isAgg then some a.cells.length else none):=by
 cases a<;>rfl
theorem zEy {p q:PV} (h:zCd p q=true) (r:Nat) (pre:zAU):zHo r pre p=zHo r pre q:=by
 cases p<;>cases q<;>simp only [zCd] at h<;>try (cases h;done)
 ·simp only [Bool.and_eq_true] at h
  have h1:=Nat.eq_of_beq_eq_true h.1
  have h2:=Nat.eq_of_beq_eq_true h.2
  subst h1
  simp only [zHo,h2]
 ·rename_i a b
  simp only [Bool.and_eq_true,beq_iff_eq] at h
  have h2:=Nat.eq_of_beq_eq_true h.2
  have h3:=h.1
  rw [zMM,zMM,h3,h2]
 ·rfl
theorem zTo {v:PV} (hv:v.isAgg=false):∀ (P:zAU) (x q':PV),P≠[]→zAu (fun _=>some v) x P=some q'→x.isAgg=false→zCd x q'=true
 | [],_,_,hn,_,_=>absurd rfl hn
 | (i, c) :: P,x,q',_,h,hx=>by
  rw [zBt] at h
  cases hc:Eng.child x i c with
  | none=>rw [hc] at h;cases h
  | some y =>
   rw [hc] at h;simp only [Option.bind_some] at h
   cases hm:zAu (fun _=>some v) y P with
   | none=>rw [hm] at h;cases h
   | some y' =>
    rw [hm] at h;simp only [Option.bind_some] at h
    obtain ⟨xs,z,_,hz,kG,_,⟨sz,rfl,rfl⟩ | ⟨w,rfl,rfl,rfl,rfl⟩ | ⟨cs,rfl,_⟩⟩:=zG5 hc h
    ·simp [zCd]
    ·have uK:y'.isAgg=y.isAgg∨y'.isAgg=false:=by
      cases P with
      | nil=>simp only [zAu,Option.some.injEq] at hm;subst hm;exact .inr hv
      | cons a P =>
       rw [zBt] at hm
       cases jE:Eng.child y a.1 a.2 with
       | none=>rw [jE] at hm;cases hm
       | some y2 =>
        rw [jE] at hm;simp only [Option.bind_some] at hm
        cases vW:zAu (fun _=>some v) y2 P with
        | none=>rw [vW] at hm;cases hm
        | some y3=>rw [vW] at hm;simp only [Option.bind_some] at hm;exact .inl (zD4 hm)
     have y9:=zHG kG uK
     simp only [zCd,y9,List.length_set,Nat.beq_refl,Bool.and_true,beq_iff_eq]
     cases ke:z.isAgg with
     | true=>cases z<;>first | (cases ke;done) | rfl
     | false =>
      have j7:z.cells=[z]:=by cases z<;>first | rfl | simp [PV.isAgg] at ke
      rw [j7] at kG
      have v6:c=0:=by have:=(List.getElem?_eq_some_iff.1 kG).1;simp at this;exact this
      subst v6
      simp at kG;subst kG
      have he:zAx z 0 [y']=y':=by cases z<;>first | rfl | simp [PV.isAgg] at ke
      rw [he]
      rcases uK with h | h
      ·rw [h,ke]
      ·rw [h]
    ·cases hx
theorem zEb {r i:Nat} {pre:zAU}:∀ (l1 l2:List PV) (k:Nat),(∀ (j:Nat) (nm:zAU),(l1[j]?).map (zHo r nm)=(l2[j]?).map (zHo r nm))→zBD r pre i k l1=zBD r pre i k l2
 | [],[],_,_=>rfl
 | [],y::ys,_,h=>by have:=h 0 [];simp at this
 | x::xs,[],_,h=>by have:=h 0 [];simp at this
 | x::xs,y::ys,k,h=>by
  have h0:=h 0 (pre++[(i,k)])
  simp only [List.getElem?_cons_zero,Option.map_some,Option.some.injEq] at h0
  simp only [zBD,h0]
  rw [zEb xs ys (k+1) fun j nm=>by have:=h (j+1) nm;simpa using this]
theorem zRf {s:Nat} {p q:PV} (h:zCd p q=true):view s p=view s q:=by
 have:=zEy h s []
 cases p<;>cases q<;>simp only [zCd] at h<;>first | (cases h;done) | exact this
theorem zUX {v:PV} (hv:v.isAgg=false):∀ (P:zAU) (x x':PV),zAu (fun _=>some v) x P=some x'→x'.isAgg=x.isAgg∨x'.isAgg=false
 | [],x,x',h=>by simp only [zAu,Option.some.injEq] at h;subst h;exact .inr hv
 | (i,c)::P,x,x',h=>by
  rw [zBt] at h
  cases jE:Eng.child x i c with
  | none=>rw [jE] at h;cases h
  | some y2 =>
   rw [jE] at h;simp only [Option.bind_some] at h
   cases vW:zAu (fun _=>some v) y2 P with
   | none=>rw [vW] at h;cases h
   | some y3=>rw [vW] at h;simp only [Option.bind_some] at h;exact .inl (zD4 h)
theorem zGZ {s:Nat} {F:PV→Option PV} {P:zAU} {p q:PV} (h:zAu F p P=some q) (hk:zAD p q P=true):view s p=view s q:=by
 by_cases ha:(∃ cs,p = .agg cs)∧(∃ ds,q = .agg ds)∧P≠[]
 ·obtain ⟨⟨cs,rfl⟩,⟨ds,rfl⟩,hP⟩:=ha
  match P,hP with
  | (i, c)::rest,_ =>
   rw [zBt] at h
   cases hc:Eng.child (.agg cs) i c with
   | none=>rw [hc] at h;cases h
   | some x =>
    rw [hc] at h;simp only [Option.bind_some] at h
    cases hm:zAu F x rest with
    | none=>rw [hm] at h;cases h
    | some x' =>
     rw [hm] at h;simp only [Option.bind_some] at h
     obtain ⟨xs,z,hh,hz,kG,wm,⟨sz,h1,_⟩ | ⟨w,h1,_⟩ | ⟨cs',h1,rfl,rfl,h2⟩⟩:=zG5 hc h
     ·cases h1
     ·cases h1
     ·cases h1
      have kG:cs[c]? = some x:=kG
      have yO:c<cs.length:=(List.getElem?_eq_some_iff.1 kG).1
      have y9:cs.take c++[x']++cs.drop (c+1)=cs.set c x':=by rw [List.set_eq_take_append_cons_drop,if_pos yO];simp
      simp only [PV.agg.injEq] at h2
      rw [y9] at h2;subst h2
      simp only [zAD,kG,List.getElem?_set_self yO] at hk
      show PV.agg _=PV.agg _
      congr 1
      refine zEb _ _ _ fun j nm=>?_
      by_cases hj:c=j
      ·subst hj
       rw [List.getElem?_set_self yO,kG];simp only [Option.map_some];rw [zEy hk]
      ·rw [List.getElem?_set_ne hj]
 ·have:zAD p q P=zCd p q:=by
   cases p<;>cases q<;>first | rfl | skip
   cases P with
   | nil=>rfl
   | cons a P=>exact absurd ⟨⟨_,rfl⟩,⟨_,rfl⟩,by simp⟩ ha
  rw [this] at hk
  exact zRf hk
def zQG (r:Nat) (nm:zAU) (p:PV) (Q:zAU) (i c n:Nat):Option (Bool×List PV) :=
 match zAz p Q with
 | some q=>match zBg q with
  | some xs=>match xs[i]? with
   | some x=>bif Nat.ble (c+n) x.cells.length then some (x.isAgg,zBD r nm i c ((x.cells.drop c).take n)) else none
   | none=>none
  | none=>none
 | none=>none
theorem zH2 {v:PV} (hv:v.isAgg=false) {r:Nat} {nm:zAU} {i c n:Nat}:∀ (P Q:zAU) (p p':PV),zAu (fun _=>some v) p P=some p' →
  ((P.isPrefixOf Q=false∧∀ x,zAz p P=some x→zCd x v=true)∨(P≠[]∧P.dropLast.isPrefixOf Q=false))→zQG r nm p' Q i c n=zQG r nm p Q i c n
 | [],Q,p,p',h,hc=>by
  rcases hc with hc | hc
  ·simp at hc
  ·exact absurd rfl hc.1
 | (i0, c0) :: P,Q,p,p',h,kH=>by
  rw [zBt] at h
  cases hc:Eng.child p i0 c0 with
  | none=>rw [hc] at h;cases h
  | some x =>
   rw [hc] at h;simp only [Option.bind_some] at h
   cases hm:zAu (fun _=>some v) x P with
   | none=>rw [hm] at h;cases h
   | some x' =>
    rw [hm] at h;simp only [Option.bind_some] at h
    have hg:=zUX hv P x x' hm
    obtain ⟨yd,vE⟩:=zPh hc hg h
    cases Q with
    | cons y Q =>
     obtain ⟨j,d⟩:=y
     simp only [zQG,zCa]
     by_cases hjd:(j,d)=(i0,c0)
     ·cases hjd
      rw [yd,hc];simp only [Option.bind_some]
      refine zH2 hv P Q x x' hm ?_
      rcases kH with ⟨h1,h2⟩ | ⟨_,h2⟩
      ·refine .inl ⟨by simpa using h1,fun y hy=>h2 y (by rw [zCa,hc];exact hy)⟩
      ·cases P with
       | nil=>simp at h2
       | cons a P=>exact .inr ⟨by simp,by simpa using h2⟩
     ·rw [vE j d hjd]
    | nil =>
     have hview:∀ nm,zHo r nm x'=zHo r nm x:=by
      intro nm
      have yf:zCd x x'=true→zHo r nm x'=zHo r nm x:=fun h=>(zEy h r nm).symm
      cases P with
      | nil =>
       simp only [zAu,Option.some.injEq] at hm;subst hm
       rcases kH with ⟨_,h2⟩ | ⟨_,h2⟩
       ·exact yf (h2 x (by rw [zCa,hc];rfl))
       ·simp at h2
      | cons a P =>
       cases hx:x.isAgg with
       | false=>exact yf (zTo hv _ x x' (by simp) hm hx)
       | true =>
        have uQ:x'.isAgg=true:=by
         rw [zBt] at hm
         cases jE:Eng.child x a.1 a.2 with
         | none=>rw [jE] at hm;cases hm
         | some y2 =>
          rw [jE] at hm;simp only [Option.bind_some] at hm
          cases vW:zAu (fun _=>some v) y2 P with
          | none=>rw [vW] at hm;cases hm
          | some y3=>rw [vW] at hm;simp only [Option.bind_some] at hm;rw [zD4 hm,hx]
        cases x<;>first | (cases hx;done) | skip
        cases x'<;>first | (cases uQ;done) | rfl
     obtain ⟨xs,z,hh,hz,kG,wm,hform⟩:=zG5 hc h
     have y9:=zHG kG hg
     have yO:c0<z.cells.length:=(List.getElem?_eq_some_iff.1 kG).1
     have kL:(zAx z c0 [x']).isAgg=z.isAgg:=by
      cases ke:z.isAgg with
      | true=>cases z<;>first | (cases ke;done) | rfl
      | false =>
       have j7:z.cells=[z]:=by cases z<;>first | rfl | simp [PV.isAgg] at ke
       rw [j7] at kG
       have v6:c0=0:=by have:=(List.getElem?_eq_some_iff.1 kG).1;simp at this;exact this
       subst v6
       simp at kG;subst kG
       have he:zAx z 0 [x']=x':=by cases z<;>first | rfl | simp [PV.isAgg] at ke
       rw [he]
       rcases hg with h | h
       ·rw [h,ke]
       ·exact h
     have hvc:zBD r nm i c (((zAx z c0 [x']).cells.drop c).take n)=zBD r nm i c ((z.cells.drop c).take n):=by
      rw [y9]
      refine zEb _ _ _ fun j nm=>?_
      simp only [List.getElem?_take,List.getElem?_drop]
      split
      ·by_cases hj:c0=c+j
       ·subst hj
        rw [List.getElem?_set_self yO,kG];simp only [Option.map_some,hview]
       ·rw [List.getElem?_set_ne hj]
      ·rfl
     have elem:(match (xs.set i0 (zAx z c0 [x']))[i]? with | some x=>bif Nat.ble (c+n) x.cells.length then some (x.isAgg,zBD r nm i c ((x.cells.drop c).take n)) else none | none=>none) =
       (match xs[i]? with | some x=>bif Nat.ble (c+n) x.cells.length then some (x.isAgg,zBD r nm i c ((x.cells.drop c).take n)) else none | none=>none):=by
      have hi:i0<xs.length:=(List.getElem?_eq_some_iff.1 hz).1
      by_cases kW:i0=i
      ·subst kW
       rw [List.getElem?_set_self hi,hz];simp only
       rw [hvc,kL,y9,List.length_set]
      ·rw [List.getElem?_set_ne kW]
     simp only [zQG,zAz]
     rcases hform with ⟨sz,rfl,rfl⟩ | ⟨w,rfl,rfl,rfl,rfl⟩ | ⟨cs,rfl,rfl,rfl,rfl⟩
     ·simp only [zBg];exact elem
     ·simp only [zA0,Option.some.injEq] at hh;subst hh
      simp only [zBg];simpa using elem
     ·simp only [zBg]
abbrev zCU:=Nat→PV
def PM.does (o:zAF):PM→zCU→Tok→zCU→Prop
 | .ok,g,t,g'=>t={}∧g'=g
 | .fail,_,_,_=>False
 | .view s k,g,t,g'=>∃ t',t=Tok.join {look:=[s]} t'∧(k (Eng.view s (g s))).does o g t' g'
 | .get s k,g,t,g'=>(g s).isLock=false∧∃ t',t=Tok.join {rd:=[s]} t'∧(k (g s)).does o g t' g'
 | .set s p k,g,t,g'=>∃ t',t=Tok.join (zFi s (g s) p) t'∧k.does o (upd g s p) t' g'
 | .cells r pre i c n k,g,t,g'=>∃ a qs t',zAr r (g r) pre i c n=some (a,qs)∧t=Tok.join {cel:=[(r,pre)]} t'∧(k a qs).does o g t' g'
 | .deep r pre k,g,t,g'=>∃ q t',zAz (g r).unlock pre=some q∧t=Tok.join {rd:=[r]} t'∧(k q).does o g t' g'
 | .wcells r pre i c qs k,g,t,g'=>∃ root t',zBF (g r) pre i c qs=some root∧t=Tok.join (zBj r [] (zAD (g r) root pre) (g r) root) t'∧k.does o (upd g r root) t' g'
 | .wnode r pre q k,g,t,g'=>(g r).isLock=false∧∃ root t',zAu (fun _=>some q) (g r) pre=some root ∧
   t=Tok.join (zBj r pre.dropLast (zAD (g r) root pre&&(pre.isEmpty || !q.isAgg)) (g r) root) t'∧k.does o (upd g r root) t' g'
 | .kill r pre k,g,t,g'=>∃ D t',(∀ s,s∉D→∀ x∈(g s).ways,zAL r pre x.1 x.2=false)∧t=Tok.join (zAK D g (fun s=>(g s).mapW (lose r pre)) [r] []) t'∧k.does o (fun s=>(g s).mapW (lose r pre)) t' g'
 | .frz r pre k,g,t,g'=>(g r).isLock=false∧∃ D t' q root,(∀ s,s∉D→∀ x∈(g s).ways,zAL r pre x.1 x.2=false)∧r∈D∧zAz (g r) pre=some q∧zAu (fun _=>some (zAV q)) (g r) pre=some root ∧
   t=Tok.join (zAK D g (fun s=>(upd g r root s).mapW (inl r pre q)) [r] []) t'∧k.does o (fun s=>(upd g r root s).mapW (inl r pre q)) t' g'
 | .killEx r keep k,g,t,g'=>∃ D t',(∀ s,s∉D→∀ x∈(g s).ways,(Nat.beq x.1 r && !x.2.isEmpty)=false)∧t=Tok.join (zAK D g (fun s=>(g s).mapW (zBP r keep)) [] [r]) t'∧k.does o (fun s=>(g s).mapW (zBP r keep)) t' g'
 | .forget _ _,_,t,_=>t.all=true
 | .call f args hid k,g,t,g'=>∃ v hO,o f args hid=some (v,hO)∧(k v hO).does o g t g'
theorem zVm {a b:List Nat} {x:Nat} (ha:x∈a) (hb:x∈b):zQD a b=true:=List.any_eq_true.2 ⟨x,ha,List.any_eq_true.2 ⟨x,hb,Nat.beq_refl x⟩⟩
theorem zD1 {a b:List Nat} (h:zQD a b=false) {x:Nat} (ha:x∈a):x∉b:=fun hb=>by rw [zVm ha hb] at h;cases h
structure Off (a b:Tok):Prop where
 all:a.all=false
 look:∀ s∈a.wr,s∉b.look
 rd:∀ s∈a.wr,s∉b.rd
 cel:∀ s∈a.wr,∀ c∈b.cel,c.1≠s
 wr:∀ s∈a.wr,s∉b.wr
 inn:∀ s∈a.wr,∀ c∈b.inn,c.1≠s
 ird:∀ w∈a.inn,w.1∉b.rd
 iinn:∀ w∈a.inn,∀ c∈b.inn,c.1≠w.1
 icel:∀ w∈a.inn,∀ c∈b.cel,c.1=w.1→w.2.isPrefixOf c.2=false
 ways:∀ s∈a.kills,∀ x∈b.ways,x.1≠s
 waysIn:∀ s∈a.killsIn,∀ x∈b.ways,x.1=s→x.2.isEmpty=true
theorem zEd {l:List (Nat×zAU)} {x:Nat×zAU} (h:x∈l):x.1∈zMj l:=List.mem_map.2 ⟨x,h,rfl⟩
theorem zKA {a b:Tok} (h:zN7 a b=false):Off a b:=by
 simp only [zN7,Bool.or_eq_false_iff] at h
 obtain ⟨⟨⟨⟨⟨⟨⟨⟨⟨⟨h1,h2⟩,h3⟩,h4⟩,h5⟩,h6⟩,h7⟩,h8⟩,h9⟩,jS⟩,vH⟩:=h
 refine ⟨h1,fun s hs=>zD1 h2 hs,fun s hs=>zD1 h3 hs,fun s hs c hc e=>?_,fun s hs=>zD1 h5 hs,fun s hs c hc e=>?_,fun w hw=>zD1 h7 (zEd hw),fun w hw c hc e=>?_,fun w hw c hc e=>?_,fun s hs x hx e=>?_,fun s hs x hx e=>?_⟩
 ·subst e;exact zD1 h4 hs (zEd hc)
 ·subst e;exact zD1 h6 hs (zEd hc)
 ·exact zD1 h8 (zEd hw) (by rw [← e];exact zEd hc)
 ·have:=List.any_eq_false.1 h9 w hw
  have:=(List.any_eq_false (p:=fun c:Nat×zAU=>Nat.beq w.1 c.1&&w.2.isPrefixOf c.2)).1 (by simpa using this) c hc
  simp only [e,Nat.beq_refl,Bool.true_and,Bool.not_eq_true] at this
  exact this
 ·subst e;exact zD1 jS hs (zEd hx)
 ·cases he:x.2.isEmpty with
  | true=>rfl
  | false=>exact absurd (by rw [← e];exact zEd (List.mem_filter.2 ⟨hx,by rw [he];rfl⟩)) (zD1 vH hs)
theorem Off.left {a a' b:Tok} (h:Off (Tok.join a a') b):Off a b:=by
 have ha:=h.all
 simp only [Tok.join,Bool.or_eq_false_iff] at ha
 exact ⟨ha.1,fun s hs=>h.look s (List.mem_append_left _ hs),fun s hs=>h.rd s (List.mem_append_left _ hs),fun s hs=>h.cel s (List.mem_append_left _ hs),fun s hs=>h.wr s (List.mem_append_left _ hs),fun s hs=>h.inn s (List.mem_append_left _ hs),
  fun s hs=>h.ird s (List.mem_append_left _ hs),fun s hs=>h.iinn s (List.mem_append_left _ hs),fun s hs=>h.icel s (List.mem_append_left _ hs),fun s hs=>h.ways s (List.mem_append_left _ hs),fun s hs=>h.waysIn s (List.mem_append_left _ hs)⟩
theorem Off.left' {a a' b:Tok} (h:Off (Tok.join a a') b):Off a' b:=by
 have ha:=h.all
 simp only [Tok.join,Bool.or_eq_false_iff] at ha
 exact ⟨ha.2,fun s hs=>h.look s (List.mem_append_right _ hs),fun s hs=>h.rd s (List.mem_append_right _ hs),fun s hs=>h.cel s (List.mem_append_right _ hs),fun s hs=>h.wr s (List.mem_append_right _ hs),fun s hs=>h.inn s (List.mem_append_right _ hs),
  fun s hs=>h.ird s (List.mem_append_right _ hs),fun s hs=>h.iinn s (List.mem_append_right _ hs),fun s hs=>h.icel s (List.mem_append_right _ hs),fun s hs=>h.ways s (List.mem_append_right _ hs),fun s hs=>h.waysIn s (List.mem_append_right _ hs)⟩
theorem Off.right {a b b':Tok} (h:Off a (Tok.join b b')):Off a b :=
 ⟨h.all,fun s hs hm=>h.look s hs (List.mem_append_left _ hm),fun s hs hm=>h.rd s hs (List.mem_append_left _ hm),fun s hs c hm=>h.cel s hs c (List.mem_append_left _ hm),fun s hs hm=>h.wr s hs (List.mem_append_left _ hm),fun s hs c hm=>h.inn s hs c (List.mem_append_left _ hm),
  fun s hs hm=>h.ird s hs (List.mem_append_left _ hm),fun s hs c hm=>h.iinn s hs c (List.mem_append_left _ hm),fun s hs c hm=>h.icel s hs c (List.mem_append_left _ hm),fun s hs x hm=>h.ways s hs x (List.mem_append_left _ hm),fun s hs x hm=>h.waysIn s hs x (List.mem_append_left _ hm)⟩
theorem Off.right' {a b b':Tok} (h:Off a (Tok.join b b')):Off a b' :=
 ⟨h.all,fun s hs hm=>h.look s hs (List.mem_append_right _ hm),fun s hs hm=>h.rd s hs (List.mem_append_right _ hm),fun s hs c hm=>h.cel s hs c (List.mem_append_right _ hm),fun s hs hm=>h.wr s hs (List.mem_append_right _ hm),fun s hs c hm=>h.inn s hs c (List.mem_append_right _ hm),
  fun s hs hm=>h.ird s hs (List.mem_append_right _ hm),fun s hs c hm=>h.iinn s hs c (List.mem_append_right _ hm),fun s hs c hm=>h.icel s hs c (List.mem_append_right _ hm),fun s hs x hm=>h.ways s hs x (List.mem_append_right _ hm),fun s hs x hm=>h.waysIn s hs x (List.mem_append_right _ hm)⟩
section
variable {o:zAF} {g g' g1 g2:zCU} {t:Tok} {s r:Nat}
theorem zDz:∀ {q:PM} {g g':zCU} {t:Tok},q.does o g t g'→t.all=false→s∉t.wr→(∀ c∈t.inn,c.1≠s)→g' s=g s:=by
 intro q
 induction q with
 | ok=>intro g g' t h _ _ _;rw [h.2]
 | fail=>intro g g' t h;cases h
 | view s0 k ih=>intro g g' t ⟨t',e,h⟩ ha hw hi;subst e;exact ih _ h ha hw hi
 | get s0 k ih=>intro g g' t ⟨_,t',e,h⟩ ha hw hi;subst e;exact ih _ h ha hw hi
 | set s0 p k ih =>
  intro g g' t ⟨t',e,h⟩ ha hw hi
  subst e
  simp only [Tok.join,zFi,List.mem_append,not_or,List.mem_singleton,Bool.false_or,List.nil_append] at ha hw hi
  rw [ih h ha hw.2 hi,zAf hw.1]
 | cells r0 pre i c n k ih=>intro g g' t ⟨a,qs,t',_,e,h⟩ ha hw hi;subst e;exact ih _ _ h ha hw hi
 | deep r0 pre k ih=>intro g g' t ⟨q,t',_,e,h⟩ ha hw hi;subst e;exact ih _ h ha hw hi
 | wcells r0 pre i c qs k ih =>
  intro g g' t ⟨root,t',_,e,h⟩ ha hw hi
  subst e
  have hI:s≠r0:=by
   rintro rfl
   cases hk:zAD (g s) root pre with
   | true=>exact hi (s,[]) (by simp [Tok.join,zBj,hk]) rfl
   | false=>exact hw (by simp [Tok.join,zBj,hk])
  rw [ih h (by simpa [Tok.join,zBj] using ha) (fun hm=>hw (List.mem_append_right _ hm)) (fun c hm=>hi c (List.mem_append_right _ hm)),zAf hI]
 | wnode r0 pre q k ih =>
  intro g g' t ⟨_,root,t',_,e,h⟩ ha hw hi
  subst e
  have hI:s≠r0:=by
   rintro rfl
   cases hk:(zAD (g s) root pre&&(pre.isEmpty || !q.isAgg)) with
   | true=>exact hi (s,pre.dropLast) (by simp only [Tok.join,zBj,hk];simp) rfl
   | false=>exact hw (by simp only [Tok.join,zBj,hk];simp)
  rw [ih h (by simpa [Tok.join,zBj] using ha) (fun hm=>hw (List.mem_append_right _ hm)) (fun c hm=>hi c (List.mem_append_right _ hm)),zAf hI]
 | kill r0 pre k ih =>
  intro g g' t ⟨D,t',hD,e,h⟩ ha hw hi
  subst e
  simp only [Tok.join,zAK,List.mem_append,not_or,Bool.false_or,List.nil_append] at ha hw hi
  rw [ih h ha hw.2 hi,zD0 (hD s hw.1)]
 | frz r0 pre k ih =>
  intro g g' t ⟨_,D,t',q,root,hD,hr,_,_,e,h⟩ ha hw hi
  subst e
  simp only [Tok.join,zAK,List.mem_append,not_or,Bool.false_or,List.nil_append] at ha hw hi
  rw [ih h ha hw.2 hi,zAf (by rintro rfl;exact hw.1 hr),zFv (hD s hw.1)]
 | killEx r0 pre k ih =>
  intro g g' t ⟨D,t',hD,e,h⟩ ha hw hi
  subst e
  simp only [Tok.join,zAK,List.mem_append,not_or,Bool.false_or,List.nil_append] at ha hw hi
  rw [ih h ha hw.2 hi,zCF (hD s hw.1)]
 | forget r0 k ih=>intro g g' t h ha;rw [show t.all=true from h] at ha;cases ha
 | call f args hid k ih=>intro g g' t ⟨v,hO,_,h⟩ ha hw hi;exact ih _ _ h ha hw hi
theorem zSb:∀ {q:PM} {g g':zCU} {t:Tok},q.does o g t g'→t.all=false→s∉t.wr→view s (g' s)=view s (g s):=by
 intro q
 induction q with
 | ok=>intro g g' t h _ _;rw [h.2]
 | fail=>intro g g' t h;cases h
 | view s0 k ih=>intro g g' t ⟨t',e,h⟩ ha hw;subst e;exact ih _ h ha hw
 | get s0 k ih=>intro g g' t ⟨_,t',e,h⟩ ha hw;subst e;exact ih _ h ha hw
 | set s0 p k ih =>
  intro g g' t ⟨t',e,h⟩ ha hw
  subst e
  simp only [Tok.join,zFi,List.mem_append,not_or,List.mem_singleton,Bool.false_or] at ha hw
  rw [ih h ha hw.2,zAf hw.1]
 | cells r0 pre i c n k ih=>intro g g' t ⟨a,qs,t',_,e,h⟩ ha hw;subst e;exact ih _ _ h ha hw
 | deep r0 pre k ih=>intro g g' t ⟨q,t',_,e,h⟩ ha hw;subst e;exact ih _ h ha hw
 | wcells r0 pre i c qs k ih =>
  intro g g' t ⟨root,t',hr,e,h⟩ ha hw
  subst e
  rw [ih h (by simpa [Tok.join,zBj] using ha) (fun hm=>hw (List.mem_append_right _ hm))]
  by_cases hI:s=r0
  ·subst hI
   rw [zAj]
   cases hk:zAD (g s) root pre with
   | false=>exact absurd (by simp [Tok.join,zBj,hk]) hw
   | true =>
    simp only [zBF] at hr
    revert hr
    cases (zDB (g s) pre && !(zBA qs).isEmpty) with
    | true=>intro hr;cases hr
    | false=>intro hr;exact (zGZ hr hk).symm
  ·rw [zAf hI]
 | wnode r0 pre q k ih =>
  intro g g' t ⟨_,root,t',hr,e,h⟩ ha hw
  subst e
  rw [ih h (by simpa [Tok.join,zBj] using ha) (fun hm=>hw (List.mem_append_right _ hm))]
  by_cases hI:s=r0
  ·subst hI
   rw [zAj]
   cases hk:(zAD (g s) root pre&&(pre.isEmpty || !q.isAgg)) with
   | false=>exact absurd (by simp only [Tok.join,zBj,hk];simp) hw
   | true =>
    rw [Bool.and_eq_true] at hk
    exact (zGZ hr hk.1).symm
  ·rw [zAf hI]
 | kill r0 pre k ih =>
  intro g g' t ⟨D,t',hD,e,h⟩ ha hw
  subst e
  simp only [Tok.join,zAK,List.mem_append,not_or,Bool.false_or] at ha hw
  rw [ih h ha hw.2,zD0 (hD s hw.1)]
 | frz r0 pre k ih =>
  intro g g' t ⟨_,D,t',q,root,hD,hr,_,_,e,h⟩ ha hw
  subst e
  simp only [Tok.join,zAK,List.mem_append,not_or,Bool.false_or] at ha hw
  rw [ih h ha hw.2,zAf (by rintro rfl;exact hw.1 hr),zFv (hD s hw.1)]
 | killEx r0 pre k ih =>
  intro g g' t ⟨D,t',hD,e,h⟩ ha hw
  subst e
  simp only [Tok.join,zAK,List.mem_append,not_or,Bool.false_or] at ha hw
  rw [ih h ha hw.2,zCF (hD s hw.1)]
 | forget r0 k ih=>intro g g' t h ha;rw [show t.all=true from h] at ha;cases ha
 | call f args hid k ih=>intro g g' t ⟨v,hO,_,h⟩ ha hw;exact ih _ _ h ha hw
theorem zLT {p:PV} (h:p.isLock=false):p.unlock=p:=by cases p<;>first | rfl | cases h
theorem zIL {r:Nat} {p:PV} {pre:zAU} {i c n:Nat}:zAr r p pre i c n=zQG r pre p.unlock pre i c n:=rfl
theorem zKa {F:PV→Option PV} {p q:PV} {x:Nat×zAU} {pre:zAU} {i c:Nat} (h:zAu F p ((i,c)::pre)=some q):q.isLock=false:=by
 rw [zBt] at h
 cases hc:Eng.child p i c with
 | none=>rw [hc] at h;cases h
 | some y =>
  rw [hc] at h;simp only [Option.bind_some] at h
  cases hm:zAu F y pre with
  | none=>rw [hm] at h;cases h
  | some y' =>
   rw [hm] at h;simp only [Option.bind_some] at h
   obtain ⟨xs,z,_,hz,kG,_,⟨sz,rfl,rfl⟩ | ⟨w,rfl,rfl,rfl,rfl⟩ | ⟨cs,rfl,_,_,rfl⟩⟩:=zG5 hc h<;>rfl
theorem zJC {r:Nat} {q root p:PV} {pre Q:zAU} (hl:p.isLock=false) (hr:zAu (fun _=>some q) p pre=some root) (hk:(zAD p root pre&&(pre.isEmpty || !q.isAgg))=true) (hp:pre.dropLast.isPrefixOf Q=false) (i c n:Nat) :
  zAr r root Q i c n=zAr r p Q i c n:=by
 rw [zIL,zIL,zLT hl]
 cases pre with
 | nil=>simp at hp
 | cons x pre =>
  have hq:q.isAgg=false:=by
   rw [Bool.and_eq_true] at hk
   have:=hk.2
   simpa using this
  rw [zLT (zKa (x:=(0,[])) hr)]
  exact zH2 hq _ _ _ _ hr (.inr ⟨by simp,hp⟩)
theorem zP3 {Q:zAU} {i c n:Nat}:∀ {q:PM} {g g':zCU} {t:Tok},q.does o g t g'→t.all=false→s∉t.wr→(∀ w∈t.inn,s=w.1→w.2.isPrefixOf Q=false)→zAr s (g' s) Q i c n=zAr s (g s) Q i c n:=by
 intro q
 induction q with
 | ok=>intro g g' t h _ _ _;rw [h.2]
 | fail=>intro g g' t h;cases h
 | view s0 k ih=>intro g g' t ⟨t',e,h⟩ ha hw hi;subst e;exact ih _ h ha hw hi
 | get s0 k ih=>intro g g' t ⟨_,t',e,h⟩ ha hw hi;subst e;exact ih _ h ha hw hi
 | set s0 p k ih =>
  intro g g' t ⟨t',e,h⟩ ha hw hi
  subst e
  simp only [Tok.join,zFi,List.mem_append,not_or,List.mem_singleton,Bool.false_or,List.nil_append] at ha hw hi
  rw [ih h ha hw.2 hi,zAf hw.1]
 | cells r0 pre i c n k ih=>intro g g' t ⟨a,qs,t',_,e,h⟩ ha hw hi;subst e;exact ih _ _ h ha hw hi
 | deep r0 pre k ih=>intro g g' t ⟨q,t',_,e,h⟩ ha hw hi;subst e;exact ih _ h ha hw hi
 | wcells r0 pre i c qs k ih =>
  intro g g' t ⟨root,t',_,e,h⟩ ha hw hi
  subst e
  have hI:s≠r0:=by
   rintro rfl
   cases hk:zAD (g s) root pre with
   | true=>have:=hi (s,[]) (by simp [Tok.join,zBj,hk]) rfl;simp at this
   | false=>exact hw (by simp [Tok.join,zBj,hk])
  rw [ih h (by simpa [Tok.join,zBj] using ha) (fun hm=>hw (List.mem_append_right _ hm)) (fun c hm=>hi c (List.mem_append_right _ hm)),zAf hI]
 | wnode r0 pre q k ih =>
  intro g g' t ⟨hl,root,t',hr,e,h⟩ ha hw hi
  subst e
  rw [ih h (by simpa [Tok.join,zBj] using ha) (fun hm=>hw (List.mem_append_right _ hm)) (fun c hm=>hi c (List.mem_append_right _ hm))]
  by_cases hI:s=r0
  ·subst hI
   rw [zAj]
   cases hk:(zAD (g s) root pre&&(pre.isEmpty || !q.isAgg)) with
   | true=>exact zJC hl hr hk (hi (s,pre.dropLast) (by simp only [Tok.join,zBj,hk];simp) rfl) _ _ _
   | false=>exact absurd (by simp only [Tok.join,zBj,hk];simp) hw
  ·rw [zAf hI]
 | kill r0 pre k ih =>
  intro g g' t ⟨D,t',hD,e,h⟩ ha hw hi
  subst e
  simp only [Tok.join,zAK,List.mem_append,not_or,Bool.false_or,List.nil_append] at ha hw hi
  rw [ih h ha hw.2 hi,zD0 (hD s hw.1)]
 | frz r0 pre k ih =>
  intro g g' t ⟨_,D,t',q,root,hD,hr,_,_,e,h⟩ ha hw hi
  subst e
  simp only [Tok.join,zAK,List.mem_append,not_or,Bool.false_or,List.nil_append] at ha hw hi
  rw [ih h ha hw.2 hi,zAf (by rintro rfl;exact hw.1 hr),zFv (hD s hw.1)]
 | killEx r0 pre k ih =>
  intro g g' t ⟨D,t',hD,e,h⟩ ha hw hi
  subst e
  simp only [Tok.join,zAK,List.mem_append,not_or,Bool.false_or,List.nil_append] at ha hw hi
  rw [ih h ha hw.2 hi,zCF (hD s hw.1)]
 | forget r0 k ih=>intro g g' t h ha;rw [show t.all=true from h] at ha;cases ha
 | call f args hid k ih=>intro g g' t ⟨v,hO,_,h⟩ ha hw hi;exact ih _ _ h ha hw hi
theorem zJI {D:List Nat} {ok:Nat×zAU→Prop}:∀ {q:PM} {g g':zCU} {t:Tok},q.does o g t g'→t.all=false→(∀ x∈t.ways,ok x)→(∀ s,s∉D→∀ x∈(g s).ways,ok x)→∀ s,s∉D→∀ x∈(g' s).ways,ok x:=by
 have put:∀ {g:zCU} {s0:Nat} {p:PV},(∀ x∈p.ways,ok x)→(∀ s,s∉D→∀ x∈(g s).ways,ok x)→∀ s,s∉D→∀ x∈(upd g s0 p s).ways,ok x:=by
  intro g s0 p hp hg s hs x hx
  by_cases h:s=s0
  ·subst h;rw [zAj] at hx;exact hp x hx
  ·rw [zAf h] at hx;exact hg s hs x hx
 have turn:∀ {g g1:zCU} {D0:List Nat} {t:Tok} {ks ki:List Nat},(∀ x∈(Tok.join (zAK D0 g g1 ks ki) t).ways,ok x)→(∀ s,s∉D0→g1 s=g s)→(∀ s,s∉D→∀ x∈(g s).ways,ok x)→∀ s,s∉D→∀ x∈(g1 s).ways,ok x:=by
  intro g g1 D0 t ks ki hw h1 hg s hs x hx
  by_cases h:s∈D0
  ·exact hw x (List.mem_append_left _ (List.mem_flatMap.2 ⟨s,h,List.mem_append_right _ hx⟩))
  ·rw [h1 s h] at hx;exact hg s hs x hx
 intro q
 induction q with
 | ok=>intro g g' t h _ _ hg;rw [h.2];exact hg
 | fail=>intro g g' t h;cases h
 | view s0 k ih=>intro g g' t ⟨t',e,h⟩ ha hw hi;subst e;exact ih _ h ha hw hi
 | get s0 k ih=>intro g g' t ⟨_,t',e,h⟩ ha hw hi;subst e;exact ih _ h ha hw hi
 | set s0 p k ih =>
  intro g g' t ⟨t',e,h⟩ ha hw hi
  subst e
  exact ih h (by simpa [Tok.join,zFi] using ha) (fun x hx=>hw x (List.mem_append_right _ hx)) (put (fun x hx=>hw x (List.mem_append_left _ (List.mem_append_right _ hx))) hi)
 | cells r pre i c n k ih=>intro g g' t ⟨a,qs,t',_,e,h⟩ ha hw hi;subst e;exact ih _ _ h ha hw hi
 | deep r pre k ih=>intro g g' t ⟨q,t',_,e,h⟩ ha hw hi;subst e;exact ih _ h ha hw hi
 | wcells r pre i c qs k ih =>
  intro g g' t ⟨root,t',_,e,h⟩ ha hw hi
  subst e
  exact ih h (by simpa [Tok.join,zBj] using ha) (fun x hx=>hw x (List.mem_append_right _ hx)) (put (fun x hx=>hw x (List.mem_append_left _ (List.mem_append_right _ hx))) hi)
 | wnode r pre q k ih =>
  intro g g' t ⟨_,root,t',_,e,h⟩ ha hw hi
  subst e
  exact ih h (by simpa [Tok.join,zBj] using ha) (fun x hx=>hw x (List.mem_append_right _ hx)) (put (fun x hx=>hw x (List.mem_append_left _ (List.mem_append_right _ hx))) hi)
 | kill r pre k ih =>
  intro g g' t ⟨D0,t',hD,e,h⟩ ha hw hi
  subst e
  exact ih h (by simpa [Tok.join,zAK] using ha) (fun x hx=>hw x (List.mem_append_right _ hx)) (turn hw (fun s hs=>zD0 (hD s hs)) hi)
 | frz r pre k ih =>
  intro g g' t ⟨_,D0,t',q,root,hD,hr,_,_,e,h⟩ ha hw hi
  subst e
  exact ih h (by simpa [Tok.join,zAK] using ha) (fun x hx=>hw x (List.mem_append_right _ hx)) (turn hw (fun s hs=>by rw [zAf (by rintro rfl;exact hs hr),zFv (hD s hs)]) hi)
 | killEx r pre k ih =>
  intro g g' t ⟨D0,t',hD,e,h⟩ ha hw hi
  subst e
  exact ih h (by simpa [Tok.join,zAK] using ha) (fun x hx=>hw x (List.mem_append_right _ hx)) (turn hw (fun s hs=>zCF (hD s hs)) hi)
 | forget r k ih=>intro g g' t h ha;rw [show t.all=true from h] at ha;cases ha
 | call f args hid k ih=>intro g g' t ⟨v,hO,_,h⟩ ha hw hi;exact ih _ _ h ha hw hi
theorem zNT {α:Type} {f:Nat→α} {s:Nat} {x y:α}:upd (upd f s x) s y=upd f s y:=by funext t;simp only [upd];split<;>rfl
theorem zLn {α:Type} {f:Nat→α} {s:Nat}:upd f s (f s)=f:=by
 funext u;simp only [upd];split
 ·rename_i e;rw [e]
 ·rfl
def mix (D:List Nat) (v g:zCU):zCU:=fun s=>if s∈D then v s else g s
theorem zBx {D:List Nat} {v g:zCU} {s:Nat} (h:s∈D):mix D v g s=v s:=if_pos h
theorem zAP {D:List Nat} {v g:zCU} {s:Nat} (h:s∉D):mix D v g s=g s:=if_neg h
theorem zIJ {D:List Nat} {v g:zCU} {s:Nat} {p:PV} (h:s∉D):upd (mix D v g) s p=mix D v (upd g s p):=by
 funext u
 by_cases hu:u=s
 ·subst hu;rw [zAj,zAP h,zAj]
 ·rw [zAf hu]
  by_cases hd:u∈D
  ·rw [zBx hd,zBx hd]
  ·rw [zAP hd,zAP hd,zAf hu]
theorem zN0 {g:zCU} {s:Nat} {p:PV}:upd g s p=mix [s] (fun _=>p) g:=by
 funext u;simp only [upd,mix,List.mem_singleton]
theorem zCJ {D:List Nat} {g g' h h':zCU} {ks ki:List Nat} (h1:∀ s∈D,g s=h s) (h2:∀ s∈D,g' s=h' s):zAK D g g' ks ki=zAK D h h' ks ki:=by
 simp only [zAK]
 congr 1
 induction D with
 | nil=>rfl
 | cons d D ih =>
  simp only [List.flatMap_cons]
  rw [h1 d (by simp),h2 d (by simp),ih (fun s hs=>h1 s (by simp [hs])) (fun s hs=>h2 s (by simp [hs]))]
structure Unseen (D:List Nat) (v g:zCU) (t:Tok):Prop where
 rd:∀ s∈D,s∉t.rd
 wr:∀ s∈D,s∉t.wr
 inn:∀ s∈D,∀ c∈t.inn,c.1≠s
 look:∀ s∈D,s∈t.look→view s (v s)=view s (g s)
 cel:∀ s∈D,∀ c∈t.cel,c.1=s→∀ i c' n,zAr s (v s) c.2 i c' n=zAr s (g s) c.2 i c' n
 kills:∀ s∈D,∀ k∈t.kills,∀ x∈(g s).ways,x.1≠k
 killsIn:∀ s∈D,∀ k∈t.killsIn,∀ x∈(g s).ways,x.1=k→x.2.isEmpty=true
theorem Unseen.rest {D:List Nat} {v g g':zCU} {a t:Tok} (h:Unseen D v g (Tok.join a t)) (hg:∀ s∈D,g' s=g s):Unseen D v g' t :=
 ⟨fun s hs hm=>h.rd s hs (List.mem_append_right _ hm),fun s hs hm=>h.wr s hs (List.mem_append_right _ hm),fun s hs c hm=>h.inn s hs c (List.mem_append_right _ hm),fun s hs hm=>by rw [hg s hs];exact h.look s hs (List.mem_append_right _ hm),
  fun s hs c hm=>by rw [hg s hs];exact h.cel s hs c (List.mem_append_right _ hm),fun s hs k hm=>by rw [hg s hs];exact h.kills s hs k (List.mem_append_right _ hm),fun s hs k hm=>by rw [hg s hs];exact h.killsIn s hs k (List.mem_append_right _ hm)⟩
theorem zHe {r:Nat} {pre:zAU} {x:Nat×zAU} (h:x.1≠r):zAL r pre x.1 x.2=false:=by
 simp only [zAL]
 cases hb:Nat.beq x.1 r with
 | true=>exact absurd (Nat.eq_of_beq_eq_true hb) h
 | false=>rfl
theorem zUy {r:Nat} {x:Nat×zAU} (h:x.1=r→x.2.isEmpty=true):(Nat.beq x.1 r && !x.2.isEmpty)=false:=by
 cases hb:Nat.beq x.1 r with
 | true=>rw [h (Nat.eq_of_beq_eq_true hb)];rfl
 | false=>rfl
theorem zF5 {D:List Nat} {v:zCU}:∀ {q:PM} {g g':zCU} {t:Tok},q.does o (mix D v g) t g'→t.all=false→Unseen D v g t→q.does o g t (mix D g g'):=by
 intro q
 induction q with
 | ok =>
  intro g g' t h _ _
  refine ⟨h.1,?_⟩
  rw [h.2];funext s
  by_cases hs:s∈D
  ·rw [zBx hs]
  ·rw [zAP hs,zAP hs]
 | fail=>intro g g' t h;cases h
 | view s0 k ih =>
  intro g g' t ⟨t',e,h⟩ ha hu
  subst e
  have hv:view s0 (mix D v g s0)=view s0 (g s0):=by
   by_cases hs:s0∈D
   ·rw [zBx hs];exact hu.look s0 hs (by simp [Tok.join])
   ·rw [zAP hs]
  rw [hv] at h
  exact ⟨t',rfl,ih _ h ha (hu.rest fun _ _=>rfl)⟩
 | get s0 k ih =>
  intro g g' t ⟨yF,t',e,h⟩ ha hu
  subst e
  have hs:s0∉D:=fun hs=>hu.rd s0 hs (by simp [Tok.join])
  rw [zAP hs] at h yF
  exact ⟨yF,t',rfl,ih _ h ha (hu.rest fun _ _=>rfl)⟩
 | set s0 p k ih =>
  intro g g' t ⟨t',e,h⟩ ha hu
  subst e
  have hs:s0∉D:=fun hs=>hu.wr s0 hs (by simp [Tok.join,zFi])
  rw [zAP hs] at hu ⊢
  rw [zIJ hs] at h
  have hg:∀ s∈D,upd g s0 p s=g s:=fun s hd=>zAf (by rintro rfl;exact hs hd)
  have:=ih h (by simpa [Tok.join,zFi] using ha) (hu.rest hg)
  refine ⟨t',rfl,?_⟩
  have he:mix D (upd g s0 p) g'=mix D g g':=by
   funext s;by_cases hd:s∈D
   ·rw [zBx hd,zBx hd,hg s hd]
   ·rw [zAP hd,zAP hd]
  rw [← he];exact this
 | cells r0 pre i c n k ih =>
  intro g g' t ⟨a,qs,t',kI,e,h⟩ ha hu
  subst e
  have hv:zAr r0 (g r0) pre i c n=some (a,qs):=by
   by_cases hs:r0∈D
   ·rw [zBx hs] at kI;rw [← hu.cel r0 hs (r0,pre) (by simp [Tok.join]) rfl];exact kI
   ·rw [zAP hs] at kI;exact kI
  exact ⟨a,qs,t',hv,rfl,ih _ _ h ha (hu.rest fun _ _=>rfl)⟩
 | deep r0 pre k ih =>
  intro g g' t ⟨q,t',hn,e,h⟩ ha hu
  subst e
  have hs:r0∉D:=fun hs=>hu.rd r0 hs (by simp [Tok.join])
  rw [zAP hs] at hn
  exact ⟨q,t',hn,rfl,ih _ h ha (hu.rest fun _ _=>rfl)⟩
 | wcells r0 pre i c qs k ih =>
  intro g g' t ⟨root,t',hn,e,h⟩ ha hu
  subst e
  have hs:r0∉D:=by
   intro hs
   cases ua:zAD (mix D v g r0) root pre with
   | true=>exact hu.inn r0 hs (r0,[]) (by simp [Tok.join,zBj,ua]) rfl
   | false=>exact hu.wr r0 hs (by simp [Tok.join,zBj,ua])
  rw [zAP hs] at hn hu ha ⊢
  rw [zIJ hs] at h
  have hg:∀ s∈D,upd g r0 root s=g s:=fun s hd=>zAf (by rintro rfl;exact hs hd)
  have:=ih h (by simpa [Tok.join,zBj] using ha) (hu.rest hg)
  refine ⟨root,t',hn,rfl,?_⟩
  have he:mix D (upd g r0 root) g'=mix D g g':=by
   funext s;by_cases hd:s∈D
   ·rw [zBx hd,zBx hd,hg s hd]
   ·rw [zAP hd,zAP hd]
  rw [← he];exact this
 | wnode r0 pre q k ih =>
  intro g g' t ⟨yF,root,t',hn,e,h⟩ ha hu
  subst e
  have hs:r0∉D:=by
   intro hs
   cases ua:(zAD (mix D v g r0) root pre&&(pre.isEmpty || !q.isAgg)) with
   | true=>exact hu.inn r0 hs (r0,pre.dropLast) (by simp only [Tok.join,zBj,ua];simp) rfl
   | false=>exact hu.wr r0 hs (by simp only [Tok.join,zBj,ua];simp)
  rw [zAP hs] at hn yF hu ha ⊢
  rw [zIJ hs] at h
  have hg:∀ s∈D,upd g r0 root s=g s:=fun s hd=>zAf (by rintro rfl;exact hs hd)
  have:=ih h (by simpa [Tok.join,zBj] using ha) (hu.rest hg)
  refine ⟨yF,root,t',hn,rfl,?_⟩
  have he:mix D (upd g r0 root) g'=mix D g g':=by
   funext s;by_cases hd:s∈D
   ·rw [zBx hd,zBx hd,hg s hd]
   ·rw [zAP hd,zAP hd]
  rw [← he];exact this
 | kill r0 pre k ih =>
  intro g g' t ⟨D0,t',hD,e,h⟩ ha hu
  subst e
  have yj:∀ s∈D0,s∉D:=fun s h0 hd=>hu.wr s hd (by simp [Tok.join,zAK,h0])
  have hq:∀ s∈D,∀ x∈(g s).ways,zAL r0 pre x.1 x.2=false:=fun s hd x hx=>zHe (hu.kills s hd r0 (by simp [Tok.join,zAK]) x hx)
  have hg:∀ s∈D,(fun s=>(g s).mapW (lose r0 pre)) s=g s:=fun s hd=>zD0 (hq s hd)
  have hm:(fun s=>(mix D v g s).mapW (lose r0 pre))=mix D v (fun s=>(g s).mapW (lose r0 pre)):=by
   funext s;by_cases hd:s∈D
   ·have:=hD s (fun h0=>yj s h0 hd)
    rw [zBx hd] at this
    rw [zBx hd,zBx hd,zD0 this]
   ·rw [zAP hd,zAP hd]
  have ht:=zCJ (D:=D0) (g:=mix D v g) (g':=fun s=>(mix D v g s).mapW (lose r0 pre)) (h:=g) (h':=fun s=>(g s).mapW (lose r0 pre)) (ks:=[r0]) (ki:=[]) (fun s h0=>zAP (yj s h0)) (fun s h0=>by simp only [zAP (yj s h0)])
  rw [hm] at h
  rw [ht] at hu ha ⊢
  have:=ih h (by simpa [Tok.join,zAK] using ha) (hu.rest hg)
  refine ⟨D0,t',fun s h0 x hx=>?_,rfl,?_⟩
  ·by_cases hd:s∈D
   ·exact hq s hd x hx
   ·exact hD s h0 x (by rw [zAP hd];exact hx)
  ·have he:mix D (fun s=>(g s).mapW (lose r0 pre)) g'=mix D g g':=by
    funext s;by_cases hd:s∈D
    ·rw [zBx hd,zBx hd];exact hg s hd
    ·rw [zAP hd,zAP hd]
   rw [← he];exact this
 | frz r0 pre k ih =>
  intro g g' t ⟨yF,D0,t',q,root,hD,hr,hn,hmn,e,h⟩ ha hu
  subst e
  have yj:∀ s∈D0,s∉D:=fun s h0 hd=>hu.wr s hd (by simp [Tok.join,zAK,h0])
  have u3:=yj r0 hr
  have hq:∀ s∈D,∀ x∈(g s).ways,zAL r0 pre x.1 x.2=false:=fun s hd x hx=>zHe (hu.kills s hd r0 (by simp [Tok.join,zAK]) x hx)
  have hg:∀ s∈D,(fun s=>(upd g r0 root s).mapW (inl r0 pre q)) s=g s:=fun s hd=>by
   simp only
   rw [zAf (by rintro rfl;exact u3 hd),zFv (hq s hd)]
  have hm:(fun s=>(upd (mix D v g) r0 root s).mapW (inl r0 pre q))=mix D v (fun s=>(upd g r0 root s).mapW (inl r0 pre q)):=by
   rw [zIJ u3]
   funext s;by_cases hd:s∈D
   ·have:=hD s (fun h0=>yj s h0 hd)
    rw [zBx hd] at this
    rw [zBx hd,zBx hd,zFv this]
   ·rw [zAP hd,zAP hd]
  have ht:=zCJ (D:=D0) (g:=mix D v g) (g':=fun s=>(upd (mix D v g) r0 root s).mapW (inl r0 pre q)) (h:=g) (h':=fun s=>(upd g r0 root s).mapW (inl r0 pre q)) (ks:=[r0]) (ki:=[]) (fun s h0=>zAP (yj s h0)) (fun s h0=>by simp only [zIJ u3,zAP (yj s h0)])
  rw [hm] at h
  rw [ht] at hu ha ⊢
  rw [zAP u3] at yF hn hmn
  have:=ih h (by simpa [Tok.join,zAK] using ha) (hu.rest hg)
  refine ⟨yF,D0,t',q,root,fun s h0 x hx=>?_,hr,hn,hmn,rfl,?_⟩
  ·by_cases hd:s∈D
   ·exact hq s hd x hx
   ·exact hD s h0 x (by rw [zAP hd];exact hx)
  ·have he:mix D (fun s=>(upd g r0 root s).mapW (inl r0 pre q)) g'=mix D g g':=by
    funext s;by_cases hd:s∈D
    ·rw [zBx hd,zBx hd];exact hg s hd
    ·rw [zAP hd,zAP hd]
   rw [← he];exact this
 | killEx r0 pre k ih =>
  intro g g' t ⟨D0,t',hD,e,h⟩ ha hu
  subst e
  have yj:∀ s∈D0,s∉D:=fun s h0 hd=>hu.wr s hd (by simp [Tok.join,zAK,h0])
  have hq:∀ s∈D,∀ x∈(g s).ways,(Nat.beq x.1 r0 && !x.2.isEmpty)=false:=fun s hd x hx=>zUy (hu.killsIn s hd r0 (by simp [Tok.join,zAK]) x hx)
  have hg:∀ s∈D,(fun s=>(g s).mapW (zBP r0 pre)) s=g s:=fun s hd=>zCF (hq s hd)
  have hm:(fun s=>(mix D v g s).mapW (zBP r0 pre))=mix D v (fun s=>(g s).mapW (zBP r0 pre)):=by
   funext s;by_cases hd:s∈D
   ·have:=hD s (fun h0=>yj s h0 hd)
    rw [zBx hd] at this
    rw [zBx hd,zBx hd,zCF this]
   ·rw [zAP hd,zAP hd]
  have ht:=zCJ (D:=D0) (g:=mix D v g) (g':=fun s=>(mix D v g s).mapW (zBP r0 pre)) (h:=g) (h':=fun s=>(g s).mapW (zBP r0 pre)) (ks:=[]) (ki:=[r0]) (fun s h0=>zAP (yj s h0)) (fun s h0=>by simp only [zAP (yj s h0)])
  rw [hm] at h
  rw [ht] at hu ha ⊢
  have:=ih h (by simpa [Tok.join,zAK] using ha) (hu.rest hg)
  refine ⟨D0,t',fun s h0 x hx=>?_,rfl,?_⟩
  ·by_cases hd:s∈D
   ·exact hq s hd x hx
   ·exact hD s h0 x (by rw [zAP hd];exact hx)
  ·have he:mix D (fun s=>(g s).mapW (zBP r0 pre)) g'=mix D g g':=by
    funext s;by_cases hd:s∈D
    ·rw [zBx hd,zBx hd];exact hg s hd
    ·rw [zAP hd,zAP hd]
   rw [← he];exact this
 | forget r0 k ih=>intro g g' t h ha;rw [show t.all=true from h] at ha;cases ha
 | call f args hid k ih=>intro g g' t ⟨v',hO,ho,h⟩ ha hu;exact ⟨v',hO,ho,ih _ _ h ha hu⟩
theorem zEH {D:List Nat} {v g:zCU} {p q:Tok} (h1:Off p q) (h2:Off q p) (hD:∀ s∈D,s∈p.wr) (hw:∀ s∈D,∀ x∈(g s).ways,x∈p.ways):Unseen D v g q :=
 ⟨fun s hs=>h1.rd s (hD s hs),fun s hs=>h1.wr s (hD s hs),fun s hs=>h1.inn s (hD s hs),fun s hs hl=>absurd hl (h1.look s (hD s hs)),fun s hs c hc e=>absurd e (h1.cel s (hD s hs) c hc),
  fun s hs k hk x hx=>h2.ways k hk x (hw s hs x hx),fun s hs k hk x hx=>h2.waysIn k hk x (hw s hs x hx)⟩
theorem comm {q:PM}:∀ {p:PM} {g g1 g2:zCU} {tp tq:Tok},p.does o g tp g1→q.does o g1 tq g2→Off tp tq→Off tq tp→∃ m,q.does o g tq m∧p.does o m tp g2:=by
 intro p
 induction p with
 | ok=>intro g g1 g2 tp tq h hq _ _;obtain ⟨rfl,rfl⟩:=h;exact ⟨g2,hq,rfl,rfl⟩
 | fail=>intro g g1 g2 tp tq h;cases h
 | view s k ih =>
  intro g g1 g2 tp tq ⟨t',e,h⟩ hq h1 h2
  subst e
  obtain ⟨m,hm,hk⟩:=ih _ h hq h1.left' h2.right'
  refine ⟨m,hm,t',rfl,?_⟩
  rw [zSb hm h2.all (fun hw=>h2.look s hw (by simp [Tok.join]))];exact hk
 | get s k ih =>
  intro g g1 g2 tp tq ⟨hl,t',e,h⟩ hq h1 h2
  subst e
  obtain ⟨m,hm,hk⟩:=ih _ h hq h1.left' h2.right'
  have:=zDz hm h2.all (fun hw=>h2.rd s hw (by simp [Tok.join])) (fun c hc e=>h2.ird c hc (by rw [e];simp [Tok.join]))
  exact ⟨m,hm,by rw [this];exact hl,t',rfl,by rw [this];exact hk⟩
 | set s v k ih =>
  intro g g1 g2 tp tq ⟨t',e,h⟩ hq h1 h2
  subst e
  obtain ⟨m,hm,hk⟩:=ih h hq h1.left' h2.right'
  have hw:s∈(Tok.join (zFi s (g s) v) t').wr:=by simp [Tok.join,zFi]
  have ws:m s=v:=by rw [zDz hm h2.all (h1.wr s hw) (h1.inn s hw),zAj]
  have hu:Unseen [s] (fun _=>v) g tq:=zEH h1 h2 (fun u hu=>by rw [List.mem_singleton.1 hu];exact hw) (fun u hu x hx=>by
   rw [List.mem_singleton.1 hu] at hx
   exact List.mem_append_left _ (List.mem_append_left _ hx))
  rw [zN0] at hm
  have hd:=zF5 hm h2.all hu
  have he:mix [s] g m=upd m s (g s):=by funext u;simp only [upd,mix,List.mem_singleton];split<;>simp_all
  rw [he] at hd
  refine ⟨_,hd,t',by rw [zAj],?_⟩
  rw [zNT,← ws,zLn];exact hk
 | cells r pre i c n k ih =>
  intro g g1 g2 tp tq ⟨a,qs,t',kI,e,h⟩ hq h1 h2
  subst e
  obtain ⟨m,hm,hk⟩:=ih _ _ h hq h1.left' h2.right'
  refine ⟨m,hm,a,qs,t',?_,rfl,hk⟩
  rw [zP3 hm h2.all (fun hw=>h2.cel r hw (r,pre) (by simp [Tok.join]) rfl) (fun w hw e=>h2.icel w hw (r,pre) (by simp [Tok.join]) e)];exact kI
 | deep r pre k ih =>
  intro g g1 g2 tp tq ⟨q,t',hn,e,h⟩ hq h1 h2
  subst e
  obtain ⟨m,hm,hk⟩:=ih _ h hq h1.left' h2.right'
  have:=zDz hm h2.all (fun hw=>h2.rd r hw (by simp [Tok.join])) (fun c hc e=>h2.ird c hc (by rw [e];simp [Tok.join]))
  exact ⟨m,hm,q,t',by rw [this];exact hn,rfl,hk⟩
 | wcells r pre i c qs k ih =>
  intro g g1 g2 tp tq ⟨root,t',hn,e,h⟩ hq h1 h2
  subst e
  obtain ⟨m,hm,hk⟩:=ih h hq h1.left' h2.right'
  have yu:∀ x∈(g r).ways,x∈(Tok.join (zBj r [] (zAD (g r) root pre) (g r) root) t').ways:=fun x hx=>List.mem_append_left _ (List.mem_append_left _ hx)
  have fin:m r=root→Unseen [r] (fun _=>root) g tq→∃ m,q.does o g tq m∧(PM.wcells r pre i c qs k).does o m (Tok.join (zBj r [] (zAD (g r) root pre) (g r) root) t') g2:=by
   intro ws hu
   rw [zN0] at hm
   have hd:=zF5 hm h2.all hu
   have he:mix [r] g m=upd m r (g r):=by funext u;simp only [upd,mix,List.mem_singleton];split<;>simp_all
   rw [he] at hd
   refine ⟨_,hd,root,t',by rw [zAj];exact hn,by rw [zAj],?_⟩
   rw [zNT,← ws,zLn];exact hk
  cases ua:zAD (g r) root pre with
  | true =>
   rw [ua] at h1 h2 fin yu
   have hin:(r,([]:zAU))∈(Tok.join (zBj r [] true (g r) root) t').inn:=by simp [Tok.join,zBj]
   have hw:r∉tq.wr:=fun hw=>h2.inn r hw _ hin rfl
   have hi:∀ c∈tq.inn,c.1≠r:=h1.iinn _ hin
   have hcel:∀ c∈tq.cel,c.1≠r:=fun c hc e=>by have:=h1.icel _ hin c hc e;simp at this
   refine fin (by rw [zDz hm h2.all hw hi,zAj]) ⟨fun s hs=>?_,fun s hs=>?_,fun s hs=>?_,fun s hs _=>?_,fun s hs c hc e=>?_,fun s hs k hk x hx=>?_,fun s hs k hk x hx=>?_⟩<;>rw [List.mem_singleton.1 hs] at *
   ·exact h1.ird _ hin
   ·exact hw
   ·exact hi
   ·simp only [zBF] at hn
    revert hn
    cases (zDB (g r) pre && !(zBA qs).isEmpty) with
    | true=>intro hr;cases hr
    | false=>intro hr;exact (zGZ hr ua).symm
   ·exact absurd e (hcel c hc)
   ·exact h2.ways k hk x (yu x hx)
   ·exact h2.waysIn k hk x (yu x hx)
  | false =>
   rw [ua] at h1 h2 fin yu
   have hw:r∈(Tok.join (zBj r [] false (g r) root) t').wr:=by simp [Tok.join,zBj]
   exact fin (by rw [zDz hm h2.all (h1.wr r hw) (h1.inn r hw),zAj]) (zEH h1 h2 (fun u hu=>by rw [List.mem_singleton.1 hu];exact hw) (fun u hu x hx=>by rw [List.mem_singleton.1 hu] at hx;exact yu x hx))
 | wnode r pre q0 k ih =>
  intro g g1 g2 tp tq ⟨yF,root,t',hn,e,h⟩ hq h1 h2
  subst e
  obtain ⟨m,hm,hk⟩:=ih h hq h1.left' h2.right'
  have yu:∀ x∈(g r).ways,x∈(Tok.join (zBj r pre.dropLast (zAD (g r) root pre&&(pre.isEmpty || !q0.isAgg)) (g r) root) t').ways:=fun x hx=>List.mem_append_left _ (List.mem_append_left _ hx)
  have fin:m r=root→Unseen [r] (fun _=>root) g tq→∃ m,q.does o g tq m∧(PM.wnode r pre q0 k).does o m (Tok.join (zBj r pre.dropLast (zAD (g r) root pre&&(pre.isEmpty || !q0.isAgg)) (g r) root) t') g2:=by
   intro ws hu
   rw [zN0] at hm
   have hd:=zF5 hm h2.all hu
   have he:mix [r] g m=upd m r (g r):=by funext u;simp only [upd,mix,List.mem_singleton];split<;>simp_all
   rw [he] at hd
   refine ⟨_,hd,by rw [zAj];exact yF,root,t',by rw [zAj];exact hn,by rw [zAj],?_⟩
   rw [zNT,← ws,zLn];exact hk
  cases ua:(zAD (g r) root pre&&(pre.isEmpty || !q0.isAgg)) with
  | true =>
   rw [ua] at h1 h2 fin yu
   have hin:(r,pre.dropLast)∈(Tok.join (zBj r pre.dropLast true (g r) root) t').inn:=by simp [Tok.join,zBj]
   have hw:r∉tq.wr:=fun hw=>h2.inn r hw _ hin rfl
   have hi:∀ c∈tq.inn,c.1≠r:=h1.iinn _ hin
   refine fin (by rw [zDz hm h2.all hw hi,zAj]) ⟨fun s hs=>?_,fun s hs=>?_,fun s hs=>?_,fun s hs _=>?_,fun s hs c hc e i c' n=>?_,fun s hs k hk x hx=>?_,fun s hs k hk x hx=>?_⟩<;>rw [List.mem_singleton.1 hs] at *
   ·exact h1.ird _ hin
   ·exact hw
   ·exact hi
   ·rw [Bool.and_eq_true] at ua
    exact (zGZ hn ua.1).symm
   ·exact zJC yF hn ua (h1.icel _ hin c hc e) i c' n
   ·exact h2.ways k hk x (yu x hx)
   ·exact h2.waysIn k hk x (yu x hx)
  | false =>
   rw [ua] at h1 h2 fin yu
   have hw:r∈(Tok.join (zBj r pre.dropLast false (g r) root) t').wr:=by simp [Tok.join,zBj]
   exact fin (by rw [zDz hm h2.all (h1.wr r hw) (h1.inn r hw),zAj]) (zEH h1 h2 (fun u hu=>by rw [List.mem_singleton.1 hu];exact hw) (fun u hu x hx=>by rw [List.mem_singleton.1 hu] at hx;exact yu x hx))
 | kill r pre k ih =>
  intro g g1 g2 tp tq ⟨D,t',hD,e,h⟩ hq h1 h2
  subst e
  obtain ⟨m,hm,hk⟩:=ih h hq h1.left' h2.right'
  have hw:∀ s∈D,s∈(Tok.join (zAK D g (fun s=>(g s).mapW (lose r pre)) [r] []) t').wr:=fun s hs=>List.mem_append_left _ hs
  have hu:Unseen D (fun s=>(g s).mapW (lose r pre)) g tq:=zEH h1 h2 hw (fun s hs x hx=>List.mem_append_left _ (List.mem_flatMap.2 ⟨s,hs,List.mem_append_left _ hx⟩))
  have kO:(fun s=>(g s).mapW (lose r pre))=mix D (fun s=>(g s).mapW (lose r pre)) g:=by
   funext s;by_cases hs:s∈D
   ·rw [zBx hs]
   ·rw [zAP hs,zD0 (hD s hs)]
  have hmD:∀ s∈D,m s=(g s).mapW (lose r pre):=fun s hs=>zDz hm h2.all (h1.wr s (hw s hs)) (h1.inn s (hw s hs))
  have jD:=zJI (D:=D) (ok:=fun x=>zAL r pre x.1 x.2=false) hm h2.all (fun x hx=>zHe (h1.ways r (by simp [Tok.join,zAK]) x hx)) (fun s hs x hx=>hD s hs x (by rw [zD0 (hD s hs)] at hx;exact hx))
  rw [kO] at hm
  have hd:=zF5 hm h2.all hu
  have yc:(fun s=>(mix D g m s).mapW (lose r pre))=m:=by
   funext s;by_cases hs:s∈D
   ·rw [zBx hs,hmD s hs]
   ·rw [zAP hs,zD0 (jD s hs)]
  refine ⟨_,hd,D,t',fun s hs x hx=>jD s hs x (by rw [zAP hs] at hx;exact hx),?_,by rw [yc];exact hk⟩
  rw [zCJ (g:=g) (h:=mix D g m) (h':=fun s=>(mix D g m s).mapW (lose r pre)) (fun s hs=>(zBx hs).symm) (fun s hs=>by simp only [zBx hs])]
 | frz r pre k ih =>
  intro g g1 g2 tp tq ⟨yF,D,t',q0,root,hD,hr,hn,hmn,e,h⟩ hq h1 h2
  subst e
  obtain ⟨m,hm,hk⟩:=ih h hq h1.left' h2.right'
  have hw:∀ s∈D,s∈(Tok.join (zAK D g (fun s=>(upd g r root s).mapW (inl r pre q0)) [r] []) t').wr:=fun s hs=>List.mem_append_left _ hs
  have hu:Unseen D (fun s=>(upd g r root s).mapW (inl r pre q0)) g tq:=zEH h1 h2 hw (fun s hs x hx=>List.mem_append_left _ (List.mem_flatMap.2 ⟨s,hs,List.mem_append_left _ hx⟩))
  have yj:∀ s,s∉D→(upd g r root s).mapW (inl r pre q0)=g s:=fun s hs=>by rw [zAf (by rintro rfl;exact hs hr),zFv (hD s hs)]
  have kO:(fun s=>(upd g r root s).mapW (inl r pre q0))=mix D (fun s=>(upd g r root s).mapW (inl r pre q0)) g:=by
   funext s;by_cases hs:s∈D
   ·rw [zBx hs]
   ·rw [zAP hs,yj s hs]
  have hmD:∀ s∈D,m s=(upd g r root s).mapW (inl r pre q0):=fun s hs=>zDz hm h2.all (h1.wr s (hw s hs)) (h1.inn s (hw s hs))
  have jD:=zJI (D:=D) (ok:=fun x=>zAL r pre x.1 x.2=false) hm h2.all (fun x hx=>zHe (h1.ways r (by simp [Tok.join,zAK]) x hx)) (fun s hs x hx=>hD s hs x (by rw [yj s hs] at hx;exact hx))
  rw [kO] at hm
  have hd:=zF5 hm h2.all hu
  have yc:(fun s=>(upd (mix D g m) r root s).mapW (inl r pre q0))=m:=by
   funext s;by_cases hs:s∈D
   ·rw [hmD s hs]
    by_cases yZ:s=r
    ·subst yZ;rw [zAj,zAj]
    ·rw [zAf yZ,zAf yZ,zBx hs]
   ·rw [zAf (by rintro rfl;exact hs hr),zAP hs,zFv (jD s hs)]
  have hmr:mix D g m r=g r:=zBx hr
  refine ⟨_,hd,by rw [hmr];exact yF,D,t',q0,root,fun s hs x hx=>jD s hs x (by rw [zAP hs] at hx;exact hx),hr,by rw [hmr];exact hn,by rw [hmr];exact hmn,?_,by rw [yc];exact hk⟩
  rw [zCJ (g:=g) (h:=mix D g m) (fun s hs=>(zBx hs).symm) (fun s hs=>by
   show (upd g r root s).mapW (inl r pre q0)=(upd (mix D g m) r root s).mapW (inl r pre q0)
   by_cases yZ:s=r
   ·subst yZ;rw [zAj,zAj]
   ·rw [zAf yZ,zAf yZ,zBx hs])]
 | killEx r pre k ih =>
  intro g g1 g2 tp tq ⟨D,t',hD,e,h⟩ hq h1 h2
  subst e
  obtain ⟨m,hm,hk⟩:=ih h hq h1.left' h2.right'
  have hw:∀ s∈D,s∈(Tok.join (zAK D g (fun s=>(g s).mapW (zBP r pre)) [] [r]) t').wr:=fun s hs=>List.mem_append_left _ hs
  have hu:Unseen D (fun s=>(g s).mapW (zBP r pre)) g tq:=zEH h1 h2 hw (fun s hs x hx=>List.mem_append_left _ (List.mem_flatMap.2 ⟨s,hs,List.mem_append_left _ hx⟩))
  have kO:(fun s=>(g s).mapW (zBP r pre))=mix D (fun s=>(g s).mapW (zBP r pre)) g:=by
   funext s;by_cases hs:s∈D
   ·rw [zBx hs]
   ·rw [zAP hs,zCF (hD s hs)]
  have hmD:∀ s∈D,m s=(g s).mapW (zBP r pre):=fun s hs=>zDz hm h2.all (h1.wr s (hw s hs)) (h1.inn s (hw s hs))
  have jD:=zJI (D:=D) (ok:=fun x=>(Nat.beq x.1 r && !x.2.isEmpty)=false) hm h2.all (fun x hx=>zUy (h1.waysIn r (by simp [Tok.join,zAK]) x hx)) (fun s hs x hx=>hD s hs x (by rw [zCF (hD s hs)] at hx;exact hx))
  rw [kO] at hm
  have hd:=zF5 hm h2.all hu
  have yc:(fun s=>(mix D g m s).mapW (zBP r pre))=m:=by
   funext s;by_cases hs:s∈D
   ·rw [zBx hs,hmD s hs]
   ·rw [zAP hs,zCF (jD s hs)]
  refine ⟨_,hd,D,t',fun s hs x hx=>jD s hs x (by rw [zAP hs] at hx;exact hx),?_,by rw [yc];exact hk⟩
  rw [zCJ (g:=g) (h:=mix D g m) (h':=fun s=>(mix D g m s).mapW (zBP r pre)) (fun s hs=>(zBx hs).symm) (fun s hs=>by simp only [zBx hs])]
 | forget r k ih=>intro g g1 g2 tp tq h hq h1 h2;have:=h1.all;rw [show tp.all=true from h] at this;cases this
 | call f args hid k ih =>
  intro g g1 g2 tp tq ⟨v',hO,ho,h⟩ hq h1 h2
  obtain ⟨m,hm,hk⟩:=ih _ _ h hq h1 h2
  exact ⟨m,hm,v',hO,ho,hk⟩
theorem zBm (e:Env) (s:Nat) (p:PV):(e.set s p).get=upd e.get s p:=by
 funext t;rw [Env.get_set];rfl
theorem zFL {e:Env} {h:Nat×zAU→Bool}:∀ s,s∉zDm e h→∀ x∈(e.get s).ways,h x=false:=by
 intro s hs x hx
 cases hh:h x with
 | false=>rfl
 | true =>
  exfalso
  refine hs ?_
  clear hs
  induction e with
  | nil=>cases hx
  | cons y e ih =>
   obtain ⟨k,v⟩:=y
   simp only [Env.get] at hx
   cases hb:Nat.beq k s with
   | true =>
    rw [hb] at hx
    have hk:=Nat.eq_of_beq_eq_true hb
    exact List.mem_map.2 ⟨(k,v),List.mem_filter.2 ⟨by simp,List.any_eq_true.2 ⟨x,hx,hh⟩⟩,hk⟩
   | false =>
    rw [hb] at hx
    obtain ⟨y,hy,qi⟩:=List.mem_map.1 (ih hx)
    obtain ⟨h1,h2⟩:=List.mem_filter.1 hy
    exact List.mem_map.2 ⟨y,List.mem_filter.2 ⟨by simp [h1],h2⟩,qi⟩
theorem zWf {e e':Env} {r:Nat} {pre:zAU} (h:e.frz r pre=some e') :
  (e.get r).isLock=false∧∃ q root,zAz (e.get r) pre=some q∧zAu (fun _=>some (zAV q)) (e.get r) pre=some root∧e'.get=fun s=>(upd e.get r root s).mapW (inl r pre q):=by
 simp only [Env.frz] at h
 cases hl:(e.get r).isLock with
 | true=>rw [hl] at h;cases h
 | false =>
  rw [hl] at h;simp only [cond_false] at h
  cases hn:zAz (e.get r) pre with
  | none=>rw [hn] at h;cases h
  | some q =>
   rw [hn] at h;simp only at h
   cases hm:zAu (fun _=>some (zAV q)) (e.get r) pre with
   | none=>rw [hm] at h;cases h
   | some root =>
    rw [hm] at h;simp only [Option.some.injEq] at h
    subst h
    refine ⟨rfl,q,root,rfl,hm,?_⟩
    funext s
    rw [Env.get_map (e.set r root) (g:=fun p=>p.mapW (inl r pre q)) rfl s,zBm]
theorem zH3:∀ {p:PM} {e e':Env} {t:Tok},p.runT o e=some (e',t)→t.all=true∨p.does o e.get t e'.get:=by
 intro p
 induction p with
 | ok=>intro e e' t h;simp only [PM.runT,Option.some.injEq,Prod.mk.injEq] at h;obtain ⟨rfl,rfl⟩:=h;exact .inr ⟨rfl,rfl⟩
 | fail=>intro e e' t h;cases h
 | view s k ih =>
  intro e e' t h
  simp only [PM.runT,Option.map_eq_some_iff] at h
  obtain ⟨⟨e1,t1⟩,h,hx⟩:=h
  cases hx
  rcases ih _ h with ha | hd
  ·exact .inl (by simp [Tok.join,ha])
  ·exact .inr ⟨t1,rfl,hd⟩
 | get s k ih =>
  intro e e' t h
  simp only [PM.runT] at h
  split at h
  ·cases h
  ·rename_i qB
   simp only [Option.map_eq_some_iff] at h
   obtain ⟨⟨e1,t1⟩,h,hx⟩:=h
   cases hx
   rcases ih _ h with ha | hd
   ·exact .inl (by simp [Tok.join,ha])
   ·refine .inr ⟨?_,t1,rfl,hd⟩
    cases hl:e.get s<;>first | rfl | exact absurd hl (qB _)
 | set s v k ih =>
  intro e e' t h
  simp only [PM.runT,Option.map_eq_some_iff] at h
  obtain ⟨⟨e1,t1⟩,h,hx⟩:=h
  cases hx
  rcases ih h with ha | hd
  ·exact .inl (by simp [Tok.join,ha])
  ·exact .inr ⟨t1,rfl,by rw [zBm] at hd;exact hd⟩
 | cells r pre i c n k ih =>
  intro e e' t h
  simp only [PM.runT] at h
  split at h
  ·rename_i a qs kI
   simp only [Option.map_eq_some_iff] at h
   obtain ⟨⟨e1,t1⟩,h,hx⟩:=h
   cases hx
   rcases ih _ _ h with ha | hd
   ·exact .inl (by simp [Tok.join,ha])
   ·exact .inr ⟨a,qs,t1,kI,rfl,hd⟩
  ·cases h
 | deep r pre k ih =>
  intro e e' t h
  simp only [PM.runT] at h
  split at h
  ·rename_i q hn
   simp only [Option.map_eq_some_iff] at h
   obtain ⟨⟨e1,t1⟩,h,hx⟩:=h
   cases hx
   rcases ih _ h with ha | hd
   ·exact .inl (by simp [Tok.join,ha])
   ·exact .inr ⟨q,t1,hn,rfl,hd⟩
  ·cases h
 | wcells r pre i c qs k ih =>
  intro e e' t h
  simp only [PM.runT] at h
  split at h
  ·rename_i root hn
   simp only [Option.map_eq_some_iff] at h
   obtain ⟨⟨e1,t1⟩,h,hx⟩:=h
   cases hx
   rcases ih h with ha | hd
   ·exact .inl (by simp [Tok.join,ha])
   ·exact .inr ⟨root,t1,hn,rfl,by rw [zBm] at hd;exact hd⟩
  ·cases h
 | wnode r pre q k ih =>
  intro e e' t h
  simp only [PM.runT] at h
  cases hl:(e.get r).isLock with
  | true=>rw [hl] at h;cases h
  | false =>
   rw [hl] at h;simp only [cond_false] at h
   split at h
   ·rename_i root hn
    simp only [Option.map_eq_some_iff] at h
    obtain ⟨⟨e1,t1⟩,h,hx⟩:=h
    cases hx
    rcases ih h with ha | hd
    ·exact .inl (by simp [Tok.join,ha])
    ·exact .inr ⟨hl,root,t1,hn,rfl,by rw [zBm] at hd;exact hd⟩
   ·cases h
 | kill r pre k ih =>
  intro e e' t h
  simp only [PM.runT,Option.map_eq_some_iff] at h
  obtain ⟨⟨e1,t1⟩,h,hx⟩:=h
  cases hx
  rcases ih h with hb | hd
  ·exact .inl (by simp [Tok.join,zAK,hb])
  ·have hg:(e.kill r pre).get=fun s=>(e.get s).mapW (lose r pre):=by funext s;rw [Env.get_kill]
   rw [hg] at hd ⊢
   exact .inr ⟨_,t1,zFL,rfl,hd⟩
 | frz r pre k ih =>
  intro e e' t h
  simp only [PM.runT] at h
  split at h
  ·rename_i e2 h2
   simp only [Option.map_eq_some_iff] at h
   obtain ⟨⟨e1,t1⟩,h,hx⟩:=h
   cases hx
   rcases ih h with hb | hd
   ·exact .inl (by simp [Tok.join,zAK,hb])
   ·obtain ⟨hl,q,root,hn,hm,hg⟩:=zWf h2
    rw [hg] at hd ⊢
    exact .inr ⟨hl,_,t1,q,root,fun s hs=>zFL s (fun hm=>hs (List.mem_cons_of_mem _ hm)),by simp,hn,hm,rfl,hd⟩
  ·cases h
 | killEx r keep k ih =>
  intro e e' t h
  simp only [PM.runT,Option.map_eq_some_iff] at h
  obtain ⟨⟨e1,t1⟩,h,hx⟩:=h
  cases hx
  rcases ih h with hb | hd
  ·exact .inl (by simp [Tok.join,zAK,hb])
  ·have hg:(e.killEx r keep).get=fun s=>(e.get s).mapW (zBP r keep):=by funext s;rw [Env.get_killEx]
   rw [hg] at hd ⊢
   exact .inr ⟨_,t1,zFL,rfl,hd⟩
 | forget r k ih =>
  intro e e' t h
  simp only [PM.runT,Option.map_eq_some_iff] at h
  obtain ⟨⟨e1,t1⟩,h,hx⟩:=h
  cases hx
  exact .inl rfl
 | call f args hid k ih =>
  intro e e' t h
  simp only [PM.runT] at h
  split at h
  ·rename_i v hO ho
   rcases ih _ _ h with ha | hd
   ·exact .inl ha
   ·exact .inr ⟨v,hO,ho,hd⟩
  ·cases h
theorem zNI:∀ {p:PM} {e:Env} {g':zCU} {t:Tok},p.does o e.get t g'→t.all=false→∃ e',p.run o e=some e'∧e'.get=g':=by
 intro p
 induction p with
 | ok=>intro e g' t h _;exact ⟨e,rfl,h.2.symm⟩
 | fail=>intro e g' t h;cases h
 | view s k ih =>
  intro e g' t ⟨t',he,h⟩ ha
  subst he;exact ih _ h ha
 | get s k ih =>
  intro e g' t ⟨hl,t',he,h⟩ ha
  subst he
  obtain ⟨e',h1,h2⟩:=ih _ h ha
  refine ⟨e',?_,h2⟩
  simp only [PM.run]
  split
  ·rename_i p hp;rw [hp] at hl;cases hl
  ·exact h1
 | set s v k ih =>
  intro e g' t ⟨t',he,h⟩ ha
  subst he
  exact ih (e:=e.set s v) (by rw [zBm];exact h) (by simpa [Tok.join,zFi] using ha)
 | cells r pre i c n k ih =>
  intro e g' t ⟨a,qs,t',kI,he,h⟩ ha
  subst he
  obtain ⟨e',h1,h2⟩:=ih _ _ h ha
  exact ⟨e',by simp only [PM.run,kI];exact h1,h2⟩
 | deep r pre k ih =>
  intro e g' t ⟨q,t',hn,he,h⟩ ha
  subst he
  obtain ⟨e',h1,h2⟩:=ih _ h ha
  exact ⟨e',by simp only [PM.run,hn];exact h1,h2⟩
 | wcells r pre i c qs k ih =>
  intro e g' t ⟨root,t',hn,he,h⟩ ha
  subst he
  obtain ⟨e',h1,h2⟩:=ih (e:=e.set r root) (by rw [zBm];exact h) (by simpa [Tok.join,zBj] using ha)
  exact ⟨e',by simp only [PM.run,hn];exact h1,h2⟩
 | wnode r pre q k ih =>
  intro e g' t ⟨hl,root,t',hn,he,h⟩ ha
  subst he
  obtain ⟨e',h1,h2⟩:=ih (e:=e.set r root) (by rw [zBm];exact h) (by simpa [Tok.join,zBj] using ha)
  exact ⟨e',by simp only [PM.run,hl,cond_false,hn];exact h1,h2⟩
 | kill r pre k ih =>
  intro e g' t ⟨D,t',hD,he,h⟩ ha
  subst he
  exact ih (e:=e.kill r pre) (t:=t') (by
   have:(e.kill r pre).get=fun s=>(e.get s).mapW (lose r pre):=by funext s;rw [Env.get_kill]
   rw [this];exact h) (by simpa [Tok.join,zAK] using ha)
 | frz r pre k ih =>
  intro e g' t ⟨hl,D,t',q,root,hD,hr,hn,hm,he,h⟩ ha
  subst he
  have hf:e.frz r pre=some ((e.set r root).map fun x=>(x.1,x.2.mapW (inl r pre q))):=by
   simp only [Env.frz,hl,cond_false,hn,hm]
  have hg:Env.get ((e.set r root).map fun x=>(x.1,x.2.mapW (inl r pre q)))=fun s=>(upd e.get r root s).mapW (inl r pre q):=by
   funext s;rw [Env.get_map (e.set r root) (g:=fun p=>p.mapW (inl r pre q)) rfl s,zBm]
  obtain ⟨e',h1,h2⟩:=ih (e:=(e.set r root).map fun x=>(x.1,x.2.mapW (inl r pre q))) (t:=t') (by rw [hg];exact h) (by simpa [Tok.join,zAK] using ha)
  exact ⟨e',by simp only [PM.run,hf];exact h1,h2⟩
 | killEx r keep k ih =>
  intro e g' t ⟨D,t',hD,he,h⟩ ha
  subst he
  exact ih (e:=e.killEx r keep) (t:=t') (by
   have:(e.killEx r keep).get=fun s=>(e.get s).mapW (zBP r keep):=by funext s;rw [Env.get_killEx]
   rw [this];exact h) (by simpa [Tok.join,zAK] using ha)
 | forget r k ih=>intro e g' t h ha;rw [show t.all=true from h] at ha;cases ha
 | call f args hid k ih =>
  intro e g' t ⟨v,hO,ho,h⟩ ha
  obtain ⟨e',h1,h2⟩:=ih _ _ h ha
  exact ⟨e',by simp only [PM.run,ho];exact h1,h2⟩
end
section
variable {o:zAF}
theorem zEF (e:Env) (h s:Nat):(e.forget h).get s=if s=h∨(e.get s).num=true then e.get s else .bad:=by
 induction e with
 | nil=>exact (ite_self (c:=s=h∨PV.bad.num=true) PV.bad).symm
 | cons x e ih =>
  obtain ⟨k,v⟩:=x
  have ih:Env.get (List.map (fun x=>bif Nat.beq x.1 h||x.2.num then x else (x.1,PV.bad)) e) s=_:=ih
  simp only [Env.forget,List.map_cons]
  cases hb:Nat.beq k s with
  | true =>
   have hk:=Nat.eq_of_beq_eq_true hb
   subst hk
   have e1:Env.get ((k,v)::e) k=v:=by simp only [Env.get,hb,cond_true]
   rw [e1]
   cases hc:(Nat.beq k h||v.num) with
   | true =>
    rw [cond_true]
    simp only [Env.get,hb,cond_true]
    rw [Bool.or_eq_true] at hc
    rw [if_pos (hc.imp (fun h=>Nat.eq_of_beq_eq_true h) id)]
   | false =>
    rw [cond_false]
    simp only [Env.get,hb,cond_true]
    rw [Bool.or_eq_false_iff] at hc
    rw [if_neg]
    rintro (h1 | h1)
    ·subst h1;rw [Nat.beq_refl] at hc;cases hc.1
    ·rw [hc.2] at h1;cases h1
  | false =>
   have e1:Env.get ((k,v)::e) s=Env.get e s:=by simp only [Env.get,hb,cond_false]
   rw [e1,← ih]
   cases (Nat.beq k h||v.num)<;>simp only [cond_true,cond_false,Env.get,hb]
theorem zRv {e f e1:Env} {r:Nat} {pre:zAU} (he:f.get=e.get) (h:e.frz r pre=some e1):∃ f1,f.frz r pre=some f1∧f1.get=e1.get:=by
 simp only [Env.frz] at h ⊢
 rw [he]
 cases hl:(e.get r).isLock with
 | true=>rw [hl] at h;cases h
 | false =>
  rw [hl] at h;simp only [cond_false] at h ⊢
  cases hn:zAz (e.get r) pre with
  | none=>rw [hn] at h;cases h
  | some q =>
   rw [hn] at h;simp only at h ⊢
   cases hm:zAu (fun _=>some (zAV q)) (e.get r) pre with
   | none=>rw [hm] at h;cases h
   | some root =>
    rw [hm] at h;simp only [Option.some.injEq] at h ⊢
    subst h
    refine ⟨_,rfl,?_⟩
    funext s
    rw [Env.get_map (f.set r root) (g:=fun p=>p.mapW (inl r pre q)) rfl s,Env.get_map (e.set r root) (g:=fun p=>p.mapW (inl r pre q)) rfl s,zBm,zBm,he]
theorem zFp:∀ {p:PM} {e f e1:Env},f.get=e.get→p.run o e=some e1→∃ f1,p.run o f=some f1∧f1.get=e1.get:=by
 intro p
 induction p with
 | ok=>intro e f e1 he h;simp only [PM.run,Option.some.injEq] at h;subst h;exact ⟨f,rfl,he⟩
 | fail=>intro e f e1 he h;cases h
 | view s k ih=>intro e f e1 he h;simp only [PM.run] at h ⊢;rw [he];exact ih _ he h
 | get s k ih =>
  intro e f e1 he h
  simp only [PM.run] at h ⊢
  rw [he]
  split at h
  ·cases h
  ·exact ih _ he h
 | set s v k ih=>intro e f e1 he h;exact ih (by rw [zBm,zBm,he]) h
 | cells r pre i c n k ih =>
  intro e f e1 he h
  simp only [PM.run] at h ⊢
  rw [he]
  split at h
  ·exact ih _ _ he h
  ·cases h
 | deep r pre k ih =>
  intro e f e1 he h
  simp only [PM.run] at h ⊢
  rw [he]
  split at h
  ·exact ih _ he h
  ·cases h
 | wcells r pre i c qs k ih =>
  intro e f e1 he h
  simp only [PM.run] at h ⊢
  rw [he]
  split at h
  ·exact ih (by rw [zBm,zBm,he]) h
  ·cases h
 | wnode r pre q k ih =>
  intro e f e1 he h
  simp only [PM.run] at h ⊢
  rw [he]
  cases hl:(e.get r).isLock with
  | true=>rw [hl] at h;cases h
  | false =>
   rw [hl] at h;simp only [cond_false] at h ⊢
   split at h
   ·exact ih (by rw [zBm,zBm,he]) h
   ·cases h
 | kill r pre k ih=>intro e f e1 he h;exact ih (by funext s;rw [Env.get_kill,Env.get_kill,he]) h
 | frz r pre k ih =>
  intro e f e1 he h
  simp only [PM.run] at h ⊢
  split at h
  ·rename_i e2 h2
   obtain ⟨f2,jp,hg⟩:=zRv he h2
   rw [jp]
   exact ih hg h
  ·cases h
 | killEx r pre k ih=>intro e f e1 he h;exact ih (by funext s;rw [Env.get_killEx,Env.get_killEx,he]) h
 | forget r k ih=>intro e f e1 he h;exact ih (by funext s;rw [zEF,zEF,he]) h
 | call f args hid k ih =>
  intro e f e1 he h
  simp only [PM.run] at h ⊢
  split at h
  ·exact ih _ _ he h
  ·cases h
theorem zEh:∀ {p:PM} {e e1:Env} {t:Tok},p.runT o e=some (e1,t)→p.run o e=some e1:=by
 have mp:∀ {x:Option (Env×Tok)} {f:Tok→Tok} {e1:Env} {t:Tok},(x.map fun y=>(y.1,f y.2))=some (e1,t)→∃ t',x=some (e1,t'):=by
  intro x f e1 t h
  cases x with
  | none=>cases h
  | some y=>simp only [Option.map_some,Option.some.injEq,Prod.mk.injEq] at h;exact ⟨y.2,by rw [← h.1]⟩
 intro p
 induction p with
 | ok=>intro e e1 t h;simp only [PM.runT,Option.some.injEq,Prod.mk.injEq] at h;rw [← h.1];rfl
 | fail=>intro e e1 t h;cases h
 | view s k ih=>intro e e1 t h;obtain ⟨t',h'⟩:=mp h;exact ih _ h'
 | get s k ih =>
  intro e e1 t h
  simp only [PM.runT,PM.run] at h ⊢
  split at h
  ·cases h
  ·obtain ⟨t',h'⟩:=mp h;exact ih _ h'
 | set s v k ih=>intro e e1 t h;obtain ⟨t',h'⟩:=mp h;exact ih h'
 | cells r pre i c n k ih =>
  intro e e1 t h
  simp only [PM.runT,PM.run] at h ⊢
  split at h
  ·obtain ⟨t',h'⟩:=mp h;exact ih _ _ h'
  ·cases h
 | deep r pre k ih =>
  intro e e1 t h
  simp only [PM.runT,PM.run] at h ⊢
  split at h
  ·obtain ⟨t',h'⟩:=mp h;exact ih _ h'
  ·cases h
 | wcells r pre i c qs k ih =>
  intro e e1 t h
  simp only [PM.runT,PM.run] at h ⊢
  split at h
  ·obtain ⟨t',h'⟩:=mp h;exact ih h'
  ·cases h
 | wnode r pre q k ih =>
  intro e e1 t h
  simp only [PM.runT,PM.run] at h ⊢
  cases hl:(e.get r).isLock with
  | true=>rw [hl] at h;cases h
  | false =>
   rw [hl] at h;simp only [cond_false] at h ⊢
   split at h
   ·obtain ⟨t',h'⟩:=mp h;exact ih h'
   ·cases h
 | kill r pre k ih=>intro e e1 t h;obtain ⟨t',h'⟩:=mp h;exact ih h'
 | frz r pre k ih =>
  intro e e1 t h
  simp only [PM.runT,PM.run] at h ⊢
  split at h
  ·obtain ⟨t',h'⟩:=mp h;exact ih h'
  ·cases h
 | killEx r pre k ih=>intro e e1 t h;obtain ⟨t',h'⟩:=mp h;exact ih h'
 | forget r k ih=>intro e e1 t h;obtain ⟨t',h'⟩:=mp (f:=fun _=>({all:=true}:Tok)) h;exact ih h'
 | call f args hid k ih =>
  intro e e1 t h
  simp only [PM.runT,PM.run] at h ⊢
  split at h
  ·exact ih _ _ h
  ·cases h
theorem zFC {e f:Env} {o:Oper} (h:f.get=e.get):zCf f o=zCf e o:=by
 have hv:zQb f=zQb e:=by funext x;cases x<;>simp only [zQb,h]
 simp only [zCf,h,hv]
theorem zNu {e f:Env} {ops:Array Oper} {o:Oper} (h:f.get=e.get):zLD ops f o=zLD ops e o:=by simp only [zLD,h]
theorem zJ3 {orc:zAF} {ops:Array Oper} {x:Oper} {k:Nat} {args:List PV} {l:Log} {e f e1:Env} {lg:Option Log} (h:f.get=e.get) (hr:zBT orc ops x k args l e=some (e1,lg)) :
  ∃ f1,zBT orc ops x k args l f=some (f1,lg)∧f1.get=e1.get:=by
 have mp:∀ {p:PM} {e f:Env} {lg':Option Log},f.get=e.get→(p.run orc e).map (fun e'=>(e',lg'))=some (e1,lg)→∃ f1,(p.run orc f).map (fun e'=>(e',lg'))=some (f1,lg)∧f1.get=e1.get:=by
  intro p e f lg' h hr
  obtain ⟨e2,h1,h2⟩:=Option.map_eq_some_iff.1 hr
  cases h2
  obtain ⟨f2,h3,h4⟩:=zFp h h1
  exact ⟨f2,by rw [h3];rfl,h4⟩
 have hfg:(f.forget zAb).get=(e.forget zAb).get:=by funext s;rw [zEF,zEF,h]
 simp only [zBT,zNu h] at hr ⊢
 split at hr
 ·cases hc:(args.all PV.flat&&l.k != 0&&Nat.beq k l.at_) with
  | false=>rw [hc] at hr;cases hr
  | true =>
   rw [hc] at hr;simp only [cond_true] at hr ⊢
   cases jR:(l.k==1) with
   | true=>rw [jR] at hr;exact mp hfg hr
   | false=>rw [jR] at hr;exact mp h hr
 ·exact mp h hr
 ·cases hr
section
variable {P:Program} {H:zBh} {o:zAF}
theorem zLy {ops:Array Oper} {x:Oper} {fz tk nl:Bool} {e:Env} {lg:Option Log} {t:Tok} {m:zCU} (h:(zFP P H ops fz tk nl x).does o e.get t m) (ha:t.all=false) :
  ∃ e1,zCT P H o fz tk nl ops x e lg=some (e1,lg)∧e1.get=m:=by
 obtain ⟨e1,h1,h2⟩:=zNI h ha
 cases lg with
 | none=>exact ⟨e1,by simp only [zCT,h1,Option.map_some],h2⟩
 | some l =>
  cases hy:zCf e x with
  | none=>exact ⟨e1,by simp only [zCT,hy,h1,Option.map_some],h2⟩
  | some kargs =>
   obtain ⟨kk,args⟩:=kargs
   have kZ:(opM P H fz tk nl x).run o e=none:=by
    simp only [zCf] at hy
    split at hy
    ·rename_i c hc
     split at hy
     ·rename_i tc yz
      split at hy
      ·rename_i k hk
       simp only [opM,hc,zIY,yz,opd,PM.run,hk]
       rfl
      ·cases hy
     ·cases hy
    ·cases hy
   simp only [zFP] at h1
   simp only [zCT,hy,zBT,zLD]
   cases hg:x.guard with
   | none=>rw [hg] at h1;rw [kZ] at h1;cases h1
   | some jw =>
    obtain ⟨j,want⟩:=jw
    rw [hg] at h1;simp only at h1 ⊢
    cases hj:(ops[j]?).bind (·.dst) with
    | none=>rw [hj] at h1;cases h1
    | some tj =>
     rw [hj] at h1;simp only [PM.run] at h1 ⊢
     cases hp:e.get tj<;>rw [hp] at h1<;>simp only at h1<;>try (cases h1;done)
     case bool b =>
      simp only
      by_cases hb:b=want
      ·rw [if_pos hb,kZ] at h1;cases h1
      ·rw [if_neg hb] at h1
       have:(b==want)=false:=by simpa using hb
       rw [this];simp only [h1,Option.map_some]
       exact ⟨e1,rfl,h2⟩
     case und =>
      simp only [h1,Option.map_some]
      exact ⟨e1,rfl,h2⟩
def zOW (P:Program) (H:zBh) (o:zAF) (fz tk nl:Bool) (ops:Array Oper) (x:Oper) (t:Tok) (g:zCU) (lg:Option Log) (m:zCU) (lg':Option Log):Prop :=
 (t.all=true∧∀ e:Env,e.get=g→∃ e1,zCT P H o fz tk nl ops x e lg=some (e1,lg')∧e1.get=m)∨(t.all=false∧lg'=lg∧(zFP P H ops fz tk nl x).does o g t m)
theorem zOW.run {fz tk nl:Bool} {ops:Array Oper} {x:Oper} {t:Tok} {e:Env} {m:zCU} {lg lg':Option Log} (h:zOW P H o fz tk nl ops x t e.get lg m lg'):∃ e1,zCT P H o fz tk nl ops x e lg=some (e1,lg')∧e1.get=m:=by
 rcases h with ⟨_,h⟩ | ⟨ha,rfl,h⟩
 ·exact h e rfl
 ·exact zLy h ha
theorem zQf {fz tk nl:Bool} {ops:Array Oper} {x:Oper} {t:Tok} {e e1:Env} {lg lg':Option Log} (h:zEj P H o fz tk nl ops x e lg=some (e1,lg',t)):zOW P H o fz tk nl ops x t e.get lg e1.get lg':=by
 cases lg with
 | none =>
  simp only [zEj] at h
  obtain ⟨⟨e2,t2⟩,h1,h2⟩:=Option.map_eq_some_iff.1 h
  cases h2
  cases ha:t2.all with
  | true =>
   refine .inl ⟨ha,fun f hf=>?_⟩
   obtain ⟨f1,h3,h4⟩:=zFp hf (zEh h1)
   exact ⟨f1,by simp only [zCT,h3,Option.map_some],h4⟩
  | false =>
   rcases zH3 h1 with h3 | h3
   ·rw [h3] at ha;cases ha
   ·exact .inr ⟨ha,rfl,h3⟩
 | some l =>
  simp only [zEj] at h
  cases hy:zCf e x with
  | none =>
   rw [hy] at h;simp only at h
   obtain ⟨⟨e2,t2⟩,h1,h2⟩:=Option.map_eq_some_iff.1 h
   cases h2
   cases ha:t2.all with
   | true =>
    refine .inl ⟨ha,fun f hf=>?_⟩
    obtain ⟨f1,h3,h4⟩:=zFp hf (zEh h1)
    exact ⟨f1,by simp only [zCT,zFC hf,hy,h3,Option.map_some],h4⟩
   | false =>
    rcases zH3 h1 with h3 | h3
    ·rw [h3] at ha;cases ha
    ·exact .inr ⟨ha,rfl,h3⟩
  | some kargs =>
   obtain ⟨kk,args⟩:=kargs
   rw [hy] at h;simp only at h
   obtain ⟨⟨e2,lg2⟩,h1,h2⟩:=Option.map_eq_some_iff.1 h
   cases h2
   refine .inl ⟨rfl,fun f hf=>?_⟩
   obtain ⟨f1,h3,h4⟩:=zJ3 hf h1
   exact ⟨f1,by simp only [zCT,zFC hf,hy,h3],h4⟩
def zNn (P:Program) (H:zBh) (o:zAF) (fzs tks:List Nat) (nl:Bool) (ops:Array Oper) (tk:Nat→Tok):List Nat→zCU→Option Log→zCU→Option Log→Prop
 | [],g,lg,g',lg'=>g'=g∧lg'=lg
 | i::l,g,lg,g',lg'=>∃ x m lm,ops[i]? = some x∧zOW P H o (fzs.contains i) (tks.contains i) nl ops x (tk i) g lg m lm∧zNn P H o fzs tks nl ops tk l m lm g' lg'
theorem zJW {fzs tks:List Nat} {nl:Bool} {ops:Array Oper} {tk:Nat→Tok} {i:Nat} {l2:List Nat}:∀ {l1:List Nat} {g g':zCU} {lg lg':Option Log},zNn P H o fzs tks nl ops tk (l1++i::l2) g lg g' lg'→(∀ j∈l1,zPl (tk j) (tk i)=false)→zNn P H o fzs tks nl ops tk (i::(l1++l2)) g lg g' lg'
 | [],_,_,_,_,h,_=>h
 | j :: l1,g,g',lg,lg',⟨x,m,lm,hx,h1,h2⟩,hc=>by
  obtain ⟨y,m2,lm2,hy,h3,h4⟩:=zJW h2 fun k hk=>hc k (by simp [hk])
  have yO:=hc j (by simp)
  simp only [zPl,Bool.or_eq_false_iff] at yO
  have hp:=zKA yO.1
  have hq:=zKA yO.2
  rcases h1 with ⟨ha,_⟩ | ⟨_,rfl,hd1⟩
  ·have:=hp.all;rw [ha] at this;cases this
  ·rcases h3 with ⟨ha,_⟩ | ⟨_,rfl,hd2⟩
   ·have:=hq.all;rw [ha] at this;cases this
   ·obtain ⟨n,um,j2⟩:=comm hd1 hd2 hp hq
    exact ⟨y,n,_,hy,.inr ⟨hq.all,rfl,um⟩,x,m2,_,hx,.inr ⟨hp.all,rfl,j2⟩,h4⟩
end
end
section
variable {P:Program} {H:zBh} {w0 w:World} {U Φ0 Φ:Nat→Prop} {nt:Nat} {hv:Hid} {a:Act} {e e':Env} {rv:Nat→Value} {E:Nat→PV} {L:Nat→List Nat} {orc:zAF} {ro:Option Nat} {n:Nat} {Q:Exit→Act→World→Prop}
theorem Fr.get' (hf:Fr w0 U Φ0 nt hv a w e) (h:e'.get=e.get):Fr w0 U Φ0 nt hv a w e':=by
 obtain ⟨Φ,rv,E,L,S,hb⟩:=hf
 exact ⟨Φ,rv,E,L,⟨S.conf,fun s hs=>by rw [h];exact S.env s hs,S.size,S.small,S.tmps,S.parts,S.hid,S.dfr⟩,hb⟩
theorem Fr.tick (hf:Fr w0 U Φ0 nt hv a w e) (d:Nat):Fr w0 U Φ0 nt hv a {w with drawn:=d} e:=by
 obtain ⟨Φ,rv,E,L,S,hb⟩:=hf
 have hc:Conf w0 U Φ0 {w with drawn:=d} Φ rv E L:=by
  refine S.conf.step2 some (fun p=>p) zCk (fun a b t ha hb=>by cases ha;cases hb;rfl) (fun a t ha=>by cases ha;exact ⟨(zBk _).symm,rfl,rfl⟩) (fun a ha=>by cases ha) (fun a v hw ha=>?_)
   (fun a ha=>by cases ha) (fun a b ha=>by cases ha) (fun a ha=>by cases ha) (Nat.le_refl _) (fun _ _ _=>rfl) ⟨rfl,rfl,rfl⟩
  exact zC2 hw (zCM S.conf zCk ha (zBk _).symm rfl (fun _ _=>rfl))
 exact ⟨Φ,rv,E,L,⟨hc,S.env,S.size,S.small,S.tmps,S.parts,S.hid,S.dfr⟩,hb⟩
structure Drawn (ops:Array Oper) (i:Nat) (Bs:List Nat) (Ts:List Tok):Prop where
 early:∀ (k:Nat) (x:Oper),i≤k→ops[k]? = some x→∀ ed∈x.after.toList,Region.binds .any ed=true→ed.on<k
 bits:∀ (k:Nat) (x:Oper),i≤k→ops[k]? = some x→∀ j,(Bs.getD k 0).testBit j=true→∃ ed∈x.after.toList,Region.binds .any ed=true∧(ed.on=j∨(Bs.getD ed.on 0).testBit j=true)
 free:∀ (k j:Nat),i≤k→k<ops.size→j<k→(Bs.getD k 0).testBit j=true∨zPl (Ts.getD j {}) (Ts.getD k {})=false
theorem zJL {b:Nat} {t:Tok}:∀ {l:List Tok} {j:Nat},zF8 b t j l=true→∀ k,k<l.length→b.testBit (j+k)=true∨zPl (l.getD k {}) t=false
 | [],j,_,k,hk=>by cases hk
 | u :: us,j,h,k,hk=>by
  simp only [zF8,Bool.and_eq_true,Bool.or_eq_true,Bool.not_eq_true'] at h
  cases k with
  | zero=>simpa using h.1
  | succ k =>
   have:=zJL h.2 k (by simpa using hk)
   rw [show j+(k+1)=j+1+k by omega]
   simpa using this
theorem zRn {acc:List Nat} {o:Oper} {j:Nat} (h:(zHW acc o).testBit j=true):∃ ed∈o.after.toList,Region.binds .any ed=true∧(ed.on=j∨(acc.getD ed.on 0).testBit j=true):=by
 have key:∀ (l:List Edge) (s:Nat),(l.foldl (fun s e=>if Region.binds .any e then s ||| 2 ^ e.on ||| acc.getD e.on 0 else s) s).testBit j=true→s.testBit j=true∨∃ ed∈l,Region.binds .any ed=true∧(ed.on=j∨(acc.getD ed.on 0).testBit j=true):=by
  intro l
  induction l with
  | nil=>intro s h;exact .inl h
  | cons x l ih =>
   intro s h
   rcases ih _ h with h1 | ⟨ed,h1,h2⟩
   ·simp only at h1
    by_cases hb:Region.binds .any x=true
    ·rw [if_pos hb] at h1
     simp only [Nat.testBit_or,Bool.or_eq_true] at h1
     rcases h1 with (h1 | h1) | h1
     ·exact .inl h1
     ·refine .inr ⟨x,by simp,hb,.inl ?_⟩
      rw [Nat.testBit_two_pow] at h1
      simpa using h1
     ·exact .inr ⟨x,by simp,hb,.inr h1⟩
    ·rw [if_neg hb] at h1;exact .inl h1
   ·exact .inr ⟨ed,by simp [h1],h2⟩
 rcases key _ _ h with h1 | h1
 ·simp at h1
 ·exact h1
theorem zJS {fzs tks:List Nat} {nl:Bool} {ops:Array Oper} {lg':Option Log}:∀ (l:List Oper) (i:Nat) (acc:List Nat) (ts:List Tok) (e:Env) (lg:Option Log),zCz P H orc fzs tks nl ops l i acc ts e lg=some (e',lg')→l=ops.toList.drop i→i+l.length=ops.size→acc.length=i→ts.length=i →
  ∃ Bs Ts,(∀ k,k<i→Bs.getD k 0=acc.getD k 0∧Ts.getD k {}=ts.getD k {})∧Drawn ops i Bs Ts∧zNn P H orc fzs tks nl ops (fun k=>Ts.getD k {}) (List.range' i l.length) e.get lg e'.get lg'
 | [],i,acc,ts,e,lg,h,hl,hs,ha,ht=>by
  simp only [zCz,Option.some.injEq,Prod.mk.injEq] at h
  obtain ⟨rfl,rfl⟩:=h
  have yD:ops.size=i:=by simpa using hs.symm
  refine ⟨acc,ts,fun k _=>⟨rfl,rfl⟩,⟨fun k x hk hx=>?_,fun k x hk hx=>?_,fun k j hk wX=>by omega⟩,rfl,rfl⟩
  ·have:=(Array.getElem?_eq_some_iff.1 hx).1;omega
  ·have:=(Array.getElem?_eq_some_iff.1 hx).1;omega
 | o :: l, i,acc,ts,e,lg,h,hl,hs,ha,ht=>by
  simp only [zCz] at h
  cases hr:zEj P H orc (fzs.contains i) (tks.contains i) nl ops o e lg with
  | none=>rw [hr] at h;cases h
  | some r =>
   obtain ⟨e1,lg1,t⟩:=r
   rw [hr] at h;simp only at h
   cases hb:(o.after.toList.all (fun e => !Region.binds .any e||Nat.blt e.on i)&&zF8 (zHW acc o) t 0 ts) with
   | false=>rw [hb] at h;cases h
   | true =>
    rw [hb] at h;simp only [cond_true] at h
    rw [Bool.and_eq_true] at hb
    have hi:ops[i]? = some o:=by
     have:=congrArg (·[0]?) hl
     simp only [List.getElem?_cons_zero,List.getElem?_drop,Nat.add_zero] at this
     rw [← Array.getElem?_toList];exact this.symm
    have gG:l=ops.toList.drop (i+1):=by
     have:=congrArg List.tail hl
     simpa using this
    obtain ⟨Bs,Ts,h1,D,yd⟩:=zJS l (i+1) (acc++[zHW acc o]) (ts++[t]) e1 lg1 h gG (by simp at hs;omega) (by simp [ha]) (by simp [ht])
    have hBi:Bs.getD i 0=zHW acc o:=by rw [(h1 i (by omega)).1,← ha];simp [List.getD]
    have hTi:Ts.getD i {}=t:=by rw [(h1 i (by omega)).2,← ht];simp [List.getD]
    have hold:∀ k,k<i→Bs.getD k 0=acc.getD k 0∧Ts.getD k {}=ts.getD k {}:=by
     intro k hk
     obtain ⟨h2,h3⟩:=h1 k (by omega)
     rw [h2,h3]
     simp only [List.getD]
     rw [List.getElem?_append_left (by omega),List.getElem?_append_left (by omega)]
     exact ⟨rfl,rfl⟩
    have wJ:∀ ed∈o.after.toList,Region.binds .any ed=true→ed.on<i:=by
     intro ed he hbd
     have:=List.all_eq_true.1 hb.1 ed he
     simp only [hbd,Bool.not_true,Bool.false_or] at this
     exact zB3 this
    refine ⟨Bs,Ts,hold,⟨fun k x hk hx=>?_,fun k x hk hx j hj=>?_,fun k j hk hks hj=>?_⟩,?_⟩
    ·by_cases gk:k=i
     ·subst gk;rw [hi] at hx;cases hx;exact wJ
     ·exact D.early k x (by omega) hx
    ·by_cases gk:k=i
     ·subst gk;rw [hi] at hx;cases hx
      rw [hBi] at hj
      obtain ⟨ed,h2,h3,h4⟩:=zRn hj
      refine ⟨ed,h2,h3,h4.imp_right fun h4=>?_⟩
      rw [(hold _ (wJ ed h2 h3)).1];exact h4
     ·exact D.bits k x (by omega) hx j hj
    ·by_cases gk:k=i
     ·subst gk
      have:=zJL hb.2 j (by omega)
      rw [hBi,hTi,(hold j hj).2]
      simpa using this
     ·exact D.free k j (by omega) hks hj
    ·show zNn P H orc fzs tks nl ops _ (List.range' i (l.length+1)) _ _ _ _
     rw [List.range'_succ]
     refine ⟨o,e1.get,lg1,hi,?_,yd⟩
     simp only [hTi]
     exact zQf hr
structure Frame (P:Program) (H:zBh) (orc:zAF) (nt:Nat) (ro:Option Nat) (n:Nat) (D:Nat→Prop) (Fin:Option Log→Prop) (G:Act→World→Env→Option Log→Prop):Prop where
 down:∀ {ops:Array Oper} {o:Oper} {fz tk nl:Bool} {e e':Env} {lg lg':Option Log},zCT P H orc fz tk nl ops o e lg=some (e',lg')→Fin lg'→Fin lg
 step:∀ {ops:Array Oper} {i:Nat} {o:Oper} {fz tk nl:Bool} {a:Act} {w:World} {e e':Env} {lg lg':Option Log} {Q:Exit→Act→World→Prop},zNU P nt ops=true→ops[i]? = some o→(∀ d,o.dst=some d→D d)→Fin lg'→G a w e lg→zCT P H orc fz tk nl ops o e lg=some (e',lg') →
  wpOpIn (FF ro) n P ops Q i (fun a' w'=>G a' w' e' lg') a w
 get:∀ {a:Act} {w:World} {e e':Env} {lg:Option Log},G a w e lg→e'.get=e.get→G a w e' lg
 tick:∀ {a:Act} {w:World} {e:Env} {lg:Option Log} (d:Nat),G a w e lg→G a {w with drawn:=d} e lg
 drop:∀ {a:Act} {w:World} {e:Env} {lg:Option Log} (l:List Nat),G a w e lg→G a w (e.drop l) lg
 ice:∀ {a:Act} {w:World} {e:Env} {lg:Option Log} (l:List Nat),G a w e lg→G a w (zWp l e) lg
 cond:∀ {a:Act} {w:World} {e:Env} {lg:Option Log} {t:Nat} {b:Bool},G a w e lg→t<nt→e.get t = .bool b→a.tmps.getD t undef = .bool b
variable {G:Act→World→Env→Option Log→Prop} {Fin:Option Log→Prop} {D:Nat→Prop}
def zPK (D:Nat→Prop) (ops:Array Oper):Prop:=∀ o∈ops.toList,∀ d,o.dst=some d→D d
theorem zPK.at {ops:Array Oper} (h:zPK D ops) {i:Nat} {o:Oper} (hi:ops[i]? = some o):∀ d,o.dst=some d→D d:=h o (by rw [← Array.getElem?_toList] at hi;exact List.mem_of_getElem? hi)
theorem zJA (F:Frame P H orc nt ro n D Fin G) {fzs tks:List Nat} {nl:Bool} {ops:Array Oper} {tk:Nat→Tok}:∀ {l:List Nat} {e:Env} {g':zCU} {lg lg':Option Log},zNn P H orc fzs tks nl ops tk l e.get lg g' lg'→Fin lg'→Fin lg
 | [],_,_,_,_,⟨_,h⟩,hf=>by rw [← h];exact hf
 | i::l,e,g',lg,lg',⟨x,m,lm,_,yJ,hr⟩,hf=>by
  obtain ⟨e1,h1,h2⟩:=yJ.run
  exact F.down h1 (zJA F (by rw [h2];exact hr) hf)
theorem zWH (F:Frame P H orc nt ro n D Fin G) {ops:Array Oper} (jA:zNU P nt ops=true) (hD:zPK D ops) {fzs tks:List Nat} {nl:Bool} {Bs:List Nat} {Ts:List Tok} (Dr:Drawn ops 0 Bs Ts) {g':zCU} {lg':Option Log} (yI:Fin lg')
  (hq:∀ a' w' e',e'.get=g'→G a' w' e' lg'→Q .normal a' w'):∀ (rem:List Nat) (listed:Array Bool) {a:Act} {w:World} {e:Env} {lg:Option Log},listed.size=ops.size→rem.Pairwise (· < ·)→(∀ i,i∈rem↔i<ops.size∧listed.getD i true=false) →
   (∀ i,i<ops.size→listed.getD i true=true→∀ j,(Bs.getD i 0).testBit j=true→listed.getD j true=true)→zNn P H orc fzs tks nl ops (fun k=>Ts.getD k {}) rem e.get lg g' lg'→G a w e lg →
   wpAnyIn (FF ro) n P .any ops Q rem.length listed a w:=by
 have ready_mem:∀ (listed:Array Bool) (i:Nat),i∈Region.ready .any ops listed↔i<ops.size∧listed.getD i true=false∧∀ x,ops[i]? = some x→∀ ed∈x.after.toList,Region.binds .any ed=true→listed.getD ed.on false=true:=by
  intro listed i
  simp only [Region.ready,List.mem_filter,List.mem_range,Bool.and_eq_true,Bool.not_eq_true']
  refine ⟨fun ⟨h1,h2,h3⟩=>⟨h1,h2,fun x hx ed he hb=>?_⟩,fun ⟨h1,h2,h3⟩=>⟨h1,h2,?_⟩⟩
  ·rw [hx] at h3
   simp only [Option.map_some,Option.getD_some,Array.all_eq_true'] at h3
   have:=h3 ed (by simpa using he)
   rw [hb] at this
   simpa using this
  ·have hx:ops[i]? = some ops[i]:=Array.getElem?_eq_getElem h1
   rw [hx]
   simp only [Option.map_some,Option.getD_some,Array.all_eq_true']
   intro ed he
   cases hb:Region.binds .any ed with
   | false=>rfl
   | true=>simpa using h3 _ hx ed (by simpa using he) hb
 have tf:∀ {listed:Array Bool} {k:Nat},k<listed.size→listed.getD k true=listed.getD k false:=by
  intro listed k hk
  simp [Array.getD,hk]
 have ft:∀ {listed:Array Bool} {k:Nat},listed.getD k false=true→listed.getD k true=true:=by
  intro listed k hk
  by_cases yK:k<listed.size
  ·rw [tf yK];exact hk
  ·simp [Array.getD,yK] at hk
 intro rem
 induction hm:rem.length generalizing rem with
 | zero =>
  intro listed a w e lg yD wK yy wL yd hf
  have hrem:rem=[]:=List.eq_nil_of_length_eq_zero hm
  subst hrem
  obtain ⟨h1,rfl⟩:=yd
  refine ⟨?_,hq a w e h1.symm hf⟩
  rw [List.eq_nil_iff_forall_not_mem]
  intro i hi
  obtain ⟨h1,h2,_⟩:=(ready_mem listed i).1 hi
  exact absurd ((yy i).2 ⟨h1,h2⟩) (by simp)
 | succ m ih =>
  intro listed a w e lg yD wK yy wL yd hf
  refine ⟨fun hr=>?_,fun i hi=>?_⟩
  ·
   exfalso
   match rem,hm with
   | i :: rest,_ =>
    have kW:=(yy i).1 (by simp)
    have:i∈Region.ready .any ops listed:=(ready_mem listed i).2 ⟨kW.1,kW.2,fun x hx ed he hb=>by
     have yK:=Dr.early i x (by omega) hx ed he hb
     have hed:ed.on<listed.size:=by omega
     rw [← tf hed]
     cases hl:listed.getD ed.on true with
     | true=>rfl
     | false =>
      have hin:=(yy ed.on).2 ⟨by omega,hl⟩
      rcases List.mem_cons.1 hin with h | h
      ·omega
      ·have:=List.rel_of_pairwise_cons wK h;omega⟩
    rw [hr] at this;cases this
  ·obtain ⟨h1,h2,h3⟩:=(ready_mem listed i).1 hi
   obtain ⟨l1,l2,gl⟩:=List.append_of_mem ((yy i).2 ⟨h1,h2⟩)
   subst gl
   have hx:ops[i]? = some ops[i]:=Array.getElem?_eq_getElem h1
   have vB:∀ j,(Bs.getD i 0).testBit j=true→listed.getD j true=true:=by
    intro j hj
    obtain ⟨ed,he,hb,hc⟩:=Dr.bits i _ (by omega) hx j hj
    have hl:=ft (h3 _ hx ed he hb)
    rcases hc with hc | hc
    ·rw [← hc];exact hl
    ·have yK:=Dr.early i _ (by omega) hx ed he hb
     exact wL ed.on (by omega) hl j hc
   have wM:∀ j∈l1,zPl (Ts.getD j {}) (Ts.getD i {})=false:=by
    intro j hj
    have vw:j<i:=by
     rw [List.pairwise_append] at wK
     exact wK.2.2 j hj i (by simp)
    rcases Dr.free i j (by omega) h1 vw with hb | hb
    ·have:=vB j hb
     have hjn:=(yy j).1 (by simp [hj])
     rw [hjn.2] at this;cases this
    ·exact hb
   obtain ⟨x,g1,lg1,j9,yJ,yi⟩:=zJW yd wM
   rw [hx] at j9;cases j9
   obtain ⟨e1,gO,kO⟩:=yJ.run
   refine zDH (F.step jA hx (hD.at hx) (zJA F (by rw [kO];exact yi) yI) hf gO) fun a' w' yq=>?_
   have y9:∀ k,(listed.setIfInBounds i true).getD k true=if k=i then true else listed.getD k true:=by
    intro k
    simp only [Array.getD_eq_getD_getElem?,Array.getElem?_setIfInBounds]
    by_cases hk:i=k
    ·subst hk
     rw [if_pos rfl,if_pos rfl]
     split<;>rfl
    ·rw [if_neg hk,if_neg (fun e=>hk e.symm)]
   have hpw2:(l1++l2).Pairwise (· < ·):=by
    rw [List.pairwise_append] at wK ⊢
    refine ⟨wK.1,wK.2.1.tail,fun x hx y hy=>wK.2.2 x hx y (by simp [hy])⟩
   have hni:i∉l1∧i∉l2:=by
    rw [List.pairwise_append] at wK
    refine ⟨fun hin=>?_,fun hin=>?_⟩
    ·have:=wK.2.2 i hin i (by simp);omega
    ·have:=List.rel_of_pairwise_cons wK.2.1 hin;omega
   have hmem2:∀ k,k∈l1++l2↔k<ops.size∧(listed.setIfInBounds i true).getD k true=false:=by
    intro k
    rw [y9]
    by_cases hk:k=i
    ·subst hk
     simp only [if_true,List.mem_append]
     exact ⟨fun h=>absurd h (by simp [hni]),fun h=>by cases h.2⟩
    ·rw [if_neg hk,← yy k]
     simp only [List.mem_append,List.mem_cons,hk,false_or]
   have:=ih (l1++l2) (by simp at hm ⊢;omega) (listed.setIfInBounds i true) (by simpa using yD) hpw2 hmem2 (fun k hk hl j hj=>?_) (by rw [kO];exact yi) yq
   ·exact this
   ·rw [y9] at hl ⊢
    split
    ·rfl
    ·split at hl
     ·rename_i gk;subst gk;exact vB j hj
     ·exact wL k hk hl j hj
theorem zPo (F:Frame P H orc nt ro n D Fin G) (zE3:P.follows .mixedOrders=true) {ops:Array Oper} (jA:zNU P nt ops=true) (hD:zPK D ops) {fzs tks:List Nat} {nl:Bool} {a:Act} {w:World} {e:Env} {lg lg':Option Log} {id:Nat} (yI:Fin lg') (hf:G a w e lg)
  (h:zCz P H orc fzs tks nl ops ops.toList 0 [] [] e lg=some (e',lg')) (hq:∀ a' w',G a' w' e' lg'→Q .normal a' w'):(Code.region id ops true).wpIn (FF ro) n P Q a w:=by
 obtain ⟨Bs,Ts,_,Dr,yd⟩:=zJS ops.toList 0 [] [] e lg h (by simp) (by simp) rfl rfl
 refine wpIn_region_any zE3 ?_
 have hZ:(List.range' 0 ops.toList.length).length=ops.size:=by simp
 have:=zWH (Q:=Q) F jA hD Dr (g':=e'.get) yI (fun a' w' f hg yq=>hq a' w' (F.get yq hg.symm)) (List.range' 0 ops.toList.length) (Array.replicate ops.size false) (a:=a) (w:={w with drawn:=w.drawn+1}) (e:=e) (by simp) List.pairwise_lt_range' (fun i=>?_) (fun i hi hl=>?_) yd (F.tick _ hf)
 ·rw [hZ] at this;exact this
 ·simp only [List.mem_range'_1,Array.length_toList]
  constructor
  ·intro ⟨_,h2⟩
   have:i<ops.size:=by omega
   exact ⟨this,by simp [Array.getD,this]⟩
  ·intro ⟨h2,_⟩;omega
 ·simp [Array.getD,hi] at hl
theorem zHN (F:Frame P H orc nt ro n D Fin G) {ops:Array Oper} {fzs tks:List Nat} {nl:Bool} {lg':Option Log}:∀ (l:List Oper) (i:Nat) {e:Env} {lg:Option Log},zBf P H orc fzs tks nl ops l i e lg=some (e',lg')→Fin lg'→Fin lg
 | [],i,e,lg,h,hf=>by
  simp only [zBf,Option.some.injEq,Prod.mk.injEq] at h
  rw [h.2];exact hf
 | o :: l,i,e,lg,h,hf=>by
  simp only [zBf] at h
  split at h
  ·rename_i e1 lg1 h1
   exact F.down h1 (zHN F l (i+1) h hf)
  ·cases h
theorem zTd (F:Frame P H orc nt ro n D Fin G) {ops:Array Oper} {fzs tks:List Nat} {nl:Bool} {lg lg':Option Log} {e:Env} (h:zCz P H orc fzs tks nl ops ops.toList 0 [] [] e lg=some (e',lg')) (hf:Fin lg'):Fin lg:=by
 obtain ⟨Bs,Ts,_,D,yd⟩:=zJS ops.toList 0 [] [] e lg h (by simp) (by simp) rfl rfl
 exact zJA F yd hf
theorem zH0 (F:Frame P H orc nt ro n D Fin G) {ops:Array Oper} (jA:zNU P nt ops=true) (hD:zPK D ops) {fzs tks:List Nat} {nl:Bool} {lg':Option Log} (yI:Fin lg'):∀ (l:List Oper) (i:Nat) {a:Act} {w:World} {e:Env} {lg:Option Log},l=ops.toList.drop i→i+l.length=ops.size→G a w e lg →
  zBf P H orc fzs tks nl ops l i e lg=some (e',lg')→(∀ a' w',G a' w' e' lg'→Q .normal a' w')→wpOpsIn (FF ro) n P ops Q (List.range' i l.length) a w
 | [],i,a,w,e,lg,hl,hs,hf,h,hq=>by
  simp only [zBf,Option.some.injEq,Prod.mk.injEq] at h
  obtain ⟨rfl,rfl⟩:=h
  exact hq _ _ hf
 | o :: l,i,a,w,e,lg,hl,hs,hf,h,hq=>by
  simp only [zBf] at h
  split at h
  ·rename_i e1 lg1 h1
   have hi:ops[i]? = some o:=by
    have:=congrArg (·[0]?) hl
    simp only [List.getElem?_cons_zero,List.getElem?_drop,Nat.add_zero] at this
    rw [← Array.getElem?_toList];exact this.symm
   have gG:l=ops.toList.drop (i+1):=by
    have:=congrArg List.tail hl
    simpa using this
   show wpOpsIn (FF ro) n P ops Q (List.range' i (l.length+1)) a w
   rw [List.range'_succ,wpOpsIn_cons]
   exact zDH (F.step jA hi (hD.at hi) (zHN F l (i+1) h yI) hf h1) fun a' w' yq=>zH0 F jA hD yI l (i+1) gG (by simp at hs;omega) yq h hq
  ·cases h
end
end Go.Eng
namespace Go.Eng
open Go
theorem zVL (e:Env) (k:Nat) (v:PV) (s:Nat):(Env.put e k v).get s=if s=k then v else e.get s:=by
 by_cases hv:v = .bad
 ·subst hv
  simp only [Env.put]
  induction e with
  | nil=>simp only [List.filter_nil,Env.get];split<;>rfl
  | cons x e ih =>
   obtain ⟨k',v'⟩:=x
   simp only [List.filter_cons]
   cases hb:Nat.beq k' k with
   | true =>
    have:=Nat.eq_of_beq_eq_true hb
    subst this
    simp only [Bool.not_true,Bool.false_eq_true,if_false,ih,Env.get]
    by_cases hs:s=k'
    ·rw [if_pos hs,if_pos hs]
    ·rw [if_neg hs,if_neg hs]
     have:Nat.beq k' s=false:=by cases h:Nat.beq k' s with | false=>rfl | true=>exact absurd (Nat.eq_of_beq_eq_true h).symm hs
     rw [this];rfl
   | false =>
    simp only [Bool.not_false,if_true,Env.get]
    cases j1:Nat.beq k' s with
    | true =>
     have:=Nat.eq_of_beq_eq_true j1
     subst this
     have hI:k'≠k:=Nat.ne_of_beq_eq_false hb
     rw [if_neg hI];rfl
    | false=>simp only [cond_false,ih]
 ·have:Env.put e k v=e.set k v:=by cases v<;>first | rfl | exact absurd rfl hv
  rw [this,Env.get_set]
theorem zIm:∀ (e:Env) (s:Nat),e.norm.get s=e.get s
 | [],_=>rfl
 | (k,v)::e,s=>by
  simp only [Env.norm,zVL,zIm e,Env.get]
  cases hb:Nat.beq k s with
  | true=>rw [if_pos (Nat.eq_of_beq_eq_true hb).symm];rfl
  | false=>rw [if_neg (Ne.symm (Nat.ne_of_beq_eq_false hb))];rfl
section
variable {F:Fence} {n:Nat} {P:Program} {a:Act} {k:List Item} {cs:List Go.Frame} {w:World} {Q:Exit→Act→World→Prop}
theorem zDq {b:Go.Frame} {c:Code}:step P (lone (b.atR a (.code (.scope c)::k)) cs w) = .next (lone (b.atR a (.code c :: .inScope c::k)) cs w) :=
 step_lone_go (by simp [stepG,stepG.exec,Go.Frame.atR])
theorem zLz {b:Go.Frame} {c:Code}:step P (lone (b.atR a (.inScope c::k)) cs w) = .next (lone (b.atR a k) cs w) :=
 step_lone_go (by simp [stepG,stepG.exec,Go.Frame.atR])
theorem zPt {c:Code} (hq:∀ l a w,¬ Q (.goto l) a w) (h:c.wpIn F n P Q a w):(Code.scope c).wpIn F n P Q a w:=by
 intro b k cs uq hb hr
 have h0:(lone (b.atR a (.code (.scope c)::k)) cs w).fenced P F:=fenced_calm hb hr rfl
 obtain ⟨e,a₁,w₁,ka,vP⟩:=h b (.inScope c::k) cs uq hb hr
 cases e with
 | normal=>exact ⟨.normal,a₁,w₁,ka,.head h0 zDq (StepsIn.trans vP (.one (fenced_calm hb hr rfl) zLz))⟩
 | exit id =>
  have hx:exitTo id (.inScope c::k)=exitTo id k:=by simp [exitTo]
  exact ⟨.exit id,a₁,w₁,ka,fun k' hk => .head h0 zDq (vP.1 k' (by rw [hx];exact hk)),
   fun j6 hk=>let ⟨k₁,h1,h2⟩:=vP.2 j6 (by rw [hx];exact hk);⟨k₁,h1,.head h0 zDq h2⟩⟩
 | goto l=>exact absurd ka (hq l a₁ w₁)
 | ret=>exact ⟨_,a₁,w₁,ka,.of_steps (.one h0 zDq) vP⟩
 | panic ch=>exact ⟨_,a₁,w₁,ka,.of_steps (.one h0 zDq) vP⟩
 | outgrown=>exact ⟨_,a₁,w₁,ka,.of_steps (.one h0 zDq) vP⟩
end
section
variable {P:Program} {H:zBh} {nt:Nat} {orc:zAF} {yo:zCV} {al:All} {ro:Option Nat} {n:Nat} {D:Nat→Prop} {Fin:Option Log→Prop} {G:Act→World→Env→Option Log→Prop} {hh:FHint}
theorem zKV (F:Frame P H orc nt ro n D Fin G):∀ (m:Nat) (c:Code) {e e':Env} {x:X} {lg lg':Option Log},exec P H orc yo al nt hh m c e lg=some (x,e',lg')→Fin lg'→Fin lg
 | 0,c,e,e',x,lg,lg',h,hf=>by cases h
 | m + 1,c,e,e',x,lg,lg',h,hf=>by
  have yA:∀ {b:Code} {e e':Env} {x:X} {lg lg':Option Log},exec P H orc yo al nt hh m b e lg=some (x,e',lg')→Fin lg'→Fin lg:=fun h hf=>zKV F m _ h hf
  cases c<;>simp only [exec] at h<;>try (cases h;done)
  case skip=>cases h;exact hf
  case region id ops draw =>
   split at h
   ·rename_i e1 lg1 h1
    cases h
    cases draw with
    | true=>exact zTd F h1 hf
    | false=>exact zHN F _ _ h1 hf
   ·cases h
  case seq a b =>
   split at h
   ·rename_i e1 lg1 h1;exact yA h1 (yA h hf)
   ·exact yA h hf
  case cond c a b =>
   cases c with
   | tmp t =>
    simp only at h
    split at h
    ·exact yA h hf
    ·exact yA h hf
    ·cases h
   | const v =>
    split at h
    ·rename_i ub;cases ub
    ·exact yA h hf
    ·exact yA h hf
    ·cases h
   | global g=>cases h
   | func f=>cases h
  case block id b =>
   split at h
   ·rename_i id' r h1
    obtain ⟨e1,lg1⟩:=r
    cases h;exact yA h1 hf
   ·exact yA h hf
  case loop b =>
   split at h
   ·rename_i e1 lg1 h1;exact yA h1 (yA h hf)
   ·exact yA h hf
  case exit id=>cases h;exact hf
  case ret=>cases h;exact hf
  case label l=>cases h;exact hf
  case scope b=>exact yA h hf
  case rangeFunc f ps a b =>
   cases f with
   | tmp t =>
    cases lg with
    | none =>
     simp only at h
     obtain ⟨r,_,h2⟩:=Option.map_eq_some_iff.1 h
     cases h2;exact hf
    | some l=>cases h
   | const v=>cases h
   | global g=>cases h
   | func f=>cases h
def zEg (P:Program) (H:zBh) (orc:zAF) (yo:zCV) (al:All) (nt:Nat) (hh:FHint) (ro:Option Nat) (n:Nat) (G:Act→World→Env→Option Log→Prop) (m:Nat):Prop :=
 ∀ m',m'<m→∀ (t:Nat) (ps:Array Tmp) (ca cb:Code) (a:Act) (w:World) (e:Env) (x:X) (e':Env),zCL P nt (.rangeFunc (.tmp t) ps ca cb)=true→G a w e none→exec P H orc yo al nt hh (m'+1) (.rangeFunc (.tmp t) ps ca cb) e none=some (x,e',none) →
   (Code.rangeFunc (.tmp t) ps ca cb).wpIn (FF ro) n P (fun ex a' w'=>ex=x.exit∧G a' w' e' none) a w
theorem zEg.less {m m':Nat} (h:zEg P H orc yo al nt hh ro n G m) (hm:m'≤m):zEg P H orc yo al nt hh ro n G m':=fun k hk=>h k (by omega)
theorem zHx (F:Frame P H orc nt ro n D Fin G) (zE3:P.follows .mixedOrders=true):∀ (m:Nat) (c:Code) (hr:zC4 c=true∨zEg P H orc yo al nt hh ro n G m) {a:Act} {w:World} {e:Env} {x:X} {e':Env} {lg lg':Option Log},zCL P nt c=true→(∀ d∈zBS c,D d)→Fin lg'→G a w e lg→exec P H orc yo al nt hh m c e lg=some (x,e',lg') →
  c.wpIn (FF ro) n P (fun ex a' w'=>ex=x.exit∧G a' w' e' lg') a w
 | 0,c,hr,a,w,e,x,e',lg,lg',hc,hD,yI,hf,h=>by cases h
 | m + 1,c,hr,a,w,e,x,e',lg,lg',hc,hD,yI,hf,h=>by
  have yA:∀ {b:Code} {e1:Env} {y:X} {e2:Env} {a w} {l1 l2:Option Log},(zC4 b=true∨zEg P H orc yo al nt hh ro n G m)→zCL P nt b=true→(∀ d∈zBS b,D d)→Fin l2→G a w e1 l1→exec P H orc yo al nt hh m b e1 l1=some (y,e2,l2)→b.wpIn (FF ro) n P (fun ex a' w'=>ex=y.exit∧G a' w' e2 l2) a w :=
   fun hr hc hd hn hf h=>zHx F zE3 m _ hr hc hd hn hf h
  have two:∀ {p q:Bool},((p&&q)=true∨zEg P H orc yo al nt hh ro n G (m+1))→(p=true∨zEg P H orc yo al nt hh ro n G m)∧(q=true∨zEg P H orc yo al nt hh ro n G m):=by
   intro p q h
   rcases h with h | h
   ·rw [Bool.and_eq_true] at h;exact ⟨.inl h.1,.inl h.2⟩
   ·exact ⟨.inr (h.less (by omega)),.inr (h.less (by omega))⟩
  have one:∀ {p:Bool},(p=true∨zEg P H orc yo al nt hh ro n G (m+1))→(p=true∨zEg P H orc yo al nt hh ro n G m):=fun h=>h.imp_right fun h=>h.less (by omega)
  cases c<;>simp only [zCL,Bool.and_eq_true] at hc<;>try (cases hc;done)
  case skip =>
   simp only [exec,Option.some.injEq,Prod.mk.injEq] at h
   obtain ⟨rfl,rfl,rfl⟩:=h
   exact wpIn_skip ⟨rfl,hf⟩
  case region id ops draw =>
   simp only [exec] at h
   split at h
   ·rename_i e1 lg1 h1
    simp only [Option.some.injEq,Prod.mk.injEq] at h
    obtain ⟨rfl,rfl,rfl⟩:=h
    have fin:∀ {a' w'},G a' w' e1 lg1→G a' w' (e1.drop (hh.drop id)).norm lg1:=fun hg=>F.get (F.drop _ hg) (by funext s;exact zIm _ s)
    have hDs:zPK D ops:=fun o ho d hd=>hD d (List.mem_filterMap.2 ⟨o,ho,hd⟩)
    cases draw with
    | true=>exact zPo F zE3 hc hDs yI hf h1 fun a' w' yq=>⟨rfl,fin yq⟩
    | false =>
     refine wpIn_region ?_
     have:=zH0 (Q:=fun ex a' w'=>ex=X.norm.exit∧G a' w' (e1.drop (hh.drop id)).norm lg1) F hc hDs yI ops.toList 0 (by simp) (by simp) hf h1 fun a' w' yq=>⟨rfl,fin yq⟩
     rw [List.range_eq_range']
     simpa using this
   ·cases h
  case seq c1 c2 =>
   simp only [exec] at h
   refine wpIn_seq ?_
   split at h
   ·rename_i e1 lg1 h1
    exact wpIn_mono (yA (two hr).1 hc.1 (fun d hd=>hD d (List.mem_append_left _ hd)) (zKV F _ _ h yI) hf h1) fun ex a' w' ⟨hx,yq⟩=>by subst hx;exact yA (two hr).2 hc.2 (fun d hd=>hD d (List.mem_append_right _ hd)) yI yq h
   ·rename_i hI
    exact wpIn_mono (yA (two hr).1 hc.1 (fun d hd=>hD d (List.mem_append_left _ hd)) yI hf h) fun ex a' w' ⟨hx,yq⟩=>by
     subst hx
     cases x with
     | norm=>exact absurd h (hI _ _)
     | ex id=>exact ⟨rfl,yq⟩
     | ret=>exact ⟨rfl,yq⟩
  case cond c c1 c2 =>
   have key:∀ t:Bool,a.eval c = .bool t→exec P H orc yo al nt hh m (if t then c1 else c2) e lg=some (x,e',lg')→(Code.cond c c1 c2).wpIn (FF ro) n P (fun ex a' w'=>ex=x.exit∧G a' w' e' lg') a w:=by
    intro t ht h
    refine wpIn_cond ht ?_
    cases t with
    | true=>exact yA (two hr).1 hc.1.2 (fun d hd=>hD d (List.mem_append_left _ hd)) yI hf h
    | false=>exact yA (two hr).2 hc.2 (fun d hd=>hD d (List.mem_append_right _ hd)) yI hf h
   simp only [exec] at h
   cases c with
   | tmp t =>
    simp only at h
    have uP:t<nt:=zB3 hc.1.1
    split at h
    ·rename_i hp;exact key true (F.cond hf uP hp) h
    ·rename_i hp;exact key false (F.cond hf uP hp) h
    ·cases h
   | const v =>
    split at h
    ·rename_i yE;cases yE
    ·rename_i ub;cases ub;exact key true rfl h
    ·rename_i ub;cases ub;exact key false rfl h
    ·cases h
   | global g=>cases h
   | func f=>cases h
  case block id b =>
   simp only [exec] at h
   refine wpIn_block ?_
   split at h
   ·rename_i id' r h1
    obtain ⟨e1,lg1⟩:=r
    simp only [Option.some.injEq,Prod.mk.injEq] at h
    obtain ⟨rfl,rfl,rfl⟩:=h
    refine wpIn_mono (yA (one hr) hc hD yI hf h1) fun ex a' w' ⟨hx,yq⟩=>?_
    subst hx
    simp only [X.exit,Exit.inBlock]
    split
    ·exact ⟨rfl,yq⟩
    ·exact ⟨rfl,yq⟩
   ·rename_i hI
    refine wpIn_mono (yA (one hr) hc hD yI hf h) fun ex a' w' ⟨hx,yq⟩=>?_
    subst hx
    cases x with
    | norm=>exact ⟨rfl,yq⟩
    | ex id=>exact absurd h (hI _ _)
    | ret=>exact ⟨rfl,yq⟩
  case loop b =>
   have key:∀ (m':Nat),m'≤m+1→∀ {e:Env} {a:Act} {w:World} {lg:Option Log},G a w e lg→exec P H orc yo al nt hh m' (.loop b) e lg=some (x,e',lg') →
     Code.roundsIn (FF ro) n P b (fun ex a' w'=>ex=x.exit∧G a' w' e' lg') m' a w:=by
    intro m'
    induction m' with
    | zero=>intro _ e a w _ _ h;cases h
    | succ m' ih =>
     intro yN e a w lg hf h
     simp only [exec] at h
     show b.wpIn (FF ro) n P (Exit.then (Code.roundsIn (FF ro) n P b _ m') _) a w
     have qq:∀ {e1:Env} {y:X} {e2:Env} {a w} {l1 l2:Option Log},Fin l2→G a w e1 l1→exec P H orc yo al nt hh m' b e1 l1=some (y,e2,l2)→b.wpIn (FF ro) n P (fun ex a' w'=>ex=y.exit∧G a' w' e2 l2) a w:=by
      intro e1 y e2 a w l1 l2 hn hf h
      exact zHx F zE3 m' b (hr.imp_right fun h=>h.less (by omega)) hc hD hn hf h
     split at h
     ·rename_i e1 lg1 h1
      exact wpIn_mono (qq (zKV F _ _ h yI) (F.drop _ hf) h1) fun ex a' w' ⟨hx,yq⟩=>by subst hx;exact ih (by omega) yq h
     ·rename_i hI
      refine wpIn_mono (qq yI (F.drop _ hf) h) fun ex a' w' ⟨hx,yq⟩=>?_
      subst hx
      cases x with
      | norm=>exact absurd h (hI _ _)
      | ex id=>exact ⟨rfl,yq⟩
      | ret=>exact ⟨rfl,yq⟩
   exact wpIn_loop_rounds (m+1) (key (m+1) (Nat.le_refl _) hf h)
  case exit id =>
   simp only [exec,Option.some.injEq,Prod.mk.injEq] at h
   obtain ⟨rfl,rfl,rfl⟩:=h
   exact wpIn_exit ⟨rfl,F.ice _ hf⟩
  case ret =>
   simp only [exec,Option.some.injEq,Prod.mk.injEq] at h
   obtain ⟨rfl,rfl,rfl⟩:=h
   exact wpIn_ret ⟨rfl,hf⟩
  case label l =>
   simp only [exec,Option.some.injEq,Prod.mk.injEq] at h
   obtain ⟨rfl,rfl,rfl⟩:=h
   exact wpIn_label ⟨rfl,hf⟩
  case scope b =>
   simp only [exec] at h
   exact zPt (fun l a w hx=>by cases x<;>cases hx.1) (yA (one hr) hc hD yI hf h)
  case rangeFunc f ps ca cb =>
   cases f with
   | tmp t =>
    have h0:=h
    simp only [exec] at h
    cases lg with
    | none =>
     simp only at h
     obtain ⟨r,_,h2⟩:=Option.map_eq_some_iff.1 h
     cases h2
     rcases hr with hr | hr
     ·cases hr
     exact hr m (by omega) t ps ca cb a w e _ _ (by simp only [zCL,Bool.and_eq_true];exact hc) hf h0
    | some l=>cases h
   | const v=>simp only [exec] at h;cases h
   | global g=>simp only [exec] at h;cases h
   | func f=>simp only [exec] at h;cases h
end
end Go.Eng
namespace Go.Eng
open Go
structure Rel (w0:World) (U Φ0:Nat→Prop) (w1:World) (U1 Φ1:Nat→Prop):Prop where
 size:w0.heap.size≤w1.heap.size
 kept:∀ b,b<w0.heap.size→¬ U b→w1.heap[b]? = w0.heap[b]?
 own:∀ b,U1 b→U b∨w0.heap.size≤b
 frz:∀ b,Φ1 b→Φ0 b∨U b∨w0.heap.size≤b
 frz0:∀ b,Φ0 b→Φ1 b
 os:w1.os=w0.os
 tape:w1.tape=w0.tape
 output:w1.output=w0.output
section
variable {w0 w w' w1 w2:World} {U Φ0 Φ U1 Φ1 U2 Φ2:Nat→Prop} {nt:Nat} {hv:Hid} {a:Act} {e e':Env} {rv:Nat→Value} {E:Nat→PV} {L:Nat→List Nat}
theorem Rel.refl:Rel w U Φ w U Φ:=⟨Nat.le_refl _,fun _ _ _=>rfl,fun _ h => .inl h,fun _ h => .inl h,fun _ h=>h,rfl,rfl,rfl⟩
theorem Rel.trans (h:Rel w0 U Φ0 w1 U1 Φ1) (k:Rel w1 U1 Φ1 w2 U2 Φ2):Rel w0 U Φ0 w2 U2 Φ2:=by
 have hU:∀ b,b<w0.heap.size→¬ U b→¬ U1 b:=fun b hb hu h1=>by rcases h.own b h1 with h2 | h2<;>first | exact hu h2 | omega
 refine ⟨Nat.le_trans h.size k.size,fun b hb hu=>(k.kept b (Nat.lt_of_lt_of_le hb h.size) (hU b hb hu)).trans (h.kept b hb hu),fun b hb=>?_,fun b hb=>?_,fun b hb=>k.frz0 b (h.frz0 b hb),k.os.trans h.os,k.tape.trans h.tape,k.output.trans h.output⟩
 ·rcases k.own b hb with h1 | h1
  ·exact h.own b h1
  ·exact .inr (Nat.le_trans h.size h1)
 ·rcases k.frz b hb with h1 | h1 | h1
  ·exact h.frz b h1
  ·rcases h.own b h1 with h2 | h2
   ·exact .inr (.inl h2)
   ·exact .inr (.inr h2)
  ·exact .inr (.inr (Nat.le_trans h.size h1))
theorem Conf.rel (C:Conf w0 U Φ0 w Φ rv E L):Rel w0 U Φ0 w (fun b=>∃ s,b∈L s) Φ :=
 ⟨C.size,C.kept,fun b ⟨s,hs⟩=>(C.own s b hs).2.2,fun b hb=>(C.frz b hb).2,C.frz0,C.os,C.tape,C.output⟩
theorem Conf.rebase (h:Rel w0 U Φ0 w1 U1 Φ1) (C:Conf w1 U1 Φ1 w Φ rv E L):Conf w0 U Φ0 w Φ rv E L:=by
 have r:=h.trans C.rel
 exact ⟨C.rep,C.nodup,C.disj,fun s b hb=>⟨(C.own s b hb).1,(C.own s b hb).2.1,r.own b ⟨s,hb⟩⟩,fun b hb=>⟨(C.frz b hb).1,r.frz b hb⟩,r.frz0,r.size,r.kept,r.os,r.tape,r.output⟩
theorem Conf.fresh (C:Conf w0 U Φ0 w Φ rv E L):Conf w (fun b=>∃ s,b∈L s) Φ w Φ rv E L :=
 ⟨C.rep,C.nodup,C.disj,fun s b hb=>⟨(C.own s b hb).1,(C.own s b hb).2.1,.inl ⟨s,hb⟩⟩,fun b hb=>⟨(C.frz b hb).1,.inl hb⟩,fun _ h=>h,Nat.le_refl _,fun _ _ _=>rfl,rfl,rfl,rfl⟩
theorem Conf.moved (C:Conf w0 U Φ0 w Φ rv E L) (hs:w.heap.size≤w'.heap.size) (hL:∀ s,∀ b∈L s,w'.heap[b]? = w.heap[b]?) (hΦ:∀ b,Φ b→w'.heap[b]? = w.heap[b]?) (hk:∀ b,b<w0.heap.size→¬ U b→w'.heap[b]? = w.heap[b]?)
  (ho:w'.os=w.os∧w'.tape=w.tape∧w'.output=w.output):Conf w0 U Φ0 w' Φ rv E L:=by
 refine ⟨fun s=>?_,C.nodup,C.disj,fun s b hb=>⟨Nat.lt_of_lt_of_le (C.own s b hb).1 hs,(C.own s b hb).2⟩,fun b hb=>⟨Nat.lt_of_lt_of_le (C.frz b hb).1 hs,(C.frz b hb).2⟩,C.frz0,Nat.le_trans C.size hs,fun b hb hu=>(hk b hb hu).trans (C.kept b hb hu),
  ho.1.trans C.os,ho.2.1.trans C.tape,ho.2.2.trans C.output⟩
 have:=Rep.map (f:=fun p=>p) (w':=w') (Φ':=Φ) (A':=zA8 w' rv E) (fun _=>rfl) (fun b hb=>⟨hb,hΦ b hb⟩) (fun b v hw ha=>zC2 hw (zCM C zCk ha (zBk _).symm rfl (hL _))) (E s) (rv s) (L s) (hL s) (C.rep s)
 rwa [zBk] at this
theorem Conf.arrive (C:Conf w0 U Φ0 w Φ rv E L) (hs:w.heap.size≤w'.heap.size) (hL:∀ s,∀ b∈L s,w'.heap[b]? = w.heap[b]?) (hΦ:∀ b,Φ b→w'.heap[b]? = w.heap[b]?):Conf w' (fun b=>∃ s,b∈L s) Φ w' Φ rv E L:=by
 refine ⟨fun s=>?_,C.nodup,C.disj,fun s b hb=>⟨Nat.lt_of_lt_of_le (C.own s b hb).1 hs,(C.own s b hb).2.1,.inl ⟨s,hb⟩⟩,fun b hb=>⟨Nat.lt_of_lt_of_le (C.frz b hb).1 hs,.inl hb⟩,fun _ h=>h,Nat.le_refl _,fun _ _ _=>rfl,rfl,rfl,rfl⟩
 have:=Rep.map (f:=fun p=>p) (w':=w') (Φ':=Φ) (A':=zA8 w' rv E) (fun _=>rfl) (fun b hb=>⟨hb,hΦ b hb⟩) (fun b v hw ha=>zC2 hw (zCM C zCk ha (zBk _).symm rfl (hL _))) (E s) (rv s) (L s) (hL s) (C.rep s)
 rwa [zBk] at this
theorem St.with (S:St w0 U Φ0 nt hv a w e Φ rv E L) (C:Conf w1 U1 Φ1 w' Φ2 rv E L):St w1 U1 Φ1 nt hv a w' e Φ2 rv E L :=
 ⟨C,S.env,S.size,S.small,S.tmps,S.parts,S.hid,S.dfr⟩
def zKD:PV→Value
 | .int k n => .int k n
 | .bool b => .bool b
 | _=>undef
def zCQ:PV→Value
 | .agg cs => .agg (cs.map zKD).toArray
 | p=>zKD p
theorem zWa {A:Al} {p:PV} {v:Value} {Lp:List Nat} (h:Rep w Φ A p v Lp) (hn:p.num=true):v=zKD p:=by
 cases p<;>first | (cases hn;done) | exact h.1
theorem zOi {A:Al}:∀ {ps:List PV} {vs:List Value} {Lp:List Nat},zA2 w Φ A ps vs Lp→ps.all PV.num=true→vs=ps.map zKD
 | [],vs,_,h,_=>h.1
 | p::ps,vs,_,⟨v,vs',L1,L2,h1,_,h3,h4⟩,hn=>by
  simp only [List.all_cons,Bool.and_eq_true] at hn
  rw [h1,zWa h3 hn.1,zOi h4 hn.2];rfl
theorem zTi {A:Al} {p:PV} {v:Value} {Lp:List Nat} (h:Rep w Φ A p v Lp) (hn:p.flat=true):v=zCQ p:=by
 cases p<;>first | (cases hn;done) | exact h.1 | skip
 obtain ⟨vs,rfl,h2⟩:=h
 have:=zOi h2 hn
 simp only [zCQ,← this]
theorem zTB (S:St w0 U Φ0 nt hv a w e Φ rv E L) {x:Operand} (hx:zAQ nt x=true):Rep w Φ (zA8 w rv E) (zQb e x) (a.eval x) []:=by
 cases x with
 | tmp t =>
  have ht:t<nt:=zB3 hx
  have hg:t<zAb:=Nat.lt_of_lt_of_le ht (Nat.le_trans S.small (by decide))
  have:=S.conf.view hg
  rw [S.env t hg,← S.tmps t ht] at this
  exact this
 | const v=>exact zJR v
 | global g=>exact (rfl:([]:List Nat)=[])
 | func f=>exact (rfl:([]:List Nat)=[])
theorem zTb {ops:Array Oper} {P:Program} (jA:zNU P nt ops=true) (S:St w0 U Φ0 nt hv a w e Φ rv E L) {o:Oper} {b:Bool} (h:zLD ops e o=some b):Region.wanted o (yielded ops a.tmps)=b:=by
 have yW:∀ (j:Nat) (x:Oper),ops[j]? = some x→zSh P nt x=true:=fun j x hx=>List.all_eq_true.1 jA x (by
  rw [← Array.getElem?_toList] at hx;exact List.mem_of_getElem? hx)
 simp only [zLD] at h
 cases hg:o.guard with
 | none=>rw [hg] at h;simp only [Option.some.injEq] at h;subst h;simp [Region.wanted,hg]
 | some x =>
  obtain ⟨j,want⟩:=x
  rw [hg] at h
  simp only at h
  cases hj:(ops[j]?).bind (·.dst) with
  | none=>rw [hj] at h;cases h
  | some t =>
   rw [hj] at h
   simp only at h
   have uP:t<nt:=by
    cases gi:ops[j]? with
    | none=>rw [gi] at hj;cases hj
    | some oj=>rw [gi] at hj;exact zIh (yW j oj gi) t hj
   have yk:t<zAb:=Nat.lt_of_lt_of_le uP (Nat.le_trans S.small (by decide))
   have hX:=S.conf.rep t
   rw [S.env t yk] at hX
   have htm:a.tmps[t]? = some (rv t):=by
    have h1:=S.tmps t uP
    have h2:t<a.tmps.size:=by rw [S.size];exact uP
    rw [Array.getElem?_eq_getElem h2]
    simp only [Array.getD,h2,dite_true] at h1
    rw [← h1];rfl
   have kC:yielded ops a.tmps j=match rv t with | .bool b=>some b | _=>none:=by
    simp only [yielded,hj,Option.bind_some,htm]
    cases rv t<;>rfl
   revert h
   cases hp:e.get t<;>intro h<;>try (cases h;done)
   case bool c =>
    simp only [Option.some.injEq] at h
    have yE:rv t = .bool c:=by rw [hp] at hX;exact hX.1
    rw [yE] at kC
    simp only at kC
    rw [← h]
    simp only [Region.wanted,hg,kC]
    rfl
   case und =>
    simp only [Option.some.injEq] at h
    have yE:rv t=undef:=by rw [hp] at hX;exact hX.1
    rw [yE] at kC
    rw [← h]
    simp only [Region.wanted,hg,kC]
    rfl
end
theorem zMJ {P:Program} {w:World} {fn:Func} {a:Act} (h:fn.results.isEmpty=true):(results fn a.tmps).run P w = .ok (.tuple #[]) w:=by
 have h0:fn.results=#[]:=by simpa using h
 simp only [results,h0]
 simp [Sem.run_bind,Sem.run_pure]
structure Apart (w w':World) (B Ψ:Nat→Prop):Prop where
 size:w.heap.size≤w'.heap.size
 os:w'.os=w.os
 tape:w'.tape=w.tape
 output:w'.output=w.output
 kept:∀ b,b<w.heap.size→¬ B b→w'.heap[b]? = w.heap[b]?
 seen:∀ b,Ψ b→w'.heap[b]? = w.heap[b]?
structure Client (P:Program) (l:Nat) (plan:List (List PV)) (k0:Int) (Ψ:Nat→Prop) (J:List (List PV)→World→(Nat→Prop)→Prop) (Jx:World→Prop):Prop where
 abide:∀ {xs:List (List PV)} {w w':World} {B:Nat→Prop},J xs w B→w.heap.size≤w'.heap.size→(∀ b,B b→w'.heap[b]? = w.heap[b]?)→w'.os=w.os∧w'.tape=w.tape∧w'.output=w.output→J xs w' B
 small:∀ {xs:List (List PV)} {w:World} {B:Nat→Prop},J xs w B→∀ b,B b→b<w.heap.size
 round:∀ {xs:List (List PV)} {x:List PV} {w:World} {B:Nat→Prop},J xs w B→xs++[x] <+: plan→k0-xs.length≠1→x.all PV.flat=true→YieldAt (FF none) 0 P l (x.map zCQ).toArray w fun en w'=>en = .returned (.bool true)∧Apart w w' B Ψ ∧
  ∃ B',J (xs++[x]) w' B'∧∀ b,B' b→B b∨w.heap.size≤b
 last:∀ {xs:List (List PV)} {x:List PV} {w:World} {B:Nat→Prop},J xs w B→xs++[x] <+: plan→k0-xs.length=1→x.all PV.flat=true→YieldAt (FF none) 0 P l (x.map zCQ).toArray w fun en w'=>en = .returned (.bool false)∧Jx w'
 abideX:∀ {w w':World},Jx w→w.heap.size≤w'.heap.size→(∀ b,b<w.heap.size→w'.heap[b]? = w.heap[b]?)→w'.os=w.os∧w'.tape=w.tape∧w'.output=w.output→Jx w'
section
variable {P:Program} {H:zBh} {orc:zAF} {yo:zCV} {al:All} {nt:Nat} {val:Nat→Value} {l:Nat} {plan:List (List PV)} {k0:Int} {Ψ:Nat→Prop} {J:List (List PV)→World→(Nat→Prop)→Prop} {Jx:World→Prop}
def GJ (nt:Nat) (val:Nat→Value) (l:Nat) (k0:Int) (Ψ:Nat→Prop) (J:List (List PV)→World→(Nat→Prop)→Prop) (Jx:World→Prop) (a:Act) (w:World) (e:Env) (lg:Option Log):Prop :=
 ∃ g,lg=some g∧g.at_=l∧g.k=k0-g.xs.length∧∃ w1 U1 Φ1,Fr w1 U1 Φ1 nt ⟨val,[]⟩ a w e ∧
  ((g.k≠0∧∃ B,J g.xs w1 B∧(∀ b,B b→¬ U1 b)∧∀ b,Φ1 b→Ψ b∨¬ B b)∨(g.k=0∧Jx w1∧∀ b,¬ U1 b))
def zZF (plan:List (List PV)) (lg:Option Log):Prop:=∃ g,lg=some g∧g.xs <+: plan
theorem zHK {fz tk nl:Bool} {ops:Array Oper} {o:Oper} {e e':Env} {g:Log} {lg':Option Log} (h:zCT P H orc fz tk nl ops o e (some g)=some (e',lg')):∃ g',lg'=some g'∧g.xs <+: g'.xs:=by
 have mp:∀ {x:Option Env} {q:Log},x.map (fun e'=>(e',some q))=some (e',lg')→lg'=some q:=by
  intro x q h
  obtain ⟨y,_,h2⟩:=Option.map_eq_some_iff.1 h
  cases h2;rfl
 simp only [zCT] at h
 split at h
 ·simp only [zBT] at h
  split at h
  ·rcases zBn h with ⟨_,h⟩ | ⟨_,h⟩
   ·exact ⟨_,mp h,List.prefix_append _ _⟩
   ·cases h
  ·exact ⟨_,mp h,List.prefix_refl _⟩
  ·cases h
 ·exact ⟨_,mp h,List.prefix_refl _⟩
theorem zWT (jF : zGc P orc) (hnm:zER P) (hC:Client P l plan k0 Ψ J Jx):Frame P H orc nt none 0 (fun _=>True) (zZF plan) (GJ nt val l k0 Ψ J Jx):=by
 refine ⟨?_,?_,?_,?_,?_,?_,?_⟩
 ·intro ops o fz tk nl e e' lg lg' h hf
  obtain ⟨g',rfl,hp⟩:=hf
  cases lg with
  | none=>simp only [zCT] at h;obtain ⟨y,_,h2⟩:=Option.map_eq_some_iff.1 h;cases h2
  | some g =>
   obtain ⟨g2,h2,h3⟩:=zHK h
   cases h2
   exact ⟨g,rfl,h3.trans hp⟩
 ·intro ops i o fz tk nl a w e e' lg lg' Q jA hi _ yI hG h
  obtain ⟨g,rfl,kJ,hk,w1,U1,Φ1,hf,jk⟩:=hG
  have yW:zSh P nt o=true:=List.all_eq_true.1 jA o (by
   rw [← Array.getElem?_toList] at hi;exact List.mem_of_getElem? hi)
  simp only [zCT] at h
  cases hy:zCf e o with
  | none =>
   rw [hy] at h;simp only at h
   obtain ⟨e1,h1,h2⟩:=Option.map_eq_some_iff.1 h
   cases h2
   exact zDH (zKZ jF hnm jA hf hi h1) fun a' w' yq=>⟨g,rfl,kJ,hk,w1,U1,Φ1,yq,jk⟩
  | some yL =>
   obtain ⟨h0,args⟩:=yL
   rw [hy] at h;simp only at h
   obtain ⟨Φ,rv,E,L,S,hb⟩:=hf
   have jz:=zIh yW
   simp only [zCf] at hy
   split at hy
   ·rename_i c hc
    split at hy
    ·rename_i tc yz
     split at hy
     ·rename_i h0' kC
      simp only [Option.some.injEq,Prod.mk.injEq] at hy
      obtain ⟨rfl,rfl⟩:=hy
      have yH:zAQ nt (.tmp tc)=true∧∀ x∈c.args.toList,zAQ nt x=true:=by
       have h1:=yW
       simp only [zSh,hc,Bool.and_eq_true,yz] at h1
       obtain ⟨_,h2,h3⟩:=h1
       exact ⟨by simpa using h3,List.all_eq_true.1 (by simpa using h2)⟩
      have htc:tc<nt:=zB3 yH.1
      have yk:tc<zAb:=Nat.lt_of_lt_of_le htc (Nat.le_trans S.small (by decide))
      have hcv:a.eval (.tmp tc) = .func (.yield h0') #[] #[]:=by
       have:=S.conf.rep tc
       rw [S.env tc yk,kC] at this
       show a.tmps.getD tc undef=_
       rw [S.tmps tc htc];exact this.2
      simp only [zBT] at h
      cases hw:zLD ops e o with
      | none=>rw [hw] at h;cases h
      | some b =>
       have hwant:=zTb jA S hw
       simp only [wpOpIn,hi,hwant]
       cases b with
       | false =>
        rw [hw] at h;simp only at h
        obtain ⟨e1,h1,h2⟩:=Option.map_eq_some_iff.1 h
        cases h2
        exact ⟨fun _ _=>trivial,g,rfl,kJ,hk,w1,U1,Φ1,zAw S hb jz h1 (p := .und) ⟨rfl,rfl⟩,jk⟩
       | true =>
        rw [hw] at h;simp only at h
        rcases zBn h with ⟨jV,h⟩ | ⟨_,h⟩
        ·simp only [Bool.and_eq_true] at jV
         obtain ⟨⟨jl,hkn⟩,vQ⟩:=jV
         have vQ:=Nat.eq_of_beq_eq_true vQ
         rw [kJ] at vQ;subst vQ
         have hkn:g.k≠0:=by simpa using hkn
         obtain ⟨e1,h1,h2⟩:=Option.map_eq_some_iff.1 h
         cases h2
         rcases jk with ⟨_,B,hJ,hBU,hBΦ⟩ | ⟨h0,_⟩
         ·
          have hvals:c.args.map a.eval=((c.args.toList.map (zQb e)).map zCQ).toArray:=by
           have key:∀ l:List Operand,(∀ x∈l,zAQ nt x=true)→(l.map (zQb e)).all PV.flat=true→l.map a.eval=(l.map (zQb e)).map zCQ:=by
            intro l
            induction l with
            | nil=>intro _ _;rfl
            | cons x l ih =>
             intro h1 h2
             simp only [List.map_cons,List.all_cons,Bool.and_eq_true] at h2
             simp only [List.map_cons]
             rw [zTi (zTB S (h1 x (by simp))) h2.1,ih (fun y hy=>h1 y (by simp [hy])) h2.2]
           have:=key c.args.toList yH.2 jl
           rw [← this]
           apply Array.toList_inj.1
           simp
          have hJw:J g.xs w B:=by
           refine hC.abide hJ S.conf.size (fun b hb=>S.conf.kept b (hC.small hJ b hb) (hBU b hb)) ⟨S.conf.os,S.conf.tape,S.conf.output⟩
          have hLB:∀ s,∀ b∈L s,¬ B b:=by
           intro s b jL wd
           rcases (S.conf.own s b jL).2.2 with h3 | h3
           ·exact hBU b wd h3
           ·have:=hC.small hJ b wd;omega
          have hΦB:∀ b,Φ b→Ψ b∨¬ B b:=by
           intro b hbΦ
           rcases (S.conf.frz b hbΦ).2 with h3 | h3 | h3
           ·exact hBΦ b h3
           ·exact .inr fun wd=>hBU b wd h3
           ·exact .inr fun wd=>by have:=hC.small hJ b wd;omega
          have qr:g.xs++[c.args.toList.map (zQb e)] <+: plan:=by
           obtain ⟨g2,qV,hp⟩:=yI
           cases qV;exact hp
          have hexec:(execOp a.eval o).run P w=(Instr.yield h0' (c.args.map a.eval)).run P w:=by
           simp only [execOp,hc,Go.resolve,yz,hcv,Deferred.ofValue,Sem.run_bind,Sem.run_pure,Result.andThen_ok,invoke]
           simp
          have kV:∀ {R:Ending→World→Prop},YieldAt (FF none) 0 P h0' ((c.args.toList.map (zQb e)).map zCQ).toArray w R→(∀ en w',R en w'→∃ v,en = .returned v∧GJ nt val h0' k0 Ψ J Jx (a.put o.dst v) w' e' (some ⟨g.xs++[c.args.toList.map (zQb e)],g.k-1,g.at_⟩)) →
            o.wpIn (FF none) 0 P a w (fun a' w'=>GJ nt val h0' k0 Ψ J Jx a' w' e' (some ⟨g.xs++[c.args.toList.map (zQb e)],g.k-1,g.at_⟩)) Q:=by
           intro R ⟨fn,tmps,ca,cb,yA,yS⟩ hR
           refine ⟨fun _ _=>trivial,?_⟩
           rw [Oper.semAt_eq (FF none).round a.eval o (fun c' hc'=>by rw [hc] at hc';cases hc'),hexec,hvals,yA]
           refine ⟨fun h=>(by cases h),yS.mono fun en w' vA=>?_⟩
           obtain ⟨v,rfl,hv⟩:=hR en w' vA
           exact hv
          have hZ:g.k-1=k0-((g.xs++[c.args.toList.map (zQb e)]).length:Int):=by rw [hk];simp;omega
          rcases zBn h1 with ⟨jR,h1⟩ | ⟨jR,h1⟩
          ·
           have jR:g.k=1:=by simpa using jR
           refine kV (hC.last hJw qr (by rw [← hk];exact jR) jl) fun en w' ⟨vA,hx⟩=>⟨_,vA,?_⟩
           refine ⟨_,rfl,kJ,hZ,w',fun _=>False,fun _=>False,?_,.inr ⟨by rw [jR];rfl,hx,fun _ h=>h⟩⟩
           have C':Conf w' (fun _=>False) (fun _=>False) w' (fun _=>False) rv (fun s=>if (E s).num then E s else .bad) (fun _=>[]):=by
            refine ⟨fun s=>?_,fun _=>List.nodup_nil,fun _ _ _ b hb=>(by cases hb),fun s b hb=>(by cases hb),fun b hb=>hb.elim,fun b hb=>hb,Nat.le_refl _,fun _ _ _=>rfl,rfl,rfl,rfl⟩
            have:=S.conf.rep s
            split
            ·rename_i hn
             revert this hn
             cases E s<;>intro this hn<;>first | (cases hn;done) | exact ⟨this.1,rfl⟩
            ·rfl
           have S':St w' (fun _=>False) (fun _=>False) nt ⟨val,[]⟩ a w' (e.forget zAb) (fun _=>False) rv (fun s=>if (E s).num then E s else .bad) (fun _=>[]):=by
            refine ⟨C',fun s hs=>?_,S.size,S.small,S.tmps,fun d ps j hd hp hj=>?_,S.hid,S.dfr⟩
            ·rw [zEF,S.env s hs]
             have:s≠zAb:=by omega
             simp [this]
            ·split at hp
             ·rename_i hn;rw [hp] at hn;cases hn
             ·cases hp
           exact zAw S' (fun s hs=>by show (if (E s).num then E s else PV.bad) = .bad;rw [hb s hs];rfl) jz h1 (p := .bool false) ⟨rfl,rfl⟩
          ·
           have jR:g.k≠1:=by simpa using jR
           refine kV (hC.round hJw qr (by rw [← hk];exact jR) jl) fun en w' ⟨vA,hap,B',hJ',hB'⟩=>⟨_,vA,?_⟩
           have LI:∀ s,∀ b∈L s,w'.heap[b]? = w.heap[b]?:=fun s b hb=>hap.kept b (S.conf.own s b hb).1 (hLB s b hb)
           have hΦk:∀ b,Φ b→w'.heap[b]? = w.heap[b]?:=fun b hb=>(hΦB b hb).elim (fun h=>hap.seen b h) (fun h=>hap.kept b (S.conf.frz b hb).1 h)
           have C1:=S.conf.arrive (w':=w') hap.size LI hΦk
           have S':=S.with C1
           refine ⟨_,rfl,kJ,hZ,w',_,_,zAw S' hb jz h1 (p := .bool true) ⟨rfl,rfl⟩,.inl ⟨by simp only;omega,B',hJ',fun b wd ⟨s,jL⟩=>?_,fun b hbΦ=>?_⟩⟩
           ·rcases hB' b wd with h3 | h3
            ·exact hLB s b jL h3
            ·have:=(S.conf.own s b jL).1;omega
           ·rcases hΦB b hbΦ with h3 | h3
            ·exact .inl h3
            ·refine .inr fun wd=>?_
             rcases hB' b wd with h4 | h4
             ·exact h3 h4
             ·have:=(S.conf.frz b hbΦ).1;omega
         ·exact absurd h0 hkn
        ·cases h
     ·cases hy
    ·cases hy
   ·cases hy
 ·intro a w e e' lg ⟨g,h1,h2,h3,w1,U1,Φ1,hf,hc⟩ hg
  exact ⟨g,h1,h2,h3,w1,U1,Φ1,hf.get' hg,hc⟩
 ·intro a w e lg d ⟨g,h1,h2,h3,w1,U1,Φ1,hf,hc⟩
  exact ⟨g,h1,h2,h3,w1,U1,Φ1,hf.tick d,hc⟩
 ·intro a w e lg l ⟨g,h1,h2,h3,w1,U1,Φ1,hf,hc⟩
  exact ⟨g,h1,h2,h3,w1,U1,Φ1,hf.drop l,hc⟩
 ·intro a w e lg l ⟨g,h1,h2,h3,w1,U1,Φ1,hf,hc⟩
  exact ⟨g,h1,h2,h3,w1,U1,Φ1,hf.ice,hc⟩
 ·intro a w e lg t b ⟨g,h1,h2,h3,w1,U1,Φ1,⟨Φ,rv,E,L,S,hb⟩,hc⟩ ht he
  have yk:t<zAb:=Nat.lt_of_lt_of_le ht (Nat.le_trans S.small (by decide))
  have:=S.conf.rep t
  rw [S.env t yk,he] at this
  rw [S.tmps t ht];exact this.1
theorem zVu (zE3:P.follows .mixedOrders=true) (jF:zGc P orc) (hnm:zER P) (hC:Client P l plan k0 Ψ J Jx) {m:Nat} {f:FuncId} {fn:Func} {body:Code} {args:List PV} (hf:P.funcs[f]? = some fn) (yY:fn.body=some body) (jJ:zCL P fn.ntmps body=true)
  (u9:fn.ntmps≤2000000) (yL:args.length≤fn.ntmps) (uc:args.all (fun p => !p.isTup)=true) (yc:fn.results.isEmpty=true) {x:X} {e1:Env} {g:Log}
  (hx:exec P H orc yo al fn.ntmps (H f) m body (zBb args []) (some ⟨[],k0,l⟩)=some (x,e1,some g)) (gm:x = .norm∨x = .ret) (hg:g.xs=plan) (hk:k0≠0)
  {w:World} {Φ:Nat→Prop} {rv:Nat→Value} {E:Nat→PV} {L:Nat→List Nat} {vs:Array Value} (hE:∀ s,s<zAb→E s=(zBb args []).get s) (kD:∀ s,zAb≤s→E s = .bad) (C:Conf w (fun b=>∃ s,b∈L s) Φ w Φ rv E L)
  (yD:vs.size=args.length) (ye:∀ i,i<args.length→vs[i]? = some (rv i)) (jW:∀ s,args.length≤s→s<zAl→rv s=undef) {B:Nat→Prop} (hJ:J [] w B) (hBL:∀ b,B b→∀ s,b∉L s) (hBΦ:∀ b,Φ b→Ψ b∨¬ B b) :
  CallsIn (FF none) 0 P f vs w fun en w'=>(∃ v,en = .returned v)∧((k0-plan.length≠0∧∃ B',J plan w' B')∨(k0-plan.length=0∧Jx w')):=by
 have ho:zAA=60000000:=rfl
 have hh:zAl=50000000:=rfl
 have wa:zAb=1000000000:=rfl
 refine callsIn_of_wp hf yY trivial ?_
 have S:St w (fun b=>∃ s,b∈L s) Φ fn.ntmps ⟨rv,[]⟩ {tmps:=vs++Array.replicate (fn.ntmps-vs.size) undef,defers:=[]} w (zBb args []) Φ rv E L:=by
  refine ⟨C,hE,by simp;omega,u9,fun t ht=>?_,fun d ps i hd hp hi=>?_,fun _ _ _=>rfl,rfl⟩
  ·simp only [Array.getD_eq_getD_getElem?,Array.getElem?_append]
   by_cases h1:t<vs.size
   ·rw [if_pos h1,ye t (by omega)];rfl
   ·rw [if_neg h1,Array.getElem?_replicate,if_pos (by omega),jW t (by omega) (by omega)];rfl
  ·rw [hE d (by omega),zDl (by omega)] at hp
   split at hp
   ·rename_i vi
    have:(args.getD d .bad)∈args:=by
     simp only [List.getD,List.getElem?_eq_getElem vi,Option.getD_some];exact List.getElem_mem vi
    have:=List.all_eq_true.1 uc _ this
    rw [hp] at this;cases this
   ·split at hp
    ·rename_i h2;simp at h2;omega
    ·cases hp
 have yI:zZF plan (some g):=⟨g,rfl,by rw [hg];exact List.prefix_refl _⟩
 have hw:=zHx (zWT (val:=rv) jF hnm hC) zE3 m body (.inr fun m' _ t ps ca cb a w e x e' _ hG _=>by obtain ⟨g,h,_⟩:=hG;cases h) jJ (fun _ _=>trivial) yI
  (⟨_,rfl,rfl,by simp,w,_,_,⟨Φ,rv,E,L,S,kD⟩,.inl ⟨hk,B,hJ,fun b hb ⟨s,hs⟩=>hBL b hb s hs,hBΦ⟩⟩:GJ fn.ntmps rv l k0 Ψ J Jx _ w (zBb args []) (some ⟨[],k0,l⟩)) hx
 refine wpIn_mono hw fun ex a' w' ⟨gp,g',hg',_,wc,w1,U1,Φ1,vY,jk⟩=>?_
 cases hg'
 rw [hg] at wc;rw [wc] at jk
 obtain ⟨Φ2,rv2,E2,L2,S2,j1⟩:=vY
 have yA:=zMJ (P:=P) (w:=w') (fn:=fn) (a:=a') yc
 have wH:bodyPost P fn (fun en w'=>(∃ v,en = .returned v)∧((k0-plan.length≠0∧∃ B',J plan w' B')∨(k0-plan.length=0∧Jx w'))) .normal a' w':=by
  refine ⟨S2.dfr,_,yA,⟨_,rfl⟩,?_⟩
  rcases jk with ⟨h1,B1,hJ1,hBU,_⟩ | ⟨h1,j9,hU⟩
  ·rw [hg] at hJ1
   exact .inl ⟨h1,B1,hC.abide hJ1 S2.conf.size (fun b hb=>S2.conf.kept b (hC.small hJ1 b hb) (hBU b hb)) ⟨S2.conf.os,S2.conf.tape,S2.conf.output⟩⟩
  ·exact .inr ⟨h1,hC.abideX j9 S2.conf.size (fun b hb=>S2.conf.kept b hb (hU b)) ⟨S2.conf.os,S2.conf.tape,S2.conf.output⟩⟩
 subst gp
 rcases gm with rfl | rfl<;>exact wH
end
end Go.Eng
namespace Go.Eng
open Go
section
variable {w0 w w' w1 w2:World} {U Φ0 Φ U1 Φ1 U2 Φ2:Nat→Prop} {nt:Nat} {hv:Hid} {a:Act} {e e':Env} {rv rv':Nat→Value} {E E':Nat→PV} {L L':Nat→List Nat}
theorem zOI {f:Nat→PV→PV}:∀ (e:Env) (s:Nat),f s .bad = .bad→Env.get (e.map fun x=>(x.1,f x.1 x.2)) s=f s (e.get s)
 | [],s,h=>h.symm
 | (k,v)::e,s,h=>by
  simp only [List.map_cons,Env.get]
  cases hb:Nat.beq k s with
  | true=>rw [Nat.eq_of_beq_eq_true hb];rfl
  | false=>exact zOI e s h
def zDh (nt:Nat) (R ds:List Nat) (e:Env) (s:Nat) (p:PV):PV :=
 bif R.contains s || !p.heavy&&p.ways.all (fun w=>R.contains w.1) then p else bif !(Nat.blt s nt && !ds.contains s||Nat.ble zAl s&&Nat.blt s zAA) then .bad else bif (R.isEmpty||(e.get s).free) && !(e.get s).isTup then e.get s else .bad
theorem zQs (nt:Nat) (R ds:List Nat) (e0 e:Env) (s:Nat):(after nt R ds e0 e).get s=zDh nt R ds e s (e0.get s) :=
 zOI (f:=fun s p=>zDh nt R ds e s p) e0 s (by simp [zDh,PV.heavy,PV.ways])
theorem zK1 (nt:Nat) (R ds:List Nat) (e:Env) (s:Nat) (p:PV) :
  (zDh nt R ds e s p=p∧s∈R)∨(zDh nt R ds e s p=p∧p.heavy=false∧∀ x∈p.ways,x.1∈R)∨zDh nt R ds e s p = .bad ∨
  (zDh nt R ds e s p=e.get s∧s∉R∧((s<nt∧s∉ds)∨(zAl≤s∧s<zAA))∧(R=[]∨(e.get s).free=true)∧(e.get s).isTup=false):=by
 simp only [zDh]
 cases h1:(R.contains s || !p.heavy&&p.ways.all (fun w=>R.contains w.1)) with
 | true =>
  simp only [Bool.or_eq_true,Bool.and_eq_true,Bool.not_eq_true',List.contains_iff_mem,List.all_eq_true] at h1
  rcases h1 with h1 | ⟨h1,h2⟩
  ·exact .inl ⟨rfl,h1⟩
  ·exact .inr (.inl ⟨rfl,h1,h2⟩)
 | false =>
  simp only [cond_false]
  have hs:s∉R:=by
   simp only [Bool.or_eq_false_iff] at h1
   intro hm
   rw [List.contains_iff_mem.2 hm] at h1;cases h1.1
  cases h2:(!(Nat.blt s nt && !ds.contains s||Nat.ble zAl s&&Nat.blt s zAA)) with
  | true=>exact .inr (.inr (.inl rfl))
  | false =>
   simp only [cond_false]
   cases h3:((R.isEmpty||(e.get s).free) && !(e.get s).isTup) with
   | false=>exact .inr (.inr (.inl rfl))
   | true =>
    simp only [Bool.not_eq_false',Bool.or_eq_true,Bool.and_eq_true,Bool.not_eq_true'] at h2 h3
    refine .inr (.inr (.inr ⟨rfl,hs,?_,?_,h3.2⟩))
    ·rcases h2 with ⟨h4,h5⟩ | ⟨h4,h5⟩
     ·refine .inl ⟨zB3 h4,fun hm=>?_⟩
      rw [List.contains_iff_mem.2 hm] at h5;cases h5
     ·exact .inr ⟨Nat.le_of_ble_eq_true h4,zB3 h5⟩
    ·rcases h3.1 with h4 | h4
     ·exact .inl (by simpa using h4)
     ·exact .inr h4
theorem zPg {p:PV} (h:p.flat=true):p.isTup=false∧p.heavy=false:=by
 cases p<;>first | (cases h;done) | exact ⟨rfl,rfl⟩ | skip
 rename_i cs
 refine ⟨rfl,?_⟩
 have key:∀ cs:List PV,cs.all PV.num=true→zC5 cs=false:=by
  intro cs
  induction cs with
  | nil=>intro _;rfl
  | cons c cs ih =>
   intro h
   simp only [List.all_cons,Bool.and_eq_true] at h
   simp only [zC5,ih h.2,Bool.or_false]
   cases c<;>first | (cases h.1;done) | rfl
 exact key cs h
theorem zVW {A:Al} {p:PV} (h:p.num=true):Rep w Φ A p (zKD p) []:=by
 cases p<;>first | (cases h;done) | exact ⟨rfl,rfl⟩
theorem zON {A:Al}:∀ (ps:List PV),ps.all PV.num=true→zA2 w Φ A ps (ps.map zKD) []
 | [],_=>⟨rfl,rfl⟩
 | p::ps,h=>by
  simp only [List.all_cons,Bool.and_eq_true] at h
  exact ⟨_,_,[],[],rfl,rfl,zVW h.1,zON ps h.2⟩
theorem zTp {A:Al} {p:PV} (h:p.flat=true):Rep w Φ A p (zCQ p) []:=by
 cases p<;>first | (cases h;done) | exact ⟨rfl,rfl⟩ | skip
 exact ⟨_,rfl,by simpa using zON _ h⟩
theorem zHU:∀ (ps:List Tmp) (x:List PV) {a:Act} {e e1:Env},Fr w0 U Φ0 nt hv a w e→(∀ t∈ps,t<nt)→x.all PV.flat=true→zCv ps x e=some e1 →
  ps.length=x.length∧Fr w0 U Φ0 nt hv {a with tmps:=(ps.zip (x.map zCQ)).foldl (fun t (p,v)=>t.setIfInBounds p v) a.tmps} w e1 ∧
  ∀ t,t∉ps→((ps.zip (x.map zCQ)).foldl (fun t (p,v)=>t.setIfInBounds p v) a.tmps).getD t undef=a.tmps.getD t undef
 | [],[],a,e,e1,hf,_,_,h=>by
  simp only [zCv,Option.some.injEq] at h;subst h
  exact ⟨rfl,hf,fun _ _=>rfl⟩
 | [],_::_,a,e,e1,hf,_,_,h=>by cases h
 | _::_,[],a,e,e1,hf,_,_,h=>by cases h
 | t :: ts,v::vs,a,e,e1,hf,ht,hx,h=>by
  simp only [zCv] at h
  split at h
  ·cases h
  ·simp only [List.all_cons,Bool.and_eq_true] at hx
   obtain ⟨Φ,rv,E,L,S,hb⟩:=hf
   have hl:=zPg hx.1
   have yA:(put (some t) v).run (fun _ _ _=>none) e=some (e.set t v):=by
    simp only [put,hl.1,cond_false,lay,hl.2,PM.run]
   have hf1:=zAw (d:=some t) S hb (fun y hy=>by cases hy;exact ht t (by simp)) yA (zTp hx.1)
   obtain ⟨h1,h2,h3⟩:=zHU ts vs hf1 (fun y hy=>ht y (by simp [hy])) hx.2 h
   refine ⟨by simp [h1],h2,fun y hy=>?_⟩
   simp only [List.mem_cons,not_or] at hy
   have:=h3 y hy.2
   simp only [List.map_cons,List.zip_cons_cons,List.foldl_cons]
   refine Eq.trans this ?_
   show (a.tmps.setIfInBounds t (zCQ v)).getD y undef=_
   simp only [Array.getD_eq_getD_getElem?,Array.getElem?_setIfInBounds]
   rw [if_neg (fun e=>hy.1 e.symm)]
end
theorem zN3 {F:Fence} {n:Nat} {P:Program} {ops:Array Oper} {Q:Exit→Act→World→Prop} {i:Nat} {K:Act→World→Prop} {T:Act→Prop} {a:Act} {w:World} {o:Oper} (hi:ops[i]? = some o) (hT:∀ v ds,T ({a with defers:=ds}.put o.dst v))
  (h:wpOpIn F n P ops Q i K a w):wpOpIn F n P ops Q i (fun a' w'=>K a' w'∧T a') a w:=by
 have hT0:∀ v,T (a.put o.dst v):=fun v=>hT v a.defers
 simp only [wpOpIn,hi] at h ⊢
 split
 ·rename_i hw
  rw [if_pos hw] at h
  refine ⟨h.1,?_⟩
  have h:=h.2
  revert h
  generalize (o.semAt F.round a.eval).run P w=r
  intro h
  cases r with
  | ok x w' =>
   cases x<;>simp only [Oper.uponIn] at h ⊢ <;> first
    | exact ⟨h,hT0 _⟩
    | exact ⟨h,hT _ _⟩
    | exact ⟨h.1,h.2.mono fun e w'' he=>by cases e<;>first | exact ⟨he,hT0 _⟩ | exact he⟩
    | exact ⟨h.1,h.2.mono fun v w'' he=>⟨he,hT0 _⟩⟩
    | exact h
  | halt x w'=>cases x<;>simp only [Oper.uponIn] at h ⊢ <;> exact h
 ·rename_i hw
  rw [if_neg hw] at h
  exact ⟨h.1,h.2,hT0 _⟩
def GR (wb:World) (Ub Φb:Nat→Prop) (nt:Nat) (val:Nat→Value) (ds:List Nat) (tm:Array Value) (a:Act) (w:World) (e:Env) (lg:Option Log):Prop :=
 lg=none∧Fr wb Ub Φb nt ⟨val,[]⟩ a w e∧∀ t,t∉ds→a.tmps.getD t undef=tm.getD t undef
theorem zUL {P:Program} {H:zBh} {orc:zAF} {nt l:Nat} {wb:World} {Ub Φb:Nat→Prop} {val:Nat→Value} {ds:List Nat} {tm:Array Value} (jF:zGc P orc) (hnm:zER P) :
  Frame P H orc nt (some l) 0 (fun d=>d∈ds) (fun lg=>lg=none) (GR wb Ub Φb nt val ds tm):=by
 refine ⟨?_,?_,?_,?_,?_,?_,?_⟩
 ·intro ops o fz tk nl e e' lg lg' h hf
  cases lg with
  | none=>rfl
  | some g=>obtain ⟨g',h2,_⟩:=zHK h;rw [h2] at hf;cases hf
 ·intro ops i o fz tk nl a w e e' lg lg' Q jA hi hd yI ⟨vR,hf,ht⟩ h
  subst vR
  simp only [zCT] at h
  obtain ⟨e1,h1,h2⟩:=Option.map_eq_some_iff.1 h
  cases h2
  refine zDH (zN3 (T:=fun a'=>∀ t,t∉ds→a'.tmps.getD t undef=tm.getD t undef) hi (fun v ds' t ut=>?_) (zKZ jF hnm jA hf hi h1)) fun a' w' ⟨yq,LH⟩=>⟨rfl,yq,LH⟩
  rw [← ht t ut]
  cases jz:o.dst with
  | none=>rfl
  | some d =>
   have hI:t≠d:=by rintro rfl;exact ut (hd t jz)
   simp only [Act.put,Array.getD_eq_getD_getElem?,Array.getElem?_setIfInBounds]
   rw [if_neg (fun e=>hI e.symm)]
 ·intro a w e e' lg ⟨h1,hf,ht⟩ hg
  exact ⟨h1,hf.get' hg,ht⟩
 ·intro a w e lg d ⟨h1,hf,ht⟩
  exact ⟨h1,hf.tick d,ht⟩
 ·intro a w e lg l ⟨h1,hf,ht⟩
  exact ⟨h1,hf.drop l,ht⟩
 ·intro a w e lg l ⟨h1,hf,ht⟩
  exact ⟨h1,hf.ice,ht⟩
 ·intro a w e lg t b ⟨_,⟨Φ,rv,E,L,S,hb⟩,_⟩ ht he
  have yk:t<zAb:=Nat.lt_of_lt_of_le ht (Nat.le_trans S.small (by decide))
  have:=S.conf.rep t
  rw [S.env t yk,he] at this
  rw [S.tmps t ht];exact this.1
def X.isNorm:X→Bool
 | .norm=>true
 | _=>false
def zIi:X→Code
 | .ret => .ret
 | .ex id => .exit id
 | .norm => .skip
def zJM (run:Code→Env→Option (X×Env)) (ps:List Tmp) (ca cb:Code) (x:List PV) (e:Env):Option (X×Env) :=
 match zCv ps x e with
 | some e1=>match run ca e1 with
  | some (.norm,e2)=>run cb e2
  | _=>none
 | none=>none
section
variable {w0 w w' w1 w2:World} {U Φ0 Φ U1 Φ1 U2 Φ2:Nat→Prop} {nt:Nat} {hv:Hid} {a:Act} {e e':Env} {rv rv':Nat→Value} {E E':Nat→PV} {L L':Nat→List Nat}
theorem zMS {p:PV} (h:p.heavy=false):p.unlock=p:=by cases p<;>first | rfl | cases h
open Classical in
theorem Conf.behind {wb w4:World} {Ub Φb Φ3:Nat→Prop} {rv3:Nat→Value} {E3:Nat→PV} {L3:Nat→List Nat} {e3:Env} {R ds:List Nat} (C:Conf w0 U Φ0 w Φ rv E L) (hE:∀ s,s<zAb→E s=e.get s) (kD:zBs E)
  (C3:Conf wb Ub Φb w4 Φ3 rv3 E3 L3) (hE3:∀ s,s<zAb→E3 s=e3.get s) (yO:∀ r∈R,∀ x∈(E r).ways,x.1∈R)
  (j3:∀ s,(s<nt∧s∉ds)∨(zAl≤s∧s<zAA)→rv3 s=rv s)
  (hs:w.heap.size≤w4.heap.size) (hk:∀ b,b<w.heap.size→(Φ b∨(∃ r∈R,b∈L r)∨b<w0.heap.size∧¬ U b)→w4.heap[b]? = w.heap[b]?)
  (hΦ3:∀ b,Φ b→Φ3 b) (hΦb:∀ b,Φ3 b→Φ b∨(∃ s,b∈L s)∨w.heap.size≤b) (hΦR:∀ r∈R,∀ b∈L r,Φ3 b) (hL3:∀ s,∀ b∈L3 s,(∃ t,b∈L t)∨w.heap.size≤b) (ho:w4.os=w.os∧w4.tape=w.tape∧w4.output=w.output) :
  ∃ E' L',(∀ s,s<zAb→E' s=zDh nt R ds e3 s (e.get s))∧zBs E'∧Conf w0 U Φ0 w4 (fun b=>Φ3 b∧∀ r∈R,b∉L r) rv E' L'∧(∀ r∈R,L' r=L r)∧(∀ s,∀ b∈L' s,(∃ r∈R,b∈L r)∨∃ t,b∈L3 t) ∧
   ∀ d ps,d<zAb→E' d = .tup ps→E d = .tup ps:=by
 let Tk:Nat→Prop:=fun s=>s<zAb∧zDh nt R ds e3 s (e.get s)=e3.get s∧((s<nt∧s∉ds)∨(zAl≤s∧s<zAA))∧(R=[]∨(e3.get s).free=true)∧(e3.get s).isTup=false
 let E':Nat→PV:=fun s=>if s<zAb then zDh nt R ds e3 s (e.get s) else .bad
 let L':Nat→List Nat:=fun s=>if s∈R then L s else if Tk s then L3 s else []
 have hE':∀ s,s<zAb→E' s=zDh nt R ds e3 s (e.get s):=fun s hs=>if_pos hs
 have hEb':zBs E':=fun g hg=>if_neg (by omega)
 have qt:∀ s,s∈R→L' s=L s:=fun s hs=>if_pos hs
 have gq:∀ s,s∉R→Tk s→L' s=L3 s:=fun s hs ht=>by show (if s∈R then L s else if Tk s then L3 s else [])=_;rw [if_neg hs,if_pos ht]
 have qu:∀ s,s∉R→¬ Tk s→L' s=[]:=fun s hs ht=>by show (if s∈R then L s else if Tk s then L3 s else [])=_;rw [if_neg hs,if_neg ht]
 have fate:∀ s,(s∈R∧E' s=E s)∨(s∉R∧Tk s∧E' s=E3 s)∨(s∉R∧¬ Tk s∧E' s=E s∧(E s).heavy=false∧∀ x∈(E s).ways,x.1∈R)∨(s∉R∧¬ Tk s∧E' s = .bad):=by
  intro s
  by_cases yg:s<zAb
  ·rw [hE' s yg,hE s yg]
   by_cases jC:s∈R
   ·have:zDh nt R ds e3 s (e.get s)=e.get s:=by
     simp only [zDh,List.contains_iff_mem.2 jC,Bool.true_or,cond_true]
    exact .inl ⟨jC,this⟩
   ·by_cases ht:Tk s
    ·exact .inr (.inl ⟨jC,ht,by rw [hE3 s yg];exact ht.2.1⟩)
    ·rcases zK1 nt R ds e3 s (e.get s) with ⟨_,h2⟩ | ⟨h1,h2,h3⟩ | h1 | ⟨h1,h2,h3,h4,h5⟩
     ·exact absurd h2 jC
     ·exact .inr (.inr (.inl ⟨jC,ht,h1,h2,h3⟩))
     ·exact .inr (.inr (.inr ⟨jC,ht,h1⟩))
     ·exact absurd ⟨yg,h1,h3,h4,h5⟩ ht
  ·have hb:E' s = .bad:=hEb' s (by omega)
   have ht:¬ Tk s:=fun ht=>yg ht.1
   by_cases jC:s∈R
   ·exact .inl ⟨jC,by rw [hb,kD s (by omega)]⟩
   ·exact .inr (.inr (.inr ⟨jC,ht,hb⟩))
 have hΦ:zDc w w4 Φ (fun b=>Φ3 b∧∀ r∈R,b∉L r):=fun b hb=>⟨⟨hΦ3 b hb,fun r _ wZ=>(C.own r b wZ).2.1 hb⟩,hk b (C.frz b hb).1 (.inl hb)⟩
 have LI:∀ r∈R,∀ b∈L r,w4.heap[b]? = w.heap[b]?:=fun r hr b hb=>hk b (C.own r b hb).1 (.inr (.inl ⟨r,hr,hb⟩))
 have hA:∀ b v,b.isWay=true→(zA8 w rv E b v∧∀ x∈b.ways,x.1∈R)→zA8 w4 rv E' b v:=by
  intro b v hw ⟨ha,hR⟩
  have hr:(zA9 b).1∈R:=by
   have:=hR (zA9 b)
   cases b<;>first | (cases hw;done) | (exact ha.elim) | skip
   all_goals exact this (by simp [PV.ways,zA9])
  have hg:=zC3 ha
  rcases fate (zA9 b).1 with ⟨_,h1⟩ | ⟨h1,_⟩ | ⟨h1,_⟩ | ⟨h1,_⟩
  ·exact zCM C zCk ha (by rw [h1,zBk]) rfl (LI _ hr)
  all_goals exact absurd hr h1
 have keepRep:∀ s,(∀ x∈(E s).ways,x.1∈R)→(∀ b∈L s,w4.heap[b]? = w.heap[b]?)→Rep w4 (fun b=>Φ3 b∧∀ r∈R,b∉L r) (zA8 w4 rv E') (E s) (rv s) (L s):=by
  intro s hx hL
  have h1:=Rep.ways (A':=fun b v=>zA8 w rv E b v∧∀ x∈b.ways,x.1∈R) (E s) (rv s) (L s) (fun b v _ gH ha=>⟨ha,fun x hxb=>hx x (gH x hxb)⟩) (C.rep s)
  exact h1.mono (Φ':=fun b=>Φ3 b∧∀ r∈R,b∉L r) hΦ hA hL
 refine ⟨E',L',hE',hEb',⟨fun s=>?_,fun s=>?_,fun s s' hI b hb yG=>?_,fun s b hb=>?_,fun b ⟨hb,_⟩=>?_,fun b hb=>⟨hΦ3 b (C.frz0 b hb),fun r _ wZ=>(C.own r b wZ).2.1 (C.frz0 b hb)⟩,Nat.le_trans C.size hs,
  fun b hb hu=>(hk b (Nat.lt_of_lt_of_le hb C.size) (.inr (.inr ⟨hb,hu⟩))).trans (C.kept b hb hu),ho.1.trans C.os,ho.2.1.trans C.tape,ho.2.2.trans C.output⟩,qt,fun s b hb=>?_,fun d ps hd hp=>?_⟩
 ·rcases fate s with ⟨h1,h2⟩ | ⟨h1,h2,h3⟩ | ⟨h1,h2,h3,h4,h5⟩ | ⟨h1,h2,h3⟩
  ·rw [h2,qt s h1];exact keepRep s (yO s h1) (LI s h1)
  ·rw [h3,gq s h1 h2]
   have jI:=j3 s h2.2.2.1
   rw [← jI]
   rcases h2.2.2.2.1 with hR | wM
   ·subst hR
    refine (C3.rep s).mono (Φ':=fun b=>Φ3 b∧∀ r∈([]:List Nat),b∉L r) (fun b hb=>⟨⟨hb,fun r hr=>by cases hr⟩,rfl⟩) (fun b v hw ha=>?_) (fun _ _=>rfl)
    have hg:=zC3 ha
    rcases fate (zA9 b).1 with ⟨h1,_⟩ | ⟨_,h4,h5⟩ | ⟨_,_,h5,h6,_⟩ | ⟨_,_,h5⟩
    ·cases h1
    ·exact zCM C3 zCk ha (by rw [h5,zBk]) (j3 _ h4.2.2.1).symm (fun _ _=>rfl)
    ·exact zLf ha (by rw [h5,zMS h6];exact h6)
    ·exact zLf ha (by rw [h5];rfl)
   ·exact Rep.free _ _ _ (by rw [hE3 s h2.1];exact wM) (C3.rep s)
  ·rw [h3,qu s h1 h2]
   have qL:=zDf _ _ _ h4 (C.rep s)
   have:=keepRep s h5 (by rw [qL];simp)
   rwa [qL] at this
  ·rw [h3,qu s h1 h2];rfl
 ·by_cases h1:s∈R
  ·rw [qt s h1];exact C.nodup s
  ·by_cases h2:Tk s
   ·rw [gq s h1 h2];exact C3.nodup s
   ·rw [qu s h1 h2];exact List.nodup_nil
 ·by_cases h1:s∈R
  ·rw [qt s h1] at hb
   by_cases j5:s'∈R
   ·rw [qt s' j5] at yG;exact C.disj s s' hI b hb yG
   ·by_cases je:Tk s'
    ·rw [gq s' j5 je] at yG;exact (C3.own s' b yG).2.1 (hΦR s h1 b hb)
    ·rw [qu s' j5 je] at yG;cases yG
  ·by_cases h2:Tk s
   ·rw [gq s h1 h2] at hb
    by_cases j5:s'∈R
    ·rw [qt s' j5] at yG;exact (C3.own s b hb).2.1 (hΦR s' j5 b yG)
    ·by_cases je:Tk s'
     ·rw [gq s' j5 je] at yG;exact C3.disj s s' hI b hb yG
     ·rw [qu s' j5 je] at yG;cases yG
   ·rw [qu s h1 h2] at hb;cases hb
 ·by_cases h1:s∈R
  ·rw [qt s h1] at hb
   have:=C.own s b hb
   exact ⟨Nat.lt_of_lt_of_le this.1 hs,fun ⟨_,h2⟩=>h2 s h1 hb,this.2.2⟩
  ·by_cases h2:Tk s
   ·rw [gq s h1 h2] at hb
    have:=C3.own s b hb
    refine ⟨this.1,fun ⟨h3,_⟩=>this.2.1 h3,?_⟩
    rcases hL3 s b hb with ⟨t,h3⟩ | h3
    ·exact (C.own t b h3).2.2
    ·exact .inr (Nat.le_trans C.size h3)
   ·rw [qu s h1 h2] at hb;cases hb
 ·refine ⟨(C3.frz b hb).1,?_⟩
  rcases hΦb b hb with h3 | ⟨t,h3⟩ | h3
  ·exact (C.frz b h3).2
  ·exact .inr (C.own t b h3).2.2
  ·exact .inr (.inr (Nat.le_trans C.size h3))
 ·by_cases h1:s∈R
  ·rw [qt s h1] at hb;exact .inl ⟨s,h1,hb⟩
  ·by_cases h2:Tk s
   ·rw [gq s h1 h2] at hb;exact .inr ⟨s,hb⟩
   ·rw [qu s h1 h2] at hb;cases hb
 ·rcases fate d with ⟨h1,h2⟩ | ⟨h1,h2,h3⟩ | ⟨h1,h2,h3,_⟩ | ⟨h1,h2,h3⟩
  ·rw [← h2];exact hp
  ·rw [h3,hE3 d hd] at hp
   have:=h2.2.2.2.2
   rw [hp] at this;cases this
  ·rw [← h3];exact hp
  ·rw [h3] at hp;cases hp
end
section
variable {P:Program} {H:zBh} {orc:zAF} {yo:zCV} {al:All} {w0 w:World} {U Φ0 Φ:Nat→Prop} {nt:Nat} {hv:Hid} {aM:Act} {e ef e3:Env} {rv:Nat→Value} {E:Nat→PV} {L:Nat→List Nat} {hh:FHint} {m:Nat}
def zJ7 (P:Program) (H:zBh) (orc:zAF) (yo:zCV) (al:All) (nt:Nat) (hh:FHint) (m:Nat) (c:Code) (e:Env):Option (X×Env) :=
 match exec P H orc yo al nt hh m c e none with
 | some (x,e',none)=>some (x,e')
 | _=>none
theorem zKH {c:Code} {e e':Env} {x:X} (h:zJ7 P H orc yo al nt hh m c e=some (x,e')):exec P H orc yo al nt hh m c e none=some (x,e',none):=by
 simp only [zJ7] at h
 split at h
 ·rename_i hx;cases h;exact hx
 ·cases h
theorem zKg:∀ (R:List Nat) {e ef:Env},zEu R e=some ef→∀ r∈R,r<zAb
 | [],_,_,_,r,hr=>by cases hr
 | t :: R,e,ef,h,r,hr=>by
  simp only [zEu] at h
  rcases zBn h with ⟨h1,h⟩ | ⟨_,h⟩
  ·split at h
   ·rcases List.mem_cons.1 hr with rfl | hr
    ·exact zB3 h1
    ·exact zKg R h r hr
   ·cases h
  ·cases h
theorem zOo (zE3:P.follows .mixedOrders=true) (jF:zGc P orc) (hnm:zER P) {ps:Array Tmp} {ca cb:Code} {ds:List Nat} {x:List PV} {r:X} (y1:∀ t∈ps.toList,t<nt) (hca:zCL P nt ca=true) (hcb:zCL P nt cb=true) (hna:zC4 ca=true) (hnb:zC4 cb=true)
  (hdp:∀ t∈ps.toList,t∈ds) (vi:∀ d∈zBS ca,d∈ds) (hdb:∀ d∈zBS cb,d∈ds) (hx:x.all PV.flat=true) (S:St w0 U Φ0 nt hv aM w e Φ rv E L) (hb:zBs E)
  {l:Nat} {rc:Go.Loop} (uX:rc.params=ps) (uT:rc.assign=ca) (hrb:rc.body=cb) (wg:rc.tmps=aM.tmps) (jI:rc.state = .ready) (hl:w.heap[l]? = some (.loop rc)) (hlL:∀ s,l∉L s) (hlΦ:¬ Φ l) (wB:w0.heap.size≤l)
  {R:List Nat} (hR:(R=[]∧ef=e)∨(zF0 e R=true∧zEu R e=some ef)) (yS:zJM (zJ7 P H orc yo al nt hh m) ps.toList ca cb x ef=some (r,e3)) :
  YieldAt (FF none) 0 P l (x.map zCQ).toArray w fun en w4=>en = .returned (.bool r.isNorm)∧w.heap.size≤w4.heap.size∧(w4.os=w.os∧w4.tape=w.tape∧w4.output=w.output) ∧
   w4.heap[l]? = some (.loop {rc with state:=bif r.isNorm then .ready else .done,pending:=bif r.isNorm then none else some (zIi r)})∧(∀ b,b<w.heap.size→b≠l→(∀ s,s∉R→b∉L s)→w4.heap[b]? = w.heap[b]?) ∧
   ∃ Φ4 E4 L4,St w0 U Φ0 nt hv aM w4 (after nt R ds e e3) Φ4 rv E4 L4∧zBs E4∧(∀ b,Φ b→Φ4 b)∧(∀ b,Φ4 b→Φ b∨(∃ s,b∈L s)∨w.heap.size≤b)∧(∀ r∈R,L4 r=L r)∧∀ s,∀ b∈L4 s,(∃ t,b∈L t)∨w.heap.size≤b:=by
 subst uT;subst hrb
 have wa:zAb=1000000000:=rfl
 have kA:=S.small
 have hlw:l<w.heap.size:=(Array.getElem?_eq_some_iff.1 hl).1
 obtain ⟨Φr,Er,Lr,Sr,wZ,f1,f2,f3,f4⟩:∃ Φr Er Lr,St w (fun b=>∃ s,b∈L s) Φ nt hv aM w ef Φr rv Er Lr∧zBs Er∧(∀ b,Φ b→Φr b)∧(∀ b,Φr b→Φ b∨∃ r∈R,b∈L r)∧(∀ r∈R,∀ b∈L r,Φr b)∧∀ s,∀ b∈Lr s,b∈L s:=by
  rcases hR with ⟨rfl,rfl⟩ | ⟨_,hf⟩
  ·exact ⟨Φ,E,L,S.with S.conf.fresh,hb,fun _ h=>h,fun _ h => .inl h,fun _ h=>(by cases h),fun _ _ h=>h⟩
  ·exact zIX R (S.with S.conf.fresh) hb hf
 have yO:∀ r∈R,∀ x∈(E r).ways,x.1∈R:=by
  rcases hR with ⟨rfl,_⟩ | ⟨hc,hf⟩
  ·intro r hr;cases hr
  ·intro r hr x hx
   have:=List.all_eq_true.1 hc r hr
   rw [S.env r (zKg R hf r hr)] at hx
   exact List.contains_iff_mem.1 (List.all_eq_true.1 this x hx)
 have hlr:∀ s,l∉Lr s:=fun s hs=>hlL s (f4 s l hs)
 have hlΦr:¬ Φr l:=fun h=>(f2 l h).elim hlΦ fun ⟨t,_,ht⟩=>hlL t ht
 simp only [zJM] at yS
 cases jc:zCv ps.toList x ef with
 | none=>rw [jc] at yS;cases yS
 | some e1 =>
  rw [jc] at yS;simp only at yS
  split at yS
  ·rename_i e2 hra1
   have j9:=zKH hra1
   have jY:=zKH yS
   have S0:St w (fun b=>∃ s,b∈Lr s) Φr nt ⟨hv.val,[]⟩ {tmps:=aM.tmps,defers:=[]} w ef Φr rv Er Lr :=
    ⟨Sr.conf.fresh,Sr.env,Sr.size,Sr.small,Sr.tmps,Sr.parts,Sr.hid,rfl⟩
   obtain ⟨g1,g2,g3⟩:=zHU ps.toList x ⟨_,_,_,_,S0,wZ⟩ y1 hx jc
   have kV:=run_yield (P:=P) (args:=(x.map zCQ).toArray) hl (by rw [uX];simpa using g1.symm)
   have hfold:(rc.params.zip (x.map zCQ).toArray).foldl (fun tmps (t,a)=>tmps.setIfInBounds t a) rc.tmps=(ps.toList.zip (x.map zCQ)).foldl (fun t (p,v)=>t.setIfInBounds p v) aM.tmps:=by
    rw [uX,wg,← Array.foldl_toList]
    simp
   refine ⟨_,_,_,_,kV,roundIn_of_wpIn trivial ?_⟩
   rw [hfold]
   refine wpIn_mono (zHx (zUL (l:=l) (tm:=aM.tmps) jF hnm) zE3 m rc.assign (.inl hna) hca vi rfl ⟨rfl,g2,fun t ht=>g3 t (fun h=>ht (hdp t h))⟩ j9) fun ex a1 w1 ⟨gp,_,hf1,ht1⟩=>?_
   subst gp
   obtain ⟨Φa,rva,Ea,La,Sa,hba⟩:=hf1
   have vo:w1.heap[l]? = some (.loop rc):=(Sa.conf.kept l hlw (fun ⟨s,hs⟩=>hlr s hs)).trans hl
   have hla:∀ s,l∉La s:=fun s hs=>by rcases (Sa.conf.own s l hs).2.2 with ⟨t,ht⟩ | h2<;>first | exact hlr t ht | omega
   have hlΦa:¬ Φa l:=fun h=>by rcases (Sa.conf.frz l h).2 with h2 | ⟨t,ht⟩ | h2<;>first | exact hlΦr h2 | exact hlr t ht | omega
   refine ⟨_,run_beginRound vo jI,?_⟩
   obtain ⟨w2,vS⟩:∃ w2,w1.putObj l (.loop {rc with state := .busy})=w2:=⟨_,rfl⟩
   rw [vS]
   have hlw1:l<w1.heap.size:=(Array.getElem?_eq_some_iff.1 vo).1
   have qv:∀ b,b≠l→w2.heap[b]? = w1.heap[b]?:=fun b hb=>by rw [← vS];exact World.putObj_heap_other hb
   have h2l:w2.heap[l]? = some (.loop {rc with state := .busy}):=by rw [← vS];exact World.putObj_heap_same hlw1
   have h2s:w1.heap.size≤w2.heap.size:=by rw [← vS];simp
   have wN:w2.os=w1.os∧w2.tape=w1.tape∧w2.output=w1.output:=by rw [← vS];exact ⟨rfl,rfl,rfl⟩
   have C2:=Sa.conf.arrive h2s (fun s b hb=>qv b fun e=>hla s (e▸hb)) (fun b hb=>qv b fun e=>hlΦa (e▸hb))
   refine wpIn_mono (zHx (zUL (l:=l) (tm:=aM.tmps) jF hnm) zE3 m rc.body (.inl hnb) hcb hdb rfl ⟨rfl,⟨_,_,_,_,Sa.with C2,hba⟩,ht1⟩ jY) fun ex a3 w3 ⟨gp,_,hf3,ht3⟩=>?_
   obtain ⟨Φ3,rv3,E3,L3,S3,qo⟩:=hf3
   have hlw2:l<w2.heap.size:=by omega
   have hl3:w3.heap[l]? = some (.loop {rc with state := .busy}):=(S3.conf.kept l hlw2 (fun ⟨s,hs⟩=>hla s hs)).trans h2l
   have hl3L:∀ s,l∉L3 s:=fun s hs=>by rcases (S3.conf.own s l hs).2.2 with ⟨t,ht⟩ | h2<;>first | exact hla t ht | omega
   have hl3Φ:¬ Φ3 l:=fun h=>by rcases (S3.conf.frz l h).2 with h2 | ⟨t,ht⟩ | h2<;>first | exact hlΦa h2 | exact hla t ht | omega
   have hlw3:l<w3.heap.size:=(Array.getElem?_eq_some_iff.1 hl3).1
   have hws:w.heap.size≤w1.heap.size:=Sa.conf.size
   have hws3:w2.heap.size≤w3.heap.size:=S3.conf.size
   have hLa:∀ s,∀ b∈La s,(∃ t,b∈L t)∨w.heap.size≤b:=fun s b hb=>(Sa.conf.own s b hb).2.2.imp (fun ⟨t,ht⟩=>⟨t,f4 t b ht⟩) id
   have hL3:∀ s,∀ b∈L3 s,(∃ t,b∈L t)∨w.heap.size≤b:=fun s b hb=>by
    rcases (S3.conf.own s b hb).2.2 with ⟨t,ht⟩ | h2
    ·exact hLa t b ht
    ·exact .inr (by omega)
   have hΦ3:∀ b,Φr b→Φ3 b:=fun b hb=>S3.conf.frz0 b (Sa.conf.frz0 b hb)
   have hΦb:∀ b,Φ3 b→Φ b∨(∃ s,b∈L s)∨w.heap.size≤b:=fun b hb=>by
    rcases (S3.conf.frz b hb).2 with h2 | ⟨t,ht⟩ | h2
    ·rcases (Sa.conf.frz b h2).2 with h4 | ⟨t,ht⟩ | h4
     ·rcases f2 b h4 with h5 | ⟨t,_,ht⟩
      ·exact .inl h5
      ·exact .inr (.inl ⟨t,ht⟩)
     ·exact .inr (.inl ⟨t,f4 t b ht⟩)
     ·exact .inr (.inr h4)
    ·exact .inr (hLa t b ht)
    ·exact .inr (.inr (by omega))
   have hkept:∀ b,b<w.heap.size→b≠l→(∀ s,b∉Lr s)→w3.heap[b]? = w.heap[b]?:=by
    intro b gj hbl jL
    have e1:=Sa.conf.kept b gj (fun ⟨s,hs⟩=>jL s hs)
    have e3:=S3.conf.kept b (by omega) (fun ⟨s,hs⟩=>by
     rcases (Sa.conf.own s b hs).2.2 with ⟨t,ht⟩ | h2
     ·exact jL t ht
     ·omega)
    rw [e3,qv b hbl,e1]
   have hRr:∀ t∈R,∀ b∈L t,∀ s,b∉Lr s:=fun t ht b kX s hs=>(Sr.conf.own s b hs).2.1 (f3 t ht b kX)
   have fin:∀ (w4:World),(∀ b,b≠l→w4.heap[b]? = w3.heap[b]?)→w4.heap.size=w3.heap.size→(w4.os=w3.os∧w4.tape=w3.tape∧w4.output=w3.output)→w4.heap[l]? = some (.loop {rc with state:=bif r.isNorm then .ready else .done,pending:=bif r.isNorm then none else some (zIi r)}) →
     w.heap.size≤w4.heap.size∧(w4.os=w.os∧w4.tape=w.tape∧w4.output=w.output) ∧
     w4.heap[l]? = some (.loop {rc with state:=bif r.isNorm then .ready else .done,pending:=bif r.isNorm then none else some (zIi r)})∧(∀ b,b<w.heap.size→b≠l→(∀ s,s∉R→b∉L s)→w4.heap[b]? = w.heap[b]?) ∧
     ∃ Φ4 E4 L4,St w0 U Φ0 nt hv aM w4 (after nt R ds e e3) Φ4 rv E4 L4∧zBs E4∧(∀ b,Φ b→Φ4 b)∧(∀ b,Φ4 b→Φ b∨(∃ s,b∈L s)∨w.heap.size≤b)∧(∀ r∈R,L4 r=L r)∧∀ s,∀ b∈L4 s,(∃ t,b∈L t)∨w.heap.size≤b:=by
    intro w4 qw h4s wO h4l
    have uJ:w4.os=w.os∧w4.tape=w.tape∧w4.output=w.output:=⟨wO.1.trans (S3.conf.os.trans (wN.1.trans Sa.conf.os)),wO.2.1.trans (S3.conf.tape.trans (wN.2.1.trans Sa.conf.tape)),wO.2.2.trans (S3.conf.output.trans (wN.2.2.trans Sa.conf.output))⟩
    have C4:=S3.conf.arrive (w':=w4) (by omega) (fun s b hb=>qw b fun e=>hl3L s (e▸hb)) (fun b hb=>qw b fun e=>hl3Φ (e▸hb))
    have hk4:∀ b,b<w.heap.size→b≠l→(∀ s,b∉Lr s)→w4.heap[b]? = w.heap[b]?:=fun b h1 h2 h3=>(qw b h2).trans (hkept b h1 h2 h3)
    obtain ⟨E',L',q1,q2,q3,q4,q5,q6⟩:=S.conf.behind (nt:=nt) (R:=R) (ds:=ds) (e3:=e3) S.env hb C4 S3.env yO (fun s hs=>by
      rcases hs with ⟨h1,h2⟩ | ⟨h1,h2⟩
      ·rw [← S3.tmps s h1,ht3 s h2,S.tmps s h1]
      ·exact (S3.hid s h1 h2).trans (S.hid s h1 h2).symm) (by omega) (fun b gj hc=>hk4 b gj (fun e=>by
       subst e
       rcases hc with h1 | ⟨t,_,h1⟩ | ⟨h1,_⟩
       ·exact hlΦ h1
       ·exact hlL t h1
       ·omega) (fun s hs=>by
       rcases hc with h1 | ⟨t,ht,h1⟩ | ⟨h1,h2⟩
       ·exact (S.conf.own s b (f4 s b hs)).2.1 h1
       ·exact hRr t ht b h1 s hs
       ·rcases (S.conf.own s b (f4 s b hs)).2.2 with h3 | h3
        ·exact h2 h3
        ·omega)) (fun b hb=>hΦ3 b (f1 b hb)) hΦb (fun t ht b kX=>hΦ3 b (f3 t ht b kX)) hL3 uJ
    refine ⟨by omega,uJ,h4l,fun b h1 h2 h3=>hk4 b h1 h2 fun s hs=>?_,_,E',L',⟨q3,fun s hs=>by rw [q1 s hs,zQs],S.size,S.small,S.tmps,fun d ps i hd hp hi=>?_,S.hid,S.dfr⟩,q2,fun b hb=>⟨hΦ3 b (f1 b hb),fun t _ ht=>(S.conf.own t b ht).2.1 hb⟩,fun b hb=>hΦb b hb.1,q4,fun s b hb=>?_⟩
    ·by_cases jC:s∈R
     ·exact hRr s jC b (f4 s b hs) s hs
     ·exact h3 s jC (f4 s b hs)
    ·exact S.parts d ps i hd (q6 d ps (by omega) hp) hi
    ·rcases q5 s b hb with ⟨t,_,ht⟩ | ⟨t,ht⟩
     ·exact .inl ⟨t,ht⟩
     ·exact hL3 t b ht
   have put_o:∀ o:Obj,(∀ b,b≠l→(w3.putObj l o).heap[b]? = w3.heap[b]?)∧(w3.putObj l o).heap.size=w3.heap.size∧((w3.putObj l o).os=w3.os∧(w3.putObj l o).tape=w3.tape∧(w3.putObj l o).output=w3.output)∧(w3.putObj l o).heap[l]? = some o :=
    fun o=>⟨fun b hb=>World.putObj_heap_other hb,by simp,⟨rfl,rfl,rfl⟩,World.putObj_heap_same hlw3⟩
   subst gp
   cases r with
   | norm =>
    have he:(Instr.endRound l none).run P w3 = .ok (.bool true) (w3.putObj l (.loop {rc with state := .ready,pending:=none})):=by rw [run_endRound none hl3];rfl
    refine ⟨_,_,he,?_⟩
    obtain ⟨p1,p2,p3,p4⟩:=put_o (.loop {rc with state := .ready,pending:=none})
    exact ⟨rfl,fin _ p1 p2 p3 p4⟩
   | ret =>
    have he:(Instr.endRound l (some .ret)).run P w3 = .ok (.bool false) (w3.putObj l (.loop {rc with state := .done,pending:=some .ret})):=by rw [run_endRound (some .ret) hl3];rfl
    refine ⟨_,_,he,?_⟩
    obtain ⟨p1,p2,p3,p4⟩:=put_o (.loop {rc with state := .done,pending:=some .ret})
    exact ⟨rfl,fin _ p1 p2 p3 p4⟩
   | ex id =>
    have he:(Instr.endRound l (some (.exit id))).run P w3 = .ok (.bool false) (w3.putObj l (.loop {rc with state := .done,pending:=some (.exit id)})):=by rw [run_endRound (some (.exit id)) hl3];rfl
    refine ⟨_,_,he,?_⟩
    obtain ⟨p1,p2,p3,p4⟩:=put_o (.loop {rc with state := .done,pending:=some (.exit id)})
    exact ⟨rfl,fin _ p1 p2 p3 p4⟩
  ·cases yS
end
end Go.Eng
namespace Go.Eng
open Go
section
variable {P:Program} {H:zBh} {orc:zAF} {yo:zCV} {al:All} {w0 w w':World} {U Φ0 Φ:Nat→Prop} {nt:Nat} {hv:Hid} {aM a:Act} {e e' ef e3:Env} {rv:Nat→Value} {E:Nat→PV} {L:Nat→List Nat} {hh:FHint} {m:Nat}
structure Side (w0:World) (U Φ0:Nat→Prop) (nt:Nat) (hv:Hid) (aM:Act) (rv:Nat→Value) (l D size2:Nat) (rc:Go.Loop) (Φs:Nat→Prop) (Ls:Nat→List Nat) (R:List Nat) (w:World) (e:Env) (Φ:Nat→Prop) (E:Nat→PV) (L:Nat→List Nat) (B:Nat→Prop):Prop where
 st:St w0 U Φ0 nt hv aM w e Φ rv E L
 emp:zBs E
 recd:w.heap[l]? = some (.loop rc)
 mark:w.heap[D]? = some (.deferred (some []))
 lL:∀ s,l∉L s
 dL:∀ s,D∉L s
 lΦ:¬ Φ l
 dΦ:¬ Φ D
 BL:∀ s,∀ b∈L s,B b
 BΦ:∀ b,Φ b→B b
 old:∀ b,b<size2→B b
 small:∀ b,B b→b<w.heap.size
 see:∀ b,Φs b→Φ b
 Rs:∀ r∈R,L r=Ls r
structure Left (w0:World) (U Φ0:Nat→Prop) (nt:Nat) (hv:Hid) (aM:Act) (rv:Nat→Value) (l D:Nat) (rc:Go.Loop) (r:X) (w:World) (e:Env) (Φ:Nat→Prop) (E:Nat→PV) (L:Nat→List Nat):Prop where
 st:St w0 U Φ0 nt hv aM w e Φ rv E L
 emp:zBs E
 recd:w.heap[l]? = some (.loop {rc with state := .done,pending:=some (zIi r)})
 mark:w.heap[D]? = some (.deferred (some []))
 lL:∀ s,l∉L s
 dL:∀ s,D∉L s
 lΦ:¬ Φ l
 dΦ:¬ Φ D
theorem zIH {run:Code→Env→Option (X×Env)} {ps:List Tmp} {ca cb:Code} {R ds:List Nat} {x:List PV} {xs:List (List PV)} {j:Nat} :
  zC9 nt run ps ca cb R ds (x::xs) e j=match zJM run ps ca cb x e with
   | some (.norm,e3)=>(match R with
    | []=>zC9 nt run ps ca cb R ds xs (after nt [] ds e e3) (j+1)
    | r :: R=>match (bif zF0 e (zCW e (r::R)) then zEu (zCW e (r::R)) e else none) with
     | some e1=>match zJM run ps ca cb x e1 with
      | some (.norm,e3)=>zC9 nt run ps ca cb (r::R) ds xs (after nt (zCW e (r::R)) ds e e3) (j+1)
      | _=>none
     | none=>none)
   | some (r,e3)=>some (some (j+1,r),after nt [] ds e e3)
   | none=>none:=rfl
theorem zTT {rc:Go.Loop} (h1:rc.state = .ready) (h2:rc.pending=none):{rc with state := .ready,pending:=none}=rc:=by
 cases rc;simp only at h1 h2;subst h1;subst h2;rfl
theorem zRN (zE3:P.follows .mixedOrders=true) (jF:zGc P orc) (hnm:zER P) {ps:Array Tmp} {ca cb:Code} {ds:List Nat} (y1:∀ t∈ps.toList,t<nt) (hca:zCL P nt ca=true) (hcb:zCL P nt cb=true) (hna:zC4 ca=true) (hnb:zC4 cb=true)
  (hdp:∀ t∈ps.toList,t∈ds) (vi:∀ d∈zBS ca,d∈ds) (hdb:∀ d∈zBS cb,d∈ds) {l D size2:Nat} {rc:Go.Loop} (uX:rc.params=ps) (uT:rc.assign=ca) (hrb:rc.body=cb) (wg:rc.tmps=aM.tmps) (jI:rc.state = .ready) (hrn:rc.pending=none)
  (wB:w0.heap.size≤l) (qM:l<size2) (hd2:D<size2) (h02:w0.heap.size≤size2) (hld:l≠D) {Φs:Nat→Prop} {Ls:Nat→List Nat} {R:List Nat} {plan:List (List PV)} {k0:Int} {res:Option (Nat×X)×Env}
  (yc:(res.1=none∧k0 = -1)∨∃ r,res.1=some (plan.length,r)∧k0=plan.length) :
  Client P l plan k0 (fun b=>Φs b∨∃ r∈R,b∈Ls r)
   (fun xs w B=>∃ rest e Φ E L,plan=xs++rest∧zC9 nt (zJ7 P H orc yo al nt hh m) ps.toList ca cb R ds rest e xs.length=some res∧Side w0 U Φ0 nt hv aM rv l D size2 rc Φs Ls R w e Φ E L B)
   (fun w=>∃ r Φ E L,(∃ j,res.1=some (j,r))∧r.isNorm=false∧Left w0 U Φ0 nt hv aM rv l D rc r w res.2 Φ E L):=by
 refine ⟨?_,?_,?_,?_,?_⟩
 ·rintro xs w w' B ⟨rest,e,Φ,E,L,h1,h2,S⟩ hs hB ho
  refine ⟨rest,e,Φ,E,L,h1,h2,⟨S.st.with (S.st.conf.moved hs (fun s b hb=>hB b (S.BL s b hb)) (fun b hb=>hB b (S.BΦ b hb)) (fun b hb _=>hB b (S.old b (by omega))) ho),S.emp,(hB l (S.old l qM)).trans S.recd,(hB D (S.old D hd2)).trans S.mark,
   S.lL,S.dL,S.lΦ,S.dΦ,S.BL,S.BΦ,S.old,fun b hb=>Nat.lt_of_lt_of_le (S.small b hb) hs,S.see,S.Rs⟩⟩
 ·rintro xs w B ⟨rest,e,Φ,E,L,h1,h2,S⟩
  exact S.small
 ·rintro xs x w B ⟨rest,e,Φ,E,L,h1,h2,S⟩ ud hk jl
  have hlw:l<w.heap.size:=S.small l (S.old l qM)
  have vT:D<w.heap.size:=S.small D (S.old D hd2)
  obtain ⟨rest',rfl⟩:∃ rest',rest=x::rest':=by
   obtain ⟨t,ht⟩:=ud
   rw [h1,List.append_assoc] at ht
   exact ⟨t,(List.append_cancel_left ht).symm⟩
  rw [zIH] at h2
  have go:∀ (R':List Nat) (ef e3:Env),(∀ r∈R,r∈R')→((R'=[]∧ef=e)∨(zF0 e R'=true∧zEu R' e=some ef))→zJM (zJ7 P H orc yo al nt hh m) ps.toList ca cb x ef=some (.norm,e3) →
    zC9 nt (zJ7 P H orc yo al nt hh m) ps.toList ca cb R ds rest' (after nt R' ds e e3) (xs.length+1)=some res →
    YieldAt (FF none) 0 P l (x.map zCQ).toArray w fun en w'=>en = .returned (.bool true)∧Apart w w' B (fun b=>Φs b∨∃ r∈R,b∈Ls r) ∧
     ∃ B',(∃ rest e Φ E L,plan=(xs++[x])++rest∧zC9 nt (zJ7 P H orc yo al nt hh m) ps.toList ca cb R ds rest e (xs++[x]).length=some res∧Side w0 U Φ0 nt hv aM rv l D size2 rc Φs Ls R w' e Φ E L B')∧∀ b,B' b→B b∨w.heap.size≤b:=by
   intro R' ef e3 hRR hR' uq yi
   obtain ⟨fn,tm,c1,c2,hy,yS⟩:=zOo zE3 jF hnm y1 hca hcb hna hnb hdp vi hdb jl S.st S.emp uX uT hrb wg jI S.recd S.lL S.lΦ wB hR' uq
   refine ⟨fn,tm,c1,c2,hy,yS.mono fun en w4 ⟨vA,g1,g2,g3,g4,Φ4,E4,L4,S4,hb4,g5,g6,g7,g8⟩=>?_⟩
   have keepL:∀ b,b<w.heap.size→b≠l→(∀ s,b∉L s)→w4.heap[b]? = w.heap[b]?:=fun b h1 h2 h3=>g4 b h1 h2 fun s _=>h3 s
   refine ⟨vA,⟨g1,g2.1,g2.2.1,g2.2.2,fun b hb hnB=>keepL b hb (fun e=>hnB (e▸S.old l qM)) (fun s hs=>hnB (S.BL s b hs)),fun b hb=>?_⟩,fun b=>B b∨(w.heap.size≤b∧b<w4.heap.size),⟨rest',_,Φ4,E4,L4,by rw [h1];simp,by simpa using yi,?_⟩,fun b hb=>hb.imp id (fun h=>h.1)⟩
   ·rcases hb with hb | ⟨r,hr,hb⟩
    ·have hΦ:=S.see b hb
     exact keepL b (S.st.conf.frz b hΦ).1 (fun e=>S.lΦ (e▸hΦ)) (fun s hs=>(S.st.conf.own s b hs).2.1 hΦ)
    ·rw [← S.Rs r hr] at hb
     exact g4 b (S.st.conf.own r b hb).1 (fun e=>S.lL r (e▸hb)) (fun s hs jy=>S.st.conf.disj s r (fun e=>hs (e▸hRR r hr)) b jy hb)
   ·refine ⟨S4,hb4,?_,(keepL D vT (Ne.symm hld) S.dL).trans S.mark,fun s hs=>?_,fun s hs=>?_,fun h=>?_,fun h=>?_,fun s b hs=>?_,fun b hb=>?_,fun b hb => .inl (S.old b hb),fun b hb=>?_,fun b hb=>g5 b (S.see b hb),fun r hr=>(g7 r (hRR r hr)).trans (S.Rs r hr)⟩
    ·rw [g3];simp only [X.isNorm,cond_true];rw [zTT jI hrn]
    ·rcases g8 s l hs with ⟨t,ht⟩ | h<;>first | exact S.lL t ht | omega
    ·rcases g8 s D hs with ⟨t,ht⟩ | h<;>first | exact S.dL t ht | omega
    ·rcases g6 l h with h | ⟨t,ht⟩ | h<;>first | exact S.lΦ h | exact S.lL t ht | omega
    ·rcases g6 D h with h | ⟨t,ht⟩ | h<;>first | exact S.dΦ h | exact S.dL t ht | omega
    ·rcases g8 s b hs with ⟨t,ht⟩ | h
     ·exact .inl (S.BL t b ht)
     ·exact .inr ⟨h,(S4.conf.own s b hs).1⟩
    ·rcases g6 b hb with h | ⟨t,ht⟩ | h
     ·exact .inl (S.BΦ b h)
     ·exact .inl (S.BL t b ht)
     ·exact .inr ⟨h,(S4.conf.frz b hb).1⟩
    ·rcases hb with h | h
     ·exact Nat.lt_of_lt_of_le (S.small b h) g1
     ·exact h.2
  split at h2
  ·rename_i e3 uq
   cases R with
   | nil=>exact go [] e e3 (fun r hr=>hr) (.inl ⟨rfl,rfl⟩) uq h2
   | cons r R =>
    simp only at h2
    split at h2
    ·rename_i e1 hf
     rcases zBn hf with ⟨hc,hf⟩ | ⟨_,hf⟩
     ·split at h2
      ·rename_i e4 hro2
       exact go _ e1 e4 (fun t ht=>List.mem_append_left _ ht) (.inr ⟨hc,hf⟩) hro2 h2
      ·cases h2
     ·cases hf
    ·cases h2
  ·rename_i r e3 hI uq
   simp only [Option.some.injEq] at h2
   subst h2
   rcases yc with ⟨hr,_⟩ | ⟨r',hr,vO⟩
   ·cases hr
   ·simp only [Option.some.injEq,Prod.mk.injEq] at hr
    exfalso;apply hk;omega
  ·cases h2
 ·rintro xs x w B ⟨rest,e,Φ,E,L,h1,h2,S⟩ ud hk jl
  have hlw:l<w.heap.size:=S.small l (S.old l qM)
  have vT:D<w.heap.size:=S.small D (S.old D hd2)
  obtain ⟨rest',rfl⟩:∃ rest',rest=x::rest':=by
   obtain ⟨t,ht⟩:=ud
   rw [h1,List.append_assoc] at ht
   exact ⟨t,(List.append_cancel_left ht).symm⟩
  have qL:rest'=[]∧res.1≠none:=by
   rcases yc with ⟨_,vO⟩ | ⟨r,hr,vO⟩
   ·omega
   ·rw [h1] at vO
    simp at vO
    exact ⟨List.eq_nil_of_length_eq_zero (by omega),by rw [hr];simp⟩
  obtain ⟨rfl,w6⟩:=qL
  rw [zIH] at h2
  have none_:∀ {f:Env} {j:Nat} {R':List Nat},zC9 nt (zJ7 P H orc yo al nt hh m) ps.toList ca cb R' ds [] f j=some res→False:=by
   intro f j R' h
   simp only [zC9,Option.some.injEq] at h
   rw [← h] at w6;exact w6 rfl
  split at h2
  ·cases R with
   | nil=>exact (none_ h2).elim
   | cons r R =>
    simp only at h2
    split at h2
    ·split at h2
     ·exact (none_ h2).elim
     ·cases h2
    ·cases h2
  ·rename_i r e3 hI uq
   simp only [Option.some.injEq] at h2
   have hrn':r.isNorm=false:=by cases r<;>first | rfl | exact (hI rfl).elim
   obtain ⟨fn,tm,c1,c2,hy,yS⟩:=zOo (R:=[]) zE3 jF hnm y1 hca hcb hna hnb hdp vi hdb jl S.st S.emp uX uT hrb wg jI S.recd S.lL S.lΦ wB (.inl ⟨rfl,rfl⟩) uq
   refine ⟨fn,tm,c1,c2,hy,yS.mono fun en w4 ⟨vA,g1,g2,g3,g4,Φ4,E4,L4,S4,hb4,g5,g6,g7,g8⟩=>?_⟩
   rw [hrn'] at vA g3
   have keepL:∀ b,b<w.heap.size→b≠l→(∀ s,b∉L s)→w4.heap[b]? = w.heap[b]?:=fun b h1 h2 h3=>g4 b h1 h2 fun s _=>h3 s
   refine ⟨vA,r,Φ4,E4,L4,⟨xs.length+1,by rw [← h2]⟩,hrn',by rw [← h2];exact S4,hb4,g3,(keepL D vT (Ne.symm hld) S.dL).trans S.mark,fun s hs=>?_,fun s hs=>?_,fun h=>?_,fun h=>?_⟩
   ·rcases g8 s l hs with ⟨t,ht⟩ | h<;>first | exact S.lL t ht | omega
   ·rcases g8 s D hs with ⟨t,ht⟩ | h<;>first | exact S.dL t ht | omega
   ·rcases g6 l h with h | ⟨t,ht⟩ | h<;>first | exact S.lΦ h | exact S.lL t ht | omega
   ·rcases g6 D h with h | ⟨t,ht⟩ | h<;>first | exact S.dΦ h | exact S.dL t ht | omega
  ·cases h2
 ·rintro w w' ⟨r,Φ,E,L,h1,h2,S⟩ hs hk ho
  have hlw:l<w.heap.size:=(Array.getElem?_eq_some_iff.1 S.recd).1
  have vT:D<w.heap.size:=(Array.getElem?_eq_some_iff.1 S.mark).1
  exact ⟨r,Φ,E,L,h1,h2,S.st.with (S.st.conf.moved hs (fun s b hb=>hk b (S.st.conf.own s b hb).1) (fun b hb=>hk b (S.st.conf.frz b hb).1) (fun b hb _=>hk b (Nat.lt_of_lt_of_le hb S.st.conf.size)) ho),S.emp,(hk l hlw).trans S.recd,(hk D vT).trans S.mark,
   S.lL,S.dL,S.lΦ,S.dΦ⟩
structure Marks (z:Nat) (w1:World) (U1 Φ1:Nat→Prop) (ds:List Deferred):Prop where
 each:∀ d∈ds,∃ D,d.target = .collected D∧z≤D∧D<w1.heap.size∧w1.heap[D]? = some (.deferred (some []))∧¬ U1 D∧¬ Φ1 D
 apart:ds.Pairwise fun d d'=>∀ D D',d.target = .collected D→d'.target = .collected D'→D≠D'
def FrB (w0:World) (U Φ0:Nat→Prop) (nt:Nat) (val:Nat→Value) (a:Act) (w:World) (e:Env):Prop :=
 ∃ w1 U1 Φ1 ds,Rel w0 U Φ0 w1 U1 Φ1∧Marks w0.heap.size w1 U1 Φ1 ds∧Fr w1 U1 Φ1 nt ⟨val,ds⟩ a w e
def GB (w0:World) (U Φ0:Nat→Prop) (nt:Nat) (val:Nat→Value) (a:Act) (w:World) (e:Env) (lg:Option Log):Prop:=lg=none∧FrB w0 U Φ0 nt val a w e
theorem zWu {val:Nat→Value} (jF:zGc P orc) (hnm:zER P):Frame P H orc nt none 0 (fun _=>True) (fun lg=>lg=none) (GB w0 U Φ0 nt val):=by
 refine ⟨?_,?_,?_,?_,?_,?_,?_⟩
 ·intro ops o fz tk nl e e' lg lg' h hf
  cases lg with
  | none=>rfl
  | some g=>obtain ⟨g',h2,_⟩:=zHK h;rw [h2] at hf;cases hf
 ·intro ops i o fz tk nl a w e e' lg lg' Q jA hi hd yI ⟨vR,w1,U1,Φ1,ds,h1,h2,hf⟩ h
  subst vR
  simp only [zCT] at h
  obtain ⟨e1,h3,h4⟩:=Option.map_eq_some_iff.1 h
  cases h4
  exact zDH (zKZ jF hnm jA hf hi h3) fun a' w' yq=>⟨rfl,w1,U1,Φ1,ds,h1,h2,yq⟩
 ·intro a w e e' lg ⟨h1,w1,U1,Φ1,ds,h2,h3,hf⟩ hg
  exact ⟨h1,w1,U1,Φ1,ds,h2,h3,hf.get' hg⟩
 ·intro a w e lg d ⟨h1,w1,U1,Φ1,ds,h2,h3,hf⟩
  exact ⟨h1,w1,U1,Φ1,ds,h2,h3,hf.tick d⟩
 ·intro a w e lg l ⟨h1,w1,U1,Φ1,ds,h2,h3,hf⟩
  exact ⟨h1,w1,U1,Φ1,ds,h2,h3,hf.drop l⟩
 ·intro a w e lg l ⟨h1,w1,U1,Φ1,ds,h2,h3,hf⟩
  exact ⟨h1,w1,U1,Φ1,ds,h2,h3,hf.ice⟩
 ·intro a w e lg t b ⟨_,_,_,_,_,_,_,⟨Φ,rv,E,L,S,hb⟩⟩ ht he
  have yk:t<zAb:=Nat.lt_of_lt_of_le ht (Nat.le_trans S.small (by decide))
  have:=S.conf.rep t
  rw [S.env t yk,he] at this
  rw [S.tmps t ht];exact this.1
def zMc (P:Program) (yo:zCV):Prop:=∀ g first i caps k plan,yo g first i caps k=some plan→Callable P g∧(first++PV.yld i::caps).length≤zAl ∧
 ∀ (J:List (List PV)→World→(Nat→Prop)→Prop) (Jx:World→Prop) (Ψ:Nat→Prop),Client P i plan k Ψ J Jx→∀ (w:World) (Φ:Nat→Prop) (rv:Nat→Value) (E:Nat→PV) (L:Nat→List Nat) (vs:Array Value) (B:Nat→Prop),
  (∀ s,s<zAb→E s=(zBb (first++PV.yld i::caps) []).get s)→(∀ s,zAb≤s→E s = .bad)→Conf w (fun b=>∃ s,b∈L s) Φ w Φ rv E L→vs.size=(first++PV.yld i::caps).length→(∀ j,j<(first++PV.yld i::caps).length→vs[j]? = some (rv j)) →
  (∀ s,(first++PV.yld i::caps).length≤s→s<zAl→rv s=undef)→J [] w B→(∀ b,B b→∀ s,b∉L s)→(∀ b,Φ b→Ψ b∨¬ B b) →
  CallsIn (FF none) 0 P g vs w fun en w'=>(∃ v,en = .returned v)∧((k-plan.length≠0∧∃ B',J plan w' B')∨(k-plan.length=0∧Jx w'))
theorem zJs {x:Nat→Option (List (List PV))} {r:List (List PV)} (h:zB8 x=some r) (i:Nat):x i=some r:=by
 simp only [zB8] at h
 split at h
 ·rename_i hx
  have:=Classical.choose_spec hx i
  simp only [Option.some.injEq] at h
  rw [h] at this;exact this
 ·cases h
theorem zPs (S:St w0 U Φ0 nt hv a w e Φ rv E L) {t g:Nat} (ht:t<nt) {first caps:List PV} {R:List Nat} (h:zDF e t=some (g,first,caps,R)) {Ψ:Nat→Prop} (h1:∀ b,Φ b→Ψ b) (h2:∀ r∈R,∀ b∈L r,Ψ b) :
  ∃ fs cs:Array Value,rv t = .func (.func g) fs cs∧zA2 w Ψ zCe first fs.toList []∧zA2 w Ψ zCe caps cs.toList []:=by
 have yk:t<zAb:=Nat.lt_of_lt_of_le ht (Nat.le_trans S.small (by decide))
 have hX:=S.conf.view yk
 rw [S.env t yk] at hX
 simp only [zDF] at h
 split at h
 ·rename_i e' wP
  obtain ⟨q,l,h3,h4,h5⟩:=zO0 S hX wP
  simp only [PM.run,Option.some.injEq] at h3
  subst h3
  have g0:(((e.set 0 (.tup [q])).set 1 (.tup (l.map fun x=>PV.int .i64 x.1))).get 0) = .tup [q]:=by rw [Env.get_set,if_neg (by decide),Env.get_set,if_pos rfl]
  have g1:(((e.set 0 (.tup [q])).set 1 (.tup (l.map fun x=>PV.int .i64 x.1))).get 1) = .tup (l.map fun x=>PV.int .i64 x.1):=by rw [Env.get_set,if_pos rfl]
  rw [g0,g1] at h
  split at h
  ·rename_i g' f' c' l' hq hl
   simp only [PV.tup.injEq,List.cons.injEq,and_true] at hq hl
   subst hq;subst hl
   simp only [Option.some.injEq,Prod.mk.injEq] at h
   obtain ⟨rfl,rfl,rfl,rfl⟩:=h
   have jr:∀ x∈l,Cov w Φ rv E Ψ x:=by
    intro x hx nv q Li A hf hr b hb
    refine h2 x.1 ?_ b ?_
    ·refine List.mem_eraseDups.2 (List.mem_filterMap.2 ⟨_,List.mem_map.2 ⟨x,hx,rfl⟩,?_⟩)
     simp
    ·obtain ⟨nv',Li',h6,h7,h8⟩:=zBO (zB7 (S.conf.rep x.1)) (zEA hf)
     rw [hf] at h6;cases h6
     have:=Rep.uniq _ _ _ _ hr h8
     subst this;exact h7 b hb
   obtain ⟨_,fs,cs,h6,h7,h8⟩:=h5 Ψ h1 jr (by simp)
   exact ⟨fs,cs,h6,h7,h8⟩
  ·cases h
 ·cases h
theorem zLB {A:Al}:∀ {ps:List PV} {vs:List Value},zA2 w Φ A ps vs []→vs.length=ps.length∧∀ (i:Nat) (p:PV),ps[i]? = some p→∃ v,vs[i]? = some v∧Rep w Φ A p v []
 | [],vs,h=>by rw [h.1];exact ⟨rfl,fun i p hp=>by simp at hp⟩
 | p::ps,vs,⟨v,vs',L1,L2,h1,h2,h3,h4⟩=>by
  obtain ⟨rfl,rfl⟩:L1=[]∧L2=[]:=by simpa using h2.symm
  obtain ⟨g1,g2⟩:=zLB h4
  subst h1
  refine ⟨by simp [g1],fun i q hq=>?_⟩
  cases i with
  | zero=>simp only [List.getElem?_cons_zero,Option.some.injEq] at hq;subst hq;exact ⟨v,rfl,h3⟩
  | succ i=>simp only [List.getElem?_cons_succ] at hq;exact g2 i q hq
theorem zJQ (w:World) (o:Obj) {k:Nat} (h:k<w.heap.size):(w.alloc o).heap[k]? = w.heap[k]?:=by
 simp only [World.alloc]
 rw [Array.getElem?_push,if_neg (by omega)]
theorem zQz {val:Nat→Value} (zE3:P.follows .mixedOrders=true) (jF:zGc P orc) (hnm:zER P) (qx:zMc P yo) {t:Nat} {ps:Array Tmp} {ca cb:Code} {x:X} (jJ:zCL P nt (.rangeFunc (.tmp t) ps ca cb)=true) (hG:FrB w0 U Φ0 nt val a w e)
    (h:zG0 nt yo zB8 (zJ7 P H orc yo zB8 nt hh m) t ps.toList ca cb e=some (x,e')):(Code.rangeFunc (.tmp t) ps ca cb).wpIn (FF none) 0 P (fun ex a' w'=>ex=x.exit∧GB w0 U Φ0 nt val a' w' e' none) a w:=by
  have wa:zAb=1000000000:=rfl
  have hhh:zAl=50000000:=rfl
  simp only [zCL,Bool.and_eq_true] at jJ
  obtain ⟨⟨⟨⟨⟨LJ,y1⟩,hca⟩,hcb⟩,hna⟩,hnb⟩:=jJ
  have LJ:t<nt:=zB3 LJ
  have y1:∀ t∈ps.toList,t<nt:=fun t ht=>zB3 (List.all_eq_true.1 y1 t ht)
  obtain ⟨w1,U1,Φ1,ds,qN,vd,Φ,rv,E,L,S,hb⟩:=hG
  have kA:=S.small
  simp only [zG0] at h
  cases yO:zDF e t with
  | none=>rw [yO] at h;cases h
  | some cl =>
    obtain ⟨gf,first,caps,R⟩:=cl
    rw [yO] at h;simp only at h
    obtain ⟨plan,k0,res,hplan,qO,yc,hx⟩:∃ (plan:List (List PV)) (k0:Int) (res:Option (Nat×X)×Env),(∀ i,yo gf first i caps k0=some plan)∧zC9 nt (zJ7 P H orc yo zB8 nt hh m) ps.toList ca cb R (ps.toList++zBS ca++zBS cb) plan e 0=some res ∧
        ((res.1=none∧k0 = -1)∨∃ r,res.1=some (plan.length,r)∧k0=plan.length)∧((res.1=none∧x = .norm)∨∃ j,res.1=some (j,x))∧e'=res.2:=by
      cases uW:zB8 fun i=>yo gf first i caps (-1) with
      | none=>rw [uW] at h;cases h
      | some xs =>
        rw [uW] at h;simp only at h
        split at h
        · rename_i e1 hr
          cases h
          exact ⟨xs,-1,_,zJs uW,hr,.inl ⟨rfl,rfl⟩,.inl ⟨rfl,rfl⟩,rfl⟩
        · rename_i j x1 e1 hr
          cases gr:zB8 fun i=>yo gf first i caps j with
          | none=>rw [gr] at h;cases h
          | some ys =>
            rw [gr] at h;simp only at h
            split at h
            · rename_i j' r e2 wj
              split at h
              · rename_i hj
                cases h
                exact ⟨ys,j,_,zJs gr,wj,.inr ⟨x,by rw [hj.1,hj.2],by rw [hj.2]⟩,.inr ⟨j',rfl⟩,rfl⟩
              · cases h
            · cases h
        · cases h
    obtain ⟨hx,rfl⟩:=hx
    refine wpIn_rangeFunc ?_
    intro fn _
    obtain ⟨rc,kI⟩:∃ rc:Go.Loop,rc={state := .ready,pending:=none,fn,tmps:=a.tmps,params:=ps,assign:=ca,body:=cb,defers:=w.heap.size}:=⟨_,rfl⟩
    obtain ⟨w2,vS⟩:∃ w2,(w.alloc (.deferred (some []))).alloc (.loop rc)=w2:=⟨_,rfl⟩
    have hsz2:w2.heap.size=w.heap.size+2:=by rw [← vS];simp
    have qv:∀ b,b<w.heap.size→w2.heap[b]? = w.heap[b]?:=fun b hb=>by
      rw [← vS];exact (zJQ _ _ (by simp;omega)).trans (zJQ _ _ hb)
    have h2D:w2.heap[w.heap.size]? = some (.deferred (some [])):=by
      rw [← vS];exact (zJQ _ _ (by simp)).trans (World.alloc_heap_new w _)
    have h2l:w2.heap[w.heap.size+1]? = some (.loop rc):=by
      rw [← vS];have:=World.alloc_heap_new (w.alloc (.deferred (some []))) (.loop rc);rwa [World.size_alloc] at this
    have wN:w2.os=w.os∧w2.tape=w.tape∧w2.output=w.output:=by rw [← vS];exact ⟨rfl,rfl,rfl⟩
    obtain ⟨kO,uW,wQ⟩:=qx gf first (w.heap.size+1) caps k0 plan (hplan _)
    obtain ⟨fn',kT,yY⟩:=kO
    have hΨs:∀ b,(Φ b∨∃ r∈R,b∈L r)→b<w.heap.size:=fun b hb=>hb.elim (fun h=>(S.conf.frz b h).1) (fun ⟨r,_,h⟩=>(S.conf.own r b h).1)
    obtain ⟨fs,cs,hv,wt,j7⟩:=zPs S LJ yO (Ψ:=fun b=>Φ b∨∃ r∈R,b∈L r) (fun b hb => .inl hb) (fun r hr b hb => .inr ⟨r,hr,hb⟩)
    have uL:a.eval (.tmp t) = .func (.func gf) fs cs:=by
      show a.tmps.getD t undef=_
      rw [S.tmps t LJ,hv]
    refine ⟨w.heap.size+1,[{target := .collected w.heap.size,args:=#[]}],w2,{target := .fn (.func gf) cs,args:=fs++#[.func (.yield (w.heap.size+1)) #[] #[]]},w2,gf,(fs++#[.func (.yield (w.heap.size+1)) #[] #[]])++cs,w2,?_,?_,?_,?_,fun h=>(by cases h),?_⟩
    · rw [← vS,kI];exact run_enterLoop_outer _ _ _ _ _
    · simp only [Go.resolve,uL,Deferred.ofValue]
      simp [Sem.run_pure,Act.eval]
    · intro f' _;trivial
    · have hn:=hnm gf fn' kT
      have w7:¬ fn'.body=none:=by intro hb;rw [hb] at yY;cases yY
      have v8 : ¬ fn'.name = "runtime.NumGoroutine" := by simpa using hn
      simp [invoke,callFunc,kT,w7,v8]
    ·
      have yL:zA2 w2 (fun b=>Φ b∨∃ r∈R,b∈L r) zCe (first++PV.yld (w.heap.size+1)::caps) (fs.toList ++ .func (.yield (w.heap.size+1)) #[] #[]::cs.toList) []:=by
        have hs:zDc w w2 (fun b=>Φ b∨∃ r∈R,b∈L r) (fun b=>Φ b∨∃ r∈R,b∈L r):=fun b hb=>⟨hb,qv b (hΨs b hb)⟩
        have h1:=wt.mono hs (fun _ _ _ h=>h) (by simp)
        have h2:=j7.mono hs (fun _ _ _ h=>h) (by simp)
        have h3:zA2 w2 (fun b=>Φ b∨∃ r∈R,b∈L r) zCe (PV.yld (w.heap.size+1)::caps) (.func (.yield (w.heap.size+1)) #[] #[]::cs.toList) []:=⟨_,_,[],[],rfl,rfl,⟨rfl,rfl⟩,h2⟩
        have:=h1.append h3
        simpa using this
      obtain ⟨hZ,kJ⟩:=zLB yL
      obtain ⟨vs,ye⟩:∃ vs:Array Value,vs=(fs++#[.func (.yield (w.heap.size+1)) #[] #[]])++cs:=⟨_,rfl⟩
      have js:vs.toList=fs.toList ++ .func (.yield (w.heap.size+1)) #[] #[]::cs.toList:=by rw [ye];simp
      obtain ⟨args,hargs_⟩:∃ args,first++PV.yld (w.heap.size+1)::caps=args:=⟨_,rfl⟩
      rw [hargs_] at kJ hZ wQ uW
      rw [← js] at kJ hZ
      have hvz:vs.size=args.length:=by rw [← hZ];simp
      have hdp:∀ t∈ps.toList,t∈ps.toList++zBS ca++zBS cb:=fun t ht=>by simp [ht]
      have vi:∀ d∈zBS ca,d∈ps.toList++zBS ca++zBS cb:=fun t ht=>by simp [ht]
      have hdb:∀ d∈zBS cb,d∈ps.toList++zBS ca++zBS cb:=fun t ht=>by simp [ht]
      have hw1:=S.conf.size
      have qP:=zRN (hv:=⟨val,{target := .collected w.heap.size,args:=#[]}::ds⟩) (aM:={a with defers:=[{target := .collected w.heap.size,args:=#[]}]++a.defers}) (w0:=w1) (U:=U1) (Φ0:=Φ1) (rv:=rv) (yo:=yo) (al:=zB8) (hh:=hh) (m:=m) (H:=H) zE3 jF hnm y1 hca hcb hna hnb hdp vi hdb
        (l:=w.heap.size+1) (D:=w.heap.size) (size2:=w2.heap.size) (rc:=rc) (by rw [kI]) (by rw [kI]) (by rw [kI]) (by rw [kI]) (by rw [kI]) (by rw [kI]) (by omega) (by omega) (by omega) (by omega) (by omega) (Φs:=Φ) (Ls:=L) (R:=R) (plan:=plan) (k0:=k0) (res:=res) yc
      have p1:∀ s,zAb≤s→(zBb args []).get s = .bad:=fun s hs=>by
        rw [zDl (by omega),if_neg (by omega),if_neg (by simp only [List.length_nil];omega)]
      have p2:Conf w2 (fun b=>∃ s,b∈((fun _=>[]):Nat→List Nat) s) (fun b=>Φ b∨∃ r∈R,b∈L r) w2 (fun b=>Φ b∨∃ r∈R,b∈L r) (fun s=>(vs[s]?).getD undef) (fun s=>(zBb args []).get s) (fun _=>[]):=by
        refine ⟨fun s=>?_,fun _=>List.nodup_nil,fun _ _ _ _ h=>(by cases h),fun _ _ h=>(by cases h),fun b hb=>⟨by have:=hΨs b hb;omega,.inl hb⟩,fun _ h=>h,Nat.le_refl _,fun _ _ _=>rfl,rfl,rfl,rfl⟩
        show Rep _ _ _ ((zBb args []).get s) _ _
        rw [zDl (by omega)]
        by_cases h1:s<args.length
        · rw [if_pos h1]
          obtain ⟨v,kd,kf⟩:=kJ s args[s] (List.getElem?_eq_getElem h1)
          have:vs[s]? = some v:=by rw [← Array.getElem?_toList];exact kd
          rw [this]
          simp only [List.getD,List.getElem?_eq_getElem h1,Option.getD_some]
          exact kf.mono (fun b hb=>⟨hb,rfl⟩) (fun _ _ _ h=>h.elim) (by simp)
        · rw [if_neg h1,if_neg (by simp only [List.length_nil];omega)]
          rfl
      have p3:∀ j,j<args.length→vs[j]? = some ((vs[j]?).getD undef):=fun j hj=>by rw [Array.getElem?_eq_getElem (by omega)];rfl
      have p4:∀ s,args.length≤s→s<zAl→(vs[s]?).getD undef=undef:=fun s hs _=>by rw [Array.getElem?_eq_none (by omega)];rfl
      have ko:∀ s,∀ b∈L s,b<w.heap.size:=fun s b hb=>(S.conf.own s b hb).1
      have hΦo:∀ b,Φ b→b<w.heap.size:=fun b hb=>(S.conf.frz b hb).1
      have hC2:Conf w1 U1 Φ1 w2 Φ rv E L:=S.conf.moved (by omega) (fun s b hb=>qv b (ko s b hb)) (fun b hb=>qv b (hΦo b hb)) (fun b hb _=>qv b (by omega)) wN
      have hSide:Side w1 U1 Φ1 nt ⟨val,{target := .collected w.heap.size,args:=#[]}::ds⟩ {a with defers:=[{target := .collected w.heap.size,args:=#[]}]++a.defers} rv (w.heap.size+1) w.heap.size w2.heap.size rc Φ L R w2 e Φ E L (fun b=>b<w2.heap.size):=by
        refine ⟨⟨hC2,S.env,S.size,S.small,S.tmps,S.parts,S.hid,by simp [S.dfr]⟩,hb,h2l,h2D,fun s h=>?_,fun s h=>?_,fun h=>?_,fun h=>?_,fun s b hb=>?_,fun b hb=>?_,fun b hb=>hb,fun b hb=>hb,fun b hb=>hb,fun r _=>rfl⟩
        · have:=ko s _ h;omega
        · have:=ko s _ h;omega
        · have:=hΦo _ h;omega
        · have:=hΦo _ h;omega
        · have:=ko s b hb;show b<w2.heap.size;omega
        · have:=hΦo b hb;show b<w2.heap.size;omega
      have kU:=wQ _ _ _ qP w2 (fun b=>Φ b∨∃ r∈R,b∈L r) (fun s=>(vs[s]?).getD undef) (fun s=>(zBb args []).get s) (fun _=>[]) vs (fun b=>b<w2.heap.size) (fun _ _=>rfl) p1 p2 hvz p3 p4
        ⟨plan,e,Φ,E,L,rfl,qO,hSide⟩ (fun _ _ _=>by simp) (fun b hb => .inl hb)
      rw [ye] at kU
      refine kU.mono fun en w3 ⟨⟨v,vA⟩,hend⟩=>?_
      subst vA
      have behind:∀ (rc3:Go.Loop) (e3:Env) (Φ3:Nat→Prop) (E3:Nat→PV) (L3:Nat→List Nat),w3.heap[w.heap.size+1]? = some (.loop rc3)→rc3.state ≠ .busy→w3.heap[w.heap.size]? = some (.deferred (some []))→(∀ s,w.heap.size+1∉L3 s)→(∀ s,w.heap.size∉L3 s)→¬ Φ3 (w.heap.size+1)→¬ Φ3 w.heap.size →
          St w1 U1 Φ1 nt ⟨val,{target := .collected w.heap.size,args:=#[]}::ds⟩ {a with defers:=[{target := .collected w.heap.size,args:=#[]}]++a.defers} w3 e3 Φ3 rv E3 L3→zBs E3 →
          ∃ w4,(Instr.endLoop (w.heap.size+1)).run P w3 = .ok rc3.pending w4∧GB w0 U Φ0 nt val {a with defers:=[{target := .collected w.heap.size,args:=#[]}]++a.defers} w4 e3 none:=by
        intro rc3 e3 Φ3 E3 L3 vQ yJ qy hlL hdL hlΦ hdΦ S3 qo
        obtain ⟨w4,hw4⟩:∃ w4,w3.putObj (w.heap.size+1) (.loop {rc3 with state := .exhausted})=w4:=⟨_,rfl⟩
        have qw:∀ b,b≠w.heap.size+1→w4.heap[b]? = w3.heap[b]?:=fun b hb=>by rw [← hw4];exact World.putObj_heap_other hb
        have h4s:w4.heap.size=w3.heap.size:=by rw [← hw4];simp
        have wO:w4.os=w3.os∧w4.tape=w3.tape∧w4.output=w3.output:=by rw [← hw4];exact ⟨rfl,rfl,rfl⟩
        have hC4:Conf w1 U1 Φ1 w4 Φ3 rv E3 L3:=S3.conf.moved (by omega) (fun s b hb=>qw b fun h=>hlL s (h▸hb)) (fun b hb=>qw b fun h=>hlΦ (h▸hb)) (fun b hb _=>qw b (by omega)) wO
        have vT:w.heap.size<w3.heap.size:=(Array.getElem?_eq_some_iff.1 qy).1
        have hsz4:=hC4.size
        refine ⟨w4,by rw [← hw4];exact run_endLoop vQ yJ,rfl,w4,_,Φ3,{target := .collected w.heap.size,args:=#[]}::ds,qN.trans hC4.rel,⟨fun d hd=>?_,?_⟩,Φ3,rv,E3,L3,S3.with hC4.fresh,qo⟩
        · rcases List.mem_cons.1 hd with rfl | hd
          · exact ⟨_,rfl,by have:=qN.size;omega,by omega,(qw _ (by omega)).trans qy,fun ⟨s,hs⟩=>hdL s hs,hdΦ⟩
          · obtain ⟨D,q1,q0,q2,q3,q4,q5⟩:=vd.each d hd
            refine ⟨D,q1,q0,by omega,(hC4.kept D q2 q4).trans q3,fun ⟨s,hs⟩=>?_,fun h=>?_⟩
            · rcases (hC4.own s D hs).2.2 with h | h
              · exact q4 h
              · omega
            · rcases (hC4.frz D h).2 with h | h | h
              · exact q5 h
              · exact q4 h
              · omega
        · refine List.pairwise_cons.2 ⟨fun d hd D D' h1 h2=>?_,vd.apart⟩
          obtain ⟨D2,q1,_,q2,_⟩:=vd.each d hd
          rw [h2] at q1;cases q1;cases h1
          omega
      rcases hend with ⟨hk,B',rest,e3,Φ3,E3,L3,r1,r2,S3⟩ | ⟨hk,r,Φ3,E3,L3,⟨j,r1⟩,r2,S3⟩
      · have:rest=[]:=by simpa using r1
        subst this
        simp only [zC9,Option.some.injEq] at r2
        subst r2
        have gm:x = .norm:=by
          rcases hx with ⟨_,h⟩ | ⟨j,h⟩
          · exact h
          · cases h
        subst gm
        obtain ⟨w4,g1,g2⟩:=behind rc e3 Φ3 E3 L3 S3.recd (by rw [kI];simp) S3.mark S3.lL S3.dL S3.lΦ S3.dΦ S3.st S3.emp
        rw [show rc.pending=none by rw [kI]] at g1
        exact ⟨none,w4,g1,rfl,g2⟩
      · have vn:x=r:=by
          rcases hx with ⟨h,_⟩ | ⟨j',h⟩
          · rw [h] at r1;cases r1
          · rw [h] at r1;cases r1;rfl
        subst vn
        obtain ⟨w4,g1,g2⟩:=behind _ _ Φ3 E3 L3 S3.recd (by simp) S3.mark S3.lL S3.dL S3.lΦ S3.dΦ S3.st S3.emp
        refine ⟨_,w4,g1,?_⟩
        cases x with
        | norm=>cases r2
        | ret=>exact wpIn_ret ⟨rfl,g2⟩
        | ex id=>exact wpIn_exit ⟨rfl,g2⟩
theorem zW1 {val:Nat→Value} (zE3:P.follows .mixedOrders=true) (jF:zGc P orc) (hnm:zER P) (qx:zMc P yo):zEg P H orc yo zB8 nt hh none 0 (GB w0 U Φ0 nt val) m:=by
 intro m' _ t ps ca cb a w e x e' jJ hG h
 simp only [exec] at h
 obtain ⟨⟨x1,e1⟩,h1,h2⟩:=Option.map_eq_some_iff.1 h
 simp only [Option.some.injEq,Prod.mk.injEq,and_true] at h2
 obtain ⟨rfl,rfl⟩:=h2
 exact zQz zE3 jF hnm qx jJ hG.2 h1
end
end Go.Eng
