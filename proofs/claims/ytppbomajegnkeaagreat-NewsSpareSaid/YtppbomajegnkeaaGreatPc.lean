/- For any news, cries and evenings the law NewsSpare ends in true: the cries that can be left out, or the error, are as specified; without conditions. -/
import Derived.Test.YtppbomajegnkeaaGreatPb
import Derived.MapKept
import Derived.OrdersIn
import Derived.LoopNIn
import Derived.RangeFuncRecord
import Derived.RangeFuncLeaves
import Derived.RangeFuncSeq
set_option linter.unusedVariables false
set_option linter.unusedSimpArgs false
set_option linter.unusedSectionVars false
namespace Go.Eng
open Go
section
variable {P:Program} {w0 w:World} {U Φ0 Φ:Nat→Prop} {nt:Nat} {hv:Hid} {a:Act} {e e':Env} {rv:Nat→Value} {E:Nat→PV} {L:Nat→List Nat} {o:zAC} {A:Al}
theorem zOs {empty:Bool} {n:Nat} {ok:TypeId→PV→Bool} {p:PV} {xs:Array Value} (hp:Rep w Φ A p (.agg xs) [])
    (hd:∀ t p x,ok t p=true→Rep w Φ A p x []→(Instr.checkKey empty n t x).run P w = .ok () w) :
    ∀ (fs:List Field),zTm ok (shT P) p fs=true→((forIn fs () fun f _=>do
      if f.name ≠ "_" then
        Instr.checkKey empty n f.type (← part f.type xs f.offset)
        pure (.yield ())
      else pure (.yield ()):Sem Unit)).run P w = .ok () w
  | [],_=>by simp
  | f :: fs,h=>by
    simp only [zTm,Bool.and_eq_true] at h
    have ih:=zOs hp hd fs h.2
    simp only [List.forIn_cons,Sem.run_bind]
    by_cases hn : f.name = "_"
    · simp only [hn,ne_eq,not_true_eq_false,if_false,Sem.run_pure,Result.andThen_ok]
      exact ih
    · have h1:=h.1
      rw [if_neg hn] at h1
      rw [if_pos hn]
      cases hs:shT P f.type with
      | none=>rw [hs] at h1;cases h1
      | some sh =>
        rw [hs] at h1;simp only at h1
        cases y7:sub p f.offset sh with
        | none=>rw [y7] at h1;cases h1
        | some q =>
          rw [y7] at h1;simp only at h1
          obtain ⟨u,h3,h4⟩:=zFh hs hp y7
          simp only [Sem.run_bind,h3,Result.andThen_ok,hd _ _ _ h1 h4,Sem.run_pure]
          exact ih
theorem zPc {empty:Bool} {n:Nat} {ok:PV→Bool} {el:TypeId} {sh:Option Nat} {i:TypeInfo} (hs:shT P el=some sh) (hi:P.info? el=some i) {p:PV} {xs:Array Value} (hp:Rep w Φ A p (.agg xs) [])
  (hd:∀ p x,ok p=true→Rep w Φ A p x []→(Instr.checkKey empty n el x).run P w = .ok () w) :
  ∀ (m k:Nat),zTs ok sh i.size p k m=true→((forIn (List.range' k m 1) () fun j _=>do
   Instr.checkKey empty n el (← part el xs (j*(← sizeOf el)))
   pure (.yield ()):Sem Unit)).run P w = .ok () w
 | 0,k,_=>by simp
 | m + 1,k,h=>by
  simp only [zTs,Bool.and_eq_true] at h
  have ih:=zPc (empty:=empty) hs hi hp hd m (k+1) h.2
  have h1:=h.1
  simp only [List.range'_succ,List.forIn_cons,Sem.run_bind]
  cases y7:sub p (k*i.size) sh with
  | none=>rw [y7] at h1;cases h1
  | some q =>
   rw [y7] at h1;simp only at h1
   obtain ⟨u,h3,h4⟩:=zFh hs hp y7
   simp only [zAV hi,Result.andThen_ok,h3,hd _ _ h1 h4,Sem.run_pure]
   exact ih
theorem zJr {empty:Bool}:∀ (n d:Nat) (t:TypeId) (p:PV) (x:Value),n≤d→zPb P n t p=true→Rep w Φ A p x []→(Instr.checkKey empty d t x).run P w = .ok () w
 | 0,d,t,p,x,_,h,_=>by cases h
 | n+1,0,t,p,x,hd,h,_=>by omega
 | n + 1,d+1,t,p,x,hd,h,hp=>by
  have yP:n≤d:=by omega
  simp only [zPb] at h
  split at h
  ·rename_i ht
   rw [hp.1];simp [Instr.checkKey,run_underlying ht]
  ·rename_i ht
   rw [hp.1];simp [Instr.checkKey,run_underlying ht]
  ·rename_i fs xs ht
   obtain ⟨vs,rfl,jf⟩:=hp
   have:=zOs (empty:=empty) (n:=d) (p := .agg xs) ⟨vs,rfl,jf⟩ (fun t p x h1 h2=>zJr n d t p x yP h1 h2) fs.toList h
   simp only [Instr.checkKey,Sem.run_bind,run_underlying ht,Result.andThen_ok]
   simp only [ne_eq,ite_not] at this ⊢
   simp at this ⊢
   rw [this];rfl
  ·rename_i len el xs ht
   split at h
   ·rename_i sz sh yE j5
    obtain ⟨vs,rfl,jf⟩:=hp
    obtain ⟨i,hi,_⟩:=zEZ (w:=w) j5
    have qq:i.size=sz:=by simp only [szT,hi,Option.map_some,Option.some.injEq] at yE;exact yE
    subst qq
    have:=zPc (empty:=empty) (n:=d) (p := .agg xs) j5 hi ⟨vs,rfl,jf⟩ (fun p x h1 h2=>zJr n d el p x yP h1 h2) len 0 h
    simp only [Instr.checkKey,Sem.run_bind,run_underlying ht,Result.andThen_ok,Std.Legacy.Range.forIn_eq_forIn_range',Std.Legacy.Range.size,Nat.sub_zero,Nat.add_sub_cancel,Nat.div_one]
    simp at this ⊢
    rw [this];rfl
   ·cases h
  ·cases h
theorem zKw {kt:TypeId} {d:TypeDesc} {kv:Value} (hd:P.underlying kt=some d):∀ {ms:List MapEntry} {i:Nat},(∀ x y,Instr.sameNow d x y=none)→Instr.findNow d kv ms i=none∨ms=[]
 | [],_,_ => .inr rfl
 | m::ms,i,h => .inl (by simp only [Instr.findNow,h])
theorem zDn {kt:TypeId} {key:PV} {kv:Value} (hk:Rep w Φ A key kv []):∀ (es:List (PV×PV)) (ms:List MapEntry) (i:Nat) (r:Option Nat),zC1 P kt key es i=some r→zDN w Φ es ms i →
  (Instr.findAsking kt kv ms i).run P w = .ok (r.bind fun j=>(ms[j-i]?).map fun m=>(j,m.val)) w∧∀ j,r=some j→i≤j∧j-i<ms.length∧∃ k v m,es[j-i]? = some (k,v)∧ms[j-i]? = some m∧zFs key.cells k.cells=some true∧Rep w Φ zB6 k m.key []∧Rep w Φ zB6 v m.val []∧m.born=j
 | [],ms,i,r,h,hm=>by
  simp only [zC1,Option.some.injEq] at h;subst h
  simp only [zDN] at hm;subst hm
  exact ⟨rfl,fun j hj=>by cases hj⟩
 | (k, p)::es,ms,i,r,h,hm=>by
  obtain ⟨m,ms',rfl,hb,h1,h2,h3⟩:=hm
  have j1:Rep w Φ A k m.key []:=h1.mono zDf.refl (fun _ _ _ h=>h.elim) (by simp)
  simp only [zC1] at h
  split at h
  ·rename_i he
   split at h
   ·rename_i hc
    simp only [Option.some.injEq] at h;subst h
    have:=zKs 20 kt key k true kv m.key Op.maxDepth (by decide) he hk j1
    refine ⟨?_,fun j hj=>?_⟩
    ·simp [Instr.findAsking,Op.equal,this]
    ·cases hj
     exact ⟨Nat.le_refl _,by simp,k,p,m,by simp,by simp,hc,h1,h2,hb⟩
   ·cases h
  ·rename_i he
   have:=zKs 20 kt key k false kv m.key Op.maxDepth (by decide) he hk j1
   obtain ⟨g1,g2⟩:=zDn hk es ms' (i+1) r h h3
   refine ⟨?_,fun j hj=>?_⟩
   ·simp only [Instr.findAsking,Op.equal,Sem.run_bind,this,Result.andThen_ok,Bool.false_eq_true,if_false,g1]
    cases r with
    | none=>rfl
    | some j =>
     obtain ⟨k1,k2,_⟩:=g2 j rfl
     simp only [Option.bind_some]
     rw [show j-i=(j-(i+1))+1 by omega];simp
   ·obtain ⟨k1,k2,k',v',m',k3,k4,k5⟩:=g2 j hj
    have vn:j-i=(j-(i+1))+1:=by omega
    refine ⟨by omega,by rw [vn];simp;omega,k',v',m',by rw [vn];simpa using k3,by rw [vn];simpa using k4,k5⟩
  ·cases h
theorem zIF {kt:TypeId} {k:IntKind} {n:Int} {key:PV} {kv:Value} (hd:∃ k0,P.underlying kt=some (.int k0)) (wu:kv = .int k n) (yU:key = .int k n):∀ (es:List (PV×PV)) (ms:List MapEntry) (i:Nat) (r:Option Nat),zC1 P kt key es i=some r→zDN w Φ es ms i →
  ∀ k0,Instr.findNow (.int k0) kv ms i=some (r.bind fun j=>(ms[j-i]?).map fun m=>(j,m.val))
 | [],ms,i,r,h,hm,_=>by
  simp only [zC1,Option.some.injEq] at h;subst h
  simp only [zDN] at hm;subst hm;rfl
 | (q, p)::es,ms,i,r,h,hm,k0=>by
  obtain ⟨k1,hd⟩:=hd
  obtain ⟨m,ms',rfl,hb,h1,h2,h3⟩:=hm
  simp only [zC1] at h
  have hq:∀ b,eqT P 20 kt key q=some b→∃ n',q = .int k n'∧b=(n==n'):=by
   intro b he
   rw [yU] at he
   simp only [eqT,hd] at he
   cases q<;>simp only at he<;>try (cases he;done)
   split at he
   ·rename_i wX;subst wX;cases he;exact ⟨_,rfl,rfl⟩
   ·cases he
  split at h
  ·rename_i he
   obtain ⟨n',rfl,hn⟩:=hq _ he
   split at h
   ·simp only [Option.some.injEq] at h;subst h
    simp only [Instr.findNow,h1.1,wu,Instr.sameNow,if_true,← hn]
    simp
   ·cases h
  ·rename_i he
   obtain ⟨n',rfl,hn⟩:=hq _ he
   have g1:=zIF ⟨k1,hd⟩ wu yU es ms' (i+1) r h h3 k0
   simp only [Instr.findNow,h1.1,wu,Instr.sameNow,if_true,← hn]
   rw [wu] at g1
   rw [g1]
   cases r with
   | none=>rfl
   | some j =>
    obtain ⟨k1,_⟩:=(zDn (P:=P) (A:=zB6) (key:=key) (kv := .int k n) (by rw [yU];exact ⟨rfl,rfl⟩) es ms' (i+1) (some j) h h3).2 j rfl
    simp only [Option.bind_some]
    rw [show j-i=(j-(i+1))+1 by omega];simp
  ·cases h
theorem zH1 {kt:TypeId} {n:Bool} {key:PV} {kv:Value} (hd:P.underlying kt=some .bool) (wu:kv = .bool n) (yU:key = .bool n):∀ (es:List (PV×PV)) (ms:List MapEntry) (i:Nat) (r:Option Nat),zC1 P kt key es i=some r→zDN w Φ es ms i →
  Instr.findNow .bool kv ms i=some (r.bind fun j=>(ms[j-i]?).map fun m=>(j,m.val))
 | [],ms,i,r,h,hm=>by
  simp only [zC1,Option.some.injEq] at h;subst h
  simp only [zDN] at hm;subst hm;rfl
 | (q, p)::es,ms,i,r,h,hm=>by
  obtain ⟨m,ms',rfl,hb,h1,h2,h3⟩:=hm
  simp only [zC1] at h
  have hq:∀ b,eqT P 20 kt key q=some b→∃ n',q = .bool n'∧b=(n==n'):=by
   intro b he
   rw [yU] at he
   simp only [eqT,hd] at he
   cases q<;>simp only at he<;>try (cases he;done)
   cases he;exact ⟨_,rfl,rfl⟩
  split at h
  ·rename_i he
   obtain ⟨n',rfl,hn⟩:=hq _ he
   split at h
   ·simp only [Option.some.injEq] at h;subst h
    simp only [Instr.findNow,h1.1,wu,Instr.sameNow,← hn]
    simp
   ·cases h
  ·rename_i he
   obtain ⟨n',rfl,hn⟩:=hq _ he
   have g1:=zH1 hd wu yU es ms' (i+1) r h h3
   simp only [Instr.findNow,h1.1,wu,Instr.sameNow,← hn]
   rw [wu] at g1
   rw [g1]
   cases r with
   | none=>rfl
   | some j =>
    obtain ⟨k1,_⟩:=(zDn (P:=P) (A:=zB6) (key:=key) (kv := .bool n) (by rw [yU];exact ⟨rfl,rfl⟩) es ms' (i+1) (some j) h h3).2 j rfl
    simp only [Option.bind_some]
    rw [show j-i=(j-(i+1))+1 by omega];simp
  ·cases h
theorem zHt {kt:TypeId} {key:PV} {kv:Value} (ht:zPb P 20 kt key=true) (hk:Rep w Φ A key kv []) {es:List (PV×PV)} {ms:List MapEntry} {r:Option Nat} (h:zC1 P kt key es 0=some r) (hm:zDN w Φ es ms 0) :
  (Instr.findKey kt kv ms).run P w = .ok (r.bind fun j=>(ms[j]?).map fun m=>(j,m.val)) w:=by
 have h1:=(zDn hk es ms 0 r h hm).1
 simp only [Nat.sub_zero] at h1
 simp only [zPb] at ht
 split at ht
 ·rename_i k0 k n hd
  have h2:=zIF (key := .int k n) ⟨_,hd⟩ hk.1 rfl es ms 0 r h hm k0
  simp only [Nat.sub_zero] at h2
  simp only [Instr.findKey,Sem.run_bind,run_underlying hd,Result.andThen_ok,h2,Sem.run_pure]
 ·rename_i b hd
  have h2:=zH1 (key := .bool b) hd hk.1 rfl es ms 0 r h hm
  simp only [Nat.sub_zero] at h2
  simp only [Instr.findKey,Sem.run_bind,run_underlying hd,Result.andThen_ok,h2,Sem.run_pure]
 ·rename_i fs xs hd
  simp only [Instr.findKey,Sem.run_bind,run_underlying hd,Result.andThen_ok]
  rcases zKw (kv:=kv) hd (ms:=ms) (i:=0) (fun x y=>by simp [Instr.sameNow]) with h2 | rfl
  ·rw [h2];exact h1
  ·simp only [Instr.findNow,Sem.run_pure];rw [← h1];rfl
 ·rename_i len el xs hd
  simp only [Instr.findKey,Sem.run_bind,run_underlying hd,Result.andThen_ok]
  rcases zKw (kv:=kv) hd (ms:=ms) (i:=0) (fun x y=>by simp [Instr.sameNow]) with h2 | rfl
  ·rw [h2];exact h1
  ·simp only [Instr.findNow,Sem.run_pure];rw [← h1];rfl
 ·cases ht
theorem zMS {p:PV} {v:Value} (h:Rep w Φ A p v []):Rep w Φ A (zJK p) v []:=by
 unfold zJK
 split
 ·rcases h with ⟨_,_,rfl⟩ | ⟨a,n,c,us,L',h,_⟩
  ·exact ⟨rfl,.inl ⟨rfl,none,0,rfl,fun _=>rfl⟩⟩
  ·cases h
 ·exact h
theorem zMg {p:PV} {v:Value} {M:List Nat} (hp:p.lone0=true) (h:Rep w Φ A p v M):M=[]∧Rep w Φ zB6 p v []:=by
 cases p<;>first | (cases hp;done) | skip
 case int=>exact ⟨h.2,h.1,rfl⟩
 case bool=>exact ⟨h.2,h.1,rfl⟩
 case nilp=>exact ⟨h.2,h.1,rfl⟩
 case nilf=>exact ⟨h.2,h.1,rfl⟩
 case nilm=>exact ⟨h.2,h.1,rfl⟩
 case nn=>exact ⟨h.1,rfl,h.2⟩
 case nils=>exact ⟨h.2,h.1,rfl⟩
 case sl=>exact ⟨h.1,rfl,h.2⟩
 case map=>exact ⟨h.1,rfl,h.2⟩
theorem zKq:∀ {ps:List PV} {vs:List Value} {M:List Nat},ps.all PV.lone0=true→zAX w Φ A ps vs M→M=[]∧zAX w Φ zB6 ps vs []
 | [],vs,M,_,h=>⟨h.2,h.1,rfl⟩
 | p::ps,vs,M,hp,h=>by
  simp only [List.all_cons,Bool.and_eq_true] at hp
  obtain ⟨v,vs',L1,L2,rfl,rfl,h1,h2⟩:=h
  obtain ⟨rfl,h3⟩:=zMg hp.1 h1
  obtain ⟨rfl,h4⟩:=zKq hp.2 h2
  exact ⟨rfl,v,vs',[],[],rfl,rfl,h3,h4⟩
theorem zGS {p:PV} {v:Value} {M:List Nat} (hp:p.lone=true) (h:Rep w Φ A p v M):M=[]∧Rep w Φ zB6 p v []:=by
 cases p<;>first | exact zMg hp h | skip
 obtain ⟨vs,rfl,h⟩:=h
 obtain ⟨rfl,h2⟩:=zKq hp h
 exact ⟨rfl,vs,rfl,h2⟩
theorem zKK (S:St w0 U Φ0 nt hv a w e Φ rv E L) (hb:zBk E) {d:Option Nat} (hd:∀ x,d=some x→x<nt) {p:PV} {v:Value} {b:Bool} (hp:Rep w Φ zB6 p v []) (uq:p.lone=true) (h:(zDg d (.tup [p,.bool b])).run o e=some e') :
  Fr w0 U Φ0 nt hv (a.put d (.tuple #[v,.bool b])) w e':=by
 have jv:=S.small
 cases d with
 | none =>
  simp only [zDg] at h
  exact zAu S hb hd h ⟨#[v,.bool b],rfl,v,[.bool b],[],[],rfl,rfl,hp.mono zDf.refl (fun _ _ _ h=>h.elim) (by simp),.bool b,[],[],[],rfl,rfl,⟨rfl,rfl⟩,rfl,rfl⟩
 | some d =>
  have uK:=hd d rfl
  simp only [zDg] at h
  obtain ⟨uZ,h⟩:=zAF h
  simp only [PM.run] at h
  simp only [Bool.and_eq_true] at uZ
  obtain ⟨L1,S1⟩:=S.empty uK
  have S2:=S1.hold (g:=zAb) (Nat.le_refl _) (hp.mono (A':=zA1 w rv (upd E d .bad)) zDf.refl (fun _ _ _ h=>h.elim) (by simp))
  have S3:=S2.hold (g:=zAb+1) (by omega) (p := .bool b) (v := .bool b) ⟨rfl,rfl⟩
  refine zEW uK (vs:=#[v,.bool b]) [p,.bool b] 0 S3 (fun ps hp=>?_) (by simp) (by simp) (fun j q hq=>?_) (fun g hg hI=>?_) (fun x hx=>?_) (fun j hj=>by omega) h
  ·rw [zAg (by simp only [zAb];omega),zAg (by simp only [zAb];omega),zAj] at hp;cases hp
  ·match j,hq with
   | 0,hq =>
    simp at hq;subst hq
    rw [show zAb+0+0=zAb from rfl]
    refine ⟨by rw [zAg (by omega),zAj],?_⟩
    rw [zAg (by omega),zAj];rfl
   | 1,hq =>
    simp at hq;subst hq
    rw [show zAb+0+1=zAb+1 from rfl]
    refine ⟨by rw [zAj],?_⟩
    rw [zAj];rfl
  ·have h0:=hI 0 (by simp)
   have h1:=hI 1 (by simp)
   rw [zAg (by omega),zAg (by omega)]
   by_cases qY:g=d
   ·subst qY;rw [zAj]
   ·rw [zAg qY];exact hb g hg
  ·simpa using List.all_eq_true.1 uZ.2 x hx
theorem zLu (S:St w0 U Φ0 nt hv a w e Φ rv E L) (hb:zBk E) {d:Option Nat} (hd:∀ x,d=some x→x<nt) {t kt el:TypeId} {z key:PV} {kv zv:Value} {ok:Bool} {es:List (PV×PV)} {ms:Array MapEntry} {mv:Value} (ht:P.underlying t=some (.map kt el)) (vY:zPb P 20 kt key=true) (hk:Rep w Φ (zA1 w rv E) key kv [])
  (hz:(zeroValue el).run P w = .ok zv w) (wv:Rep w Φ zB6 z zv []) (hzp:z.lone=true) (hm:zDN w Φ es ms.toList 0) (vZ:mv = .map none∧ms=#[]∨∃ b n,mv = .map (some b)∧w.heap[b]? = some (.map ms n))
  (h:(zIC P d kt z key ok es).run o e=some e'):∃ v,(Instr.lookup t mv kv ok).run P w = .ok v w∧Fr w0 U Φ0 nt hv (a.put d v) w e':=by
 simp only [zIC] at h
 cases hf:zC1 P kt key es 0 with
 | none=>rw [hf] at h;cases h
 | some r =>
  rw [hf] at h
  have yU:=zHt vY hk hf hm
  have v1:=zJr (empty:=ms.isEmpty) 20 10000 kt key kv (by decide) vY hk
  have yA:∀ v ok',(match (r.bind fun j=>(ms.toList[j]?).map fun m=>(j,m.val)) with
    | some (_,v)=>(v,true)
    | none=>(zv,false))=(v,ok')→(Instr.lookup t mv kv ok).run P w = .ok (if ok then .tuple #[v,.bool ok'] else v) w:=by
   intro v ok' he
   revert he yU
   generalize (r.bind fun j=>(ms.toList[j]?).map fun m=>(j,m.val))=q
   intro yU he
   rcases vZ with ⟨rfl,rfl⟩ | ⟨b,n,rfl,yH⟩
   ·cases q with
    | none=>cases he;simp only [Instr.lookup,Sem.run_bind,run_underlying ht,Result.andThen_ok,Sem.run_pure,v1,yU,hz]
    | some x=>cases he;simp only [Instr.lookup,Sem.run_bind,run_underlying ht,Result.andThen_ok,Sem.run_pure,v1,yU]
   ·cases q with
    | none=>cases he;simp only [Instr.lookup,Sem.run_bind,run_underlying ht,Result.andThen_ok,Sem.run_pure,MapKept.run_getObj_map yH,v1,yU,hz]
    | some x=>cases he;simp only [Instr.lookup,Sem.run_bind,run_underlying ht,Result.andThen_ok,Sem.run_pure,MapKept.run_getObj_map yH,v1,yU]
  cases r with
  | none =>
   have:=yA zv false rfl
   refine ⟨_,this,?_⟩
   simp only at h
   cases ok with
   | true=>exact zKK S hb hd wv hzp (by simpa using h)
   | false =>
    simp only [Bool.false_eq_true,if_false] at h ⊢
    have h':(put d z).run o e=some e':=by
     revert h;cases d<;>simp only [zDg]<;>cases z<;>first | exact fun h=>h | (cases hzp;done)
    exact zAu S hb hd h' (wv.mono zDf.refl (fun _ _ _ h=>h.elim) (by simp))
  | some i =>
   obtain ⟨_,_,k,v,m,h3,h4,_,_,h5,_⟩:=(zDn hk es ms.toList 0 (some i) hf hm).2 i rfl
   simp only [Nat.sub_zero] at h3 h4
   have:=yA m.val true (by simp only [Option.bind_some,h4,Option.map_some])
   refine ⟨_,this,?_⟩
   simp only [h3] at h
   obtain ⟨hvp,h⟩:=zAF h
   cases ok with
   | true=>exact zKK S hb hd h5 hvp (by simpa using h)
   | false =>
    simp only [Bool.false_eq_true,if_false] at h ⊢
    have h':(put d v).run o e=some e':=by
     revert h;cases d<;>simp only [zDg]<;>cases v<;>first | exact fun h=>h | (cases hvp;done)
    exact zAu S hb hd h' (h5.mono zDf.refl (fun _ _ _ h=>h.elim) (by simp))
theorem zKW (S:St w0 U Φ0 nt hv a w e Φ rv E L) {r:Nat} {pre:zAO} {mv:Value} (hm:Rep w Φ (zA1 w rv E) (.bmap r pre) mv []) {es:List (PV×PV)} (hq:zAz (e.get r).unlock pre=some (.omap es)) :
  r<zAb∧∃ b ms,mv = .map (some b)∧w.heap[b]? = some (.map ms es.length)∧zDN w Φ es ms.toList 0:=by
 obtain ⟨_,hr,_,hn⟩:=hm
 rw [← S.env r hr] at hq
 obtain ⟨nv,La,Li,Lb,h1,_,h2,_⟩:=Rep.zip pre (zBT (S.conf.rep r)) hq
 obtain ⟨b,ms,_,h3,h4,h5⟩:=h2
 have:=hn nv _ h1 es rfl
 exact ⟨hr,b,ms,this.trans h3,h4,h5⟩
theorem zQE (S:St w0 U Φ0 nt hv a w e Φ rv E L) (hb:zBk E) {d:Option Nat} (hd:∀ x,d=some x→x<nt) {t:TypeId} {m x:Operand} {ok:Bool} (hm:zAL nt m=true) (hx:zAL nt x=true) (h:(zIq P d t m x ok).run o e=some e') :
  ∃ v,(Instr.lookup t (a.eval m) (a.eval x) ok).run P w = .ok v w∧Fr w0 U Φ0 nt hv (a.put d v) w e':=by
 obtain ⟨p,h1,hp⟩:=zBo S hm h
 obtain ⟨key,h2,hk⟩:=zBo S hx h1
 split at h2
 ·rename_i kt el ht
  obtain ⟨vY,h3⟩:=zAF h2
  obtain ⟨z,hz,h4⟩:=zBz h3
  obtain ⟨kS,h5⟩:=zAF h4
  obtain ⟨i,zv,_,_,uC,kM⟩:=zDH hz
  have wv:=zMS (zB8 (w:=w) (Φ:=Φ) (A:=zB6) kM).1
  cases p<;>simp only [zTn] at h5<;>try (cases h5;done)
  case nilm=>exact zLu S hb hd (ms:=#[]) (es:=[]) ht vY hk (uC w) wv kS (by simp [zDN]) (.inl ⟨hp.1,rfl⟩) h5
  case map es =>
   obtain ⟨_,b,ms,q1,_,q2,q3⟩:=hp
   exact zLu S hb hd ht vY hk (uC w) wv kS q3 (.inr ⟨b,_,q1,q2⟩) h5
  case bmap r pre =>
   obtain ⟨q,hq,h6⟩:=zBB h5
   cases q<;>simp only at h6<;>try (cases h6;done)
   rename_i es
   obtain ⟨_,b,ms,q1,q2,q3⟩:=zKW S hp hq
   exact zLu S hb hd ht vY hk (uC w) wv kS q3 (.inr ⟨b,_,q1,q2⟩) h6
 ·cases h2
theorem zGR:∀ {ps qs:List PV} {us vs:List Value} {A A':Al},ps.all PV.num=true→zFs ps qs=some true→zAX w Φ A ps us []→zAX w Φ A' qs vs []→us=vs∧∀ u∈us,∀ n,Instr.sameBits n u u=true
 | [],[],us,vs,A,A',_,_,h1,h2=>by rw [h1.1,h2.1];exact ⟨rfl,by simp⟩
 | [],_::_,us,vs,A,A',_,h,_,_=>by cases h
 | p::ps,[],us,vs,A,A',_,h,_,_=>by cases h
 | p :: ps,q::qs,us,vs,A,A',hp,h,h1,h2=>by
  simp only [List.all_cons,Bool.and_eq_true] at hp
  obtain ⟨u,us',L1,L2,rfl,hL,h3,h4⟩:=h1
  obtain ⟨v,vs',M1,M2,rfl,hM,h5,h6⟩:=h2
  obtain ⟨rfl,rfl⟩:=List.append_eq_nil_iff.1 hL.symm
  obtain ⟨rfl,rfl⟩:=List.append_eq_nil_iff.1 hM.symm
  simp only [zFs] at h
  cases v6:zXd p q with
  | none=>rw [v6] at h;cases h
  | some b1 =>
   rw [v6] at h
   cases y5:zFs ps qs with
   | none=>rw [y5] at h;cases h
   | some b2 =>
    rw [y5] at h
    simp only [Option.some.injEq,Bool.and_eq_true] at h
    obtain ⟨rfl,rfl⟩:=h
    obtain ⟨ih1,ih2⟩:=zGR hp.2 y5 h4 h6
    have huv:u=v∧∀ n,Instr.sameBits n u u=true:=by
     cases p<;>first | (cases hp.1;done) | skip
     case int k n =>
      cases q<;>simp only [zXd] at v6<;>try (cases v6;done)
      split at v6
      ·rename_i hk;subst hk
       simp only [Option.some.injEq,beq_iff_eq] at v6;subst v6
       refine ⟨h3.1.trans h5.1.symm,fun n=>?_⟩
       rw [h3.1];cases n<;>simp [Instr.sameBits]
      ·cases v6
     case bool b =>
      cases q<;>simp only [zXd] at v6<;>try (cases v6;done)
      simp only [Option.some.injEq,beq_iff_eq] at v6;subst v6
      refine ⟨h3.1.trans h5.1.symm,fun n=>?_⟩
      rw [h3.1];cases n<;>simp [Instr.sameBits]
    refine ⟨by rw [huv.1,ih1],fun x hx n=>?_⟩
    rcases List.mem_cons.1 hx with rfl | hx
    ·exact huv.2 n
    ·exact ih2 x hx n
theorem zPa {p q:PV} {x y:Value} {A A':Al} (hp:p.flat=true) (h:zFs p.cells q.cells=some true) (h1:Rep w Φ A p x []) (h2:Rep w Φ A' q y []) (ha:q.isAgg=p.isAgg):x=y∧Instr.sameBits 10000 x x=true:=by
 cases p<;>first | (cases hp;done) | skip
 case agg cs =>
  cases q<;>first | (cases ha;done) | skip
  rename_i ds
  obtain ⟨us,rfl,h3⟩:=h1
  obtain ⟨vs,rfl,h4⟩:=h2
  obtain ⟨k1,k2⟩:=zGR (A:=A) (A':=A') hp h h3 h4
  refine ⟨by rw [Array.toList_inj.1 k1],?_⟩
  simp only [Instr.sameBits,BEq.rfl,Bool.true_and,List.all_eq_true]
  intro z hz
  obtain ⟨j,hj⟩:=List.getElem?_of_mem hz
  obtain ⟨g1,g2⟩:=List.getElem?_zip_eq_some.1 hj
  rw [g1] at g2
  simp only [Option.some.injEq] at g2
  rw [← g2]
  exact k2 _ (List.mem_of_getElem? g1) _
 case int k n =>
  cases q<;>first | (cases ha;done) | skip
  all_goals
   obtain ⟨k1,k2⟩:=zGR (A:=A) (A':=A') (ps:=[.int k n]) rfl h ⟨_,[],[],[],rfl,rfl,h1,rfl,rfl⟩ ⟨_,[],[],[],rfl,rfl,h2,rfl,rfl⟩
   exact ⟨by simpa using k1,k2 _ (by simp) _⟩
 case bool b =>
  cases q<;>first | (cases ha;done) | skip
  all_goals
   obtain ⟨k1,k2⟩:=zGR (A:=A) (A':=A') (ps:=[.bool b]) rfl h ⟨_,[],[],[],rfl,rfl,h1,rfl,rfl⟩ ⟨_,[],[],[],rfl,rfl,h2,rfl,rfl⟩
   exact ⟨by simpa using k1,k2 _ (by simp) _⟩
theorem zUB {n:Nat} {t:TypeId} {p q:PV} {b:Bool} (h:eqT P n t p q=some b):q.isAgg=p.isAgg:=by
 cases n with
 | zero=>cases h
 | succ n =>
  simp only [eqT] at h
  split at h<;>first | rfl | (cases h;done)
theorem zJx {kt:TypeId} {key:PV}:∀ {es:List (PV×PV)} {i j:Nat},zC1 P kt key es i=some (some j)→i≤j∧∃ k v,es[j-i]? = some (k,v)∧k.isAgg=key.isAgg
 | [],i,j,h=>by cases h
 | (k, v)::es,i,j,h=>by
  simp only [zC1] at h
  split at h
  ·rename_i he
   split at h
   ·simp only [Option.some.injEq] at h;subst h
    exact ⟨Nat.le_refl _,k,v,by simp,zUB he⟩
   ·cases h
  ·obtain ⟨h1,k',v',h2,h3⟩:=zJx h
   exact ⟨by omega,k',v',by rw [show j-i=(j-(i+1))+1 by omega];simpa using h2,h3⟩
  ·cases h
theorem zN0 (S:St w0 U Φ0 nt hv a w e Φ rv E L) {r b:Nat} {pre:zAO} {mv:Value} {es es':List (PV×PV)} {ms ms':Array MapEntry} {root:PV} (hm:Rep w Φ (zA1 w rv E) (.bmap r pre) mv []) (hq:zAz (e.get r).unlock pre=some (.omap es)) (vZ:mv = .map (some b))
  (jY:w.heap[b]? = some (.map ms es.length)) (yG:(e.get r).isLock=false) (yu:zAv (fun _=>some (.omap es')) (e.get r) pre=some root) (hR:∀ w':World,(∀ c,Φ c→w'.heap[c]? = w.heap[c]?)→zDN w' Φ es' ms'.toList 0) :
  ∃ rv' E' L',St w0 U Φ0 nt hv a {w with heap:=w.heap.setIfInBounds b (.map ms' es'.length)} (e.set r root) Φ rv' E' L'∧zBk E'∧∀ c,Φ c→({w with heap:=w.heap.setIfInBounds b (.map ms' es'.length)}:World).heap[c]? = w.heap[c]?:=by
 obtain ⟨_,hr,_,hn⟩:=hm
 rw [← S.env r hr] at hq yG yu
 have jA:(E r).unlock=E r:=by cases hE:E r<;>first | rfl | (rw [hE] at yG;cases yG)
 rw [jA] at hq
 obtain ⟨kr,kt⟩:=zBD (q' := .omap es') rfl rfl yu
 obtain ⟨nv,Li,vC,hX,qv,ul,vj⟩:=S.conf.mod hr (f:=fun x=>x) (fun _ => .inl rfl) (pre:=pre) (q := .omap es) (by rw [zBb];exact jA) (by rw [zBb];exact hq)
 rw [zBb] at vC
 obtain ⟨b',ents,rfl,rfl,hh',_⟩:=hX
 have hbb:b'=b:=by
  have:=hn _ _ (by rw [jA];exact vC) es rfl
  rw [vZ] at this;cases this;rfl
 subst hbb
 have jL:b'∈L r:=ul b' (by simp)
 have hnΦ:¬ Φ b':=(S.conf.own r b' jL).2.1
 obtain ⟨s1,s2⟩:=MapKept.heap_set (o' := .map ms' es'.length) jY
 have hG:∀ s,decide (zAb≤s)=true↔zAb≤s:=fun s=>decide_eq_true_iff
 obtain ⟨L',vd,hc⟩:=vj (fun s=>decide (zAb≤s)) {w with heap:=w.heap.setIfInBounds b' (.map ms' es'.length)} (.omap es') root [b'] (fun s hs=>(hG s).1 hs) (fun _=>rfl) (by rw [zBb];exact yu) kr
  (fun A hA=>⟨b',ms',rfl,rfl,s1,hR _ fun c hc=>s2 c fun h=>hnΦ (h▸hc)⟩) (by simp) (fun c hc => .inl hc) (by simp)
  (fun c hc hci _=>s2 c (by simpa using hci)) (fun rest nv2 np2 hf hh=>by
   cases rest with
   | nil =>
    simp only [zAN,Option.some.injEq,Prod.mk.injEq] at hf
    obtain ⟨rfl,rfl⟩:=hf
    exact .inr ⟨_,rfl,trivial⟩
   | cons ic rest=>obtain ⟨i,c⟩:=ic;rw [zA2] at hf;cases hf) ⟨rfl,rfl,rfl⟩
 have hdec:∀ s,s<zAb→decide (zAb≤s)=false:=fun s hs=>decide_eq_false (by omega)
 refine ⟨_,_,_,S.turn (e':=e.set r root) hc (fun s hs=>?_) (fun s hs=>rfl) (fun d ps hd hp=>?_),fun g hg=>?_,fun c hc=>s2 c fun h=>hnΦ (h▸hc)⟩
 ·rw [Env.get_set]
  by_cases yY:s=r
  ·subst yY;rw [if_pos rfl,if_pos rfl]
  ·rw [if_neg yY,if_neg yY,hdec s hs];simp only [Bool.false_eq_true,if_false,zBb];exact S.env s hs
 ·by_cases jg:d=r
  ·subst jg;rw [if_pos rfl] at hp;rw [hp] at kt;cases kt
  ·rw [if_neg jg,hdec d (by simp only [zAb];omega)] at hp
   simp only [Bool.false_eq_true,if_false,zBb] at hp
   exact ⟨ps,hp,rfl⟩
 ·show (if g=r then root else if decide (zAb≤g)=true then PV.bad else PV.mapW (fun x=>x) (E g))=PV.bad
  rw [if_neg (by omega),(hG g).2 hg];rfl
theorem zIL (S:St w0 U Φ0 nt hv a w e Φ rv E L) {r b:Nat} {pre:zAO} {mv:Value} {es es':List (PV×PV)} {ms ms':Array MapEntry} {root:PV} (hm:Rep w Φ (zA1 w rv E) (.bmap r pre) mv []) (hq:zAz (e.get r).unlock pre=some (.omap es)) (vZ:mv = .map (some b))
  (jY:w.heap[b]? = some (.map ms es.length)) (yG:(e.get r).isLock=false) (yu:zAv (fun _=>some (.omap es')) (e.get r) pre=some root) (hR:∀ w':World,(∀ c,Φ c→w'.heap[c]? = w.heap[c]?)→zDN w' Φ es' ms'.toList 0) :
  Fr w0 U Φ0 nt hv a {w with heap:=w.heap.setIfInBounds b (.map ms' es'.length)} (e.set r root):=by
 obtain ⟨rv',E',L',h1,h2,_⟩:=zN0 S hm hq vZ jY yG yu hR
 exact ⟨Φ,rv',E',L',h1,h2⟩
theorem zDN.modify' {w':World} (hΦ:∀ c,Φ c→w'.heap[c]? = w.heap[c]?) {key v:PV} {kv vv:Value} (hk:Rep w Φ zB6 key kv []) (hv:Rep w Φ zB6 v vv []):∀ (es:List (PV×PV)) (ms:List MapEntry) (i j:Nat),zDN w Φ es ms i→zDN w' Φ (es.modify j fun _=>(key,v)) (ms.modify j fun m=>{m with key:=kv,val:=vv}) i
 | [],ms,i,j,h=>by simp only [zDN] at h;subst h;cases j<;>simp [zDN]
 | (k,p)::es,ms,i,0,h=>by
  obtain ⟨m,ms',rfl,hb,h1,h2,h3⟩:=h
  simp only [List.modify_zero_cons]
  exact ⟨_,_,rfl,hb,hk.mono (fun c hc=>⟨hc,hΦ c hc⟩) (fun _ _ _ h=>h) (by simp),hv.mono (fun c hc=>⟨hc,hΦ c hc⟩) (fun _ _ _ h=>h) (by simp),zDN.same (fun c hc=>⟨hc,hΦ c hc⟩) _ _ _ h3⟩
 | (k,p)::es,ms,i,j+1,h=>by
  obtain ⟨m,ms',rfl,hb,h1,h2,h3⟩:=h
  simp only [List.modify_succ_cons]
  exact ⟨_,_,rfl,hb,h1.mono (fun c hc=>⟨hc,hΦ c hc⟩) (fun _ _ _ h=>h) (by simp),h2.mono (fun c hc=>⟨hc,hΦ c hc⟩) (fun _ _ _ h=>h) (by simp),zDN.modify' hΦ hk hv es ms' (i+1) j h3⟩
theorem zDN.push' {w':World} (hΦ:∀ c,Φ c→w'.heap[c]? = w.heap[c]?) {key v:PV} {kv vv:Value} (hk:Rep w Φ zB6 key kv []) (hv:Rep w Φ zB6 v vv []):∀ (es:List (PV×PV)) (ms:List MapEntry) (i:Nat),zDN w Φ es ms i→zDN w' Φ (es++[(key,v)]) (ms++[{key:=kv,val:=vv,born:=i+es.length}]) i
 | [],ms,i,h=>by
  simp only [zDN] at h;subst h
  exact ⟨_,_,rfl,rfl,hk.mono (fun c hc=>⟨hc,hΦ c hc⟩) (fun _ _ _ h=>h) (by simp),hv.mono (fun c hc=>⟨hc,hΦ c hc⟩) (fun _ _ _ h=>h) (by simp),by simp [zDN]⟩
 | (k,p)::es,ms,i,h=>by
  obtain ⟨m,ms',rfl,hb,h1,h2,h3⟩:=h
  have ih:=zDN.push' hΦ hk hv es ms' (i+1) h3
  rw [show i+1+es.length=i+(es.length+1) by omega] at ih
  exact ⟨m,_,rfl,hb,h1.mono (fun c hc=>⟨hc,hΦ c hc⟩) (fun _ _ _ h=>h) (by simp),h2.mono (fun c hc=>⟨hc,hΦ c hc⟩) (fun _ _ _ h=>h) (by simp),ih⟩
theorem zII {p:PV} (h:p.flat=true):p.lone=true:=by
 cases p<;>first | (cases h;done) | rfl | skip
 rename_i cs
 simp only [PV.flat,PV.lone,List.all_eq_true] at h ⊢
 intro q hq
 have:=h q hq
 cases q<;>first | (cases this;done) | rfl
theorem zQf (S:St w0 U Φ0 nt hv a w e Φ rv E L) {t kt el:TypeId} {key v m:PV} {mv kv vv:Value} (ht:P.underlying t=some (.map kt el)) (vY:zPb P 20 kt key=true) (hkf:key.flat=true) (hEv:E zAb=v) (hEm:E (zAb+1)=m) (hEk:E (zAb+2)=key) (jH:rv zAb=vv) (hrm:rv (zAb+1)=mv) (hrk:rv (zAb+2)=kv)
  (h:(zLO P kt key v m).run o e=some e'):∃ w',(Instr.mapUpdate t mv kv vv).run P w = .ok () w'∧Fr w0 U Φ0 nt hv a w' e':=by
 have h0:=S.conf.rep zAb
 have h1:=S.conf.rep (zAb+1)
 have h2:=S.conf.rep (zAb+2)
 rw [hEv,jH] at h0
 rw [hEm,hrm] at h1
 rw [hEk,hrk] at h2
 cases m<;>simp only [zLO] at h<;>try (cases h;done)
 rename_i r pre
 obtain ⟨jy,h⟩:=zAF h
 obtain ⟨_,ur⟩:=zGS jy h0
 obtain ⟨jI,vN⟩:=zGS (zII hkf) h2
 rw [jI] at h2
 have hL1:L (zAb+1)=[]:=h1.1
 rw [hL1] at h1
 obtain ⟨q,hq,h⟩:=zBB h
 cases q<;>simp only at h<;>try (cases h;done)
 rename_i es
 obtain ⟨_,b,ms,rfl,jY,hM⟩:=zKW S h1 hq
 cases hf:zC1 P kt key es 0 with
 | none=>rw [hf] at h;cases h
 | some x =>
  rw [hf] at h
  have yU:=zHt vY h2 hf hM
  have v1:=zJr (empty:=false) 20 10000 kt key kv (by decide) vY h2
  cases x with
  | none =>
   obtain ⟨root,yG,yu,h⟩:=zBP h
   simp only [PM.run,Option.some.injEq] at h;subst h
   have:=zIL S (ms':=ms.push {key:=kv,val:=vv,born:=es.length}) h1 hq rfl jY yG yu (fun w' hw=>by
    have:=zDN.push' hw vN ur es ms.toList 0 hM
    simpa using this)
   refine ⟨_,?_,this⟩
   simp only [Option.bind_none] at yU
   simp [Instr.mapUpdate,run_underlying ht,MapKept.run_getObj_map jY,v1,yU,MapKept.run_setObj_map _ jY]
  | some i =>
   obtain ⟨root,yG,yu,h⟩:=zBP h
   simp only [PM.run,Option.some.injEq] at h;subst h
   obtain ⟨_,hi,k,v',m,h3,h4,h5,h6,h7,h8⟩:=(zDn h2 es ms.toList 0 (some i) hf hM).2 i rfl
   simp only [Nat.sub_zero] at h3 h4 hi
   obtain ⟨_,k',v'',h9,jQ⟩:=zJx hf
   simp only [Nat.sub_zero] at h9
   rw [h3] at h9;cases h9
   obtain ⟨wX,hsb⟩:=zPa hkf h5 h2 h6 jQ
   have:=zIL S (ms':=ms.modify i fun m=>{m with key:=kv,val:=vv}) h1 hq rfl jY yG yu (fun w' hw=>by
    have:=zDN.modify' hw vN ur es ms.toList 0 i hM
    simpa using this)
   refine ⟨_,?_,this⟩
   have qk:ms[i]? = some m:=by rw [← Array.getElem?_toList];exact h4
   simp only [Option.bind_some,h4,Option.map_some] at yU
   rw [wX] at hsb v1 yU ⊢
   simp [Instr.mapUpdate,run_underlying ht,MapKept.run_getObj_map jY,v1,yU,qk,Instr.keyThatStays,hsb,MapKept.run_setObj_map _ jY]
theorem zJ6 (S:St w0 U Φ0 nt hv a w e Φ rv E L) (hb:zBk E) {t:TypeId} {m x y:Operand} (hm:zAL nt m=true) (hx:zAL nt x=true) (hy:zAL nt y=true) (h:(zEY P t m x y).run o e=some e') :
  ∃ w',(Instr.mapUpdate t (a.eval m) (a.eval x) (a.eval y)).run P w = .ok () w'∧Fr w0 U Φ0 nt hv a w' e':=by
 obtain ⟨p,h1,hp⟩:=zBo S hm h
 obtain ⟨key,h2,hk⟩:=zBo S hx h1
 split at h2
 ·rename_i kt el ht
  obtain ⟨hc,h3⟩:=zAF h2
  simp only [Bool.and_eq_true] at hc
  have uM:=(zGS (zII hc.2) hk).2
  have S1:=S.hold (g:=zAb+1) (by omega) hp
  have S2:=S1.hold (g:=zAb+2) (by omega) (uM.mono (A':=zA1 w (upd rv (zAb+1) (a.eval m)) (upd E (zAb+1) p)) zDf.refl (fun _ _ _ h=>h.elim) (by simp))
  obtain ⟨e1,rv1,E1,L1,h4,S3,h5,h6⟩:=zGm S2 hy (g:=zAb) (Nat.le_refl _) h3
  obtain ⟨e2,rv2,E2,h7,W⟩:=zOA S3 (g:=zAb) (Nat.le_refl _) h4
  obtain ⟨Φ2,L2,S4⟩:=W.st
  obtain ⟨Φ3,L3,S5⟩:=S4.iced (g:=zAb) (Nat.le_refl _)
  obtain ⟨a1,a2,_⟩:=h6 (zAb+1) (by omega) (by omega)
  obtain ⟨b1,b2,_⟩:=h6 (zAb+2) (by omega) (by omega)
  obtain ⟨c1,c2⟩:=W.rest (zAb+1) (by omega) (by omega)
  obtain ⟨d1,d2⟩:=W.rest (zAb+2) (by omega) (by omega)
  refine zQf S5 (vv:=a.eval y) (mv:=a.eval m) (kv:=a.eval x) ht hc.1 hc.2 zAj ?_ ?_ ?_ ?_ ?_ h7
  ·rw [zAg (by omega),c1,a1,zAg (by omega),zAj]
  ·rw [zAg (by omega),d1,b1,zAj]
  ·rw [W.val,h5]
  ·rw [c2,a2,zAg (by omega),zAj]
  ·rw [d2,b2,zAj]
 ·cases h2
end
end Go.Eng
namespace Go.Eng
open Go
section
variable {P:Program} {w0 w:World} {U Φ0 Φ:Nat→Prop} {nt:Nat} {hv:Hid} {a:Act} {e e':Env} {rv:Nat→Value} {E:Nat→PV} {L:Nat→List Nat} {o:zAC} {A:Al}
theorem zJa (S:St w0 U Φ0 nt hv a w e Φ rv E L) (hb:zBk E) {d:Option Nat} (hd:∀ x,d=some x→x<nt) {p:PV} {v:Value} {n:Int} (hp:Rep w Φ zB6 p v []) (uq:p.lone=true) (h:(zDg d (.tup [p,.int .i64 n])).run o e=some e') :
  Fr w0 U Φ0 nt hv (a.put d (.tuple #[v,.int .i64 n])) w e':=by
 have jv:=S.small
 cases d with
 | none =>
  simp only [zDg] at h
  exact zAu S hb hd h ⟨#[v,.int .i64 n],rfl,v,[.int .i64 n],[],[],rfl,rfl,hp.mono zDf.refl (fun _ _ _ h=>h.elim) (by simp),.int .i64 n,[],[],[],rfl,rfl,⟨rfl,rfl⟩,rfl,rfl⟩
 | some d =>
  have uK:=hd d rfl
  simp only [zDg] at h
  obtain ⟨uZ,h⟩:=zAF h
  simp only [PM.run] at h
  simp only [Bool.and_eq_true] at uZ
  obtain ⟨L1,S1⟩:=S.empty uK
  have S2:=S1.hold (g:=zAb) (Nat.le_refl _) (hp.mono (A':=zA1 w rv (upd E d .bad)) zDf.refl (fun _ _ _ h=>h.elim) (by simp))
  have S3:=S2.hold (g:=zAb+1) (by omega) (p := .int .i64 n) (v := .int .i64 n) ⟨rfl,rfl⟩
  refine zEW uK (vs:=#[v,.int .i64 n]) [p,.int .i64 n] 0 S3 (fun ps hp=>?_) (by simp) (by simp) (fun j q hq=>?_) (fun g hg hI=>?_) (fun x hx=>?_) (fun j hj=>by omega) h
  ·rw [zAg (by simp only [zAb];omega),zAg (by simp only [zAb];omega),zAj] at hp;cases hp
  ·match j,hq with
   | 0,hq =>
    simp at hq;subst hq
    rw [show zAb+0+0=zAb from rfl]
    refine ⟨by rw [zAg (by omega),zAj],?_⟩
    rw [zAg (by omega),zAj];rfl
   | 1,hq =>
    simp at hq;subst hq
    rw [show zAb+0+1=zAb+1 from rfl]
    refine ⟨by rw [zAj],?_⟩
    rw [zAj];rfl
  ·have h0:=hI 0 (by simp)
   have h1:=hI 1 (by simp)
   rw [zAg (by omega),zAg (by omega)]
   by_cases qY:g=d
   ·subst qY;rw [zAj]
   ·rw [zAg qY];exact hb g hg
  ·simpa using List.all_eq_true.1 uZ.2 x hx
theorem zNm {ms:Array MapEntry} {i:Nat} {m:MapEntry} {kv:Value} (h:ms[i]? = some m):ms.modify i (fun e=>{e with key:=kv})=ms.modify i (fun e=>{e with key:=kv,val:=m.val}):=by
 apply Array.ext_getElem?
 intro j
 rw [Array.getElem?_modify,Array.getElem?_modify]
 by_cases hj:i=j
 ·subst hj;simp [h]
 ·simp [hj]
theorem zKL (S:St w0 U Φ0 nt hv a w e Φ rv E L) (hb:zBk E) {d:Option Nat} (hd:∀ x,d=some x→x<nt) {t:TypeId} {m x:Operand} (hm:zAL nt m=true) (hx:zAL nt x=true) (h:(zF4 P d t m x).run o e=some e') :
  ∃ v w',(Instr.mapEntry t (a.eval m) (a.eval x)).run P w = .ok v w'∧Fr w0 U Φ0 nt hv (a.put d v) w' e':=by
 obtain ⟨p,h1,hp⟩:=zBo S hm h
 obtain ⟨key,h2,hk⟩:=zBo S hx h1
 split at h2
 ·rename_i kt el ht
  obtain ⟨hc,h3⟩:=zAF h2
  simp only [Bool.and_eq_true] at hc
  obtain ⟨vY,hkf⟩:=hc
  obtain ⟨z,hz,h4⟩:=zBz h3
  obtain ⟨kS,h5⟩:=zAF h4
  obtain ⟨_,zv,_,_,uC,kM⟩:=zDH hz
  have wv:=zMS (zB8 (w:=w) (Φ:=Φ) (A:=zB6) kM).1
  generalize zJK z=z at *
  have vN:=(zGS (zII hkf) hk).2
  cases p<;>simp only [zO4] at h5<;>try (cases h5;done)
  rename_i r pre
  obtain ⟨q,hq,h6⟩:=zBB h5
  cases q<;>simp only at h6<;>try (cases h6;done)
  rename_i es
  obtain ⟨_,b,ms,vZ,jY,hM⟩:=zKW S hp hq
  cases hf:zC1 P kt key es 0 with
  | none=>rw [hf] at h6;cases h6
  | some y =>
   rw [hf] at h6
   have yU:=zHt vY hk hf hM
   have v1:=zJr (empty:=false) 20 10000 kt key (a.eval x) (by decide) vY hk
   rw [vZ]
   cases y with
   | none =>
    simp only at h6
    obtain ⟨root,yG,yu,h7⟩:=zBP h6
    obtain ⟨rv',E',L',S',yH,yy⟩:=zN0 S (ms':=ms.push {key:=a.eval x,val:=zv,born:=es.length}) hp hq vZ jY yG yu (fun w' hw=>by
     have:=zDN.push' hw vN wv es ms.toList 0 hM
     simpa using this)
    have hzr':=wv.mono (w':={w with heap:=w.heap.setIfInBounds b (.map (ms.push {key:=a.eval x,val:=zv,born:=es.length}) (es++[(key,z)]).length)}) (fun c hc=>⟨hc,yy c hc⟩) (fun _ _ _ h=>h) (by simp)
    refine ⟨_,_,?_,zJa S' yH hd hzr' kS h7⟩
    simp only [Option.bind_none] at yU
    simp [Instr.mapEntry,run_underlying ht,MapKept.run_getObj_map jY,v1,yU,uC,MapKept.run_setObj_map _ jY,goInt]
   | some i =>
    obtain ⟨_,hi,k,v',m',g3,g4,g5,g6,g7,g8⟩:=(zDn hk es ms.toList 0 (some i) hf hM).2 i rfl
    simp only [Nat.sub_zero] at g3 g4 hi
    simp only [g3] at h6
    obtain ⟨jy,h6⟩:=zAF h6
    obtain ⟨root,yG,yu,h7⟩:=zBP h6
    obtain ⟨_,k',v'',g9,g10⟩:=zJx hf
    simp only [Nat.sub_zero] at g9
    rw [g3] at g9;cases g9
    obtain ⟨wX,hsb⟩:=zPa hkf g5 hk g6 g10
    have g4':ms[i]? = some m':=by rw [← Array.getElem?_toList];exact g4
    obtain ⟨rv',E',L',S',yH,yy⟩:=zN0 S (ms':=ms.modify i fun e=>{e with key:=a.eval x,val:=m'.val}) hp hq vZ jY yG yu (fun w' hw=>by
     have:=zDN.modify' hw vN g7 es ms.toList 0 i hM
     simpa using this)
    have hvr':=g7.mono (w':={w with heap:=w.heap.setIfInBounds b (.map (ms.modify i fun e=>{e with key:=a.eval x,val:=m'.val}) (es.modify i fun _=>(key,v')).length)}) (fun c hc=>⟨hc,yy c hc⟩) (fun _ _ _ h=>h) (by simp)
    refine ⟨_,_,?_,zJa S' yH hd hvr' jy h7⟩
    simp only [Option.bind_some,g4,Option.map_some] at yU
    have wc:=zNm (kv:=m'.key) g4'
    rw [wX] at hsb v1 yU ⊢
    simp [Instr.mapEntry,run_underlying ht,MapKept.run_getObj_map jY,v1,yU,g4',Instr.keyThatStays,hsb,MapKept.run_setObj_map _ jY,goInt,wc,g8]
 ·cases h2
theorem zR0:∀ {es:List (PV×PV)} {ms:List MapEntry} {i j:Nat},zDN w Φ es ms j→i<ms.length→ms.findIdx? (fun e=>(e.born:Int)==((i+j:Nat):Int))=some i
 | [],ms,i,j,h,hi=>by simp only [zDN] at h;subst h;simp at hi
 | (k,p)::es,ms,0,j,h,hi=>by
  obtain ⟨m,ms',rfl,hb,_⟩:=h
  rw [List.findIdx?_cons,hb];simp
 | (k,p)::es,ms,i+1,j,h,hi=>by
  obtain ⟨m,ms',rfl,hb,_,_,h3⟩:=h
  have:=zR0 (i:=i) h3 (by simpa using hi)
  rw [List.findIdx?_cons,hb]
  have hI:((j:Int)==((i+1+j:Nat):Int))=false:=by simp;omega
  rw [hI]
  simp only [Bool.false_eq_true,if_false]
  rw [show i+1+j=i+(j+1) by omega,this];rfl
theorem zRd:∀ {es:List (PV×PV)} {ms:List MapEntry} {i j:Nat} {k x:PV},zDN w Φ es ms j→es[i]? = some (k,x)→∃ m,ms[i]? = some m∧Rep w Φ zB6 k m.key []
 | [],_,_,_,_,_,_,h=>by cases h
 | (k',p)::es,ms,0,j,k,x,h,hi=>by
  obtain ⟨m,ms',rfl,_,h1,_⟩:=h
  cases hi
  exact ⟨m,rfl,h1⟩
 | (k',p)::es,ms,i+1,j,k,x,h,hi=>by
  obtain ⟨m,ms',rfl,_,_,_,h3⟩:=h
  exact zRd (i:=i) h3 (by simpa using hi)
theorem zMz {ms:Array MapEntry} {i:Nat} {m:MapEntry} {vv:Value} (h:ms[i]? = some m):ms.modify i (fun e=>{e with val:=vv})=ms.modify i (fun e=>{e with key:=m.key,val:=vv}):=by
 apply Array.ext_getElem?
 intro j
 rw [Array.getElem?_modify,Array.getElem?_modify]
 by_cases hj:i=j
 ·subst hj;simp [h]
 ·simp [hj]
theorem zI0 (S:St w0 U Φ0 nt hv a w e Φ rv E L) (hb:zBk E) {t:TypeId} {m s y:Operand} (hm:zAL nt m=true) (hs:zAL nt s=true) (hy:zAL nt y=true) (h:(zEk m s y).run o e=some e') :
  ∃ w',(Instr.entryStore t (a.eval m) (a.eval s) (a.eval y)).run P w = .ok () w'∧Fr w0 U Φ0 nt hv a w' e':=by
 obtain ⟨p,h1,hp⟩:=zBo S hm h
 obtain ⟨q,h2,hq⟩:=zBo S hs h1
 obtain ⟨ik,n,rfl,hn,h3⟩:=zDZ h2
 have hq0:a.eval s = .int ik n:=hq.1
 have S1:=S.hold (g:=zAb+1) (by omega) hp
 obtain ⟨e1,rv1,E1,L1,h4,S3,h5,h6⟩:=zGm S1 hy (g:=zAb) (Nat.le_refl _) h3
 obtain ⟨e2,rv2,E2,h7,W⟩:=zOA S3 (g:=zAb) (Nat.le_refl _) h4
 obtain ⟨Φ2,L2,S4⟩:=W.st
 obtain ⟨Φ3,L3,S5⟩:=S4.iced (g:=zAb) (Nat.le_refl _)
 obtain ⟨a1,a2,_⟩:=h6 (zAb+1) (by omega) (by omega)
 obtain ⟨c1,c2⟩:=W.rest (zAb+1) (by omega) (by omega)
 have hEm:(upd E2 zAb (zAP (E2 zAb))) (zAb+1)=p:=by rw [zAg (by omega),c1,a1,zAj]
 have hrm:rv2 (zAb+1)=a.eval m:=by rw [c2,a2,zAj]
 have jH:rv2 zAb=a.eval y:=by rw [W.val,h5]
 have h0:=S5.conf.rep zAb
 have hM1:=S5.conf.rep (zAb+1)
 rw [zAj,jH] at h0
 rw [hEm,hrm] at hM1
 generalize yD:zAP (E2 zAb)=v at *
 cases p<;>simp only [zIj] at h7<;>try (cases h7;done)
 rename_i r pre
 obtain ⟨jy,h7⟩:=zAF h7
 obtain ⟨_,ur⟩:=zGS jy h0
 have hL1:L3 (zAb+1)=[]:=hM1.1
 rw [hL1] at hM1
 obtain ⟨q,hq,h8⟩:=zBB h7
 cases q<;>simp only at h8<;>try (cases h8;done)
 rename_i es
 obtain ⟨_,b,ms,vZ,jY,hM⟩:=zKW S5 hM1 hq
 cases hes:es[n.toNat]? with
 | none=>rw [hes] at h8;cases h8
 | some kx =>
  obtain ⟨k,x⟩:=kx
  rw [hes] at h8
  simp only at h8
  obtain ⟨root,yG,yu,h9⟩:=zBP h8
  simp only [PM.run,Option.some.injEq] at h9;subst h9
  obtain ⟨m',g4,g5⟩:=zRd hM hes
  have g4':ms[n.toNat]? = some m':=by rw [← Array.getElem?_toList];exact g4
  have yF:n.toNat<ms.toList.length:=(List.getElem?_eq_some_iff.1 g4).1
  have kI:=zR0 hM yF
  rw [Nat.add_zero,Int.toNat_of_nonneg hn] at kI
  have:=zIL S5 (ms':=ms.modify n.toNat fun e=>{e with key:=m'.key,val:=a.eval y}) hM1 hq vZ jY yG yu (fun w' hw=>by
   have:=zDN.modify' hw g5 ur es ms.toList 0 n.toNat hM
   simpa using this)
  refine ⟨_,?_,this⟩
  have kF:a.eval s = .int ik n:=hq0
  rw [vZ,kF]
  have hf:ms.findIdx? (fun e=>(e.born:Int)==n)=some n.toNat:=by first | (rw [← Array.findIdx?_toList];exact kI) | (rw [Array.findIdx?_toList] at kI;exact kI) | (rw [← kI];exact (Array.findIdx?_toList ..).symm) | (rw [← kI];exact (List.findIdx?_toArray ..))
  simp [Instr.entryStore,MapKept.run_getObj_map jY,asInt,asIntOf,hf,MapKept.run_setObj_map _ jY,zMz g4']
end
end Go.Eng
namespace Go.Eng
open Go
section
variable {w:World} {Φ:Nat→Prop} {rv:Nat→Value} {E:Nat→PV}
mutual
theorem zGX:∀ (p:PV) (v:Value) (L:List Nat),Rep w Φ (zA1 w rv E) p v L→∀ x∈p.ways,x.1<zAb
 | .agg cs,v,L,h,x,hx=>by obtain ⟨vs,_,h⟩:=h;exact zFz cs _ L h x hx
 | .tup cs,v,L,h,x,hx=>by obtain ⟨vs,_,h⟩:=h;exact zFz cs _ L h x hx
 | .ref q,v,L,h,x,hx=>by obtain ⟨_,a,c,u,_,_,_,_,_,_,h7⟩:=h;exact zGX q u [] h7 x hx
 | .box q,v,L,h,x,hx=>by obtain ⟨a,c,u,L',_,_,_,_,_,_,h7⟩:=h;exact zGX q u L' h7 x hx
 | .lock q,v,L,h,x,hx=>zGX q v L h x hx
 | .func g a b,v,L,h,x,hx=>by
  obtain ⟨_,fs,cs,_,h2,h3⟩:=h
  simp only [PV.ways,List.mem_append] at hx
  rcases hx with hx | hx
  ·exact zFz a _ [] h2 x hx
  ·exact zFz b _ [] h3 x hx
 | .addr ..,v,L,h,x,hx=>by simp only [PV.ways,List.mem_singleton] at hx;subst hx;exact h.2.1
 | .bor ..,v,L,h,x,hx=>by simp only [PV.ways,List.mem_singleton] at hx;subst hx;exact h.2.1
 | .bsl ..,v,L,h,x,hx=>by simp only [PV.ways,List.mem_singleton] at hx;subst hx;exact h.2.1
 | .bmap ..,v,L,h,x,hx=>by simp only [PV.ways,List.mem_singleton] at hx;subst hx;exact h.2.1
 | .yld _,v,L,h,x,hx=>by cases hx
 | .log ..,v,L,h,x,hx=>h.2.elim
 | .bad,_,_,_,x,hx=>by cases hx
 | .und,_,_,_,x,hx=>by cases hx
 | .int ..,_,_,_,x,hx=>by cases hx
 | .bool _,_,_,_,x,hx=>by cases hx
 | .nilp,_,_,_,x,hx=>by cases hx
 | .nilf,_,_,_,x,hx=>by cases hx
 | .nilm,_,_,_,x,hx=>by cases hx
 | .nn,_,_,_,x,hx=>by cases hx
 | .nils _,_,_,_,x,hx=>by cases hx
 | .sl _,_,_,_,x,hx=>by cases hx
 | .own ..,_,_,_,x,hx=>by cases hx
 | .map _,_,_,_,x,hx=>by cases hx
 | .omap _,_,_,_,x,hx=>by cases hx
theorem zFz:∀ (ps:List PV) (vs:List Value) (L:List Nat),zAX w Φ (zA1 w rv E) ps vs L→∀ x∈zBn ps,x.1<zAb
 | [],_,_,_,x,hx=>by cases hx
 | p::ps,vs,L,h,x,hx=>by
  obtain ⟨v,vs',L1,L2,_,_,h1,h2⟩:=h
  simp only [zBn,List.mem_append] at hx
  rcases hx with hx | hx
  ·exact zGX p v L1 h1 x hx
  ·exact zFz ps vs' L2 h2 x hx
end
theorem zV8 {w:World} {rv rv':Nat→Value} {E E':Nat→PV} (h:∀ s,s<zAb→E' s=E s∧rv' s=rv s) {a:PV} {v:Value} (ha:zA1 w rv E a v):zA1 w rv' E' a v:=by
 obtain ⟨h1,h2⟩:=h _ (zCM ha)
 exact ha.mono fun nv np hn hh=>⟨np,by rw [h1,h2] at hn;exact hn,zB9.refl hh⟩
end
section
variable {P:Program} {w0 w:World} {U Φ0 Φ:Nat→Prop} {nt:Nat} {hv:Hid} {a:Act} {e e':Env} {rv:Nat→Value} {E:Nat→PV} {L:Nat→List Nat} {o:zAC}
theorem zKQ:∀ (ps:List PV) (vs:List Value) (i:Nat) {rv:Nat→Value} {E:Nat→PV} {L:Nat→List Nat},St w0 U Φ0 nt hv a w e Φ rv E L→zAX w Φ (zA1 w rv E) ps vs [] →
  ∃ rv1 E1 L1,St w0 U Φ0 nt hv a w e Φ rv1 E1 L1∧(∀ s,s<zAb→E1 s=E s∧rv1 s=rv s)∧(∀ (j:Nat) (p:PV) (v:Value),ps[j]? = some p→vs[j]? = some v→E1 (zAb+i+j)=p∧rv1 (zAb+i+j)=v∧L1 (zAb+i+j)=[]) ∧
   ∀ s,zAb≤s→(s<zAb+i∨zAb+i+ps.length≤s)→E1 s=E s∧rv1 s=rv s∧L1 s=L s
 | [],vs,i,rv,E,L,S,h=>⟨rv,E,L,S,fun _ _=>⟨rfl,rfl⟩,by simp,fun _ _ _=>⟨rfl,rfl,rfl⟩⟩
 | p :: ps,vs,i,rv,E,L,S,h=>by
  obtain ⟨v,vs',L1,L2,rfl,hL,h1,h2⟩:=h
  obtain ⟨rfl,rfl⟩:L1=[]∧L2=[]:=by simpa using hL.symm
  have S1:=S.hold (g:=zAb+i) (by omega) h1
  have yr:∀ s,s<zAb→upd E (zAb+i) p s=E s∧upd rv (zAb+i) v s=rv s:=fun s hs=>⟨zAg (by omega),zAg (by omega)⟩
  obtain ⟨rv1,E1,L1,S2,h3,h4,h5⟩:=zKQ ps vs' (i+1) S1 (h2.mono zDf.refl (fun _ _ _ ha=>zV8 yr ha) (fun _ _=>rfl))
  refine ⟨rv1,E1,L1,S2,fun s hs=>⟨(h3 s hs).1.trans (yr s hs).1,(h3 s hs).2.trans (yr s hs).2⟩,fun j q u hq hu=>?_,fun s hs jq=>?_⟩
  ·cases j with
   | zero =>
    simp at hq hu;subst hq;subst hu
    obtain ⟨k1,k2,k3⟩:=h5 (zAb+i) (by omega) (.inl (by omega))
    simp only [Nat.add_zero]
    rw [k1,k2,k3,zAj,zAj,zAj];exact ⟨rfl,rfl,rfl⟩
   | succ j =>
    have:=h4 j q u (by simpa using hq) (by simpa using hu)
    rwa [show zAb+i+(j+1)=zAb+(i+1)+j by omega]
  ·obtain ⟨k1,k2,k3⟩:=h5 s hs (by simp at jq;omega)
   have hI:s≠zAb+i:=by simp at jq;omega
   rw [k1,k2,k3,zAg hI,zAg hI,zAg hI];exact ⟨rfl,rfl,rfl⟩
structure Handed (rv1:Nat→Value) (E1:Nat→PV) (L1:Nat→List Nat) (i:Nat) (bs:List (Bool×PV)):Prop where
 at_:∀ (j:Nat) (b:Bool×PV),bs[j]? = some b→E1 (zAb+i+j)=b.2∧(b.1=true→b.2.ways=[])∧(b.1=false→L1 (zAb+i+j)=[])
theorem zGA:∀ (ps:List PV) (ms:List Nat) (i:Nat) {k:List (Bool×PV)→PM} {e:Env} {Φ:Nat→Prop} {rv:Nat→Value} {E:Nat→PV} {L:Nat→List Nat},St w0 U Φ0 nt hv a w e Φ rv E L →
  (∀ (j:Nat) (p:PV),ps[j]? = some p→E (zAb+i+j)=p∧L (zAb+i+j)=[])→(zDX ms ps k).run o e=some e' →
  ∃ e1 rv1 E1 L1 bs,(k bs).run o e1=some e'∧St w0 U Φ0 nt hv a w e1 Φ rv1 E1 L1∧bs.length=ps.length∧Handed rv1 E1 L1 i bs∧(∀ s,rv1 s=rv s)∧(∀ s,zAb≤s→(s<zAb+i∨zAb+i+ps.length≤s)→E1 s=E s∧L1 s=L s)
 | [],ms,i,k,e,Φ,rv,E,L,S,hp,h=>⟨e,rv,E,L,[],by simpa [zDX] using h,S,rfl,⟨by simp⟩,fun _=>rfl,fun _ _ _=>⟨rfl,rfl⟩⟩
 | p :: ps,ms,i,k,e,Φ,rv,E,L,S,hp,h=>by
  obtain ⟨hE,hL⟩:=hp 0 p rfl
  simp only [Nat.add_zero] at hE hL
  have plain:(zDX ms.tail ps fun as=>k ((false,p)::as)).run o e=some e'→∃ e1 rv1 E1 L1 bs,(k bs).run o e1=some e'∧St w0 U Φ0 nt hv a w e1 Φ rv1 E1 L1∧bs.length=(p::ps).length∧Handed rv1 E1 L1 i bs∧(∀ s,rv1 s=rv s) ∧
    (∀ s,zAb≤s→(s<zAb+i∨zAb+i+(p::ps).length≤s)→E1 s=E s∧L1 s=L s):=by
   intro h
   obtain ⟨e1,rv1,E1,L1,bs,h1,S1,h2,h3,h4,h5⟩:=zGA ps ms.tail (i+1) S (fun j q hq=>by
    rw [show zAb+(i+1)+j=zAb+i+(j+1) by omega];exact hp (j+1) q (by simpa using hq)) h
   refine ⟨e1,rv1,E1,L1,(false,p)::bs,h1,S1,by simp [h2],⟨fun j b hb=>?_⟩,h4,fun s hs jq=>h5 s hs (by simp at jq;omega)⟩
   cases j with
   | zero =>
    simp at hb;subst hb
    obtain ⟨k1,k2⟩:=h5 (zAb+i) (by omega) (.inl (by omega))
    simp only [Nat.add_zero]
    exact ⟨k1.trans hE,by simp,fun _=>k2.trans hL⟩
   | succ j =>
    have:=h3.at_ j b (by simpa using hb)
    rwa [show zAb+(i+1)+j=zAb+i+(j+1) by omega] at this
  simp only [zDX] at h
  split at h
  ·rename_i r pre z n _
   obtain ⟨q,hq,h1⟩:=zBB h
   split at h1
   ·rename_i sz xs
    obtain ⟨yP,h2⟩:=zAF h1
    have yP:=Nat.le_of_ble_eq_true yP
    obtain ⟨root,hl,hm,h3⟩:=zBP h2
    have hX:=S.conf.rep (zAb+i)
    rw [hE] at hX
    obtain ⟨_,hr,_,hn⟩:=hX
    have yG:=zBv hl
    rw [yG,← S.env r hr] at hq
    rw [← S.env r hr] at yG hm
    obtain ⟨kk1,kk2⟩:=zBD (q' := .bad) rfl rfl hm
    obtain ⟨nv,Li,g1,g2,g3,g4,g5⟩:=S.taken (g:=zAb+i) (by omega) hr yG hq rfl hm kk1 kk2
    have jZ:zBH (rv (zAb+i)) nv sz 0 n:=by
     obtain ⟨s2,xs2,q1,q2,q3⟩:=hn nv _ (by rw [yG];exact g1) rfl
     cases q1;subst q2;exact q3
    obtain ⟨Lg,p1,p2,p3⟩:=zIk g2 (by omega) jZ
    obtain ⟨L',S1,vd⟩:=g5 _ (rv (zAb+i)) Lg p1 (p3 g3) (fun b hb => .inl (p2 b hb))
    have jH:∀ s,upd rv (zAb+i) (rv (zAb+i)) s=rv s:=fun s=>by
     by_cases hs:s=zAb+i
     ·subst hs;rw [zAj]
     ·rw [zAg hs]
    have vB:∀ s,zAb≤s→s≠zAb+i→upd (upd E r root) (zAb+i) (PV.own sz ((xs.drop 0).take n)) s=E s∧L' s=L s:=fun s hs hI=>⟨by rw [zAg hI,zAg (by omega)],vd s hs hI⟩
    obtain ⟨e1,rv1,E1,L1,bs,h4,S2,h5,h6,h7,h8⟩:=zGA ps ms.tail (i+1) S1 (fun j q hq=>by
     obtain ⟨k1,k2⟩:=vB (zAb+(i+1)+j) (by omega) (by omega)
     rw [k1,k2,show zAb+(i+1)+j=zAb+i+(j+1) by omega];exact hp (j+1) q (by simpa using hq)) h3
    refine ⟨e1,rv1,E1,L1,_::bs,h4,S2,by simp [h5],⟨fun j b hb=>?_⟩,fun s=>(h7 s).trans (jH s),fun s hs jq=>?_⟩
    ·cases j with
     | zero =>
      simp only [List.getElem?_cons_zero,Option.some.injEq] at hb;subst hb
      obtain ⟨k1,k2⟩:=h8 (zAb+i) (by omega) (.inl (by omega))
      simp only [Nat.add_zero]
      exact ⟨by rw [k1,zAj],fun _=>rfl,fun h=>by cases h⟩
     | succ j =>
      have:=h6.at_ j b (by simpa using hb)
      rwa [show zAb+(i+1)+j=zAb+i+(j+1) by omega] at this
    ·obtain ⟨k1,k2⟩:=h8 s hs (by simp at jq;omega)
     obtain ⟨k3,k4⟩:=vB s hs (by simp at jq;omega)
     exact ⟨k1.trans k3,k2.trans k4⟩
   ·cases h1
  ·exact plain h
theorem zHR (S:St w0 U Φ0 nt hv a w e Φ rv E L):∀ (bs:List (Bool×PV)) (ms:List Nat) (i:Nat) {k:List Arg→PM},Handed rv E L i bs→(zCo ms bs k).run o e=some e' →
  ∃ as,(k as).run o e=some e'∧as.length=bs.length∧∀ (j:Nat) (x:Arg),as[j]? = some x→zNx w Φ rv E (i+j) x
 | [],ms,i,k,hb,h=>⟨[],by simpa [zCo] using h,rfl,by simp⟩
 | (m, p)::bs,ms,i,k,hb,h=>by
  obtain ⟨h1,h2,h3⟩:=hb.at_ 0 (m,p) rfl
  simp only [Nat.add_zero] at h1 h2 h3
  have uD:Handed rv E L (i+1) bs:=⟨fun j b hj=>by
   rw [show zAb+(i+1)+j=zAb+i+(j+1) by omega];exact hb.at_ (j+1) b (by simpa using hj)⟩
  have fin:∀ x,zNx w Φ rv E i x→(zCo ms.tail bs fun as=>k (x::as)).run o e=some e'→∃ as,(k as).run o e=some e'∧as.length=((m,p)::bs).length∧∀ (j:Nat) (x:Arg),as[j]? = some x→zNx w Φ rv E (i+j) x:=by
   intro x hx h
   obtain ⟨as,g1,g2,g3⟩:=zHR S bs ms.tail (i+1) uD h
   refine ⟨x::as,g1,by simp [g2],fun j y hy=>?_⟩
   cases j with
   | zero=>simp at hy;subst hy;exact hx
   | succ j=>rw [show i+(j+1)=i+1+j by omega];exact g3 j y (by simpa using hy)
  cases m with
  | true=>exact fin _ ⟨by simp,.inr (.inl ⟨rfl,h1.symm,by rw [h1];exact h2 rfl⟩)⟩ h
  | false =>
   simp only [zCo] at h
   revert h
   cases Nat.beq (ms.headD 0) 1 with
   | true=>exact fun h=>fin _ ⟨by simp,.inl ⟨rfl,h1.symm⟩⟩ h
   | false =>
    intro h
    simp only [cond_false] at h
    have hX:=S.conf.rep (zAb+i)
    rw [h1,h3 rfl] at hX
    obtain ⟨q,l,g1,g2,g3⟩:=zOW S hX h
    exact fin _ ⟨g2,.inr (.inr ⟨rfl,fun Φ1 k1 k2=>g3 Φ1 k1 k2 (by simp)⟩)⟩ g1
theorem zKn:∀ (bs:List (Bool×PV)) (ms:List Nat) (i:Nat) {k:List Arg→PM} {e:Env} {Φ:Nat→Prop} {E:Nat→PV} {L:Nat→List Nat},St w0 U Φ0 nt hv a w e Φ rv E L→Handed rv E L i bs→(zEa ms bs k).run o e=some e' →
  ∃ as e1 Φ1 E1 L1,(k as).run o e1=some e'∧St w0 U Φ0 nt hv a w e1 Φ1 rv E1 L1∧as.length=bs.length∧(∀ (j:Nat) (x:Arg),as[j]? = some x→zNx w Φ1 rv E1 (i+j) x)∧∀ s,zAb≤s→s<zAb+i→E1 s=E s
 | [],ms,i,k,e,Φ,E,L,S,hb,h=>⟨[],e,Φ,E,L,by simpa [zEa] using h,S,rfl,by simp,fun _ _ _=>rfl⟩
 | (m, p)::bs,ms,i,k,e,Φ,E,L,S,hb,h=>by
  obtain ⟨h1,h2,h3⟩:=hb.at_ 0 (m,p) rfl
  simp only [Nat.add_zero] at h1 h2 h3
  have uD:Handed rv E L (i+1) bs:=⟨fun j b hj=>by
   rw [show zAb+(i+1)+j=zAb+i+(j+1) by omega];exact hb.at_ (j+1) b (by simpa using hj)⟩
  have fin:∀ {e:Env} {Φ:Nat→Prop} {E2:Nat→PV} {L2:Nat→List Nat} (x:Arg),St w0 U Φ0 nt hv a w e Φ rv E2 L2→Handed rv E2 L2 (i+1) bs→(∀ s,zAb≤s→s<zAb+i→E2 s=E s)→(∀ (Φ1:Nat→Prop) (E1:Nat→PV),E1 (zAb+i)=E2 (zAb+i)→zNx w Φ1 rv E1 i x) →
    (zEa ms.tail bs fun as=>k (x::as)).run o e=some e'→∃ as e1 Φ1 E1 L1,(k as).run o e1=some e'∧St w0 U Φ0 nt hv a w e1 Φ1 rv E1 L1∧as.length=((m,p)::bs).length∧(∀ (j:Nat) (x:Arg),as[j]? = some x→zNx w Φ1 rv E1 (i+j) x)∧∀ s,zAb≤s→s<zAb+i→E1 s=E s:=by
   intro e Φ E2 L2 x S hh hE hx h
   obtain ⟨as,e1,Φ1,E1,L1,g1,S1,g2,g3,g4⟩:=zKn bs ms.tail (i+1) S hh h
   refine ⟨x::as,e1,Φ1,E1,L1,g1,S1,by simp [g2],fun j y hy=>?_,fun s hs yF=>(g4 s hs (by omega)).trans (hE s hs yF)⟩
   cases j with
   | zero=>simp at hy;subst hy;exact hx Φ1 E1 (g4 _ (by omega) (by omega))
   | succ j=>rw [show i+(j+1)=i+1+j by omega];exact g3 j y (by simpa using hy)
  cases m with
  | true=>exact fin _ S uD (fun _ _ _=>rfl) (fun Φ1 E1 he=>⟨by simp,.inr (.inl ⟨rfl,by rw [he,h1],by rw [he,h1];exact h2 rfl⟩)⟩) h
  | false =>
   simp only [zEa] at h
   revert h
   cases Nat.beq (ms.headD 0) 1 with
   | true=>exact fun h=>fin _ S uD (fun _ _ _=>rfl) (fun Φ1 E1 he=>⟨by simp,.inl ⟨rfl,by rw [he,h1]⟩⟩) h
   | false =>
    intro h
    simp only [cond_false] at h
    rw [← h1] at h
    obtain ⟨e1,Φ1,E1,L1,g1,S1,g2,g3,g4,g5,_,_⟩:=zIX (g:=zAb+i) (by omega) (Nat.le_refl _) zDs S h
    have hw:(E1 (zAb+i)).ways=[]:=by
     have yr:=zGX _ _ _ (S1.conf.rep (zAb+i))
     cases hw:(E1 (zAb+i)).ways with
     | nil=>rfl
     | cons x xs =>
      have k1:=yr x (by rw [hw];simp)
      have k2:=g5 x (by rw [hw];simp)
      omega
    refine fin _ S1 ⟨fun j b hj=>?_⟩ (fun s hs yF=>g3 s hs (by omega)) (fun Φ1 E1' he=>⟨by simp,.inr (.inl ⟨rfl,he.symm,by rw [he];exact hw⟩)⟩) g1
    rw [g3 _ (by omega) (by omega),g4 _ (by omega)]
    exact uD.at_ j b hj
variable {H:zBc}
theorem zSF (jF:zF9 P o) (S:St w0 U Φ0 nt hv a w e Φ rv E L) {d:Option Nat} (hd:∀ x,d=some x→x<nt) {f:FuncId} {ps:List PV} {vs:Array Value} (hr:zAX w Φ (zA1 w rv E) ps vs.toList [])
  (h:(zNF H d f ps).run o e=some e'):Callable P f∧Calls P f vs w fun en w''=>∃ u,en = .returned u∧Fr w0 U Φ0 nt hv (a.put d u) w'' e':=by
 have hZ:=hr.length
 obtain ⟨rv1,E1,L1,S1,_,h2,_⟩:=zKQ ps vs.toList 0 S hr
 have hpv:∀ (j:Nat) (p:PV),ps[j]? = some p→∃ v,vs.toList[j]? = some v:=fun j p hj=>by
  have:j<ps.length:=(List.getElem?_eq_some_iff.1 hj).1
  exact ⟨_,List.getElem?_eq_getElem (by omega)⟩
 simp only [zNF] at h
 obtain ⟨e2,rv2,E2,L2,bs,h3,S2,h4,h5,h6,_⟩:=zGA ps (H f).mode 0 S1 (fun j p hj=>by
  obtain ⟨v,yD⟩:=hpv j p hj
  have:=h2 j p v hj yD
  exact ⟨this.1,this.2.2⟩) h
 have yf:∀ i,i<bs.length→vs[i]? = some (rv2 (zAb+i)):=by
  intro i hi
  obtain ⟨p,hp⟩:∃ p,ps[i]? = some p:=⟨_,List.getElem?_eq_getElem (by omega)⟩
  obtain ⟨v,yD⟩:=hpv i p hp
  have:=h2 i p v hp yD
  simp only [Nat.add_zero] at this
  rw [h6,this.2.1]
  simpa using yD
 have hvsz:vs.size=bs.length:=by rw [h4,← hZ];simp
 obtain ⟨as,g1,g2,g3⟩:=zHR S2 bs (H f).mode 0 h5 h3
 rcases zOI jF S2 hd (vs:=vs) (by rw [hvsz,g2]) (fun i hi=>yf i (by omega)) (fun i x hx=>by simpa using g3 i x hx) g1 with h7 | h7
 ·obtain ⟨as',e3,Φ3,E3,L3,k1,S3,k2,k3,_⟩:=zKn bs (H f).mode 0 S2 h5 h7
  rcases zOI jF S3 hd (vs:=vs) (by rw [hvsz,k2]) (fun i hi=>yf i (by omega)) (fun i x hx=>by simpa using k3 i x hx) k1 with h8 | h8
  ·cases h8
  ·exact h8
 ·exact h7
end
end Go.Eng
namespace Go.Eng
open Go
def zSj (P:Program) (o:Oper) (a:Act) (w:World) (K:Act→World→Prop):Prop :=
 match (execOp a.eval o).run P w with
 | .ok (.value v) w'=>K (a.put o.dst v) w'
 | .ok .skip w'=>K (a.put o.dst undef) w'
 | .ok (.enter f args) w'=>Calls P f args w' fun en w''=>∃ u,en = .returned u∧K (a.put o.dst u) w''
 | _=>False
def zQg:Op→Bool
 | .defer _=>true
 | _=>false
theorem zVP {P:Program} {o:Oper} {a:Act} {w:World} {K:Act→World→Prop} {n:Nat} {ro:Option Nat} {Q:Exit→Act→World→Prop} (hd:zQg o.op=false) (h:zSj P o a w K):o.wpIn {Fence.wide with round:=ro} n P a w K Q:=by
 refine ⟨fun _ _=>trivial,?_⟩
 rw [Oper.semAt_eq ro a.eval o (fun c hc=>by rw [hc] at hd;cases hd)]
 simp only [zSj] at h
 split at h
 ·rename_i v w' hr;rw [hr];exact h
 ·rename_i w' hr;rw [hr];exact h
 ·rename_i f args w' hr
  rw [hr]
  refine ⟨fun h=>(by cases h),?_⟩
  have h1:CallsIn Fence.wide (n-1) P f args w' _:=callsIn_wide.2 h
  refine CallsIn.mono (F:={Fence.wide with round:=ro}) ?_ (R:=fun en w''=>∃ u,en = .returned u∧K (a.put o.dst u) w'') (fun en w'' uy=>?_)
  ·exact h1
  ·obtain ⟨u,rfl,hk⟩:=uy;exact hk
 ·exact h.elim
def zQt (P:Program) (nt:Nat):Oper→Bool:=fun o =>
 (match o.dst with | some d=>Nat.blt d nt | none=>true) &&
 match o.op with
 | .move x | .assign x | .nilCheck x | .unOp _ _ x | .box _ x | .load _ x | .fieldAddr _ x _ | .field _ x _=>zAL nt x
 | .pick c a b=>zAL nt c&&zAL nt a&&zAL nt b
 | .alloc _=>true
 | .build _ ps | .buildSlice _ _ ps=>ps.toList.all fun x=>zAL nt x.2
 | .store _ a x=>o.dst.isNone&&zAL nt a&&zAL nt x
 | .binOp _ _ x y _=>zAL nt x&&zAL nt y
 | .convert s _ x=>(P.underlying s).isSome&&zAL nt x
 | .makeFunc _ fs cs=>fs.toList.all (zAL nt)&&cs.toList.all (zAL nt)
 | .makeMap _ _=>true
 | .makeSlice _ l c=>zAL nt l&&zAL nt c
 | .slice _ x lo hi mx=>zAL nt x&&(match lo with | some y=>zAL nt y | none=>true)&&(match hi with | some y=>zAL nt y | none=>true)&&(match mx with | some y=>zAL nt y | none=>true)
 | .indexAddr _ x i | .index _ x i=>zAL nt x&&zAL nt i
 | .lookup _ m x _=>zAL nt m&&zAL nt x
 | .mapUpdate _ m x y=>o.dst.isNone&&zAL nt m&&zAL nt x&&zAL nt y
 | .mapEntry _ m x=>zAL nt m&&zAL nt x
 | .entryStore _ m s x=>o.dst.isNone&&zAL nt m&&zAL nt s&&zAL nt x
 | .panic _ | .makeInterface .. => true
 | .extract (.tmp s) _=>Nat.blt s nt
 | .call c=>c.args.toList.all (zAL nt)&&(match c.callee with
  | .builtin b=>match b with
   | .append | .copy=>Nat.beq c.argTypes.size 2
   | .len | .max | .min=>true
   | .clear=>Nat.blt 0 c.argTypes.size
   | _=>false
  | .value f=>zAL nt f
  | _=>false)
 | _=>false
def zEL (P : Program) : Prop := ∀ (f : FuncId) (fn : Func), P.funcs[f]? = some fn → (fn.name == "runtime.NumGoroutine") = false
section
variable {P:Program} {H:zBc} {w0 w:World} {U Φ0 Φ:Nat→Prop} {nt:Nat} {hv:Hid} {a:Act} {e e':Env} {rv:Nat→Value} {E:Nat→PV} {L:Nat→List Nat} {orc:zAC}
theorem zAJ {o:Oper} {K:Act→World→Prop} {v:Value} {w':World} (h:(execOp a.eval o).run P w = .ok (.value v) w') (hk:K (a.put o.dst v) w'):zSj P o a w K:=by
 simp only [zSj,h];exact hk
theorem zWB (jF:zF9 P orc) (hnm:zEL P) (S:St w0 U Φ0 nt hv a w e Φ rv E L) (hb:zBk E) {o:Oper} (yJ:zQt P nt o=true) {fz tk nl:Bool} (h:(opM P H fz tk nl o).run orc e=some e') :
    zSj P o a w fun a' w'=>Fr w0 U Φ0 nt hv a' w' e':=by
  obtain ⟨dst,op,type,pos,after,guard⟩:=o
  simp only [zQt,Bool.and_eq_true] at yJ
  obtain ⟨gO,yJ⟩:=yJ
  have hd:∀ x,dst=some x→x<nt:=by
    intro x hx;subst hx;exact zBW gO
  have all:∀ {xs:List Operand},xs.all (zAL nt)=true→∀ x∈xs,zAL nt x=true:=fun h=>List.all_eq_true.1 h
  cases op<;>simp only [opM] at h<;>try (cases h;done)
  case move x=>exact zAJ (by simp [execOp]) (zUu S hb hd yJ h)
  case assign x=>exact zAJ (by simp [execOp]) (zRX S hb hd yJ h)
  case pick c x y =>
    simp only [Bool.and_eq_true] at yJ
    obtain ⟨t,h1,h2⟩:=zVe S hb hd yJ.1.1 yJ.1.2 yJ.2 h
    exact zAJ (by simp [execOp,asBool,h1]) h2
  case alloc t =>
    obtain ⟨v,w',h1,h2⟩:=zSB S hb hd h
    exact zAJ (by simp [execOp,h1]) h2
  case box t x =>
    obtain ⟨v,w',h1,h2⟩:=zW3 S hb hd yJ h
    exact zAJ (by simp [execOp,h1]) h2
  case build t ps =>
    obtain ⟨v,h1,h2⟩:=zSO S hb hd (List.all_eq_true.1 yJ) h
    exact zAJ (by simp only [execOp,Sem.run_bind,h1,Result.andThen_ok,Sem.run_pure]) h2
  case buildSlice t n ps =>
    obtain ⟨v,w',h1,h2⟩:=zLo S hb hd (List.all_eq_true.1 yJ) h
    exact zAJ (by simp only [execOp,Sem.run_bind,h1,Result.andThen_ok,Sem.run_pure]) h2
  case load t x =>
    obtain ⟨v,h1,h2⟩:=zQz S hb hd yJ h
    exact zAJ (by simp [execOp,h1]) h2
  case store t x y =>
    simp only [Bool.and_eq_true,Option.isNone_iff_eq_none] at yJ
    obtain ⟨⟨rfl,hx⟩,hy⟩:=yJ
    obtain ⟨w',h1,h2⟩:=zSE S hb hx hy h
    simp only [zSj,execOp,Sem.run_bind,h1,Result.andThen_ok,Sem.run_pure,Act.put]
    exact h2
  case nilCheck x =>
    obtain ⟨h1,h2⟩:=zWr S hb hd yJ h
    refine zAJ (v:=a.eval x) (w':=w) ?_ h2
    simp only [execOp]
    revert h1
    generalize a.eval x=v
    intro h1
    split<;>first | (exact h1.elim) | rfl
  case binOp op t x y ty =>
    simp only [Bool.and_eq_true] at yJ
    obtain ⟨v,h1,h2⟩:=zXc S hb hd yJ.1 yJ.2 h
    exact zAJ (by simp only [execOp,Sem.run_bind] at h1 ⊢;simp only [h1];rfl) h2
  case unOp op t x =>
    obtain ⟨v,h1,h2⟩:=zYt (P:=P) S hb hd yJ h
    exact zAJ (by simp [execOp,h1]) h2
  case convert s t x =>
    simp only [Bool.and_eq_true] at yJ
    obtain ⟨v,h1,h2⟩:=zVK S hb hd yJ.1 yJ.2 h
    exact zAJ (by simp [execOp,h1]) h2
  case makeFunc f fs cs =>
    simp only [Bool.and_eq_true] at yJ
    cases f<;>try (cases h;done)
    exact zAJ (by simp [execOp,Instr.makeFunc]) (zVl S hb hd (all yJ.1) (all yJ.2) h)
  case makeMap t r =>
    cases r with
    | some r=>cases h
    | none =>
      obtain ⟨v,w',h1,h2⟩:=zPU (P:=P) (t:=t) S hb hd h
      exact zAJ (by simp [execOp,h1]) h2
  case makeSlice t l c =>
    simp only [Bool.and_eq_true] at yJ
    obtain ⟨v,w',h1,h2⟩:=zML S hb hd yJ.1 yJ.2 h
    exact zAJ (by simp [execOp,h1]) h2
  case slice t x lo hi mx =>
    simp only [Bool.and_eq_true] at yJ
    obtain ⟨v,h1,h2⟩:=zSL S hb hd yJ.1.1.1 (fun y hy=>by subst hy;exact yJ.1.1.2) (fun y hy=>by subst hy;exact yJ.1.2) (fun y hy=>by subst hy;exact yJ.2) h
    exact zAJ (by simp [execOp,h1]) h2
  case fieldAddr t x i =>
    obtain ⟨v,h1,h2⟩:=zMn S hb hd yJ h
    exact zAJ (by simp [execOp,h1]) h2
  case field t x i =>
    obtain ⟨v,h1,h2⟩:=zSw S hb hd yJ h
    exact zAJ (by simp [execOp,h1]) h2
  case indexAddr t x i =>
    simp only [Bool.and_eq_true] at yJ
    obtain ⟨v,h1,h2⟩:=zM1 S hb hd yJ.1 yJ.2 h
    exact zAJ (by simp [execOp,h1]) h2
  case index t x i =>
    simp only [Bool.and_eq_true] at yJ
    obtain ⟨v,h1,h2⟩:=zS6 S hb hd yJ.1 yJ.2 h
    exact zAJ (by simp [execOp,h1]) h2
  case lookup t m x ok =>
    simp only [Bool.and_eq_true] at yJ
    obtain ⟨v,h1,h2⟩:=zQE S hb hd yJ.1 yJ.2 h
    exact zAJ (by simp [execOp,h1]) h2
  case mapUpdate t m x y =>
    simp only [Bool.and_eq_true,Option.isNone_iff_eq_none] at yJ
    obtain ⟨⟨⟨rfl,hm⟩,hx⟩,hy⟩:=yJ
    obtain ⟨w',h1,h2⟩:=zJ6 S hb hm hx hy h
    simp only [zSj,execOp,Sem.run_bind,h1,Result.andThen_ok,Sem.run_pure,Act.put]
    exact h2
  case mapEntry t m x =>
    simp only [Bool.and_eq_true] at yJ
    obtain ⟨v,w',h1,h2⟩:=zKL S hb hd yJ.1 yJ.2 h
    simp only [zSj,execOp,Sem.run_bind,h1,Result.andThen_ok,Sem.run_pure]
    exact h2
  case entryStore t m s x =>
    simp only [Bool.and_eq_true,Option.isNone_iff_eq_none] at yJ
    obtain ⟨⟨⟨rfl,hm⟩,hs⟩,hx⟩:=yJ
    obtain ⟨w',h1,h2⟩:=zI0 (P:=P) (t:=t) S hb hm hs hx h
    simp only [zSj,execOp,Sem.run_bind,Act.put]
    rw [h1]
    exact h2
  case extract x i =>
    cases x<;>try (cases h;done)
    obtain ⟨v,h1,h2⟩:=zPT (P:=P) S hb hd (zBW yJ) h
    exact zAJ (by simp [execOp,h1]) h2
  case call c =>
    simp only [Bool.and_eq_true] at yJ
    obtain ⟨yL,yw⟩:=yJ
    obtain ⟨callee,args,argTypes⟩:=c
    replace yL:∀ x∈args.toList,zAL nt x=true:=List.all_eq_true.1 yL
    simp only [zI6] at h
    cases callee with
    | invoke r m=>cases h
    | value f =>
      simp only at h yw yL
      obtain ⟨g,h1,hg⟩:=zBo S yw h
      cases g<;>simp only [zSy] at h1<;>try (cases h1;done)
      case func g fs cs =>
        obtain ⟨ps,h2,y5⟩:=zHo S yL h1
        obtain ⟨_,us,vs,hgv,vp,yf⟩:=hg
        have hr:zAX w Φ (zA1 w rv E) (fs++ps++cs) (us++args.map a.eval++vs).toList []:=by
          have:=(vp.append y5).append yf
          simpa using this
        obtain ⟨⟨fn,jk,yV⟩,kV⟩:=zSF jF S hd hr h2
        have yA:(execOp a.eval ⟨dst,.call ⟨.value f,args,argTypes⟩,type,pos,after,guard⟩).run P w = .ok (.enter g (us++args.map a.eval++vs)) w:=by
          have hn:=hnm g fn jk
          have wS:¬ fn.body=none:=by intro hb;rw [hb] at yV;cases yV
          have vl : ¬ fn.name = "runtime.NumGoroutine" := by simpa using hn
          simp [execOp,Go.resolve,hgv,Deferred.ofValue,invoke,callFunc,jk,wS,vl]
        simp only [zSj,yA]
        exact kV
    | builtin b =>
      simp only at h yw yL
      have yA:∀ v w',(builtin b argTypes type (args.map fun | .const _=>true | _=>false) (args.map a.eval)).run P w = .ok (.value v) w'→(execOp a.eval ⟨dst,.call ⟨.builtin b,args,argTypes⟩,type,pos,after,guard⟩).run P w = .ok (.value v) w':=by
        intro v w' hr
        simp only [execOp,Go.resolve,Sem.run_bind,Sem.run_pure,Result.andThen_ok,invoke]
        exact hr
      cases b<;>simp only at yw<;>try (cases yw;done)
      case len =>
        obtain ⟨v,h1,h2⟩:=zWh (ty:=type) S hb hd yL h
        exact zAJ (yA v w (by simp [builtin,h1])) h2
      case max =>
        obtain ⟨v,h1,h2⟩:=zW1 (ty:=type) S hb hd yL h
        exact zAJ (yA v w (by simp [builtin,h1])) h2
      case min =>
        obtain ⟨v,h1,h2⟩:=zWi (ty:=type) S hb hd yL h
        exact zAJ (yA v w (by simp [builtin,h1])) h2
      case append =>
        have yE:=Nat.eq_of_beq_eq_true yw
        obtain ⟨t,t2,rfl⟩:∃ t t2,argTypes=#[t,t2]:=by
          match argTypes,yE with
          | ⟨[t,t2]⟩,_=>exact ⟨t,t2,rfl⟩
        have hax:∃ x y,args=#[x,y]:=by
          obtain ⟨l⟩:=args
          simp only [zBm] at h
          match l,h with
          | [x,y],_=>exact ⟨x,y,rfl⟩
          | [],h=>cases h
          | [_],h=>cases h
          | _::_::_::_,h=>cases h
        obtain ⟨x,y,rfl⟩:=hax
        obtain ⟨v,w',h1,h2⟩:=zQO (ty:=type) S hb hd (yL x (by simp)) (yL y (by simp)) h
        exact zAJ (yA v w' (by simp only [builtin,Sem.run_bind,List.map_toArray,List.map_cons,List.map_nil,h1,Result.andThen_ok,Sem.run_pure])) h2
      case clear =>
        obtain ⟨t,ts,rfl⟩:∃ t ts,argTypes=(t::ts).toArray:=by
          match argTypes,yw with
          | ⟨t::ts⟩,_=>exact ⟨t,ts,rfl⟩
        obtain ⟨x,rfl⟩:∃ x,args=#[x]:=by
          obtain ⟨l⟩:=args
          match l,h with
          | [x],_=>exact ⟨x,rfl⟩
          | [],h=>simp only [zBm] at h;cases h
          | _::_::_,h=>simp only [zBm] at h;cases h
        obtain ⟨w',h1,h2⟩:=zTj (ty:=type) S hb hd (yL x (by simp)) h
        exact zAJ (yA _ w' (by simp only [builtin,Sem.run_bind,List.map_toArray,List.map_cons,List.map_nil,h1,Result.andThen_ok,Sem.run_pure])) h2
      case copy =>
        have yE:=Nat.eq_of_beq_eq_true yw
        obtain ⟨t,t2,rfl⟩:∃ t t2,argTypes=#[t,t2]:=by
          match argTypes,yE with
          | ⟨[t,t2]⟩,_=>exact ⟨t,t2,rfl⟩
        have hax:∃ x y,args=#[x,y]:=by
          obtain ⟨l⟩:=args
          simp only [zBm] at h
          match l,h with
          | [x,y],_=>exact ⟨x,y,rfl⟩
          | [],h=>cases h
          | [_],h=>cases h
          | _::_::_::_,h=>cases h
        obtain ⟨x,y,rfl⟩:=hax
        obtain ⟨v,w',h1,h2⟩:=zU7 (ty:=type) S hb hd (yL x (by simp)) (yL y (by simp)) h
        exact zAJ (yA v w' (by simp only [builtin,Sem.run_bind,List.map_toArray,List.map_cons,List.map_nil,h1,Result.andThen_ok,Sem.run_pure])) h2
  all_goals first | (cases yJ;done) | skip
end
end Go.Eng
namespace Go.Eng
open Go
def FF (ro:Option Nat):Fence:={Fence.wide with round:=ro}
def zNU (P:Program) (nt:Nat) (ops:Array Oper):Bool:=ops.toList.all (zQt P nt)
def zCP:Code→Bool
 | .seq a b=>zCP a&&zCP b
 | .cond _ a b=>zCP a&&zCP b
 | .block _ b=>zCP b
 | .loop b=>zCP b
 | .scope b=>zCP b
 | .rangeFunc .. => false
 | _=>true
def zCy (P:Program) (nt:Nat):Code→Bool
 | .skip=>true
 | .region _ ops _=>zNU P nt ops
 | .seq a b=>zCy P nt a&&zCy P nt b
 | .cond c a b=>zAL nt c&&zCy P nt a&&zCy P nt b
 | .block _ b=>zCy P nt b
 | .loop b=>zCy P nt b
 | .exit _=>true
 | .ret=>true
 | .label _=>true
 | .scope b=>zCy P nt b
 | .rangeFunc f ps a b=>zAL nt f&&ps.toList.all (fun t=>Nat.blt t nt)&&zCy P nt a&&zCy P nt b&&zCP a&&zCP b
 | _=>false
def X.exit:X→Exit
 | .norm => .normal
 | .ex id => .exit id
 | .ret => .ret
section
variable {P:Program} {H:zBc} {w0 w:World} {U Φ0 Φ:Nat→Prop} {nt:Nat} {hv:Hid} {a:Act} {e e':Env} {rv:Nat→Value} {E:Nat→PV} {L:Nat→List Nat} {orc:zAC} {ro:Option Nat} {n:Nat} {Q:Exit→Act→World→Prop}
theorem zMe {o:Oper} (h:zQt P nt o=true):zQg o.op=false:=by
 obtain ⟨dst,op,type,pos,after,guard⟩:=o
 simp only [zQt,Bool.and_eq_true] at h
 cases op<;>first | rfl | (cases h.2;done)
theorem zIi {o:Oper} (h:zQt P nt o=true):∀ x,o.dst=some x→x<nt:=by
 intro x hx
 simp only [zQt,Bool.and_eq_true] at h
 rw [hx] at h
 exact zBW h.1
theorem zDG {ops:Array Oper} {i:Nat} {F:Fence} {K K':Act→World→Prop} (h:wpOpIn F n P ops Q i K a w) (hk:∀ a w,K a w→K' a w):wpOpIn F n P ops Q i K' a w:=wpOpIn_mono hk h
theorem zLm (jF:zF9 P orc) (hnm:zEL P) {ops:Array Oper} (yx:zNU P nt ops=true) (hf:Fr w0 U Φ0 nt hv a w e) {i:Nat} {o:Oper} (hi:ops[i]? = some o) {fz tk nl:Bool} (h:(zFo P H ops fz tk nl o).run orc e=some e') :
  wpOpIn (FF ro) n P ops Q i (fun a' w'=>Fr w0 U Φ0 nt hv a' w' e') a w:=by
 obtain ⟨Φ,rv,E,L,S,hb⟩:=hf
 have yT:∀ (j:Nat) (x:Oper),ops[j]? = some x→zQt P nt x=true:=fun j x hx=>List.all_eq_true.1 yx x (by
  rw [← Array.getElem?_toList] at hx;exact List.mem_of_getElem? hx)
 have yJ:=yT i o hi
 have kC:=zIi yJ
 simp only [wpOpIn,hi]
 simp only [zFo] at h
 have done:Region.wanted o (yielded ops a.tmps)=true→(opM P H fz tk nl o).run orc e=some e' →
   (if Region.wanted o (yielded ops a.tmps) then o.wpIn (FF ro) n P a w (fun a' w'=>Fr w0 U Φ0 nt hv a' w' e') Q else (∀ f,o.about P w a.eval=some f→(FF ro).fn f)∧(fun a' w'=>Fr w0 U Φ0 nt hv a' w' e') (a.put o.dst undef) w):=by
  intro hw h
  rw [if_pos hw]
  exact zVP (zMe yJ) (zWB jF hnm S hb yJ h)
 have skip:Region.wanted o (yielded ops a.tmps)=false→(put o.dst .und).run orc e=some e' →
   (if Region.wanted o (yielded ops a.tmps) then o.wpIn (FF ro) n P a w (fun a' w'=>Fr w0 U Φ0 nt hv a' w' e') Q else (∀ f,o.about P w a.eval=some f→(FF ro).fn f)∧(fun a' w'=>Fr w0 U Φ0 nt hv a' w' e') (a.put o.dst undef) w):=by
  intro hw h
  rw [hw]
  exact ⟨fun _ _=>trivial,zAu S hb kC h (p := .und) ⟨rfl,rfl⟩⟩
 cases hg:o.guard with
 | none =>
  rw [hg] at h
  exact done (by simp [Region.wanted,hg]) h
 | some x =>
  obtain ⟨j,want⟩:=x
  rw [hg] at h
  simp only at h
  cases hj:(ops[j]?).bind (·.dst) with
  | none=>rw [hj] at h;cases h
  | some t =>
   rw [hj] at h
   simp only [PM.run] at h
   have uN:t<nt:=by
    cases gP:ops[j]? with
    | none=>rw [gP] at hj;cases hj
    | some oj=>rw [gP] at hj;exact zIi (yT j oj gP) t hj
   have ye:t<zAb:=Nat.lt_of_lt_of_le uN (Nat.le_trans S.small (by decide))
   have hX:=S.conf.rep t
   rw [S.env t ye] at hX
   have htm:a.tmps[t]? = some (rv t):=by
    have h1:=S.tmps t uN
    have h2:t<a.tmps.size:=by rw [S.size];exact uN
    rw [Array.getElem?_eq_getElem h2]
    simp only [Array.getD,h2,dite_true] at h1
    rw [← h1];rfl
   have kH:yielded ops a.tmps j=match rv t with | .bool b=>some b | _=>none:=by
    simp only [yielded,hj,Option.bind_some,htm]
    cases rv t<;>rfl
   revert h
   cases hp:e.get t<;>intro h<;>try (cases h;done)
   case bool b =>
    simp only at h
    have yD:rv t = .bool b:=by rw [hp] at hX;exact hX.1
    rw [yD] at kH
    simp only at kH
    split at h
    ·rename_i gQ
     subst gQ
     exact done (by simp [Region.wanted,hg,kH]) h
    ·rename_i gQ
     exact skip (by simp [Region.wanted,hg,kH,gQ]) h
   case und =>
    have yD:rv t=undef:=by rw [hp] at hX;exact hX.1
    rw [yD] at kH
    exact skip (by simp only [Region.wanted,hg,kH];rfl) h
theorem Fr.drop (hf:Fr w0 U Φ0 nt hv a w e) (l:List Nat):Fr w0 U Φ0 nt hv a w (e.drop l):=by
 obtain ⟨Φ,rv,E,L,S,hb⟩:=hf
 have hc:=S.conf.drop (fun s=>decide (s<zAb)&&zMQ l s)
 refine ⟨Φ,rv,_,_,S.turn hc (fun s hs=>?_) (fun _ _=>rfl) (fun d ps hd hp=>?_),fun g hg=>?_⟩
 ·rw [Env.get_drop,S.env s hs];simp [hs]
 ·by_cases h:(decide (d<zAb)&&zMQ l d)=true
  ·simp only [h,if_true] at hp;cases hp
  ·simp only [h] at hp;exact ⟨ps,hp,rfl⟩
 ·have:¬ g<zAb:=by omega
  simp [this,hb g hg]
end
end Go.Eng
namespace Go.Eng
open Go
section
variable {w0 w w' w1 w2:World} {U Φ0 Φ U1 Φ1 U2 Φ2:Nat→Prop} {nt:Nat} {hv:Hid} {a:Act} {e e':Env} {rv rv':Nat→Value} {E E':Nat→PV} {L L':Nat→List Nat}
theorem zBe {α:Type} {b:Bool} {x y:Option α} {r:α} (h:(bif b then x else y)=some r):(b=true∧x=some r)∨(b=false∧y=some r):=by
 cases b with
 | true=>exact .inl ⟨rfl,h⟩
 | false=>exact .inr ⟨rfl,h⟩
theorem zH7:∀ (p:PV),(zAP p).heavy=false:=by
 intro p
 induction p using PV.rec (motive_2:=fun ps=>zCU (zAD ps)=false) (motive_3:=fun _=>True) (motive_4:=fun _=>True)<;>first | trivial | rfl | skip
 all_goals simp_all [zAP,zAD,PV.heavy,zCU]
mutual
theorem zKy {f:PV→PV} (hf:∀ a,a.isWay=true→(f a).heavy=false):∀ (p:PV),p.heavy=false→(p.mapW f).heavy=false
 | .agg cs,h=>zGx hf cs h
 | .tup cs,h=>zGx hf cs h
 | .addr ..,_=>hf _ rfl
 | .bor ..,_=>hf _ rfl
 | .bsl ..,_=>hf _ rfl
 | .bmap ..,_=>hf _ rfl
 | .log ..,_=>hf _ rfl
 | .own ..,h=>h
 | .box _,h=>by cases h
 | .omap _,h=>h
 | .lock _,h=>by cases h
 | .bad,h=>h
 | .und,h=>h
 | .int ..,h=>h
 | .bool _,h=>h
 | .nilp,h=>h
 | .nilf,h=>h
 | .nilm,h=>h
 | .nn,h=>h
 | .nils _,h=>h
 | .sl _,h=>h
 | .ref _,h=>rfl
 | .map _,h=>h
 | .func ..,h=>rfl
 | .yld _,h=>h
theorem zGx {f:PV→PV} (hf:∀ a,a.isWay=true→(f a).heavy=false):∀ (ps:List PV),zCU ps=false→zCU (zCC f ps)=false
 | [],h=>h
 | p::ps,h=>by
  simp only [zCU,Bool.or_eq_false_iff] at h
  simp only [zCC,zCU,zKy hf p h.1,zGx hf ps h.2,Bool.or_self]
end
theorem zRL (r:Nat) (pre:zAO) (q0:PV):∀ a:PV,a.isWay=true→(inl r pre q0 a).heavy=false:=by
 have at_:∀ {q:Option PV} {g:PV→PV},(∀ x,(g x).heavy=false)→(zGj q g).heavy=false:=by
  intro q g h;cases q<;>first | rfl | exact h _
 have h1:∀ i c sh x,(zDu i c sh x).heavy=false:=by
  intro i c sh x
  simp only [zDu]
  repeat' split
  all_goals first | rfl | (cases (_:Bool)<;>rfl) | skip
  all_goals (rename_i h;revert h;intro _)
  all_goals first | (generalize (Nat.ble _ _&&_)=b;cases b<;>rfl) | (generalize PV.oneCell _=b;cases b<;>rfl)
 have h2:∀ lo n x,(zCp lo n x).heavy=false:=by
  intro lo n x
  simp only [zCp]
  split
  ·generalize Nat.ble _ _=b;cases b<;>rfl
  ·rfl
 have h3:∀ i c sz ag m x,(zCj i c sz ag m x).heavy=false:=by
  intro i c sz ag m x
  simp only [zCj]
  repeat' split
  all_goals first | rfl | skip
  generalize (zCg _ _ _ _&&_)=b;cases b<;>rfl
 have h4:∀ x,(zEv x).heavy=false:=by intro x;cases x<;>rfl
 intro a ha
 cases a<;>first | (cases ha;done) | skip
 case addr=>simp only [inl];generalize zAH _ _ _ _=b;cases b<;>first | rfl | exact at_ (h1 _ _ _)
 case bor=>simp only [inl];generalize zAH _ _ _ _=b;cases b<;>first | rfl | exact at_ (h2 _ _)
 case bsl=>simp only [inl];generalize zAH _ _ _ _=b;cases b<;>first | rfl | exact at_ (h3 _ _ _ _ _)
 case bmap=>simp only [inl];generalize zAH _ _ _ _=b;cases b<;>first | rfl | exact at_ h4
 case log=>rfl
theorem zJF:∀ (R:List Nat) {e ef:Env} {Φ:Nat→Prop} {E:Nat→PV} {L:Nat→List Nat},St w0 U Φ0 nt hv a w e Φ rv E L→zBk E→zEd R e=some ef →
  ∃ Φ' E' L',St w0 U Φ0 nt hv a w ef Φ' rv E' L'∧zBk E'∧(∀ b,Φ b→Φ' b)∧(∀ b,Φ' b→Φ b∨∃ r∈R,b∈L r)∧(∀ r∈R,∀ b∈L r,Φ' b)∧∀ s,∀ b∈L' s,b∈L s
 | [],e,ef,Φ,E,L,S,hb,h=>by
  simp only [zEd,Option.some.injEq] at h;subst h
  exact ⟨Φ,E,L,S,hb,fun _ h=>h,fun _ h => .inl h,fun _ h=>(by cases h),fun _ _ h=>h⟩
 | r :: R, e,ef,Φ,E,L,S,hb,h=>by
  simp only [zEd] at h
  rcases zBe h with ⟨hr,h⟩ | ⟨_,h⟩
  ·have hr:=zBW hr
   cases hf:e.frz r [] with
   | none=>rw [hf] at h;cases h
   | some e1 =>
    rw [hf] at h;simp only at h
    obtain ⟨q0,root,hl,hn,hm,yT⟩:=Env.frz_eq hf
    have yG:=zBv hl
    have hE:=S.env r hr
    obtain ⟨k1,k2⟩:=zBD (zER q0).1 (zER q0).2 hm
    obtain ⟨nv,Li,L1,h1,h2,h3,h4⟩:=S.conf.ice (fun _=>false) hr (pre:=[]) (q:=q0) (root':=root) (by rw [hE];exact yG) (by rw [hE];exact hn) (by rw [hE];exact hm) k1
    have hq:q0=E r:=by simp only [zAz,Option.some.injEq] at hn;rw [hE,hn]
    have km:root=zAP q0:=by simp only [zAv,Option.some.injEq] at hm;exact hm.symm
    have uS:Li=L r:=by
     simp only [zAN,Option.some.injEq,Prod.mk.injEq] at h1
     rw [← h1.1,hq] at h2
     exact Rep.uniq _ _ _ _ h2 (by rw [show E r=(E r).unlock from (by rw [hE];exact yG.symm)];exact zBT (S.conf.rep r))
    have hL1r:L1 r=[]:=by
     have:=h4.rep r
     simp only [hr,true_or,if_true] at this
     refine zC9 _ _ _ ?_ this
     rw [km]
     have hh:=zH7 q0
     exact zKy (zRL r [] q0) _ hh
    have S1:St w0 U Φ0 nt hv a w e1 (fun b=>Φ b∨b∈Li) rv (fun s=>if s<zAb∨False then (if s=r then root else E s).mapW (inl r [] q0) else E s) L1:=by
     refine S.turn (by simpa using h4) (fun s hs=>?_) (fun _ _=>rfl) (fun d ps hd hp=>?_)
     ·simp only [hs,true_or,if_true]
      rw [yT s]
      by_cases yY:s=r
      ·subst yY;simp
      ·rw [if_neg yY,if_neg yY,S.env s hs]
     ·have uf:d<zAb:=by simp only [zAb];omega
      simp only [uf,true_or,if_true] at hp
      obtain ⟨ps',h5,h6⟩:=zDV (zRj r [] q0) hp
      by_cases jg:d=r
      ·rw [if_pos jg] at h5;rw [h5] at k2;cases k2
      ·rw [if_neg jg] at h5;exact ⟨ps',h5,h6⟩
    have y6:zBk fun s=>if s<zAb∨False then (if s=r then root else E s).mapW (inl r [] q0) else E s:=by
     intro g hg
     have:¬ g<zAb:=by omega
     simp [this,hb g hg]
    obtain ⟨Φ',E',L',g1,g2,g3,g4,g5,g6⟩:=zJF R S1 y6 h
    have y7:∀ s,∀ b∈L1 s,b∈L s:=by
     intro s b kb
     by_cases yY:s=r
     ·subst yY;rw [hL1r] at kb;cases kb
     ·rw [h3 s yY] at kb;exact kb
    refine ⟨Φ',E',L',g1,g2,fun b hb=>g3 b (.inl hb),fun b hb=>?_,fun t ht b kZ=>?_,fun s b kb=>y7 s b (g6 s b kb)⟩
    ·rcases g4 b hb with (h5 | h5) | ⟨t,ht,h5⟩
     ·exact .inl h5
     ·exact .inr ⟨r,by simp,by rw [← uS];exact h5⟩
     ·exact .inr ⟨t,by simp [ht],y7 t b h5⟩
    ·by_cases htr:t=r
     ·subst htr;exact g3 b (.inr (by rw [uS];exact kZ))
     ·rcases List.mem_cons.1 ht with h5 | h5
      ·exact absurd h5 htr
      ·exact g5 t h5 b (by rw [h3 t htr];exact kZ)
  ·cases h
theorem Fr.ice {R:List Nat} (hf:Fr w0 U Φ0 nt hv a w e):Fr w0 U Φ0 nt hv a w (zVY R e):=by
 simp only [zVY]
 cases h:zEd R e with
 | none=>exact hf
 | some ef =>
  obtain ⟨Φ,rv,E,L,S,hb⟩:=hf
  obtain ⟨Φ',E',L',S',yH,_⟩:=zJF R S hb h
  exact ⟨Φ',rv,E',L',S',yH⟩
end
end Go.Eng
namespace Go.Eng
open Go
theorem zDT {r:Nat} {pre:zAO} {p:PV} (h:∀ x∈p.ways,zAH r pre x.1 x.2=false):p.mapW (lose r pre)=p:=by
 refine zDI p (fun a ha hw hn=>?_) (fun _ _=>rfl)
 have hx:∀ x,a.ways=[x]→zAH r pre x.1 x.2=false:=fun x hx=>h x (hw x (by rw [hx];simp))
 cases a<;>first | (cases ha;done) | (exact absurd rfl (hn _ _)) | skip
 case addr r' q i c sh=>have:=hx _ rfl;simp only [zAH] at this;simp only [lose,this];rfl
 case bor r' q z lo n=>have:=hx _ rfl;simp only [zAH] at this;simp only [lose,this];rfl
 case bsl r' q i c sz ag n=>have:=hx _ rfl;simp only [zAH] at this;simp only [lose,this];rfl
 case bmap r' q=>have:=hx _ rfl;simp only [zAH] at this;simp only [lose,this];rfl
theorem zCv {r:Nat} {keep:List zAO} {p:PV} (h:∀ x∈p.ways,(Nat.beq x.1 r && !x.2.isEmpty)=false):p.mapW (zBE r keep)=p:=by
 refine zDI p (fun a ha hw hn=>?_) (fun _ _=>rfl)
 have hx:∀ x,a.ways=[x]→(Nat.beq x.1 r && !x.2.isEmpty)=false:=fun x hx=>h x (hw x (by rw [hx];simp))
 have key:∀ r' (q:zAO),(Nat.beq r' r && !q.isEmpty)=false→(Nat.beq r' r && !(q.isEmpty||keep.any q.isPrefixOf))=false:=by
  intro r' q h
  cases hb:Nat.beq r' r with
  | false=>rfl
  | true=>rw [hb] at h;simp only [Bool.true_and,Bool.not_eq_false'] at h ⊢;rw [h];rfl
 cases a<;>first | (cases ha;done) | (exact absurd rfl (hn _ _)) | skip
 case addr r' q i c sh=>simp only [zBE,key _ _ (hx _ rfl)];rfl
 case bor r' q z lo n=>simp only [zBE,key _ _ (hx _ rfl)];rfl
 case bsl r' q i c sz ag n=>simp only [zBE,key _ _ (hx _ rfl)];rfl
 case bmap r' q=>simp only [zBE,key _ _ (hx _ rfl)];rfl
theorem zFJ {r:Nat} {pre:zAO} {q0 p:PV} (h:∀ x∈p.ways,zAH r pre x.1 x.2=false):p.mapW (inl r pre q0)=p:=by
 refine zDI p (fun a ha hw hn=>?_) (fun _ _=>rfl)
 have hx:∀ x,a.ways=[x]→zAH r pre x.1 x.2=false:=fun x hx=>h x (hw x (by rw [hx];simp))
 cases a<;>first | (cases ha;done) | (exact absurd rfl (hn _ _)) | rfl | skip
 case addr r' q i c sh=>have:=hx _ rfl;simp only [inl,this];rfl
 case bor r' q z lo n=>have:=hx _ rfl;simp only [inl,this];rfl
 case bsl r' q i c sz ag n=>have:=hx _ rfl;simp only [inl,this];rfl
 case bmap r' q=>have:=hx _ rfl;simp only [inl,this];rfl
theorem zHB {x q q':PV} {c:Nat} (hq:x.cells[c]? = some q) (hg:q'.isAgg=q.isAgg∨q'.isAgg=false):(zAy x c [q']).cells=x.cells.set c q':=by
 rcases hg with hg | hg
 ·exact zL5 hq hg
 ·cases hx:x.isAgg with
  | true =>
   cases x<;>simp [PV.isAgg] at hx
   rename_i cs
   have hc:c<cs.length:=(List.getElem?_eq_some_iff.1 hq).1
   show cs.take c++[q']++cs.drop (c+1)=cs.set c q'
   rw [List.set_eq_take_append_cons_drop,if_pos hc];simp
  | false =>
   have j3:x.cells=[x]:=by cases x<;>first | rfl | simp [PV.isAgg] at hx
   rw [j3] at hq ⊢
   have hc:c=0:=by have:=(List.getElem?_eq_some_iff.1 hq).1;simp at this;exact this
   subst hc
   have he:zAy x 0 [q']=q':=by cases x<;>first | rfl | simp [PV.isAgg] at hx
   rw [he]
   cases q'<;>first | rfl | simp [PV.isAgg] at hg
theorem zG8 {p q q' p':PV} {i c:Nat} (hc:Eng.child p i c=some q) (hp:zBQ p i c q'=some p') :
  ∃ xs x,zAZ p=some xs∧xs[i]? = some x∧x.cells[c]? = some q∧zAZ p'=some (xs.set i (zAy x c [q']))∧((∃ sz,p = .own sz xs∧p' = .own sz (xs.set i (zAy x c [q'])))∨(∃ y,p = .box y∧i=0∧x=y∧p' = .box (zAy y c [q']))∨∃ cs,p = .agg cs∧i=0∧x = .agg cs∧p' = .agg (cs.take c++[q']++cs.drop (c+1))):=by
 simp only [Eng.child] at hc
 simp only [zBQ] at hp
 cases hh:zAZ p with
 | none=>rw [hh] at hc;cases hc
 | some xs =>
  rw [hh] at hc hp;simp only [Option.bind_some] at hc hp
  cases hx:xs[i]? with
  | none=>rw [hx] at hc;cases hc
  | some x =>
   rw [hx] at hc hp;simp only [Option.bind_some] at hc hp
   have hi:i<xs.length:=(List.getElem?_eq_some_iff.1 hx).1
   refine ⟨xs,x,rfl,hx,hc,?_⟩
   cases p<;>simp only [zAZ] at hh<;>try cases hh
   ·rename_i cs
    have jd:i=0:=by simpa using hi
    subst jd
    simp only [List.getElem?_cons_zero,Option.some.injEq] at hx;subst hx
    simp only [zAy,List.set_cons_zero,zAB,Option.some.injEq] at hp ⊢
    subst hp;refine ⟨?_,.inr (.inr ⟨cs,?_⟩)⟩<;>first | (simp [zAZ];done) | rfl | exact ⟨rfl,rfl⟩ | exact ⟨rfl,rfl,rfl,rfl⟩
   ·rename_i sz
    simp only [zAB,Option.some.injEq] at hp
    subst hp;refine ⟨?_,.inl ⟨sz,?_⟩⟩<;>first | (simp [zAZ];done) | rfl | exact ⟨rfl,rfl⟩ | exact ⟨rfl,rfl,rfl,rfl⟩
   ·rename_i q0
    have jd:i=0:=by simpa using hi
    subst jd
    simp only [List.getElem?_cons_zero,Option.some.injEq] at hx;subst hx
    simp only [List.set_cons_zero,zAB,Option.some.injEq] at hp ⊢
    subst hp;refine ⟨?_,.inr (.inl ⟨q0,?_⟩)⟩<;>first | (simp [zAZ];done) | rfl | exact ⟨rfl,rfl⟩ | exact ⟨rfl,rfl,rfl,rfl⟩
theorem zPK {p q q' p':PV} {i c:Nat} (hc:Eng.child p i c=some q) (hg:q'.isAgg=q.isAgg∨q'.isAgg=false) (hp:zBQ p i c q'=some p') :
  Eng.child p' i c=some q'∧∀ i2 c2,(i2,c2)≠(i,c)→Eng.child p' i2 c2=Eng.child p i2 c2:=by
 obtain ⟨xs,x,hh,hx,hcx,ql,_⟩:=zG8 hc hp
 have yi:=zHB hcx hg
 have hi:i<xs.length:=(List.getElem?_eq_some_iff.1 hx).1
 have yN:c<x.cells.length:=(List.getElem?_eq_some_iff.1 hcx).1
 refine ⟨?_,fun i2 c2 hI=>?_⟩
 ·simp only [Eng.child,ql,Option.bind_some,List.getElem?_set_self hi,yi,List.getElem?_set_self yN]
 ·simp only [Eng.child,ql,hh,Option.bind_some]
  by_cases kY:i2=i
  ·subst kY
   rw [List.getElem?_set_self hi,hx];simp only [Option.bind_some,yi]
   rw [List.getElem?_set_ne (by intro e;exact hI (by rw [e]))]
  ·rw [List.getElem?_set_ne (by omega)]
theorem zMW (r:Nat) (pre:zAO) (a:PV):zHc r pre (.box a) = .addr r pre 0 0 (if a.isAgg then some a.cells.length else none):=by
 cases a<;>rfl
theorem zEs {p q:PV} (h:zCu p q=true) (r:Nat) (pre:zAO):zHc r pre p=zHc r pre q:=by
 cases p<;>cases q<;>simp only [zCu] at h<;>try (cases h;done)
 ·simp only [Bool.and_eq_true] at h
  have h1:=Nat.eq_of_beq_eq_true h.1
  have h2:=Nat.eq_of_beq_eq_true h.2
  subst h1
  simp only [zHc,h2]
 ·rename_i a b
  simp only [Bool.and_eq_true,beq_iff_eq] at h
  have h2:=Nat.eq_of_beq_eq_true h.2
  have h3:=h.1
  rw [zMW,zMW,h3,h2]
 ·rfl
theorem zS0 {v:PV} (hv:v.isAgg=false):∀ (P:zAO) (x q':PV),P≠[]→zAv (fun _=>some v) x P=some q'→x.isAgg=false→zCu x q'=true
 | [],_,_,hn,_,_=>absurd rfl hn
 | (i, c) :: P,x,q',_,h,hx=>by
  rw [zBl] at h
  cases hc:Eng.child x i c with
  | none=>rw [hc] at h;cases h
  | some y =>
   rw [hc] at h;simp only [Option.bind_some] at h
   cases hm:zAv (fun _=>some v) y P with
   | none=>rw [hm] at h;cases h
   | some y' =>
    rw [hm] at h;simp only [Option.bind_some] at h
    obtain ⟨xs,z,_,hz,kJ,_,⟨sz,rfl,rfl⟩ | ⟨w,rfl,rfl,rfl,rfl⟩ | ⟨cs,rfl,_⟩⟩:=zG8 hc h
    ·simp [zCu]
    ·have uJ:y'.isAgg=y.isAgg∨y'.isAgg=false:=by
      cases P with
      | nil=>simp only [zAv,Option.some.injEq] at hm;subst hm;exact .inr hv
      | cons a P =>
       rw [zBl] at hm
       cases jE:Eng.child y a.1 a.2 with
       | none=>rw [jE] at hm;cases hm
       | some y2 =>
        rw [jE] at hm;simp only [Option.bind_some] at hm
        cases vS:zAv (fun _=>some v) y2 P with
        | none=>rw [vS] at hm;cases hm
        | some y3=>rw [vS] at hm;simp only [Option.bind_some] at hm;exact .inl (zDS hm)
     have yi:=zHB kJ uJ
     simp only [zCu,yi,List.length_set,Nat.beq_refl,Bool.and_true,beq_iff_eq]
     cases kd:z.isAgg with
     | true=>cases z<;>first | (cases kd;done) | rfl
     | false =>
      have j3:z.cells=[z]:=by cases z<;>first | rfl | simp [PV.isAgg] at kd
      rw [j3] at kJ
      have vV:c=0:=by have:=(List.getElem?_eq_some_iff.1 kJ).1;simp at this;exact this
      subst vV
      simp at kJ;subst kJ
      have he:zAy z 0 [y']=y':=by cases z<;>first | rfl | simp [PV.isAgg] at kd
      rw [he]
      rcases uJ with h | h
      ·rw [h,kd]
      ·rw [h]
    ·cases hx
theorem zD9 {r i:Nat} {pre:zAO}:∀ (l1 l2:List PV) (k:Nat),(∀ (j:Nat) (nm:zAO),(l1[j]?).map (zHc r nm)=(l2[j]?).map (zHc r nm))→zBx r pre i k l1=zBx r pre i k l2
 | [],[],_,_=>rfl
 | [],y::ys,_,h=>by have:=h 0 [];simp at this
 | x::xs,[],_,h=>by have:=h 0 [];simp at this
 | x::xs,y::ys,k,h=>by
  have h0:=h 0 (pre++[(i,k)])
  simp only [List.getElem?_cons_zero,Option.map_some,Option.some.injEq] at h0
  simp only [zBx,h0]
  rw [zD9 xs ys (k+1) fun j nm=>by have:=h (j+1) nm;simpa using this]
theorem zR8 {s:Nat} {p q:PV} (h:zCu p q=true):view s p=view s q:=by
 have:=zEs h s []
 cases p<;>cases q<;>simp only [zCu] at h<;>first | (cases h;done) | exact this
theorem zUC {v:PV} (hv:v.isAgg=false):∀ (P:zAO) (x x':PV),zAv (fun _=>some v) x P=some x'→x'.isAgg=x.isAgg∨x'.isAgg=false
 | [],x,x',h=>by simp only [zAv,Option.some.injEq] at h;subst h;exact .inr hv
 | (i,c)::P,x,x',h=>by
  rw [zBl] at h
  cases jE:Eng.child x i c with
  | none=>rw [jE] at h;cases h
  | some y2 =>
   rw [jE] at h;simp only [Option.bind_some] at h
   cases vS:zAv (fun _=>some v) y2 P with
   | none=>rw [vS] at h;cases h
   | some y3=>rw [vS] at h;simp only [Option.bind_some] at h;exact .inl (zDS h)
theorem zG5 {s:Nat} {F:PV→Option PV} {P:zAO} {p q:PV} (h:zAv F p P=some q) (hk:zAE p q P=true):view s p=view s q:=by
 by_cases ha:(∃ cs,p = .agg cs)∧(∃ ds,q = .agg ds)∧P≠[]
 ·obtain ⟨⟨cs,rfl⟩,⟨ds,rfl⟩,hP⟩:=ha
  match P,hP with
  | (i, c)::rest,_ =>
   rw [zBl] at h
   cases hc:Eng.child (.agg cs) i c with
   | none=>rw [hc] at h;cases h
   | some x =>
    rw [hc] at h;simp only [Option.bind_some] at h
    cases hm:zAv F x rest with
    | none=>rw [hm] at h;cases h
    | some x' =>
     rw [hm] at h;simp only [Option.bind_some] at h
     obtain ⟨xs,z,hh,hz,kJ,ql,⟨sz,h1,_⟩ | ⟨w,h1,_⟩ | ⟨cs',h1,rfl,rfl,h2⟩⟩:=zG8 hc h
     ·cases h1
     ·cases h1
     ·cases h1
      have kJ:cs[c]? = some x:=kJ
      have yN:c<cs.length:=(List.getElem?_eq_some_iff.1 kJ).1
      have yi:cs.take c++[x']++cs.drop (c+1)=cs.set c x':=by rw [List.set_eq_take_append_cons_drop,if_pos yN];simp
      simp only [PV.agg.injEq] at h2
      rw [yi] at h2;subst h2
      simp only [zAE,kJ,List.getElem?_set_self yN] at hk
      show PV.agg _=PV.agg _
      congr 1
      refine zD9 _ _ _ fun j nm=>?_
      by_cases hj:c=j
      ·subst hj
       rw [List.getElem?_set_self yN,kJ];simp only [Option.map_some];rw [zEs hk]
      ·rw [List.getElem?_set_ne hj]
 ·have:zAE p q P=zCu p q:=by
   cases p<;>cases q<;>first | rfl | skip
   cases P with
   | nil=>rfl
   | cons a P=>exact absurd ⟨⟨_,rfl⟩,⟨_,rfl⟩,by simp⟩ ha
  rw [this] at hk
  exact zR8 hk
def zSg (r:Nat) (nm:zAO) (p:PV) (Q:zAO) (i c n:Nat):Option (Bool×List PV) :=
 match zAz p Q with
 | some q=>match zA6 q with
  | some xs=>match xs[i]? with
   | some x=>bif Nat.ble (c+n) x.cells.length then some (x.isAgg,zBx r nm i c ((x.cells.drop c).take n)) else none
   | none=>none
  | none=>none
 | none=>none
theorem zHN {v:PV} (hv:v.isAgg=false) {r:Nat} {nm:zAO} {i c n:Nat}:∀ (P Q:zAO) (p p':PV),zAv (fun _=>some v) p P=some p' →
  ((P.isPrefixOf Q=false∧∀ x,zAz p P=some x→zCu x v=true)∨(P≠[]∧P.dropLast.isPrefixOf Q=false))→zSg r nm p' Q i c n=zSg r nm p Q i c n
 | [],Q,p,p',h,hc=>by
  rcases hc with hc | hc
  ·simp at hc
  ·exact absurd rfl hc.1
 | (i0, c0) :: P,Q,p,p',h,uz=>by
  rw [zBl] at h
  cases hc:Eng.child p i0 c0 with
  | none=>rw [hc] at h;cases h
  | some x =>
   rw [hc] at h;simp only [Option.bind_some] at h
   cases hm:zAv (fun _=>some v) x P with
   | none=>rw [hm] at h;cases h
   | some x' =>
    rw [hm] at h;simp only [Option.bind_some] at h
    have hg:=zUC hv P x x' hm
    obtain ⟨y9,vB⟩:=zPK hc hg h
    cases Q with
    | cons y Q =>
     obtain ⟨j,d⟩:=y
     simp only [zSg,zBY]
     by_cases hjd:(j,d)=(i0,c0)
     ·cases hjd
      rw [y9,hc];simp only [Option.bind_some]
      refine zHN hv P Q x x' hm ?_
      rcases uz with ⟨h1,h2⟩ | ⟨_,h2⟩
      ·refine .inl ⟨by simpa using h1,fun y hy=>h2 y (by rw [zBY,hc];exact hy)⟩
      ·cases P with
       | nil=>simp at h2
       | cons a P=>exact .inr ⟨by simp,by simpa using h2⟩
     ·rw [vB j d hjd]
    | nil =>
     have hview:∀ nm,zHc r nm x'=zHc r nm x:=by
      intro nm
      have yz:zCu x x'=true→zHc r nm x'=zHc r nm x:=fun h=>(zEs h r nm).symm
      cases P with
      | nil =>
       simp only [zAv,Option.some.injEq] at hm;subst hm
       rcases uz with ⟨_,h2⟩ | ⟨_,h2⟩
       ·exact yz (h2 x (by rw [zBY,hc];rfl))
       ·simp at h2
      | cons a P =>
       cases hx:x.isAgg with
       | false=>exact yz (zS0 hv _ x x' (by simp) hm hx)
       | true =>
        have js:x'.isAgg=true:=by
         rw [zBl] at hm
         cases jE:Eng.child x a.1 a.2 with
         | none=>rw [jE] at hm;cases hm
         | some y2 =>
          rw [jE] at hm;simp only [Option.bind_some] at hm
          cases vS:zAv (fun _=>some v) y2 P with
          | none=>rw [vS] at hm;cases hm
          | some y3=>rw [vS] at hm;simp only [Option.bind_some] at hm;rw [zDS hm,hx]
        cases x<;>first | (cases hx;done) | skip
        cases x'<;>first | (cases js;done) | rfl
     obtain ⟨xs,z,hh,hz,kJ,ql,hform⟩:=zG8 hc h
     have yi:=zHB kJ hg
     have yN:c0<z.cells.length:=(List.getElem?_eq_some_iff.1 kJ).1
     have kM:(zAy z c0 [x']).isAgg=z.isAgg:=by
      cases kd:z.isAgg with
      | true=>cases z<;>first | (cases kd;done) | rfl
      | false =>
       have j3:z.cells=[z]:=by cases z<;>first | rfl | simp [PV.isAgg] at kd
       rw [j3] at kJ
       have vV:c0=0:=by have:=(List.getElem?_eq_some_iff.1 kJ).1;simp at this;exact this
       subst vV
       simp at kJ;subst kJ
       have he:zAy z 0 [x']=x':=by cases z<;>first | rfl | simp [PV.isAgg] at kd
       rw [he]
       rcases hg with h | h
       ·rw [h,kd]
       ·exact h
     have hvc:zBx r nm i c (((zAy z c0 [x']).cells.drop c).take n)=zBx r nm i c ((z.cells.drop c).take n):=by
      rw [yi]
      refine zD9 _ _ _ fun j nm=>?_
      simp only [List.getElem?_take,List.getElem?_drop]
      split
      ·by_cases hj:c0=c+j
       ·subst hj
        rw [List.getElem?_set_self yN,kJ];simp only [Option.map_some,hview]
       ·rw [List.getElem?_set_ne hj]
      ·rfl
     have elem:(match (xs.set i0 (zAy z c0 [x']))[i]? with | some x=>bif Nat.ble (c+n) x.cells.length then some (x.isAgg,zBx r nm i c ((x.cells.drop c).take n)) else none | none=>none) =
       (match xs[i]? with | some x=>bif Nat.ble (c+n) x.cells.length then some (x.isAgg,zBx r nm i c ((x.cells.drop c).take n)) else none | none=>none):=by
      have hi:i0<xs.length:=(List.getElem?_eq_some_iff.1 hz).1
      by_cases kY:i0=i
      ·subst kY
       rw [List.getElem?_set_self hi,hz];simp only
       rw [hvc,kM,yi,List.length_set]
      ·rw [List.getElem?_set_ne kY]
     simp only [zSg,zAz]
     rcases hform with ⟨sz,rfl,rfl⟩ | ⟨w,rfl,rfl,rfl,rfl⟩ | ⟨cs,rfl,rfl,rfl,rfl⟩
     ·simp only [zA6];exact elem
     ·simp only [zAZ,Option.some.injEq] at hh;subst hh
      simp only [zA6];simpa using elem
     ·simp only [zA6]
abbrev zCE:=Nat→PV
def PM.does (o:zAC):PM→zCE→Tok→zCE→Prop
 | .ok,g,t,g'=>t={}∧g'=g
 | .fail,_,_,_=>False
 | .view s k,g,t,g'=>∃ t',t=Tok.join {look:=[s]} t'∧(k (Eng.view s (g s))).does o g t' g'
 | .get s k,g,t,g'=>(g s).isLock=false∧∃ t',t=Tok.join {rd:=[s]} t'∧(k (g s)).does o g t' g'
 | .set s p k,g,t,g'=>∃ t',t=Tok.join (zFe s (g s) p) t'∧k.does o (upd g s p) t' g'
 | .cells r pre i c n k,g,t,g'=>∃ a qs t',zAw r (g r) pre i c n=some (a,qs)∧t=Tok.join {cel:=[(r,pre)]} t'∧(k a qs).does o g t' g'
 | .deep r pre k,g,t,g'=>∃ q t',zAz (g r).unlock pre=some q∧t=Tok.join {rd:=[r]} t'∧(k q).does o g t' g'
 | .wcells r pre i c qs k,g,t,g'=>∃ root t',zBw (g r) pre i c qs=some root∧t=Tok.join (zA9 r [] (zAE (g r) root pre) (g r) root) t'∧k.does o (upd g r root) t' g'
 | .wnode r pre q k,g,t,g'=>(g r).isLock=false∧∃ root t',zAv (fun _=>some q) (g r) pre=some root ∧
   t=Tok.join (zA9 r pre.dropLast (zAE (g r) root pre&&(pre.isEmpty || !q.isAgg)) (g r) root) t'∧k.does o (upd g r root) t' g'
 | .kill r pre k,g,t,g'=>∃ D t',(∀ s,s∉D→∀ x∈(g s).ways,zAH r pre x.1 x.2=false)∧t=Tok.join (zAI D g (fun s=>(g s).mapW (lose r pre)) [r] []) t'∧k.does o (fun s=>(g s).mapW (lose r pre)) t' g'
 | .frz r pre k,g,t,g'=>(g r).isLock=false∧∃ D t' q root,(∀ s,s∉D→∀ x∈(g s).ways,zAH r pre x.1 x.2=false)∧r∈D∧zAz (g r) pre=some q∧zAv (fun _=>some (zAP q)) (g r) pre=some root ∧
   t=Tok.join (zAI D g (fun s=>(upd g r root s).mapW (inl r pre q)) [r] []) t'∧k.does o (fun s=>(upd g r root s).mapW (inl r pre q)) t' g'
 | .killEx r keep k,g,t,g'=>∃ D t',(∀ s,s∉D→∀ x∈(g s).ways,(Nat.beq x.1 r && !x.2.isEmpty)=false)∧t=Tok.join (zAI D g (fun s=>(g s).mapW (zBE r keep)) [] [r]) t'∧k.does o (fun s=>(g s).mapW (zBE r keep)) t' g'
 | .forget _ _,_,t,_=>t.all=true
 | .call f args hid k,g,t,g'=>∃ v hO,o f args hid=some (v,hO)∧(k v hO).does o g t g'
theorem zVN {a b:List Nat} {x:Nat} (ha:x∈a) (hb:x∈b):zR6 a b=true:=List.any_eq_true.2 ⟨x,ha,List.any_eq_true.2 ⟨x,hb,Nat.beq_refl x⟩⟩
theorem zDU {a b:List Nat} (h:zR6 a b=false) {x:Nat} (ha:x∈a):x∉b:=fun hb=>by rw [zVN ha hb] at h;cases h
structure Off (a b:Tok):Prop where
 all:a.all=false
 look:∀ s∈a.wr,s∉b.look
 rd:∀ s∈a.wr,s∉b.rd
 cel:∀ s∈a.wr,∀ c∈b.cel,c.1≠s
 wr:∀ s∈a.wr,s∉b.wr
 inn:∀ s∈a.wr,∀ c∈b.inn,c.1≠s
 ird:∀ w∈a.inn,w.1∉b.rd
 iinn:∀ w∈a.inn,∀ c∈b.inn,c.1≠w.1
 icel:∀ w∈a.inn,∀ c∈b.cel,c.1=w.1→w.2.isPrefixOf c.2=false
 ways:∀ s∈a.kills,∀ x∈b.ways,x.1≠s
 waysIn:∀ s∈a.killsIn,∀ x∈b.ways,x.1=s→x.2.isEmpty=true
theorem zD5 {l:List (Nat×zAO)} {x:Nat×zAO} (h:x∈l):x.1∈zMN l:=List.mem_map.2 ⟨x,h,rfl⟩
theorem zKc {a b:Tok} (h:zOt a b=false):Off a b:=by
 simp only [zOt,Bool.or_eq_false_iff] at h
 obtain ⟨⟨⟨⟨⟨⟨⟨⟨⟨⟨h1,h2⟩,h3⟩,h4⟩,h5⟩,h6⟩,h7⟩,h8⟩,h9⟩,jQ⟩,vG⟩:=h
 refine ⟨h1,fun s hs=>zDU h2 hs,fun s hs=>zDU h3 hs,fun s hs c hc e=>?_,fun s hs=>zDU h5 hs,fun s hs c hc e=>?_,fun w hw=>zDU h7 (zD5 hw),fun w hw c hc e=>?_,fun w hw c hc e=>?_,fun s hs x hx e=>?_,fun s hs x hx e=>?_⟩
 ·subst e;exact zDU h4 hs (zD5 hc)
 ·subst e;exact zDU h6 hs (zD5 hc)
 ·exact zDU h8 (zD5 hw) (by rw [← e];exact zD5 hc)
 ·have:=List.any_eq_false.1 h9 w hw
  have:=(List.any_eq_false (p:=fun c:Nat×zAO=>Nat.beq w.1 c.1&&w.2.isPrefixOf c.2)).1 (by simpa using this) c hc
  simp only [e,Nat.beq_refl,Bool.true_and,Bool.not_eq_true] at this
  exact this
 ·subst e;exact zDU jQ hs (zD5 hx)
 ·cases he:x.2.isEmpty with
  | true=>rfl
  | false=>exact absurd (by rw [← e];exact zD5 (List.mem_filter.2 ⟨hx,by rw [he];rfl⟩)) (zDU vG hs)
theorem Off.left {a a' b:Tok} (h:Off (Tok.join a a') b):Off a b:=by
 have ha:=h.all
 simp only [Tok.join,Bool.or_eq_false_iff] at ha
 exact ⟨ha.1,fun s hs=>h.look s (List.mem_append_left _ hs),fun s hs=>h.rd s (List.mem_append_left _ hs),fun s hs=>h.cel s (List.mem_append_left _ hs),fun s hs=>h.wr s (List.mem_append_left _ hs),fun s hs=>h.inn s (List.mem_append_left _ hs),
  fun s hs=>h.ird s (List.mem_append_left _ hs),fun s hs=>h.iinn s (List.mem_append_left _ hs),fun s hs=>h.icel s (List.mem_append_left _ hs),fun s hs=>h.ways s (List.mem_append_left _ hs),fun s hs=>h.waysIn s (List.mem_append_left _ hs)⟩
theorem Off.left' {a a' b:Tok} (h:Off (Tok.join a a') b):Off a' b:=by
 have ha:=h.all
 simp only [Tok.join,Bool.or_eq_false_iff] at ha
 exact ⟨ha.2,fun s hs=>h.look s (List.mem_append_right _ hs),fun s hs=>h.rd s (List.mem_append_right _ hs),fun s hs=>h.cel s (List.mem_append_right _ hs),fun s hs=>h.wr s (List.mem_append_right _ hs),fun s hs=>h.inn s (List.mem_append_right _ hs),
  fun s hs=>h.ird s (List.mem_append_right _ hs),fun s hs=>h.iinn s (List.mem_append_right _ hs),fun s hs=>h.icel s (List.mem_append_right _ hs),fun s hs=>h.ways s (List.mem_append_right _ hs),fun s hs=>h.waysIn s (List.mem_append_right _ hs)⟩
theorem Off.right {a b b':Tok} (h:Off a (Tok.join b b')):Off a b :=
 ⟨h.all,fun s hs hm=>h.look s hs (List.mem_append_left _ hm),fun s hs hm=>h.rd s hs (List.mem_append_left _ hm),fun s hs c hm=>h.cel s hs c (List.mem_append_left _ hm),fun s hs hm=>h.wr s hs (List.mem_append_left _ hm),fun s hs c hm=>h.inn s hs c (List.mem_append_left _ hm),
  fun s hs hm=>h.ird s hs (List.mem_append_left _ hm),fun s hs c hm=>h.iinn s hs c (List.mem_append_left _ hm),fun s hs c hm=>h.icel s hs c (List.mem_append_left _ hm),fun s hs x hm=>h.ways s hs x (List.mem_append_left _ hm),fun s hs x hm=>h.waysIn s hs x (List.mem_append_left _ hm)⟩
theorem Off.right' {a b b':Tok} (h:Off a (Tok.join b b')):Off a b' :=
 ⟨h.all,fun s hs hm=>h.look s hs (List.mem_append_right _ hm),fun s hs hm=>h.rd s hs (List.mem_append_right _ hm),fun s hs c hm=>h.cel s hs c (List.mem_append_right _ hm),fun s hs hm=>h.wr s hs (List.mem_append_right _ hm),fun s hs c hm=>h.inn s hs c (List.mem_append_right _ hm),
  fun s hs hm=>h.ird s hs (List.mem_append_right _ hm),fun s hs c hm=>h.iinn s hs c (List.mem_append_right _ hm),fun s hs c hm=>h.icel s hs c (List.mem_append_right _ hm),fun s hs x hm=>h.ways s hs x (List.mem_append_right _ hm),fun s hs x hm=>h.waysIn s hs x (List.mem_append_right _ hm)⟩
section
variable {o:zAC} {g g' g1 g2:zCE} {t:Tok} {s r:Nat}
theorem zDw:∀ {q:PM} {g g':zCE} {t:Tok},q.does o g t g'→t.all=false→s∉t.wr→(∀ c∈t.inn,c.1≠s)→g' s=g s:=by
 intro q
 induction q with
 | ok=>intro g g' t h _ _ _;rw [h.2]
 | fail=>intro g g' t h;cases h
 | view s0 k ih=>intro g g' t ⟨t',e,h⟩ ha hw hi;subst e;exact ih _ h ha hw hi
 | get s0 k ih=>intro g g' t ⟨_,t',e,h⟩ ha hw hi;subst e;exact ih _ h ha hw hi
 | set s0 p k ih =>
  intro g g' t ⟨t',e,h⟩ ha hw hi
  subst e
  simp only [Tok.join,zFe,List.mem_append,not_or,List.mem_singleton,Bool.false_or,List.nil_append] at ha hw hi
  rw [ih h ha hw.2 hi,zAg hw.1]
 | cells r0 pre i c n k ih=>intro g g' t ⟨a,qs,t',_,e,h⟩ ha hw hi;subst e;exact ih _ _ h ha hw hi
 | deep r0 pre k ih=>intro g g' t ⟨q,t',_,e,h⟩ ha hw hi;subst e;exact ih _ h ha hw hi
 | wcells r0 pre i c qs k ih =>
  intro g g' t ⟨root,t',_,e,h⟩ ha hw hi
  subst e
  have hI:s≠r0:=by
   rintro rfl
   cases hk:zAE (g s) root pre with
   | true=>exact hi (s,[]) (by simp [Tok.join,zA9,hk]) rfl
   | false=>exact hw (by simp [Tok.join,zA9,hk])
  rw [ih h (by simpa [Tok.join,zA9] using ha) (fun hm=>hw (List.mem_append_right _ hm)) (fun c hm=>hi c (List.mem_append_right _ hm)),zAg hI]
 | wnode r0 pre q k ih =>
  intro g g' t ⟨_,root,t',_,e,h⟩ ha hw hi
  subst e
  have hI:s≠r0:=by
   rintro rfl
   cases hk:(zAE (g s) root pre&&(pre.isEmpty || !q.isAgg)) with
   | true=>exact hi (s,pre.dropLast) (by simp only [Tok.join,zA9,hk];simp) rfl
   | false=>exact hw (by simp only [Tok.join,zA9,hk];simp)
  rw [ih h (by simpa [Tok.join,zA9] using ha) (fun hm=>hw (List.mem_append_right _ hm)) (fun c hm=>hi c (List.mem_append_right _ hm)),zAg hI]
 | kill r0 pre k ih =>
  intro g g' t ⟨D,t',hD,e,h⟩ ha hw hi
  subst e
  simp only [Tok.join,zAI,List.mem_append,not_or,Bool.false_or,List.nil_append] at ha hw hi
  rw [ih h ha hw.2 hi,zDT (hD s hw.1)]
 | frz r0 pre k ih =>
  intro g g' t ⟨_,D,t',q,root,hD,hr,_,_,e,h⟩ ha hw hi
  subst e
  simp only [Tok.join,zAI,List.mem_append,not_or,Bool.false_or,List.nil_append] at ha hw hi
  rw [ih h ha hw.2 hi,zAg (by rintro rfl;exact hw.1 hr),zFJ (hD s hw.1)]
 | killEx r0 pre k ih =>
  intro g g' t ⟨D,t',hD,e,h⟩ ha hw hi
  subst e
  simp only [Tok.join,zAI,List.mem_append,not_or,Bool.false_or,List.nil_append] at ha hw hi
  rw [ih h ha hw.2 hi,zCv (hD s hw.1)]
 | forget r0 k ih=>intro g g' t h ha;rw [show t.all=true from h] at ha;cases ha
 | call f args hid k ih=>intro g g' t ⟨v,hO,_,h⟩ ha hw hi;exact ih _ _ h ha hw hi
theorem zRb:∀ {q:PM} {g g':zCE} {t:Tok},q.does o g t g'→t.all=false→s∉t.wr→view s (g' s)=view s (g s):=by
 intro q
 induction q with
 | ok=>intro g g' t h _ _;rw [h.2]
 | fail=>intro g g' t h;cases h
 | view s0 k ih=>intro g g' t ⟨t',e,h⟩ ha hw;subst e;exact ih _ h ha hw
 | get s0 k ih=>intro g g' t ⟨_,t',e,h⟩ ha hw;subst e;exact ih _ h ha hw
 | set s0 p k ih =>
  intro g g' t ⟨t',e,h⟩ ha hw
  subst e
  simp only [Tok.join,zFe,List.mem_append,not_or,List.mem_singleton,Bool.false_or] at ha hw
  rw [ih h ha hw.2,zAg hw.1]
 | cells r0 pre i c n k ih=>intro g g' t ⟨a,qs,t',_,e,h⟩ ha hw;subst e;exact ih _ _ h ha hw
 | deep r0 pre k ih=>intro g g' t ⟨q,t',_,e,h⟩ ha hw;subst e;exact ih _ h ha hw
 | wcells r0 pre i c qs k ih =>
  intro g g' t ⟨root,t',hr,e,h⟩ ha hw
  subst e
  rw [ih h (by simpa [Tok.join,zA9] using ha) (fun hm=>hw (List.mem_append_right _ hm))]
  by_cases hI:s=r0
  ·subst hI
   rw [zAj]
   cases hk:zAE (g s) root pre with
   | false=>exact absurd (by simp [Tok.join,zA9,hk]) hw
   | true =>
    simp only [zBw] at hr
    revert hr
    cases (zDv (g s) pre && !(zBn qs).isEmpty) with
    | true=>intro hr;cases hr
    | false=>intro hr;exact (zG5 hr hk).symm
  ·rw [zAg hI]
 | wnode r0 pre q k ih =>
  intro g g' t ⟨_,root,t',hr,e,h⟩ ha hw
  subst e
  rw [ih h (by simpa [Tok.join,zA9] using ha) (fun hm=>hw (List.mem_append_right _ hm))]
  by_cases hI:s=r0
  ·subst hI
   rw [zAj]
   cases hk:(zAE (g s) root pre&&(pre.isEmpty || !q.isAgg)) with
   | false=>exact absurd (by simp only [Tok.join,zA9,hk];simp) hw
   | true =>
    rw [Bool.and_eq_true] at hk
    exact (zG5 hr hk.1).symm
  ·rw [zAg hI]
 | kill r0 pre k ih =>
  intro g g' t ⟨D,t',hD,e,h⟩ ha hw
  subst e
  simp only [Tok.join,zAI,List.mem_append,not_or,Bool.false_or] at ha hw
  rw [ih h ha hw.2,zDT (hD s hw.1)]
 | frz r0 pre k ih =>
  intro g g' t ⟨_,D,t',q,root,hD,hr,_,_,e,h⟩ ha hw
  subst e
  simp only [Tok.join,zAI,List.mem_append,not_or,Bool.false_or] at ha hw
  rw [ih h ha hw.2,zAg (by rintro rfl;exact hw.1 hr),zFJ (hD s hw.1)]
 | killEx r0 pre k ih =>
  intro g g' t ⟨D,t',hD,e,h⟩ ha hw
  subst e
  simp only [Tok.join,zAI,List.mem_append,not_or,Bool.false_or] at ha hw
  rw [ih h ha hw.2,zCv (hD s hw.1)]
 | forget r0 k ih=>intro g g' t h ha;rw [show t.all=true from h] at ha;cases ha
 | call f args hid k ih=>intro g g' t ⟨v,hO,_,h⟩ ha hw;exact ih _ _ h ha hw
theorem zLQ {p:PV} (h:p.isLock=false):p.unlock=p:=by cases p<;>first | rfl | cases h
theorem zJi {r:Nat} {p:PV} {pre:zAO} {i c n:Nat}:zAw r p pre i c n=zSg r pre p.unlock pre i c n:=rfl
theorem zJ4 {F:PV→Option PV} {p q:PV} {x:Nat×zAO} {pre:zAO} {i c:Nat} (h:zAv F p ((i,c)::pre)=some q):q.isLock=false:=by
 rw [zBl] at h
 cases hc:Eng.child p i c with
 | none=>rw [hc] at h;cases h
 | some y =>
  rw [hc] at h;simp only [Option.bind_some] at h
  cases hm:zAv F y pre with
  | none=>rw [hm] at h;cases h
  | some y' =>
   rw [hm] at h;simp only [Option.bind_some] at h
   obtain ⟨xs,z,_,hz,kJ,_,⟨sz,rfl,rfl⟩ | ⟨w,rfl,rfl,rfl,rfl⟩ | ⟨cs,rfl,_,_,rfl⟩⟩:=zG8 hc h<;>rfl
theorem zIZ {r:Nat} {q root p:PV} {pre Q:zAO} (hl:p.isLock=false) (hr:zAv (fun _=>some q) p pre=some root) (hk:(zAE p root pre&&(pre.isEmpty || !q.isAgg))=true) (hp:pre.dropLast.isPrefixOf Q=false) (i c n:Nat) :
  zAw r root Q i c n=zAw r p Q i c n:=by
 rw [zJi,zJi,zLQ hl]
 cases pre with
 | nil=>simp at hp
 | cons x pre =>
  have hq:q.isAgg=false:=by
   rw [Bool.and_eq_true] at hk
   have:=hk.2
   simpa using this
  rw [zLQ (zJ4 (x:=(0,[])) hr)]
  exact zHN hq _ _ _ _ hr (.inr ⟨by simp,hp⟩)
theorem zPA {Q:zAO} {i c n:Nat}:∀ {q:PM} {g g':zCE} {t:Tok},q.does o g t g'→t.all=false→s∉t.wr→(∀ w∈t.inn,s=w.1→w.2.isPrefixOf Q=false)→zAw s (g' s) Q i c n=zAw s (g s) Q i c n:=by
 intro q
 induction q with
 | ok=>intro g g' t h _ _ _;rw [h.2]
 | fail=>intro g g' t h;cases h
 | view s0 k ih=>intro g g' t ⟨t',e,h⟩ ha hw hi;subst e;exact ih _ h ha hw hi
 | get s0 k ih=>intro g g' t ⟨_,t',e,h⟩ ha hw hi;subst e;exact ih _ h ha hw hi
 | set s0 p k ih =>
  intro g g' t ⟨t',e,h⟩ ha hw hi
  subst e
  simp only [Tok.join,zFe,List.mem_append,not_or,List.mem_singleton,Bool.false_or,List.nil_append] at ha hw hi
  rw [ih h ha hw.2 hi,zAg hw.1]
 | cells r0 pre i c n k ih=>intro g g' t ⟨a,qs,t',_,e,h⟩ ha hw hi;subst e;exact ih _ _ h ha hw hi
 | deep r0 pre k ih=>intro g g' t ⟨q,t',_,e,h⟩ ha hw hi;subst e;exact ih _ h ha hw hi
 | wcells r0 pre i c qs k ih =>
  intro g g' t ⟨root,t',_,e,h⟩ ha hw hi
  subst e
  have hI:s≠r0:=by
   rintro rfl
   cases hk:zAE (g s) root pre with
   | true=>have:=hi (s,[]) (by simp [Tok.join,zA9,hk]) rfl;simp at this
   | false=>exact hw (by simp [Tok.join,zA9,hk])
  rw [ih h (by simpa [Tok.join,zA9] using ha) (fun hm=>hw (List.mem_append_right _ hm)) (fun c hm=>hi c (List.mem_append_right _ hm)),zAg hI]
 | wnode r0 pre q k ih =>
  intro g g' t ⟨hl,root,t',hr,e,h⟩ ha hw hi
  subst e
  rw [ih h (by simpa [Tok.join,zA9] using ha) (fun hm=>hw (List.mem_append_right _ hm)) (fun c hm=>hi c (List.mem_append_right _ hm))]
  by_cases hI:s=r0
  ·subst hI
   rw [zAj]
   cases hk:(zAE (g s) root pre&&(pre.isEmpty || !q.isAgg)) with
   | true=>exact zIZ hl hr hk (hi (s,pre.dropLast) (by simp only [Tok.join,zA9,hk];simp) rfl) _ _ _
   | false=>exact absurd (by simp only [Tok.join,zA9,hk];simp) hw
  ·rw [zAg hI]
 | kill r0 pre k ih =>
  intro g g' t ⟨D,t',hD,e,h⟩ ha hw hi
  subst e
  simp only [Tok.join,zAI,List.mem_append,not_or,Bool.false_or,List.nil_append] at ha hw hi
  rw [ih h ha hw.2 hi,zDT (hD s hw.1)]
 | frz r0 pre k ih =>
  intro g g' t ⟨_,D,t',q,root,hD,hr,_,_,e,h⟩ ha hw hi
  subst e
  simp only [Tok.join,zAI,List.mem_append,not_or,Bool.false_or,List.nil_append] at ha hw hi
  rw [ih h ha hw.2 hi,zAg (by rintro rfl;exact hw.1 hr),zFJ (hD s hw.1)]
 | killEx r0 pre k ih =>
  intro g g' t ⟨D,t',hD,e,h⟩ ha hw hi
  subst e
  simp only [Tok.join,zAI,List.mem_append,not_or,Bool.false_or,List.nil_append] at ha hw hi
  rw [ih h ha hw.2 hi,zCv (hD s hw.1)]
 | forget r0 k ih=>intro g g' t h ha;rw [show t.all=true from h] at ha;cases ha
 | call f args hid k ih=>intro g g' t ⟨v,hO,_,h⟩ ha hw hi;exact ih _ _ h ha hw hi
theorem zIP {D:List Nat} {ok:Nat×zAO→Prop}:∀ {q:PM} {g g':zCE} {t:Tok},q.does o g t g'→t.all=false→(∀ x∈t.ways,ok x)→(∀ s,s∉D→∀ x∈(g s).ways,ok x)→∀ s,s∉D→∀ x∈(g' s).ways,ok x:=by
 have put:∀ {g:zCE} {s0:Nat} {p:PV},(∀ x∈p.ways,ok x)→(∀ s,s∉D→∀ x∈(g s).ways,ok x)→∀ s,s∉D→∀ x∈(upd g s0 p s).ways,ok x:=by
  intro g s0 p hp hg s hs x hx
  by_cases h:s=s0
  ·subst h;rw [zAj] at hx;exact hp x hx
  ·rw [zAg h] at hx;exact hg s hs x hx
 have turn:∀ {g g1:zCE} {D0:List Nat} {t:Tok} {ks ki:List Nat},(∀ x∈(Tok.join (zAI D0 g g1 ks ki) t).ways,ok x)→(∀ s,s∉D0→g1 s=g s)→(∀ s,s∉D→∀ x∈(g s).ways,ok x)→∀ s,s∉D→∀ x∈(g1 s).ways,ok x:=by
  intro g g1 D0 t ks ki hw h1 hg s hs x hx
  by_cases h:s∈D0
  ·exact hw x (List.mem_append_left _ (List.mem_flatMap.2 ⟨s,h,List.mem_append_right _ hx⟩))
  ·rw [h1 s h] at hx;exact hg s hs x hx
 intro q
 induction q with
 | ok=>intro g g' t h _ _ hg;rw [h.2];exact hg
 | fail=>intro g g' t h;cases h
 | view s0 k ih=>intro g g' t ⟨t',e,h⟩ ha hw hi;subst e;exact ih _ h ha hw hi
 | get s0 k ih=>intro g g' t ⟨_,t',e,h⟩ ha hw hi;subst e;exact ih _ h ha hw hi
 | set s0 p k ih =>
  intro g g' t ⟨t',e,h⟩ ha hw hi
  subst e
  exact ih h (by simpa [Tok.join,zFe] using ha) (fun x hx=>hw x (List.mem_append_right _ hx)) (put (fun x hx=>hw x (List.mem_append_left _ (List.mem_append_right _ hx))) hi)
 | cells r pre i c n k ih=>intro g g' t ⟨a,qs,t',_,e,h⟩ ha hw hi;subst e;exact ih _ _ h ha hw hi
 | deep r pre k ih=>intro g g' t ⟨q,t',_,e,h⟩ ha hw hi;subst e;exact ih _ h ha hw hi
 | wcells r pre i c qs k ih =>
  intro g g' t ⟨root,t',_,e,h⟩ ha hw hi
  subst e
  exact ih h (by simpa [Tok.join,zA9] using ha) (fun x hx=>hw x (List.mem_append_right _ hx)) (put (fun x hx=>hw x (List.mem_append_left _ (List.mem_append_right _ hx))) hi)
 | wnode r pre q k ih =>
  intro g g' t ⟨_,root,t',_,e,h⟩ ha hw hi
  subst e
  exact ih h (by simpa [Tok.join,zA9] using ha) (fun x hx=>hw x (List.mem_append_right _ hx)) (put (fun x hx=>hw x (List.mem_append_left _ (List.mem_append_right _ hx))) hi)
 | kill r pre k ih =>
  intro g g' t ⟨D0,t',hD,e,h⟩ ha hw hi
  subst e
  exact ih h (by simpa [Tok.join,zAI] using ha) (fun x hx=>hw x (List.mem_append_right _ hx)) (turn hw (fun s hs=>zDT (hD s hs)) hi)
 | frz r pre k ih =>
  intro g g' t ⟨_,D0,t',q,root,hD,hr,_,_,e,h⟩ ha hw hi
  subst e
  exact ih h (by simpa [Tok.join,zAI] using ha) (fun x hx=>hw x (List.mem_append_right _ hx)) (turn hw (fun s hs=>by rw [zAg (by rintro rfl;exact hs hr),zFJ (hD s hs)]) hi)
 | killEx r pre k ih =>
  intro g g' t ⟨D0,t',hD,e,h⟩ ha hw hi
  subst e
  exact ih h (by simpa [Tok.join,zAI] using ha) (fun x hx=>hw x (List.mem_append_right _ hx)) (turn hw (fun s hs=>zCv (hD s hs)) hi)
 | forget r k ih=>intro g g' t h ha;rw [show t.all=true from h] at ha;cases ha
 | call f args hid k ih=>intro g g' t ⟨v,hO,_,h⟩ ha hw hi;exact ih _ _ h ha hw hi
theorem zNL {α:Type} {f:Nat→α} {s:Nat} {x y:α}:upd (upd f s x) s y=upd f s y:=by funext t;simp only [upd];split<;>rfl
theorem zLi {α:Type} {f:Nat→α} {s:Nat}:upd f s (f s)=f:=by
 funext u;simp only [upd];split
 ·rename_i e;rw [e]
 ·rfl
def mix (D:List Nat) (v g:zCE):zCE:=fun s=>if s∈D then v s else g s
theorem zBs {D:List Nat} {v g:zCE} {s:Nat} (h:s∈D):mix D v g s=v s:=if_pos h
theorem zAK {D:List Nat} {v g:zCE} {s:Nat} (h:s∉D):mix D v g s=g s:=if_neg h
theorem zJn {D:List Nat} {v g:zCE} {s:Nat} {p:PV} (h:s∉D):upd (mix D v g) s p=mix D v (upd g s p):=by
 funext u
 by_cases hu:u=s
 ·subst hu;rw [zAj,zAK h,zAj]
 ·rw [zAg hu]
  by_cases hd:u∈D
  ·rw [zBs hd,zBs hd]
  ·rw [zAK hd,zAK hd,zAg hu]
theorem zNE {g:zCE} {s:Nat} {p:PV}:upd g s p=mix [s] (fun _=>p) g:=by
 funext u;simp only [upd,mix,List.mem_singleton]
theorem zCq {D:List Nat} {g g' h h':zCE} {ks ki:List Nat} (h1:∀ s∈D,g s=h s) (h2:∀ s∈D,g' s=h' s):zAI D g g' ks ki=zAI D h h' ks ki:=by
 simp only [zAI]
 congr 1
 induction D with
 | nil=>rfl
 | cons d D ih =>
  simp only [List.flatMap_cons]
  rw [h1 d (by simp),h2 d (by simp),ih (fun s hs=>h1 s (by simp [hs])) (fun s hs=>h2 s (by simp [hs]))]
structure Unseen (D:List Nat) (v g:zCE) (t:Tok):Prop where
 rd:∀ s∈D,s∉t.rd
 wr:∀ s∈D,s∉t.wr
 inn:∀ s∈D,∀ c∈t.inn,c.1≠s
 look:∀ s∈D,s∈t.look→view s (v s)=view s (g s)
 cel:∀ s∈D,∀ c∈t.cel,c.1=s→∀ i c' n,zAw s (v s) c.2 i c' n=zAw s (g s) c.2 i c' n
 kills:∀ s∈D,∀ k∈t.kills,∀ x∈(g s).ways,x.1≠k
 killsIn:∀ s∈D,∀ k∈t.killsIn,∀ x∈(g s).ways,x.1=k→x.2.isEmpty=true
theorem Unseen.rest {D:List Nat} {v g g':zCE} {a t:Tok} (h:Unseen D v g (Tok.join a t)) (hg:∀ s∈D,g' s=g s):Unseen D v g' t :=
 ⟨fun s hs hm=>h.rd s hs (List.mem_append_right _ hm),fun s hs hm=>h.wr s hs (List.mem_append_right _ hm),fun s hs c hm=>h.inn s hs c (List.mem_append_right _ hm),fun s hs hm=>by rw [hg s hs];exact h.look s hs (List.mem_append_right _ hm),
  fun s hs c hm=>by rw [hg s hs];exact h.cel s hs c (List.mem_append_right _ hm),fun s hs k hm=>by rw [hg s hs];exact h.kills s hs k (List.mem_append_right _ hm),fun s hs k hm=>by rw [hg s hs];exact h.killsIn s hs k (List.mem_append_right _ hm)⟩
theorem zHk {r:Nat} {pre:zAO} {x:Nat×zAO} (h:x.1≠r):zAH r pre x.1 x.2=false:=by
 simp only [zAH]
 cases hb:Nat.beq x.1 r with
 | true=>exact absurd (Nat.eq_of_beq_eq_true hb) h
 | false=>rfl
theorem zTQ {r:Nat} {x:Nat×zAO} (h:x.1=r→x.2.isEmpty=true):(Nat.beq x.1 r && !x.2.isEmpty)=false:=by
 cases hb:Nat.beq x.1 r with
 | true=>rw [h (Nat.eq_of_beq_eq_true hb)];rfl
 | false=>rfl
theorem zFR {D:List Nat} {v:zCE}:∀ {q:PM} {g g':zCE} {t:Tok},q.does o (mix D v g) t g'→t.all=false→Unseen D v g t→q.does o g t (mix D g g'):=by
 intro q
 induction q with
 | ok =>
  intro g g' t h _ _
  refine ⟨h.1,?_⟩
  rw [h.2];funext s
  by_cases hs:s∈D
  ·rw [zBs hs]
  ·rw [zAK hs,zAK hs]
 | fail=>intro g g' t h;cases h
 | view s0 k ih =>
  intro g g' t ⟨t',e,h⟩ ha hu
  subst e
  have hv:view s0 (mix D v g s0)=view s0 (g s0):=by
   by_cases hs:s0∈D
   ·rw [zBs hs];exact hu.look s0 hs (by simp [Tok.join])
   ·rw [zAK hs]
  rw [hv] at h
  exact ⟨t',rfl,ih _ h ha (hu.rest fun _ _=>rfl)⟩
 | get s0 k ih =>
  intro g g' t ⟨yG,t',e,h⟩ ha hu
  subst e
  have hs:s0∉D:=fun hs=>hu.rd s0 hs (by simp [Tok.join])
  rw [zAK hs] at h yG
  exact ⟨yG,t',rfl,ih _ h ha (hu.rest fun _ _=>rfl)⟩
 | set s0 p k ih =>
  intro g g' t ⟨t',e,h⟩ ha hu
  subst e
  have hs:s0∉D:=fun hs=>hu.wr s0 hs (by simp [Tok.join,zFe])
  rw [zAK hs] at hu ⊢
  rw [zJn hs] at h
  have hg:∀ s∈D,upd g s0 p s=g s:=fun s hd=>zAg (by rintro rfl;exact hs hd)
  have:=ih h (by simpa [Tok.join,zFe] using ha) (hu.rest hg)
  refine ⟨t',rfl,?_⟩
  have he:mix D (upd g s0 p) g'=mix D g g':=by
   funext s;by_cases hd:s∈D
   ·rw [zBs hd,zBs hd,hg s hd]
   ·rw [zAK hd,zAK hd]
  rw [← he];exact this
 | cells r0 pre i c n k ih =>
  intro g g' t ⟨a,qs,t',kK,e,h⟩ ha hu
  subst e
  have hv:zAw r0 (g r0) pre i c n=some (a,qs):=by
   by_cases hs:r0∈D
   ·rw [zBs hs] at kK;rw [← hu.cel r0 hs (r0,pre) (by simp [Tok.join]) rfl];exact kK
   ·rw [zAK hs] at kK;exact kK
  exact ⟨a,qs,t',hv,rfl,ih _ _ h ha (hu.rest fun _ _=>rfl)⟩
 | deep r0 pre k ih =>
  intro g g' t ⟨q,t',hn,e,h⟩ ha hu
  subst e
  have hs:r0∉D:=fun hs=>hu.rd r0 hs (by simp [Tok.join])
  rw [zAK hs] at hn
  exact ⟨q,t',hn,rfl,ih _ h ha (hu.rest fun _ _=>rfl)⟩
 | wcells r0 pre i c qs k ih =>
  intro g g' t ⟨root,t',hn,e,h⟩ ha hu
  subst e
  have hs:r0∉D:=by
   intro hs
   cases u6:zAE (mix D v g r0) root pre with
   | true=>exact hu.inn r0 hs (r0,[]) (by simp [Tok.join,zA9,u6]) rfl
   | false=>exact hu.wr r0 hs (by simp [Tok.join,zA9,u6])
  rw [zAK hs] at hn hu ha ⊢
  rw [zJn hs] at h
  have hg:∀ s∈D,upd g r0 root s=g s:=fun s hd=>zAg (by rintro rfl;exact hs hd)
  have:=ih h (by simpa [Tok.join,zA9] using ha) (hu.rest hg)
  refine ⟨root,t',hn,rfl,?_⟩
  have he:mix D (upd g r0 root) g'=mix D g g':=by
   funext s;by_cases hd:s∈D
   ·rw [zBs hd,zBs hd,hg s hd]
   ·rw [zAK hd,zAK hd]
  rw [← he];exact this
 | wnode r0 pre q k ih =>
  intro g g' t ⟨yG,root,t',hn,e,h⟩ ha hu
  subst e
  have hs:r0∉D:=by
   intro hs
   cases u6:(zAE (mix D v g r0) root pre&&(pre.isEmpty || !q.isAgg)) with
   | true=>exact hu.inn r0 hs (r0,pre.dropLast) (by simp only [Tok.join,zA9,u6];simp) rfl
   | false=>exact hu.wr r0 hs (by simp only [Tok.join,zA9,u6];simp)
  rw [zAK hs] at hn yG hu ha ⊢
  rw [zJn hs] at h
  have hg:∀ s∈D,upd g r0 root s=g s:=fun s hd=>zAg (by rintro rfl;exact hs hd)
  have:=ih h (by simpa [Tok.join,zA9] using ha) (hu.rest hg)
  refine ⟨yG,root,t',hn,rfl,?_⟩
  have he:mix D (upd g r0 root) g'=mix D g g':=by
   funext s;by_cases hd:s∈D
   ·rw [zBs hd,zBs hd,hg s hd]
   ·rw [zAK hd,zAK hd]
  rw [← he];exact this
 | kill r0 pre k ih =>
  intro g g' t ⟨D0,t',hD,e,h⟩ ha hu
  subst e
  have yd:∀ s∈D0,s∉D:=fun s h0 hd=>hu.wr s hd (by simp [Tok.join,zAI,h0])
  have hq:∀ s∈D,∀ x∈(g s).ways,zAH r0 pre x.1 x.2=false:=fun s hd x hx=>zHk (hu.kills s hd r0 (by simp [Tok.join,zAI]) x hx)
  have hg:∀ s∈D,(fun s=>(g s).mapW (lose r0 pre)) s=g s:=fun s hd=>zDT (hq s hd)
  have hm:(fun s=>(mix D v g s).mapW (lose r0 pre))=mix D v (fun s=>(g s).mapW (lose r0 pre)):=by
   funext s;by_cases hd:s∈D
   ·have:=hD s (fun h0=>yd s h0 hd)
    rw [zBs hd] at this
    rw [zBs hd,zBs hd,zDT this]
   ·rw [zAK hd,zAK hd]
  have ht:=zCq (D:=D0) (g:=mix D v g) (g':=fun s=>(mix D v g s).mapW (lose r0 pre)) (h:=g) (h':=fun s=>(g s).mapW (lose r0 pre)) (ks:=[r0]) (ki:=[]) (fun s h0=>zAK (yd s h0)) (fun s h0=>by simp only [zAK (yd s h0)])
  rw [hm] at h
  rw [ht] at hu ha ⊢
  have:=ih h (by simpa [Tok.join,zAI] using ha) (hu.rest hg)
  refine ⟨D0,t',fun s h0 x hx=>?_,rfl,?_⟩
  ·by_cases hd:s∈D
   ·exact hq s hd x hx
   ·exact hD s h0 x (by rw [zAK hd];exact hx)
  ·have he:mix D (fun s=>(g s).mapW (lose r0 pre)) g'=mix D g g':=by
    funext s;by_cases hd:s∈D
    ·rw [zBs hd,zBs hd];exact hg s hd
    ·rw [zAK hd,zAK hd]
   rw [← he];exact this
 | frz r0 pre k ih =>
  intro g g' t ⟨yG,D0,t',q,root,hD,hr,hn,hmn,e,h⟩ ha hu
  subst e
  have yd:∀ s∈D0,s∉D:=fun s h0 hd=>hu.wr s hd (by simp [Tok.join,zAI,h0])
  have vX:=yd r0 hr
  have hq:∀ s∈D,∀ x∈(g s).ways,zAH r0 pre x.1 x.2=false:=fun s hd x hx=>zHk (hu.kills s hd r0 (by simp [Tok.join,zAI]) x hx)
  have hg:∀ s∈D,(fun s=>(upd g r0 root s).mapW (inl r0 pre q)) s=g s:=fun s hd=>by
   simp only
   rw [zAg (by rintro rfl;exact vX hd),zFJ (hq s hd)]
  have hm:(fun s=>(upd (mix D v g) r0 root s).mapW (inl r0 pre q))=mix D v (fun s=>(upd g r0 root s).mapW (inl r0 pre q)):=by
   rw [zJn vX]
   funext s;by_cases hd:s∈D
   ·have:=hD s (fun h0=>yd s h0 hd)
    rw [zBs hd] at this
    rw [zBs hd,zBs hd,zFJ this]
   ·rw [zAK hd,zAK hd]
  have ht:=zCq (D:=D0) (g:=mix D v g) (g':=fun s=>(upd (mix D v g) r0 root s).mapW (inl r0 pre q)) (h:=g) (h':=fun s=>(upd g r0 root s).mapW (inl r0 pre q)) (ks:=[r0]) (ki:=[]) (fun s h0=>zAK (yd s h0)) (fun s h0=>by simp only [zJn vX,zAK (yd s h0)])
  rw [hm] at h
  rw [ht] at hu ha ⊢
  rw [zAK vX] at yG hn hmn
  have:=ih h (by simpa [Tok.join,zAI] using ha) (hu.rest hg)
  refine ⟨yG,D0,t',q,root,fun s h0 x hx=>?_,hr,hn,hmn,rfl,?_⟩
  ·by_cases hd:s∈D
   ·exact hq s hd x hx
   ·exact hD s h0 x (by rw [zAK hd];exact hx)
  ·have he:mix D (fun s=>(upd g r0 root s).mapW (inl r0 pre q)) g'=mix D g g':=by
    funext s;by_cases hd:s∈D
    ·rw [zBs hd,zBs hd];exact hg s hd
    ·rw [zAK hd,zAK hd]
   rw [← he];exact this
 | killEx r0 pre k ih =>
  intro g g' t ⟨D0,t',hD,e,h⟩ ha hu
  subst e
  have yd:∀ s∈D0,s∉D:=fun s h0 hd=>hu.wr s hd (by simp [Tok.join,zAI,h0])
  have hq:∀ s∈D,∀ x∈(g s).ways,(Nat.beq x.1 r0 && !x.2.isEmpty)=false:=fun s hd x hx=>zTQ (hu.killsIn s hd r0 (by simp [Tok.join,zAI]) x hx)
  have hg:∀ s∈D,(fun s=>(g s).mapW (zBE r0 pre)) s=g s:=fun s hd=>zCv (hq s hd)
  have hm:(fun s=>(mix D v g s).mapW (zBE r0 pre))=mix D v (fun s=>(g s).mapW (zBE r0 pre)):=by
   funext s;by_cases hd:s∈D
   ·have:=hD s (fun h0=>yd s h0 hd)
    rw [zBs hd] at this
    rw [zBs hd,zBs hd,zCv this]
   ·rw [zAK hd,zAK hd]
  have ht:=zCq (D:=D0) (g:=mix D v g) (g':=fun s=>(mix D v g s).mapW (zBE r0 pre)) (h:=g) (h':=fun s=>(g s).mapW (zBE r0 pre)) (ks:=[]) (ki:=[r0]) (fun s h0=>zAK (yd s h0)) (fun s h0=>by simp only [zAK (yd s h0)])
  rw [hm] at h
  rw [ht] at hu ha ⊢
  have:=ih h (by simpa [Tok.join,zAI] using ha) (hu.rest hg)
  refine ⟨D0,t',fun s h0 x hx=>?_,rfl,?_⟩
  ·by_cases hd:s∈D
   ·exact hq s hd x hx
   ·exact hD s h0 x (by rw [zAK hd];exact hx)
  ·have he:mix D (fun s=>(g s).mapW (zBE r0 pre)) g'=mix D g g':=by
    funext s;by_cases hd:s∈D
    ·rw [zBs hd,zBs hd];exact hg s hd
    ·rw [zAK hd,zAK hd]
   rw [← he];exact this
 | forget r0 k ih=>intro g g' t h ha;rw [show t.all=true from h] at ha;cases ha
 | call f args hid k ih=>intro g g' t ⟨v',hO,ho,h⟩ ha hu;exact ⟨v',hO,ho,ih _ _ h ha hu⟩
theorem zEy {D:List Nat} {v g:zCE} {p q:Tok} (h1:Off p q) (h2:Off q p) (hD:∀ s∈D,s∈p.wr) (hw:∀ s∈D,∀ x∈(g s).ways,x∈p.ways):Unseen D v g q :=
 ⟨fun s hs=>h1.rd s (hD s hs),fun s hs=>h1.wr s (hD s hs),fun s hs=>h1.inn s (hD s hs),fun s hs hl=>absurd hl (h1.look s (hD s hs)),fun s hs c hc e=>absurd e (h1.cel s (hD s hs) c hc),
  fun s hs k hk x hx=>h2.ways k hk x (hw s hs x hx),fun s hs k hk x hx=>h2.waysIn k hk x (hw s hs x hx)⟩
theorem comm {q:PM}:∀ {p:PM} {g g1 g2:zCE} {tp tq:Tok},p.does o g tp g1→q.does o g1 tq g2→Off tp tq→Off tq tp→∃ m,q.does o g tq m∧p.does o m tp g2:=by
 intro p
 induction p with
 | ok=>intro g g1 g2 tp tq h hq _ _;obtain ⟨rfl,rfl⟩:=h;exact ⟨g2,hq,rfl,rfl⟩
 | fail=>intro g g1 g2 tp tq h;cases h
 | view s k ih =>
  intro g g1 g2 tp tq ⟨t',e,h⟩ hq h1 h2
  subst e
  obtain ⟨m,hm,hk⟩:=ih _ h hq h1.left' h2.right'
  refine ⟨m,hm,t',rfl,?_⟩
  rw [zRb hm h2.all (fun hw=>h2.look s hw (by simp [Tok.join]))];exact hk
 | get s k ih =>
  intro g g1 g2 tp tq ⟨hl,t',e,h⟩ hq h1 h2
  subst e
  obtain ⟨m,hm,hk⟩:=ih _ h hq h1.left' h2.right'
  have:=zDw hm h2.all (fun hw=>h2.rd s hw (by simp [Tok.join])) (fun c hc e=>h2.ird c hc (by rw [e];simp [Tok.join]))
  exact ⟨m,hm,by rw [this];exact hl,t',rfl,by rw [this];exact hk⟩
 | set s v k ih =>
  intro g g1 g2 tp tq ⟨t',e,h⟩ hq h1 h2
  subst e
  obtain ⟨m,hm,hk⟩:=ih h hq h1.left' h2.right'
  have hw:s∈(Tok.join (zFe s (g s) v) t').wr:=by simp [Tok.join,zFe]
  have wc:m s=v:=by rw [zDw hm h2.all (h1.wr s hw) (h1.inn s hw),zAj]
  have hu:Unseen [s] (fun _=>v) g tq:=zEy h1 h2 (fun u hu=>by rw [List.mem_singleton.1 hu];exact hw) (fun u hu x hx=>by
   rw [List.mem_singleton.1 hu] at hx
   exact List.mem_append_left _ (List.mem_append_left _ hx))
  rw [zNE] at hm
  have hd:=zFR hm h2.all hu
  have he:mix [s] g m=upd m s (g s):=by funext u;simp only [upd,mix,List.mem_singleton];split<;>simp_all
  rw [he] at hd
  refine ⟨_,hd,t',by rw [zAj],?_⟩
  rw [zNL,← wc,zLi];exact hk
 | cells r pre i c n k ih =>
  intro g g1 g2 tp tq ⟨a,qs,t',kK,e,h⟩ hq h1 h2
  subst e
  obtain ⟨m,hm,hk⟩:=ih _ _ h hq h1.left' h2.right'
  refine ⟨m,hm,a,qs,t',?_,rfl,hk⟩
  rw [zPA hm h2.all (fun hw=>h2.cel r hw (r,pre) (by simp [Tok.join]) rfl) (fun w hw e=>h2.icel w hw (r,pre) (by simp [Tok.join]) e)];exact kK
 | deep r pre k ih =>
  intro g g1 g2 tp tq ⟨q,t',hn,e,h⟩ hq h1 h2
  subst e
  obtain ⟨m,hm,hk⟩:=ih _ h hq h1.left' h2.right'
  have:=zDw hm h2.all (fun hw=>h2.rd r hw (by simp [Tok.join])) (fun c hc e=>h2.ird c hc (by rw [e];simp [Tok.join]))
  exact ⟨m,hm,q,t',by rw [this];exact hn,rfl,hk⟩
 | wcells r pre i c qs k ih =>
  intro g g1 g2 tp tq ⟨root,t',hn,e,h⟩ hq h1 h2
  subst e
  obtain ⟨m,hm,hk⟩:=ih h hq h1.left' h2.right'
  have yp:∀ x∈(g r).ways,x∈(Tok.join (zA9 r [] (zAE (g r) root pre) (g r) root) t').ways:=fun x hx=>List.mem_append_left _ (List.mem_append_left _ hx)
  have fin:m r=root→Unseen [r] (fun _=>root) g tq→∃ m,q.does o g tq m∧(PM.wcells r pre i c qs k).does o m (Tok.join (zA9 r [] (zAE (g r) root pre) (g r) root) t') g2:=by
   intro wc hu
   rw [zNE] at hm
   have hd:=zFR hm h2.all hu
   have he:mix [r] g m=upd m r (g r):=by funext u;simp only [upd,mix,List.mem_singleton];split<;>simp_all
   rw [he] at hd
   refine ⟨_,hd,root,t',by rw [zAj];exact hn,by rw [zAj],?_⟩
   rw [zNL,← wc,zLi];exact hk
  cases u6:zAE (g r) root pre with
  | true =>
   rw [u6] at h1 h2 fin yp
   have hin:(r,([]:zAO))∈(Tok.join (zA9 r [] true (g r) root) t').inn:=by simp [Tok.join,zA9]
   have hw:r∉tq.wr:=fun hw=>h2.inn r hw _ hin rfl
   have hi:∀ c∈tq.inn,c.1≠r:=h1.iinn _ hin
   have hcel:∀ c∈tq.cel,c.1≠r:=fun c hc e=>by have:=h1.icel _ hin c hc e;simp at this
   refine fin (by rw [zDw hm h2.all hw hi,zAj]) ⟨fun s hs=>?_,fun s hs=>?_,fun s hs=>?_,fun s hs _=>?_,fun s hs c hc e=>?_,fun s hs k hk x hx=>?_,fun s hs k hk x hx=>?_⟩<;>rw [List.mem_singleton.1 hs] at *
   ·exact h1.ird _ hin
   ·exact hw
   ·exact hi
   ·simp only [zBw] at hn
    revert hn
    cases (zDv (g r) pre && !(zBn qs).isEmpty) with
    | true=>intro hr;cases hr
    | false=>intro hr;exact (zG5 hr u6).symm
   ·exact absurd e (hcel c hc)
   ·exact h2.ways k hk x (yp x hx)
   ·exact h2.waysIn k hk x (yp x hx)
  | false =>
   rw [u6] at h1 h2 fin yp
   have hw:r∈(Tok.join (zA9 r [] false (g r) root) t').wr:=by simp [Tok.join,zA9]
   exact fin (by rw [zDw hm h2.all (h1.wr r hw) (h1.inn r hw),zAj]) (zEy h1 h2 (fun u hu=>by rw [List.mem_singleton.1 hu];exact hw) (fun u hu x hx=>by rw [List.mem_singleton.1 hu] at hx;exact yp x hx))
 | wnode r pre q0 k ih =>
  intro g g1 g2 tp tq ⟨yG,root,t',hn,e,h⟩ hq h1 h2
  subst e
  obtain ⟨m,hm,hk⟩:=ih h hq h1.left' h2.right'
  have yp:∀ x∈(g r).ways,x∈(Tok.join (zA9 r pre.dropLast (zAE (g r) root pre&&(pre.isEmpty || !q0.isAgg)) (g r) root) t').ways:=fun x hx=>List.mem_append_left _ (List.mem_append_left _ hx)
  have fin:m r=root→Unseen [r] (fun _=>root) g tq→∃ m,q.does o g tq m∧(PM.wnode r pre q0 k).does o m (Tok.join (zA9 r pre.dropLast (zAE (g r) root pre&&(pre.isEmpty || !q0.isAgg)) (g r) root) t') g2:=by
   intro wc hu
   rw [zNE] at hm
   have hd:=zFR hm h2.all hu
   have he:mix [r] g m=upd m r (g r):=by funext u;simp only [upd,mix,List.mem_singleton];split<;>simp_all
   rw [he] at hd
   refine ⟨_,hd,by rw [zAj];exact yG,root,t',by rw [zAj];exact hn,by rw [zAj],?_⟩
   rw [zNL,← wc,zLi];exact hk
  cases u6:(zAE (g r) root pre&&(pre.isEmpty || !q0.isAgg)) with
  | true =>
   rw [u6] at h1 h2 fin yp
   have hin:(r,pre.dropLast)∈(Tok.join (zA9 r pre.dropLast true (g r) root) t').inn:=by simp [Tok.join,zA9]
   have hw:r∉tq.wr:=fun hw=>h2.inn r hw _ hin rfl
   have hi:∀ c∈tq.inn,c.1≠r:=h1.iinn _ hin
   refine fin (by rw [zDw hm h2.all hw hi,zAj]) ⟨fun s hs=>?_,fun s hs=>?_,fun s hs=>?_,fun s hs _=>?_,fun s hs c hc e i c' n=>?_,fun s hs k hk x hx=>?_,fun s hs k hk x hx=>?_⟩<;>rw [List.mem_singleton.1 hs] at *
   ·exact h1.ird _ hin
   ·exact hw
   ·exact hi
   ·rw [Bool.and_eq_true] at u6
    exact (zG5 hn u6.1).symm
   ·exact zIZ yG hn u6 (h1.icel _ hin c hc e) i c' n
   ·exact h2.ways k hk x (yp x hx)
   ·exact h2.waysIn k hk x (yp x hx)
  | false =>
   rw [u6] at h1 h2 fin yp
   have hw:r∈(Tok.join (zA9 r pre.dropLast false (g r) root) t').wr:=by simp [Tok.join,zA9]
   exact fin (by rw [zDw hm h2.all (h1.wr r hw) (h1.inn r hw),zAj]) (zEy h1 h2 (fun u hu=>by rw [List.mem_singleton.1 hu];exact hw) (fun u hu x hx=>by rw [List.mem_singleton.1 hu] at hx;exact yp x hx))
 | kill r pre k ih =>
  intro g g1 g2 tp tq ⟨D,t',hD,e,h⟩ hq h1 h2
  subst e
  obtain ⟨m,hm,hk⟩:=ih h hq h1.left' h2.right'
  have hw:∀ s∈D,s∈(Tok.join (zAI D g (fun s=>(g s).mapW (lose r pre)) [r] []) t').wr:=fun s hs=>List.mem_append_left _ hs
  have hu:Unseen D (fun s=>(g s).mapW (lose r pre)) g tq:=zEy h1 h2 hw (fun s hs x hx=>List.mem_append_left _ (List.mem_flatMap.2 ⟨s,hs,List.mem_append_left _ hx⟩))
  have kP:(fun s=>(g s).mapW (lose r pre))=mix D (fun s=>(g s).mapW (lose r pre)) g:=by
   funext s;by_cases hs:s∈D
   ·rw [zBs hs]
   ·rw [zAK hs,zDT (hD s hs)]
  have hmD:∀ s∈D,m s=(g s).mapW (lose r pre):=fun s hs=>zDw hm h2.all (h1.wr s (hw s hs)) (h1.inn s (hw s hs))
  have jD:=zIP (D:=D) (ok:=fun x=>zAH r pre x.1 x.2=false) hm h2.all (fun x hx=>zHk (h1.ways r (by simp [Tok.join,zAI]) x hx)) (fun s hs x hx=>hD s hs x (by rw [zDT (hD s hs)] at hx;exact hx))
  rw [kP] at hm
  have hd:=zFR hm h2.all hu
  have y8:(fun s=>(mix D g m s).mapW (lose r pre))=m:=by
   funext s;by_cases hs:s∈D
   ·rw [zBs hs,hmD s hs]
   ·rw [zAK hs,zDT (jD s hs)]
  refine ⟨_,hd,D,t',fun s hs x hx=>jD s hs x (by rw [zAK hs] at hx;exact hx),?_,by rw [y8];exact hk⟩
  rw [zCq (g:=g) (h:=mix D g m) (h':=fun s=>(mix D g m s).mapW (lose r pre)) (fun s hs=>(zBs hs).symm) (fun s hs=>by simp only [zBs hs])]
 | frz r pre k ih =>
  intro g g1 g2 tp tq ⟨yG,D,t',q0,root,hD,hr,hn,hmn,e,h⟩ hq h1 h2
  subst e
  obtain ⟨m,hm,hk⟩:=ih h hq h1.left' h2.right'
  have hw:∀ s∈D,s∈(Tok.join (zAI D g (fun s=>(upd g r root s).mapW (inl r pre q0)) [r] []) t').wr:=fun s hs=>List.mem_append_left _ hs
  have hu:Unseen D (fun s=>(upd g r root s).mapW (inl r pre q0)) g tq:=zEy h1 h2 hw (fun s hs x hx=>List.mem_append_left _ (List.mem_flatMap.2 ⟨s,hs,List.mem_append_left _ hx⟩))
  have yd:∀ s,s∉D→(upd g r root s).mapW (inl r pre q0)=g s:=fun s hs=>by rw [zAg (by rintro rfl;exact hs hr),zFJ (hD s hs)]
  have kP:(fun s=>(upd g r root s).mapW (inl r pre q0))=mix D (fun s=>(upd g r root s).mapW (inl r pre q0)) g:=by
   funext s;by_cases hs:s∈D
   ·rw [zBs hs]
   ·rw [zAK hs,yd s hs]
  have hmD:∀ s∈D,m s=(upd g r root s).mapW (inl r pre q0):=fun s hs=>zDw hm h2.all (h1.wr s (hw s hs)) (h1.inn s (hw s hs))
  have jD:=zIP (D:=D) (ok:=fun x=>zAH r pre x.1 x.2=false) hm h2.all (fun x hx=>zHk (h1.ways r (by simp [Tok.join,zAI]) x hx)) (fun s hs x hx=>hD s hs x (by rw [yd s hs] at hx;exact hx))
  rw [kP] at hm
  have hd:=zFR hm h2.all hu
  have y8:(fun s=>(upd (mix D g m) r root s).mapW (inl r pre q0))=m:=by
   funext s;by_cases hs:s∈D
   ·rw [hmD s hs]
    by_cases yY:s=r
    ·subst yY;rw [zAj,zAj]
    ·rw [zAg yY,zAg yY,zBs hs]
   ·rw [zAg (by rintro rfl;exact hs hr),zAK hs,zFJ (jD s hs)]
  have hmr:mix D g m r=g r:=zBs hr
  refine ⟨_,hd,by rw [hmr];exact yG,D,t',q0,root,fun s hs x hx=>jD s hs x (by rw [zAK hs] at hx;exact hx),hr,by rw [hmr];exact hn,by rw [hmr];exact hmn,?_,by rw [y8];exact hk⟩
  rw [zCq (g:=g) (h:=mix D g m) (fun s hs=>(zBs hs).symm) (fun s hs=>by
   show (upd g r root s).mapW (inl r pre q0)=(upd (mix D g m) r root s).mapW (inl r pre q0)
   by_cases yY:s=r
   ·subst yY;rw [zAj,zAj]
   ·rw [zAg yY,zAg yY,zBs hs])]
 | killEx r pre k ih =>
  intro g g1 g2 tp tq ⟨D,t',hD,e,h⟩ hq h1 h2
  subst e
  obtain ⟨m,hm,hk⟩:=ih h hq h1.left' h2.right'
  have hw:∀ s∈D,s∈(Tok.join (zAI D g (fun s=>(g s).mapW (zBE r pre)) [] [r]) t').wr:=fun s hs=>List.mem_append_left _ hs
  have hu:Unseen D (fun s=>(g s).mapW (zBE r pre)) g tq:=zEy h1 h2 hw (fun s hs x hx=>List.mem_append_left _ (List.mem_flatMap.2 ⟨s,hs,List.mem_append_left _ hx⟩))
  have kP:(fun s=>(g s).mapW (zBE r pre))=mix D (fun s=>(g s).mapW (zBE r pre)) g:=by
   funext s;by_cases hs:s∈D
   ·rw [zBs hs]
   ·rw [zAK hs,zCv (hD s hs)]
  have hmD:∀ s∈D,m s=(g s).mapW (zBE r pre):=fun s hs=>zDw hm h2.all (h1.wr s (hw s hs)) (h1.inn s (hw s hs))
  have jD:=zIP (D:=D) (ok:=fun x=>(Nat.beq x.1 r && !x.2.isEmpty)=false) hm h2.all (fun x hx=>zTQ (h1.waysIn r (by simp [Tok.join,zAI]) x hx)) (fun s hs x hx=>hD s hs x (by rw [zCv (hD s hs)] at hx;exact hx))
  rw [kP] at hm
  have hd:=zFR hm h2.all hu
  have y8:(fun s=>(mix D g m s).mapW (zBE r pre))=m:=by
   funext s;by_cases hs:s∈D
   ·rw [zBs hs,hmD s hs]
   ·rw [zAK hs,zCv (jD s hs)]
  refine ⟨_,hd,D,t',fun s hs x hx=>jD s hs x (by rw [zAK hs] at hx;exact hx),?_,by rw [y8];exact hk⟩
  rw [zCq (g:=g) (h:=mix D g m) (h':=fun s=>(mix D g m s).mapW (zBE r pre)) (fun s hs=>(zBs hs).symm) (fun s hs=>by simp only [zBs hs])]
 | forget r k ih=>intro g g1 g2 tp tq h hq h1 h2;have:=h1.all;rw [show tp.all=true from h] at this;cases this
 | call f args hid k ih =>
  intro g g1 g2 tp tq ⟨v',hO,ho,h⟩ hq h1 h2
  obtain ⟨m,hm,hk⟩:=ih _ _ h hq h1 h2
  exact ⟨m,hm,v',hO,ho,hk⟩
theorem zBd (e:Env) (s:Nat) (p:PV):(e.set s p).get=upd e.get s p:=by
 funext t;rw [Env.get_set];rfl
theorem zFC {e:Env} {h:Nat×zAO→Bool}:∀ s,s∉zC6 e h→∀ x∈(e.get s).ways,h x=false:=by
 intro s hs x hx
 cases hh:h x with
 | false=>rfl
 | true =>
  exfalso
  refine hs ?_
  clear hs
  induction e with
  | nil=>cases hx
  | cons y e ih =>
   obtain ⟨k,v⟩:=y
   simp only [Env.get] at hx
   cases hb:Nat.beq k s with
   | true =>
    rw [hb] at hx
    have hk:=Nat.eq_of_beq_eq_true hb
    exact List.mem_map.2 ⟨(k,v),List.mem_filter.2 ⟨by simp,List.any_eq_true.2 ⟨x,hx,hh⟩⟩,hk⟩
   | false =>
    rw [hb] at hx
    obtain ⟨y,hy,qS⟩:=List.mem_map.1 (ih hx)
    obtain ⟨h1,h2⟩:=List.mem_filter.1 hy
    exact List.mem_map.2 ⟨y,List.mem_filter.2 ⟨by simp [h1],h2⟩,qS⟩
theorem zUz {e e':Env} {r:Nat} {pre:zAO} (h:e.frz r pre=some e') :
  (e.get r).isLock=false∧∃ q root,zAz (e.get r) pre=some q∧zAv (fun _=>some (zAP q)) (e.get r) pre=some root∧e'.get=fun s=>(upd e.get r root s).mapW (inl r pre q):=by
 simp only [Env.frz] at h
 cases hl:(e.get r).isLock with
 | true=>rw [hl] at h;cases h
 | false =>
  rw [hl] at h;simp only [cond_false] at h
  cases hn:zAz (e.get r) pre with
  | none=>rw [hn] at h;cases h
  | some q =>
   rw [hn] at h;simp only at h
   cases hm:zAv (fun _=>some (zAP q)) (e.get r) pre with
   | none=>rw [hm] at h;cases h
   | some root =>
    rw [hm] at h;simp only [Option.some.injEq] at h
    subst h
    refine ⟨rfl,q,root,rfl,hm,?_⟩
    funext s
    rw [Env.get_map (e.set r root) (g:=fun p=>p.mapW (inl r pre q)) rfl s,zBd]
theorem zH5:∀ {p:PM} {e e':Env} {t:Tok},p.runT o e=some (e',t)→t.all=true∨p.does o e.get t e'.get:=by
 intro p
 induction p with
 | ok=>intro e e' t h;simp only [PM.runT,Option.some.injEq,Prod.mk.injEq] at h;obtain ⟨rfl,rfl⟩:=h;exact .inr ⟨rfl,rfl⟩
 | fail=>intro e e' t h;cases h
 | view s k ih =>
  intro e e' t h
  simp only [PM.runT,Option.map_eq_some_iff] at h
  obtain ⟨⟨e1,t1⟩,h,hx⟩:=h
  cases hx
  rcases ih _ h with ha | hd
  ·exact .inl (by simp [Tok.join,ha])
  ·exact .inr ⟨t1,rfl,hd⟩
 | get s k ih =>
  intro e e' t h
  simp only [PM.runT] at h
  split at h
  ·cases h
  ·rename_i gl
   simp only [Option.map_eq_some_iff] at h
   obtain ⟨⟨e1,t1⟩,h,hx⟩:=h
   cases hx
   rcases ih _ h with ha | hd
   ·exact .inl (by simp [Tok.join,ha])
   ·refine .inr ⟨?_,t1,rfl,hd⟩
    cases hl:e.get s<;>first | rfl | exact absurd hl (gl _)
 | set s v k ih =>
  intro e e' t h
  simp only [PM.runT,Option.map_eq_some_iff] at h
  obtain ⟨⟨e1,t1⟩,h,hx⟩:=h
  cases hx
  rcases ih h with ha | hd
  ·exact .inl (by simp [Tok.join,ha])
  ·exact .inr ⟨t1,rfl,by rw [zBd] at hd;exact hd⟩
 | cells r pre i c n k ih =>
  intro e e' t h
  simp only [PM.runT] at h
  split at h
  ·rename_i a qs kK
   simp only [Option.map_eq_some_iff] at h
   obtain ⟨⟨e1,t1⟩,h,hx⟩:=h
   cases hx
   rcases ih _ _ h with ha | hd
   ·exact .inl (by simp [Tok.join,ha])
   ·exact .inr ⟨a,qs,t1,kK,rfl,hd⟩
  ·cases h
 | deep r pre k ih =>
  intro e e' t h
  simp only [PM.runT] at h
  split at h
  ·rename_i q hn
   simp only [Option.map_eq_some_iff] at h
   obtain ⟨⟨e1,t1⟩,h,hx⟩:=h
   cases hx
   rcases ih _ h with ha | hd
   ·exact .inl (by simp [Tok.join,ha])
   ·exact .inr ⟨q,t1,hn,rfl,hd⟩
  ·cases h
 | wcells r pre i c qs k ih =>
  intro e e' t h
  simp only [PM.runT] at h
  split at h
  ·rename_i root hn
   simp only [Option.map_eq_some_iff] at h
   obtain ⟨⟨e1,t1⟩,h,hx⟩:=h
   cases hx
   rcases ih h with ha | hd
   ·exact .inl (by simp [Tok.join,ha])
   ·exact .inr ⟨root,t1,hn,rfl,by rw [zBd] at hd;exact hd⟩
  ·cases h
 | wnode r pre q k ih =>
  intro e e' t h
  simp only [PM.runT] at h
  cases hl:(e.get r).isLock with
  | true=>rw [hl] at h;cases h
  | false =>
   rw [hl] at h;simp only [cond_false] at h
   split at h
   ·rename_i root hn
    simp only [Option.map_eq_some_iff] at h
    obtain ⟨⟨e1,t1⟩,h,hx⟩:=h
    cases hx
    rcases ih h with ha | hd
    ·exact .inl (by simp [Tok.join,ha])
    ·exact .inr ⟨hl,root,t1,hn,rfl,by rw [zBd] at hd;exact hd⟩
   ·cases h
 | kill r pre k ih =>
  intro e e' t h
  simp only [PM.runT,Option.map_eq_some_iff] at h
  obtain ⟨⟨e1,t1⟩,h,hx⟩:=h
  cases hx
  rcases ih h with hb | hd
  ·exact .inl (by simp [Tok.join,zAI,hb])
  ·have hg:(e.kill r pre).get=fun s=>(e.get s).mapW (lose r pre):=by funext s;rw [Env.get_kill]
   rw [hg] at hd ⊢
   exact .inr ⟨_,t1,zFC,rfl,hd⟩
 | frz r pre k ih =>
  intro e e' t h
  simp only [PM.runT] at h
  split at h
  ·rename_i e2 h2
   simp only [Option.map_eq_some_iff] at h
   obtain ⟨⟨e1,t1⟩,h,hx⟩:=h
   cases hx
   rcases ih h with hb | hd
   ·exact .inl (by simp [Tok.join,zAI,hb])
   ·obtain ⟨hl,q,root,hn,hm,hg⟩:=zUz h2
    rw [hg] at hd ⊢
    exact .inr ⟨hl,_,t1,q,root,fun s hs=>zFC s (fun hm=>hs (List.mem_cons_of_mem _ hm)),by simp,hn,hm,rfl,hd⟩
  ·cases h
 | killEx r keep k ih =>
  intro e e' t h
  simp only [PM.runT,Option.map_eq_some_iff] at h
  obtain ⟨⟨e1,t1⟩,h,hx⟩:=h
  cases hx
  rcases ih h with hb | hd
  ·exact .inl (by simp [Tok.join,zAI,hb])
  ·have hg:(e.killEx r keep).get=fun s=>(e.get s).mapW (zBE r keep):=by funext s;rw [Env.get_killEx]
   rw [hg] at hd ⊢
   exact .inr ⟨_,t1,zFC,rfl,hd⟩
 | forget r k ih =>
  intro e e' t h
  simp only [PM.runT,Option.map_eq_some_iff] at h
  obtain ⟨⟨e1,t1⟩,h,hx⟩:=h
  cases hx
  exact .inl rfl
 | call f args hid k ih =>
  intro e e' t h
  simp only [PM.runT] at h
  split at h
  ·rename_i v hO ho
   rcases ih _ _ h with ha | hd
   ·exact .inl ha
   ·exact .inr ⟨v,hO,ho,hd⟩
  ·cases h
theorem zNb:∀ {p:PM} {e:Env} {g':zCE} {t:Tok},p.does o e.get t g'→t.all=false→∃ e',p.run o e=some e'∧e'.get=g':=by
 intro p
 induction p with
 | ok=>intro e g' t h _;exact ⟨e,rfl,h.2.symm⟩
 | fail=>intro e g' t h;cases h
 | view s k ih =>
  intro e g' t ⟨t',he,h⟩ ha
  subst he;exact ih _ h ha
 | get s k ih =>
  intro e g' t ⟨hl,t',he,h⟩ ha
  subst he
  obtain ⟨e',h1,h2⟩:=ih _ h ha
  refine ⟨e',?_,h2⟩
  simp only [PM.run]
  split
  ·rename_i p hp;rw [hp] at hl;cases hl
  ·exact h1
 | set s v k ih =>
  intro e g' t ⟨t',he,h⟩ ha
  subst he
  exact ih (e:=e.set s v) (by rw [zBd];exact h) (by simpa [Tok.join,zFe] using ha)
 | cells r pre i c n k ih =>
  intro e g' t ⟨a,qs,t',kK,he,h⟩ ha
  subst he
  obtain ⟨e',h1,h2⟩:=ih _ _ h ha
  exact ⟨e',by simp only [PM.run,kK];exact h1,h2⟩
 | deep r pre k ih =>
  intro e g' t ⟨q,t',hn,he,h⟩ ha
  subst he
  obtain ⟨e',h1,h2⟩:=ih _ h ha
  exact ⟨e',by simp only [PM.run,hn];exact h1,h2⟩
 | wcells r pre i c qs k ih =>
  intro e g' t ⟨root,t',hn,he,h⟩ ha
  subst he
  obtain ⟨e',h1,h2⟩:=ih (e:=e.set r root) (by rw [zBd];exact h) (by simpa [Tok.join,zA9] using ha)
  exact ⟨e',by simp only [PM.run,hn];exact h1,h2⟩
 | wnode r pre q k ih =>
  intro e g' t ⟨hl,root,t',hn,he,h⟩ ha
  subst he
  obtain ⟨e',h1,h2⟩:=ih (e:=e.set r root) (by rw [zBd];exact h) (by simpa [Tok.join,zA9] using ha)
  exact ⟨e',by simp only [PM.run,hl,cond_false,hn];exact h1,h2⟩
 | kill r pre k ih =>
  intro e g' t ⟨D,t',hD,he,h⟩ ha
  subst he
  exact ih (e:=e.kill r pre) (t:=t') (by
   have:(e.kill r pre).get=fun s=>(e.get s).mapW (lose r pre):=by funext s;rw [Env.get_kill]
   rw [this];exact h) (by simpa [Tok.join,zAI] using ha)
 | frz r pre k ih =>
  intro e g' t ⟨hl,D,t',q,root,hD,hr,hn,hm,he,h⟩ ha
  subst he
  have hf:e.frz r pre=some ((e.set r root).map fun x=>(x.1,x.2.mapW (inl r pre q))):=by
   simp only [Env.frz,hl,cond_false,hn,hm]
  have hg:Env.get ((e.set r root).map fun x=>(x.1,x.2.mapW (inl r pre q)))=fun s=>(upd e.get r root s).mapW (inl r pre q):=by
   funext s;rw [Env.get_map (e.set r root) (g:=fun p=>p.mapW (inl r pre q)) rfl s,zBd]
  obtain ⟨e',h1,h2⟩:=ih (e:=(e.set r root).map fun x=>(x.1,x.2.mapW (inl r pre q))) (t:=t') (by rw [hg];exact h) (by simpa [Tok.join,zAI] using ha)
  exact ⟨e',by simp only [PM.run,hf];exact h1,h2⟩
 | killEx r keep k ih =>
  intro e g' t ⟨D,t',hD,he,h⟩ ha
  subst he
  exact ih (e:=e.killEx r keep) (t:=t') (by
   have:(e.killEx r keep).get=fun s=>(e.get s).mapW (zBE r keep):=by funext s;rw [Env.get_killEx]
   rw [this];exact h) (by simpa [Tok.join,zAI] using ha)
 | forget r k ih=>intro e g' t h ha;rw [show t.all=true from h] at ha;cases ha
 | call f args hid k ih =>
  intro e g' t ⟨v,hO,ho,h⟩ ha
  obtain ⟨e',h1,h2⟩:=ih _ _ h ha
  exact ⟨e',by simp only [PM.run,ho];exact h1,h2⟩
end
section
variable {o:zAC}
theorem zEO (e:Env) (h s:Nat):(e.forget h).get s=if s=h∨(e.get s).num=true then e.get s else .bad:=by
 induction e with
 | nil=>exact (ite_self (c:=s=h∨PV.bad.num=true) PV.bad).symm
 | cons x e ih =>
  obtain ⟨k,v⟩:=x
  have ih:Env.get (List.map (fun x=>bif Nat.beq x.1 h||x.2.num then x else (x.1,PV.bad)) e) s=_:=ih
  simp only [Env.forget,List.map_cons]
  cases hb:Nat.beq k s with
  | true =>
   have hk:=Nat.eq_of_beq_eq_true hb
   subst hk
   have e1:Env.get ((k,v)::e) k=v:=by simp only [Env.get,hb,cond_true]
   rw [e1]
   cases hc:(Nat.beq k h||v.num) with
   | true =>
    rw [cond_true]
    simp only [Env.get,hb,cond_true]
    rw [Bool.or_eq_true] at hc
    rw [if_pos (hc.imp (fun h=>Nat.eq_of_beq_eq_true h) id)]
   | false =>
    rw [cond_false]
    simp only [Env.get,hb,cond_true]
    rw [Bool.or_eq_false_iff] at hc
    rw [if_neg]
    rintro (h1 | h1)
    ·subst h1;rw [Nat.beq_refl] at hc;cases hc.1
    ·rw [hc.2] at h1;cases h1
  | false =>
   have e1:Env.get ((k,v)::e) s=Env.get e s:=by simp only [Env.get,hb,cond_false]
   rw [e1,← ih]
   cases (Nat.beq k h||v.num)<;>simp only [cond_true,cond_false,Env.get,hb]
theorem zR5 {e f e1:Env} {r:Nat} {pre:zAO} (he:f.get=e.get) (h:e.frz r pre=some e1):∃ f1,f.frz r pre=some f1∧f1.get=e1.get:=by
 simp only [Env.frz] at h ⊢
 rw [he]
 cases hl:(e.get r).isLock with
 | true=>rw [hl] at h;cases h
 | false =>
  rw [hl] at h;simp only [cond_false] at h ⊢
  cases hn:zAz (e.get r) pre with
  | none=>rw [hn] at h;cases h
  | some q =>
   rw [hn] at h;simp only at h ⊢
   cases hm:zAv (fun _=>some (zAP q)) (e.get r) pre with
   | none=>rw [hm] at h;cases h
   | some root =>
    rw [hm] at h;simp only [Option.some.injEq] at h ⊢
    subst h
    refine ⟨_,rfl,?_⟩
    funext s
    rw [Env.get_map (f.set r root) (g:=fun p=>p.mapW (inl r pre q)) rfl s,Env.get_map (e.set r root) (g:=fun p=>p.mapW (inl r pre q)) rfl s,zBd,zBd,he]
theorem zFL:∀ {p:PM} {e f e1:Env},f.get=e.get→p.run o e=some e1→∃ f1,p.run o f=some f1∧f1.get=e1.get:=by
 intro p
 induction p with
 | ok=>intro e f e1 he h;simp only [PM.run,Option.some.injEq] at h;subst h;exact ⟨f,rfl,he⟩
 | fail=>intro e f e1 he h;cases h
 | view s k ih=>intro e f e1 he h;simp only [PM.run] at h ⊢;rw [he];exact ih _ he h
 | get s k ih =>
  intro e f e1 he h
  simp only [PM.run] at h ⊢
  rw [he]
  split at h
  ·cases h
  ·exact ih _ he h
 | set s v k ih=>intro e f e1 he h;exact ih (by rw [zBd,zBd,he]) h
 | cells r pre i c n k ih =>
  intro e f e1 he h
  simp only [PM.run] at h ⊢
  rw [he]
  split at h
  ·exact ih _ _ he h
  ·cases h
 | deep r pre k ih =>
  intro e f e1 he h
  simp only [PM.run] at h ⊢
  rw [he]
  split at h
  ·exact ih _ he h
  ·cases h
 | wcells r pre i c qs k ih =>
  intro e f e1 he h
  simp only [PM.run] at h ⊢
  rw [he]
  split at h
  ·exact ih (by rw [zBd,zBd,he]) h
  ·cases h
 | wnode r pre q k ih =>
  intro e f e1 he h
  simp only [PM.run] at h ⊢
  rw [he]
  cases hl:(e.get r).isLock with
  | true=>rw [hl] at h;cases h
  | false =>
   rw [hl] at h;simp only [cond_false] at h ⊢
   split at h
   ·exact ih (by rw [zBd,zBd,he]) h
   ·cases h
 | kill r pre k ih=>intro e f e1 he h;exact ih (by funext s;rw [Env.get_kill,Env.get_kill,he]) h
 | frz r pre k ih =>
  intro e f e1 he h
  simp only [PM.run] at h ⊢
  split at h
  ·rename_i e2 h2
   obtain ⟨f2,jt,hg⟩:=zR5 he h2
   rw [jt]
   exact ih hg h
  ·cases h
 | killEx r pre k ih=>intro e f e1 he h;exact ih (by funext s;rw [Env.get_killEx,Env.get_killEx,he]) h
 | forget r k ih=>intro e f e1 he h;exact ih (by funext s;rw [zEO,zEO,he]) h
 | call f args hid k ih =>
  intro e f e1 he h
  simp only [PM.run] at h ⊢
  split at h
  ·exact ih _ _ he h
  ·cases h
theorem zD3:∀ {p:PM} {e e1:Env} {t:Tok},p.runT o e=some (e1,t)→p.run o e=some e1:=by
 have mp:∀ {x:Option (Env×Tok)} {f:Tok→Tok} {e1:Env} {t:Tok},(x.map fun y=>(y.1,f y.2))=some (e1,t)→∃ t',x=some (e1,t'):=by
  intro x f e1 t h
  cases x with
  | none=>cases h
  | some y=>simp only [Option.map_some,Option.some.injEq,Prod.mk.injEq] at h;exact ⟨y.2,by rw [← h.1]⟩
 intro p
 induction p with
 | ok=>intro e e1 t h;simp only [PM.runT,Option.some.injEq,Prod.mk.injEq] at h;rw [← h.1];rfl
 | fail=>intro e e1 t h;cases h
 | view s k ih=>intro e e1 t h;obtain ⟨t',h'⟩:=mp h;exact ih _ h'
 | get s k ih =>
  intro e e1 t h
  simp only [PM.runT,PM.run] at h ⊢
  split at h
  ·cases h
  ·obtain ⟨t',h'⟩:=mp h;exact ih _ h'
 | set s v k ih=>intro e e1 t h;obtain ⟨t',h'⟩:=mp h;exact ih h'
 | cells r pre i c n k ih =>
  intro e e1 t h
  simp only [PM.runT,PM.run] at h ⊢
  split at h
  ·obtain ⟨t',h'⟩:=mp h;exact ih _ _ h'
  ·cases h
 | deep r pre k ih =>
  intro e e1 t h
  simp only [PM.runT,PM.run] at h ⊢
  split at h
  ·obtain ⟨t',h'⟩:=mp h;exact ih _ h'
  ·cases h
 | wcells r pre i c qs k ih =>
  intro e e1 t h
  simp only [PM.runT,PM.run] at h ⊢
  split at h
  ·obtain ⟨t',h'⟩:=mp h;exact ih h'
  ·cases h
 | wnode r pre q k ih =>
  intro e e1 t h
  simp only [PM.runT,PM.run] at h ⊢
  cases hl:(e.get r).isLock with
  | true=>rw [hl] at h;cases h
  | false =>
   rw [hl] at h;simp only [cond_false] at h ⊢
   split at h
   ·obtain ⟨t',h'⟩:=mp h;exact ih h'
   ·cases h
 | kill r pre k ih=>intro e e1 t h;obtain ⟨t',h'⟩:=mp h;exact ih h'
 | frz r pre k ih =>
  intro e e1 t h
  simp only [PM.runT,PM.run] at h ⊢
  split at h
  ·obtain ⟨t',h'⟩:=mp h;exact ih h'
  ·cases h
 | killEx r pre k ih=>intro e e1 t h;obtain ⟨t',h'⟩:=mp h;exact ih h'
 | forget r k ih=>intro e e1 t h;obtain ⟨t',h'⟩:=mp (f:=fun _=>({all:=true}:Tok)) h;exact ih h'
 | call f args hid k ih =>
  intro e e1 t h
  simp only [PM.runT,PM.run] at h ⊢
  split at h
  ·exact ih _ _ h
  ·cases h
theorem zFD {e f:Env} {o:Oper} (h:f.get=e.get):zB7 f o=zB7 e o:=by
 have hv:zPJ f=zPJ e:=by funext x;cases x<;>simp only [zPJ,h]
 simp only [zB7,h,hv]
theorem zNt {e f:Env} {ops:Array Oper} {o:Oper} (h:f.get=e.get):zLv ops f o=zLv ops e o:=by simp only [zLv,h]
theorem zJ5 {orc:zAC} {ops:Array Oper} {x:Oper} {k:Nat} {args:List PV} {l:Log} {e f e1:Env} {lg:Option Log} (h:f.get=e.get) (hr:zBL orc ops x k args l e=some (e1,lg)) :
  ∃ f1,zBL orc ops x k args l f=some (f1,lg)∧f1.get=e1.get:=by
 have mp:∀ {p:PM} {e f:Env} {lg':Option Log},f.get=e.get→(p.run orc e).map (fun e'=>(e',lg'))=some (e1,lg)→∃ f1,(p.run orc f).map (fun e'=>(e',lg'))=some (f1,lg)∧f1.get=e1.get:=by
  intro p e f lg' h hr
  obtain ⟨e2,h1,h2⟩:=Option.map_eq_some_iff.1 hr
  cases h2
  obtain ⟨f2,h3,h4⟩:=zFL h h1
  exact ⟨f2,by rw [h3];rfl,h4⟩
 have hfg:(f.forget zAb).get=(e.forget zAb).get:=by funext s;rw [zEO,zEO,h]
 simp only [zBL,zNt h] at hr ⊢
 split at hr
 ·cases hc:(args.all PV.flat&&l.k != 0&&Nat.beq k l.at_) with
  | false=>rw [hc] at hr;cases hr
  | true =>
   rw [hc] at hr;simp only [cond_true] at hr ⊢
   cases jI:(l.k==1) with
   | true=>rw [jI] at hr;exact mp hfg hr
   | false=>rw [jI] at hr;exact mp h hr
 ·exact mp h hr
 ·cases hr
section
variable {P:Program} {H:zBc} {o:zAC}
theorem zLz {ops:Array Oper} {x:Oper} {fz tk nl:Bool} {e:Env} {lg:Option Log} {t:Tok} {m:zCE} (h:(zFo P H ops fz tk nl x).does o e.get t m) (ha:t.all=false) :
  ∃ e1,zCF P H o fz tk nl ops x e lg=some (e1,lg)∧e1.get=m:=by
 obtain ⟨e1,h1,h2⟩:=zNb h ha
 cases lg with
 | none=>exact ⟨e1,by simp only [zCF,h1,Option.map_some],h2⟩
 | some l =>
  cases hy:zB7 e x with
  | none=>exact ⟨e1,by simp only [zCF,hy,h1,Option.map_some],h2⟩
  | some kargs =>
   obtain ⟨kk,args⟩:=kargs
   have kE:(opM P H fz tk nl x).run o e=none:=by
    simp only [zB7] at hy
    split at hy
    ·rename_i c hc
     split at hy
     ·rename_i tc yw
      split at hy
      ·rename_i k hk
       simp only [opM,hc,zI6,yw,opd,PM.run,hk]
       rfl
      ·cases hy
     ·cases hy
    ·cases hy
   simp only [zFo] at h1
   simp only [zCF,hy,zBL,zLv]
   cases hg:x.guard with
   | none=>rw [hg] at h1;rw [kE] at h1;cases h1
   | some jw =>
    obtain ⟨j,want⟩:=jw
    rw [hg] at h1;simp only at h1 ⊢
    cases hj:(ops[j]?).bind (·.dst) with
    | none=>rw [hj] at h1;cases h1
    | some tj =>
     rw [hj] at h1;simp only [PM.run] at h1 ⊢
     cases hp:e.get tj<;>rw [hp] at h1<;>simp only at h1<;>try (cases h1;done)
     case bool b =>
      simp only
      by_cases hb:b=want
      ·rw [if_pos hb,kE] at h1;cases h1
      ·rw [if_neg hb] at h1
       have:(b==want)=false:=by simpa using hb
       rw [this];simp only [h1,Option.map_some]
       exact ⟨e1,rfl,h2⟩
     case und =>
      simp only [h1,Option.map_some]
      exact ⟨e1,rfl,h2⟩
def zOm (P:Program) (H:zBc) (o:zAC) (fz tk nl:Bool) (ops:Array Oper) (x:Oper) (t:Tok) (g:zCE) (lg:Option Log) (m:zCE) (lg':Option Log):Prop :=
 (t.all=true∧∀ e:Env,e.get=g→∃ e1,zCF P H o fz tk nl ops x e lg=some (e1,lg')∧e1.get=m)∨(t.all=false∧lg'=lg∧(zFo P H ops fz tk nl x).does o g t m)
theorem zOm.run {fz tk nl:Bool} {ops:Array Oper} {x:Oper} {t:Tok} {e:Env} {m:zCE} {lg lg':Option Log} (h:zOm P H o fz tk nl ops x t e.get lg m lg'):∃ e1,zCF P H o fz tk nl ops x e lg=some (e1,lg')∧e1.get=m:=by
 rcases h with ⟨_,h⟩ | ⟨ha,rfl,h⟩
 ·exact h e rfl
 ·exact zLz h ha
theorem zP9 {fz tk nl:Bool} {ops:Array Oper} {x:Oper} {t:Tok} {e e1:Env} {lg lg':Option Log} (h:zEc P H o fz tk nl ops x e lg=some (e1,lg',t)):zOm P H o fz tk nl ops x t e.get lg e1.get lg':=by
 cases lg with
 | none =>
  simp only [zEc] at h
  obtain ⟨⟨e2,t2⟩,h1,h2⟩:=Option.map_eq_some_iff.1 h
  cases h2
  cases ha:t2.all with
  | true =>
   refine .inl ⟨ha,fun f hf=>?_⟩
   obtain ⟨f1,h3,h4⟩:=zFL hf (zD3 h1)
   exact ⟨f1,by simp only [zCF,h3,Option.map_some],h4⟩
  | false =>
   rcases zH5 h1 with h3 | h3
   ·rw [h3] at ha;cases ha
   ·exact .inr ⟨ha,rfl,h3⟩
 | some l =>
  simp only [zEc] at h
  cases hy:zB7 e x with
  | none =>
   rw [hy] at h;simp only at h
   obtain ⟨⟨e2,t2⟩,h1,h2⟩:=Option.map_eq_some_iff.1 h
   cases h2
   cases ha:t2.all with
   | true =>
    refine .inl ⟨ha,fun f hf=>?_⟩
    obtain ⟨f1,h3,h4⟩:=zFL hf (zD3 h1)
    exact ⟨f1,by simp only [zCF,zFD hf,hy,h3,Option.map_some],h4⟩
   | false =>
    rcases zH5 h1 with h3 | h3
    ·rw [h3] at ha;cases ha
    ·exact .inr ⟨ha,rfl,h3⟩
  | some kargs =>
   obtain ⟨kk,args⟩:=kargs
   rw [hy] at h;simp only at h
   obtain ⟨⟨e2,lg2⟩,h1,h2⟩:=Option.map_eq_some_iff.1 h
   cases h2
   refine .inl ⟨rfl,fun f hf=>?_⟩
   obtain ⟨f1,h3,h4⟩:=zJ5 hf h1
   exact ⟨f1,by simp only [zCF,zFD hf,hy,h3],h4⟩
def zNq (P:Program) (H:zBc) (o:zAC) (fzs tks:List Nat) (nl:Bool) (ops:Array Oper) (tk:Nat→Tok):List Nat→zCE→Option Log→zCE→Option Log→Prop
 | [],g,lg,g',lg'=>g'=g∧lg'=lg
 | i::l,g,lg,g',lg'=>∃ x m lm,ops[i]? = some x∧zOm P H o (fzs.contains i) (tks.contains i) nl ops x (tk i) g lg m lm∧zNq P H o fzs tks nl ops tk l m lm g' lg'
theorem zIM {fzs tks:List Nat} {nl:Bool} {ops:Array Oper} {tk:Nat→Tok} {i:Nat} {l2:List Nat}:∀ {l1:List Nat} {g g':zCE} {lg lg':Option Log},zNq P H o fzs tks nl ops tk (l1++i::l2) g lg g' lg'→(∀ j∈l1,zPQ (tk j) (tk i)=false)→zNq P H o fzs tks nl ops tk (i::(l1++l2)) g lg g' lg'
 | [],_,_,_,_,h,_=>h
 | j :: l1,g,g',lg,lg',⟨x,m,lm,hx,h1,h2⟩,hc=>by
  obtain ⟨y,m2,lm2,hy,h3,h4⟩:=zIM h2 fun k hk=>hc k (by simp [hk])
  have yN:=hc j (by simp)
  simp only [zPQ,Bool.or_eq_false_iff] at yN
  have hp:=zKc yN.1
  have hq:=zKc yN.2
  rcases h1 with ⟨ha,_⟩ | ⟨_,rfl,hd1⟩
  ·have:=hp.all;rw [ha] at this;cases this
  ·rcases h3 with ⟨ha,_⟩ | ⟨_,rfl,hd2⟩
   ·have:=hq.all;rw [ha] at this;cases this
   ·obtain ⟨n,vT,j7⟩:=comm hd1 hd2 hp hq
    exact ⟨y,n,_,hy,.inr ⟨hq.all,rfl,vT⟩,x,m2,_,hx,.inr ⟨hp.all,rfl,j7⟩,h4⟩
end
end
section
variable {P:Program} {H:zBc} {w0 w:World} {U Φ0 Φ:Nat→Prop} {nt:Nat} {hv:Hid} {a:Act} {e e':Env} {rv:Nat→Value} {E:Nat→PV} {L:Nat→List Nat} {orc:zAC} {ro:Option Nat} {n:Nat} {Q:Exit→Act→World→Prop}
theorem Fr.get' (hf:Fr w0 U Φ0 nt hv a w e) (h:e'.get=e.get):Fr w0 U Φ0 nt hv a w e':=by
 obtain ⟨Φ,rv,E,L,S,hb⟩:=hf
 exact ⟨Φ,rv,E,L,⟨S.conf,fun s hs=>by rw [h];exact S.env s hs,S.size,S.small,S.tmps,S.parts,S.hid,S.dfr⟩,hb⟩
theorem Fr.tick (hf:Fr w0 U Φ0 nt hv a w e) (d:Nat):Fr w0 U Φ0 nt hv a {w with drawn:=d} e:=by
 obtain ⟨Φ,rv,E,L,S,hb⟩:=hf
 have hc:Conf w0 U Φ0 {w with drawn:=d} Φ rv E L:=by
  refine S.conf.step2 some (fun p=>p) zCb (fun a b t ha hb=>by cases ha;cases hb;rfl) (fun a t ha=>by cases ha;exact ⟨(zBb _).symm,rfl,rfl⟩) (fun a ha=>by cases ha) (fun a v hw ha=>?_)
   (fun a ha=>by cases ha) (fun a b ha=>by cases ha) (fun a ha=>by cases ha) (Nat.le_refl _) (fun _ _ _=>rfl) ⟨rfl,rfl,rfl⟩
  exact zCN hw (zCz S.conf zCb ha (zBb _).symm rfl (fun _ _=>rfl))
 exact ⟨Φ,rv,E,L,⟨hc,S.env,S.size,S.small,S.tmps,S.parts,S.hid,S.dfr⟩,hb⟩
structure Drawn (ops:Array Oper) (i:Nat) (Bs:List Nat) (Ts:List Tok):Prop where
 early:∀ (k:Nat) (x:Oper),i≤k→ops[k]? = some x→∀ ed∈x.after.toList,Region.binds .any ed=true→ed.on<k
 bits:∀ (k:Nat) (x:Oper),i≤k→ops[k]? = some x→∀ j,(Bs.getD k 0).testBit j=true→∃ ed∈x.after.toList,Region.binds .any ed=true∧(ed.on=j∨(Bs.getD ed.on 0).testBit j=true)
 free:∀ (k j:Nat),i≤k→k<ops.size→j<k→(Bs.getD k 0).testBit j=true∨zPQ (Ts.getD j {}) (Ts.getD k {})=false
theorem zJC {b:Nat} {t:Tok}:∀ {l:List Tok} {j:Nat},zFQ b t j l=true→∀ k,k<l.length→b.testBit (j+k)=true∨zPQ (l.getD k {}) t=false
 | [],j,_,k,hk=>by cases hk
 | u :: us,j,h,k,hk=>by
  simp only [zFQ,Bool.and_eq_true,Bool.or_eq_true,Bool.not_eq_true'] at h
  cases k with
  | zero=>simpa using h.1
  | succ k =>
   have:=zJC h.2 k (by simpa using hk)
   rw [show j+(k+1)=j+1+k by omega]
   simpa using this
theorem zQM {acc:List Nat} {o:Oper} {j:Nat} (h:(zH2 acc o).testBit j=true):∃ ed∈o.after.toList,Region.binds .any ed=true∧(ed.on=j∨(acc.getD ed.on 0).testBit j=true):=by
 have key:∀ (l:List Edge) (s:Nat),(l.foldl (fun s e=>if Region.binds .any e then s ||| 2 ^ e.on ||| acc.getD e.on 0 else s) s).testBit j=true→s.testBit j=true∨∃ ed∈l,Region.binds .any ed=true∧(ed.on=j∨(acc.getD ed.on 0).testBit j=true):=by
  intro l
  induction l with
  | nil=>intro s h;exact .inl h
  | cons x l ih =>
   intro s h
   rcases ih _ h with h1 | ⟨ed,h1,h2⟩
   ·simp only at h1
    by_cases hb:Region.binds .any x=true
    ·rw [if_pos hb] at h1
     simp only [Nat.testBit_or,Bool.or_eq_true] at h1
     rcases h1 with (h1 | h1) | h1
     ·exact .inl h1
     ·refine .inr ⟨x,by simp,hb,.inl ?_⟩
      rw [Nat.testBit_two_pow] at h1
      simpa using h1
     ·exact .inr ⟨x,by simp,hb,.inr h1⟩
    ·rw [if_neg hb] at h1;exact .inl h1
   ·exact .inr ⟨ed,by simp [h1],h2⟩
 rcases key _ _ h with h1 | h1
 ·simp at h1
 ·exact h1
theorem zIT {fzs tks:List Nat} {nl:Bool} {ops:Array Oper} {lg':Option Log}:∀ (l:List Oper) (i:Nat) (acc:List Nat) (ts:List Tok) (e:Env) (lg:Option Log),zCk P H orc fzs tks nl ops l i acc ts e lg=some (e',lg')→l=ops.toList.drop i→i+l.length=ops.size→acc.length=i→ts.length=i →
  ∃ Bs Ts,(∀ k,k<i→Bs.getD k 0=acc.getD k 0∧Ts.getD k {}=ts.getD k {})∧Drawn ops i Bs Ts∧zNq P H orc fzs tks nl ops (fun k=>Ts.getD k {}) (List.range' i l.length) e.get lg e'.get lg'
 | [],i,acc,ts,e,lg,h,hl,hs,ha,ht=>by
  simp only [zCk,Option.some.injEq,Prod.mk.injEq] at h
  obtain ⟨rfl,rfl⟩:=h
  have yE:ops.size=i:=by simpa using hs.symm
  refine ⟨acc,ts,fun k _=>⟨rfl,rfl⟩,⟨fun k x hk hx=>?_,fun k x hk hx=>?_,fun k j hk wN=>by omega⟩,rfl,rfl⟩
  ·have:=(Array.getElem?_eq_some_iff.1 hx).1;omega
  ·have:=(Array.getElem?_eq_some_iff.1 hx).1;omega
 | o :: l, i,acc,ts,e,lg,h,hl,hs,ha,ht=>by
  simp only [zCk] at h
  cases hr:zEc P H orc (fzs.contains i) (tks.contains i) nl ops o e lg with
  | none=>rw [hr] at h;cases h
  | some r =>
   obtain ⟨e1,lg1,t⟩:=r
   rw [hr] at h;simp only at h
   cases hb:(o.after.toList.all (fun e => !Region.binds .any e||Nat.blt e.on i)&&zFQ (zH2 acc o) t 0 ts) with
   | false=>rw [hb] at h;cases h
   | true =>
    rw [hb] at h;simp only [cond_true] at h
    rw [Bool.and_eq_true] at hb
    have hi:ops[i]? = some o:=by
     have:=congrArg (·[0]?) hl
     simp only [List.getElem?_cons_zero,List.getElem?_drop,Nat.add_zero] at this
     rw [← Array.getElem?_toList];exact this.symm
    have qr:l=ops.toList.drop (i+1):=by
     have:=congrArg List.tail hl
     simpa using this
    obtain ⟨Bs,Ts,h1,D,y9⟩:=zIT l (i+1) (acc++[zH2 acc o]) (ts++[t]) e1 lg1 h qr (by simp at hs;omega) (by simp [ha]) (by simp [ht])
    have hBi:Bs.getD i 0=zH2 acc o:=by rw [(h1 i (by omega)).1,← ha];simp [List.getD]
    have hTi:Ts.getD i {}=t:=by rw [(h1 i (by omega)).2,← ht];simp [List.getD]
    have hold:∀ k,k<i→Bs.getD k 0=acc.getD k 0∧Ts.getD k {}=ts.getD k {}:=by
     intro k hk
     obtain ⟨h2,h3⟩:=h1 k (by omega)
     rw [h2,h3]
     simp only [List.getD]
     rw [List.getElem?_append_left (by omega),List.getElem?_append_left (by omega)]
     exact ⟨rfl,rfl⟩
    have wB:∀ ed∈o.after.toList,Region.binds .any ed=true→ed.on<i:=by
     intro ed he hbd
     have:=List.all_eq_true.1 hb.1 ed he
     simp only [hbd,Bool.not_true,Bool.false_or] at this
     exact zBW this
    refine ⟨Bs,Ts,hold,⟨fun k x hk hx=>?_,fun k x hk hx j hj=>?_,fun k j hk hks hj=>?_⟩,?_⟩
    ·by_cases kD:k=i
     ·subst kD;rw [hi] at hx;cases hx;exact wB
     ·exact D.early k x (by omega) hx
    ·by_cases kD:k=i
     ·subst kD;rw [hi] at hx;cases hx
      rw [hBi] at hj
      obtain ⟨ed,h2,h3,h4⟩:=zQM hj
      refine ⟨ed,h2,h3,h4.imp_right fun h4=>?_⟩
      rw [(hold _ (wB ed h2 h3)).1];exact h4
     ·exact D.bits k x (by omega) hx j hj
    ·by_cases kD:k=i
     ·subst kD
      have:=zJC hb.2 j (by omega)
      rw [hBi,hTi,(hold j hj).2]
      simpa using this
     ·exact D.free k j (by omega) hks hj
    ·show zNq P H orc fzs tks nl ops _ (List.range' i (l.length+1)) _ _ _ _
     rw [List.range'_succ]
     refine ⟨o,e1.get,lg1,hi,?_,y9⟩
     simp only [hTi]
     exact zP9 hr
structure Frame (P:Program) (H:zBc) (orc:zAC) (nt:Nat) (ro:Option Nat) (n:Nat) (D:Nat→Prop) (Fin:Option Log→Prop) (G:Act→World→Env→Option Log→Prop):Prop where
 down:∀ {ops:Array Oper} {o:Oper} {fz tk nl:Bool} {e e':Env} {lg lg':Option Log},zCF P H orc fz tk nl ops o e lg=some (e',lg')→Fin lg'→Fin lg
 step:∀ {ops:Array Oper} {i:Nat} {o:Oper} {fz tk nl:Bool} {a:Act} {w:World} {e e':Env} {lg lg':Option Log} {Q:Exit→Act→World→Prop},zNU P nt ops=true→ops[i]? = some o→(∀ d,o.dst=some d→D d)→Fin lg'→G a w e lg→zCF P H orc fz tk nl ops o e lg=some (e',lg') →
  wpOpIn (FF ro) n P ops Q i (fun a' w'=>G a' w' e' lg') a w
 get:∀ {a:Act} {w:World} {e e':Env} {lg:Option Log},G a w e lg→e'.get=e.get→G a w e' lg
 tick:∀ {a:Act} {w:World} {e:Env} {lg:Option Log} (d:Nat),G a w e lg→G a {w with drawn:=d} e lg
 drop:∀ {a:Act} {w:World} {e:Env} {lg:Option Log} (l:List Nat),G a w e lg→G a w (e.drop l) lg
 ice:∀ {a:Act} {w:World} {e:Env} {lg:Option Log} (l:List Nat),G a w e lg→G a w (zVY l e) lg
 cond:∀ {a:Act} {w:World} {e:Env} {lg:Option Log} {t:Nat} {b:Bool},G a w e lg→t<nt→e.get t = .bool b→a.tmps.getD t undef = .bool b
variable {G:Act→World→Env→Option Log→Prop} {Fin:Option Log→Prop} {D:Nat→Prop}
def zPt (D:Nat→Prop) (ops:Array Oper):Prop:=∀ o∈ops.toList,∀ d,o.dst=some d→D d
theorem zPt.at {ops:Array Oper} (h:zPt D ops) {i:Nat} {o:Oper} (hi:ops[i]? = some o):∀ d,o.dst=some d→D d:=h o (by rw [← Array.getElem?_toList] at hi;exact List.mem_of_getElem? hi)
theorem zJt (F:Frame P H orc nt ro n D Fin G) {fzs tks:List Nat} {nl:Bool} {ops:Array Oper} {tk:Nat→Tok}:∀ {l:List Nat} {e:Env} {g':zCE} {lg lg':Option Log},zNq P H orc fzs tks nl ops tk l e.get lg g' lg'→Fin lg'→Fin lg
 | [],_,_,_,_,⟨_,h⟩,hf=>by rw [← h];exact hf
 | i::l,e,g',lg,lg',⟨x,m,lm,_,yK,hr⟩,hf=>by
  obtain ⟨e1,h1,h2⟩:=yK.run
  exact F.down h1 (zJt F (by rw [h2];exact hr) hf)
theorem zWI (F:Frame P H orc nt ro n D Fin G) {ops:Array Oper} (yx:zNU P nt ops=true) (hD:zPt D ops) {fzs tks:List Nat} {nl:Bool} {Bs:List Nat} {Ts:List Tok} (Dr:Drawn ops 0 Bs Ts) {g':zCE} {lg':Option Log} (yM:Fin lg')
  (hq:∀ a' w' e',e'.get=g'→G a' w' e' lg'→Q .normal a' w'):∀ (rem:List Nat) (listed:Array Bool) {a:Act} {w:World} {e:Env} {lg:Option Log},listed.size=ops.size→rem.Pairwise (· < ·)→(∀ i,i∈rem↔i<ops.size∧listed.getD i true=false) →
   (∀ i,i<ops.size→listed.getD i true=true→∀ j,(Bs.getD i 0).testBit j=true→listed.getD j true=true)→zNq P H orc fzs tks nl ops (fun k=>Ts.getD k {}) rem e.get lg g' lg'→G a w e lg →
   wpAnyIn (FF ro) n P .any ops Q rem.length listed a w:=by
 have ready_mem:∀ (listed:Array Bool) (i:Nat),i∈Region.ready .any ops listed↔i<ops.size∧listed.getD i true=false∧∀ x,ops[i]? = some x→∀ ed∈x.after.toList,Region.binds .any ed=true→listed.getD ed.on false=true:=by
  intro listed i
  simp only [Region.ready,List.mem_filter,List.mem_range,Bool.and_eq_true,Bool.not_eq_true']
  refine ⟨fun ⟨h1,h2,h3⟩=>⟨h1,h2,fun x hx ed he hb=>?_⟩,fun ⟨h1,h2,h3⟩=>⟨h1,h2,?_⟩⟩
  ·rw [hx] at h3
   simp only [Option.map_some,Option.getD_some,Array.all_eq_true'] at h3
   have:=h3 ed (by simpa using he)
   rw [hb] at this
   simpa using this
  ·have hx:ops[i]? = some ops[i]:=Array.getElem?_eq_getElem h1
   rw [hx]
   simp only [Option.map_some,Option.getD_some,Array.all_eq_true']
   intro ed he
   cases hb:Region.binds .any ed with
   | false=>rfl
   | true=>simpa using h3 _ hx ed (by simpa using he) hb
 have tf:∀ {listed:Array Bool} {k:Nat},k<listed.size→listed.getD k true=listed.getD k false:=by
  intro listed k hk
  simp [Array.getD,hk]
 have ft:∀ {listed:Array Bool} {k:Nat},listed.getD k false=true→listed.getD k true=true:=by
  intro listed k hk
  by_cases yF:k<listed.size
  ·rw [tf yF];exact hk
  ·simp [Array.getD,yF] at hk
 intro rem
 induction hm:rem.length generalizing rem with
 | zero =>
  intro listed a w e lg yE wC yv wD y9 hf
  have hrem:rem=[]:=List.eq_nil_of_length_eq_zero hm
  subst hrem
  obtain ⟨h1,rfl⟩:=y9
  refine ⟨?_,hq a w e h1.symm hf⟩
  rw [List.eq_nil_iff_forall_not_mem]
  intro i hi
  obtain ⟨h1,h2,_⟩:=(ready_mem listed i).1 hi
  exact absurd ((yv i).2 ⟨h1,h2⟩) (by simp)
 | succ m ih =>
  intro listed a w e lg yE wC yv wD y9 hf
  refine ⟨fun hr=>?_,fun i hi=>?_⟩
  ·
   exfalso
   match rem,hm with
   | i :: rest,_ =>
    have kY:=(yv i).1 (by simp)
    have:i∈Region.ready .any ops listed:=(ready_mem listed i).2 ⟨kY.1,kY.2,fun x hx ed he hb=>by
     have yF:=Dr.early i x (by omega) hx ed he hb
     have hed:ed.on<listed.size:=by omega
     rw [← tf hed]
     cases hl:listed.getD ed.on true with
     | true=>rfl
     | false =>
      have hin:=(yv ed.on).2 ⟨by omega,hl⟩
      rcases List.mem_cons.1 hin with h | h
      ·omega
      ·have:=List.rel_of_pairwise_cons wC h;omega⟩
    rw [hr] at this;cases this
  ·obtain ⟨h1,h2,h3⟩:=(ready_mem listed i).1 hi
   obtain ⟨l1,l2,gR⟩:=List.append_of_mem ((yv i).2 ⟨h1,h2⟩)
   subst gR
   have hx:ops[i]? = some ops[i]:=Array.getElem?_eq_getElem h1
   have vA:∀ j,(Bs.getD i 0).testBit j=true→listed.getD j true=true:=by
    intro j hj
    obtain ⟨ed,he,hb,hc⟩:=Dr.bits i _ (by omega) hx j hj
    have hl:=ft (h3 _ hx ed he hb)
    rcases hc with hc | hc
    ·rw [← hc];exact hl
    ·have yF:=Dr.early i _ (by omega) hx ed he hb
     exact wD ed.on (by omega) hl j hc
   have wE:∀ j∈l1,zPQ (Ts.getD j {}) (Ts.getD i {})=false:=by
    intro j hj
    have vn:j<i:=by
     rw [List.pairwise_append] at wC
     exact wC.2.2 j hj i (by simp)
    rcases Dr.free i j (by omega) h1 vn with hb | hb
    ·have:=vA j hb
     have hjn:=(yv j).1 (by simp [hj])
     rw [hjn.2] at this;cases this
    ·exact hb
   obtain ⟨x,g1,lg1,j6,yK,yc⟩:=zIM y9 wE
   rw [hx] at j6;cases j6
   obtain ⟨e1,hr1,kP⟩:=yK.run
   refine zDG (F.step yx hx (hD.at hx) (zJt F (by rw [kP];exact yc) yM) hf hr1) fun a' w' yk=>?_
   have yi:∀ k,(listed.setIfInBounds i true).getD k true=if k=i then true else listed.getD k true:=by
    intro k
    simp only [Array.getD_eq_getD_getElem?,Array.getElem?_setIfInBounds]
    by_cases hk:i=k
    ·subst hk
     rw [if_pos rfl,if_pos rfl]
     split<;>rfl
    ·rw [if_neg hk,if_neg (fun e=>hk e.symm)]
   have hpw2:(l1++l2).Pairwise (· < ·):=by
    rw [List.pairwise_append] at wC ⊢
    refine ⟨wC.1,wC.2.1.tail,fun x hx y hy=>wC.2.2 x hx y (by simp [hy])⟩
   have hni:i∉l1∧i∉l2:=by
    rw [List.pairwise_append] at wC
    refine ⟨fun hin=>?_,fun hin=>?_⟩
    ·have:=wC.2.2 i hin i (by simp);omega
    ·have:=List.rel_of_pairwise_cons wC.2.1 hin;omega
   have hmem2:∀ k,k∈l1++l2↔k<ops.size∧(listed.setIfInBounds i true).getD k true=false:=by
    intro k
    rw [yi]
    by_cases hk:k=i
    ·subst hk
     simp only [if_true,List.mem_append]
     exact ⟨fun h=>absurd h (by simp [hni]),fun h=>by cases h.2⟩
    ·rw [if_neg hk,← yv k]
     simp only [List.mem_append,List.mem_cons,hk,false_or]
   have:=ih (l1++l2) (by simp at hm ⊢;omega) (listed.setIfInBounds i true) (by simpa using yE) hpw2 hmem2 (fun k hk hl j hj=>?_) (by rw [kP];exact yc) yk
   ·exact this
   ·rw [yi] at hl ⊢
    split
    ·rfl
    ·split at hl
     ·rename_i kD;subst kD;exact vA j hj
     ·exact wD k hk hl j hj
theorem zP7 (F:Frame P H orc nt ro n D Fin G) (zE4:P.follows .mixedOrders=true) {ops:Array Oper} (yx:zNU P nt ops=true) (hD:zPt D ops) {fzs tks:List Nat} {nl:Bool} {a:Act} {w:World} {e:Env} {lg lg':Option Log} {id:Nat} (yM:Fin lg') (hf:G a w e lg)
  (h:zCk P H orc fzs tks nl ops ops.toList 0 [] [] e lg=some (e',lg')) (hq:∀ a' w',G a' w' e' lg'→Q .normal a' w'):(Code.region id ops true).wpIn (FF ro) n P Q a w:=by
 obtain ⟨Bs,Ts,_,Dr,y9⟩:=zIT ops.toList 0 [] [] e lg h (by simp) (by simp) rfl rfl
 refine wpIn_region_any zE4 ?_
 have hZ:(List.range' 0 ops.toList.length).length=ops.size:=by simp
 have:=zWI (Q:=Q) F yx hD Dr (g':=e'.get) yM (fun a' w' f hg yk=>hq a' w' (F.get yk hg.symm)) (List.range' 0 ops.toList.length) (Array.replicate ops.size false) (a:=a) (w:={w with drawn:=w.drawn+1}) (e:=e) (by simp) List.pairwise_lt_range' (fun i=>?_) (fun i hi hl=>?_) y9 (F.tick _ hf)
 ·rw [hZ] at this;exact this
 ·simp only [List.mem_range'_1,Array.length_toList]
  constructor
  ·intro ⟨_,h2⟩
   have:i<ops.size:=by omega
   exact ⟨this,by simp [Array.getD,this]⟩
  ·intro ⟨h2,_⟩;omega
 ·simp [Array.getD,hi] at hl
theorem zHy (F:Frame P H orc nt ro n D Fin G) {ops:Array Oper} {fzs tks:List Nat} {nl:Bool} {lg':Option Log}:∀ (l:List Oper) (i:Nat) {e:Env} {lg:Option Log},zA7 P H orc fzs tks nl ops l i e lg=some (e',lg')→Fin lg'→Fin lg
 | [],i,e,lg,h,hf=>by
  simp only [zA7,Option.some.injEq,Prod.mk.injEq] at h
  rw [h.2];exact hf
 | o :: l,i,e,lg,h,hf=>by
  simp only [zA7] at h
  split at h
  ·rename_i e1 lg1 h1
   exact F.down h1 (zHy F l (i+1) h hf)
  ·cases h
theorem zSA (F:Frame P H orc nt ro n D Fin G) {ops:Array Oper} {fzs tks:List Nat} {nl:Bool} {lg lg':Option Log} {e:Env} (h:zCk P H orc fzs tks nl ops ops.toList 0 [] [] e lg=some (e',lg')) (hf:Fin lg'):Fin lg:=by
 obtain ⟨Bs,Ts,_,D,y9⟩:=zIT ops.toList 0 [] [] e lg h (by simp) (by simp) rfl rfl
 exact zJt F y9 hf
theorem zHT (F:Frame P H orc nt ro n D Fin G) {ops:Array Oper} (yx:zNU P nt ops=true) (hD:zPt D ops) {fzs tks:List Nat} {nl:Bool} {lg':Option Log} (yM:Fin lg'):∀ (l:List Oper) (i:Nat) {a:Act} {w:World} {e:Env} {lg:Option Log},l=ops.toList.drop i→i+l.length=ops.size→G a w e lg →
  zA7 P H orc fzs tks nl ops l i e lg=some (e',lg')→(∀ a' w',G a' w' e' lg'→Q .normal a' w')→wpOpsIn (FF ro) n P ops Q (List.range' i l.length) a w
 | [],i,a,w,e,lg,hl,hs,hf,h,hq=>by
  simp only [zA7,Option.some.injEq,Prod.mk.injEq] at h
  obtain ⟨rfl,rfl⟩:=h
  exact hq _ _ hf
 | o :: l,i,a,w,e,lg,hl,hs,hf,h,hq=>by
  simp only [zA7] at h
  split at h
  ·rename_i e1 lg1 h1
   have hi:ops[i]? = some o:=by
    have:=congrArg (·[0]?) hl
    simp only [List.getElem?_cons_zero,List.getElem?_drop,Nat.add_zero] at this
    rw [← Array.getElem?_toList];exact this.symm
   have qr:l=ops.toList.drop (i+1):=by
    have:=congrArg List.tail hl
    simpa using this
   show wpOpsIn (FF ro) n P ops Q (List.range' i (l.length+1)) a w
   rw [List.range'_succ,wpOpsIn_cons]
   exact zDG (F.step yx hi (hD.at hi) (zHy F l (i+1) h yM) hf h1) fun a' w' yk=>zHT F yx hD yM l (i+1) qr (by simp at hs;omega) yk h hq
  ·cases h
end
end Go.Eng
namespace Go.Eng
open Go
theorem zVy (e:Env) (k:Nat) (v:PV) (s:Nat):(Env.put e k v).get s=if s=k then v else e.get s:=by
 by_cases hv:v = .bad
 ·subst hv
  simp only [Env.put]
  induction e with
  | nil=>simp only [List.filter_nil,Env.get];split<;>rfl
  | cons x e ih =>
   obtain ⟨k',v'⟩:=x
   simp only [List.filter_cons]
   cases hb:Nat.beq k' k with
   | true =>
    have:=Nat.eq_of_beq_eq_true hb
    subst this
    simp only [Bool.not_true,Bool.false_eq_true,if_false,ih,Env.get]
    by_cases hs:s=k'
    ·rw [if_pos hs,if_pos hs]
    ·rw [if_neg hs,if_neg hs]
     have:Nat.beq k' s=false:=by cases h:Nat.beq k' s with | false=>rfl | true=>exact absurd (Nat.eq_of_beq_eq_true h).symm hs
     rw [this];rfl
   | false =>
    simp only [Bool.not_false,if_true,Env.get]
    cases j4:Nat.beq k' s with
    | true =>
     have:=Nat.eq_of_beq_eq_true j4
     subst this
     have hI:k'≠k:=Nat.ne_of_beq_eq_false hb
     rw [if_neg hI];rfl
    | false=>simp only [cond_false,ih]
 ·have:Env.put e k v=e.set k v:=by cases v<;>first | rfl | exact absurd rfl hv
  rw [this,Env.get_set]
theorem zIr:∀ (e:Env) (s:Nat),e.norm.get s=e.get s
 | [],_=>rfl
 | (k,v)::e,s=>by
  simp only [Env.norm,zVy,zIr e,Env.get]
  cases hb:Nat.beq k s with
  | true=>rw [if_pos (Nat.eq_of_beq_eq_true hb).symm];rfl
  | false=>rw [if_neg (Ne.symm (Nat.ne_of_beq_eq_false hb))];rfl
section
variable {F:Fence} {n:Nat} {P:Program} {a:Act} {k:List Item} {cs:List Go.Frame} {w:World} {Q:Exit→Act→World→Prop}
theorem zDm {b:Go.Frame} {c:Code}:step P (lone (b.atR a (.code (.scope c)::k)) cs w) = .next (lone (b.atR a (.code c :: .inScope c::k)) cs w) :=
 step_lone_go (by simp [stepG,stepG.exec,Go.Frame.atR])
theorem zKY {b:Go.Frame} {c:Code}:step P (lone (b.atR a (.inScope c::k)) cs w) = .next (lone (b.atR a k) cs w) :=
 step_lone_go (by simp [stepG,stepG.exec,Go.Frame.atR])
theorem zP1 {c:Code} (hq:∀ l a w,¬ Q (.goto l) a w) (h:c.wpIn F n P Q a w):(Code.scope c).wpIn F n P Q a w:=by
 intro b k cs um hb hr
 have h0:(lone (b.atR a (.code (.scope c)::k)) cs w).fenced P F:=fenced_calm hb hr rfl
 obtain ⟨e,a₁,w₁,uI,vO⟩:=h b (.inScope c::k) cs um hb hr
 cases e with
 | normal=>exact ⟨.normal,a₁,w₁,uI,.head h0 zDm (StepsIn.trans vO (.one (fenced_calm hb hr rfl) zKY))⟩
 | exit id =>
  have hx:exitTo id (.inScope c::k)=exitTo id k:=by simp [exitTo]
  exact ⟨.exit id,a₁,w₁,uI,fun k' hk => .head h0 zDm (vO.1 k' (by rw [hx];exact hk)),
   fun j2 hk=>let ⟨k₁,h1,h2⟩:=vO.2 j2 (by rw [hx];exact hk);⟨k₁,h1,.head h0 zDm h2⟩⟩
 | goto l=>exact absurd uI (hq l a₁ w₁)
 | ret=>exact ⟨_,a₁,w₁,uI,.of_steps (.one h0 zDm) vO⟩
 | panic ch=>exact ⟨_,a₁,w₁,uI,.of_steps (.one h0 zDm) vO⟩
 | outgrown=>exact ⟨_,a₁,w₁,uI,.of_steps (.one h0 zDm) vO⟩
end
section
variable {P:Program} {H:zBc} {nt:Nat} {orc:zAC} {yo:zCD} {al:All} {ro:Option Nat} {n:Nat} {D:Nat→Prop} {Fin:Option Log→Prop} {G:Act→World→Env→Option Log→Prop} {hh:FHint}
theorem zK9 (F:Frame P H orc nt ro n D Fin G):∀ (m:Nat) (c:Code) {e e':Env} {x:X} {lg lg':Option Log},exec P H orc yo al nt hh m c e lg=some (x,e',lg')→Fin lg'→Fin lg
 | 0,c,e,e',x,lg,lg',h,hf=>by cases h
 | m + 1,c,e,e',x,lg,lg',h,hf=>by
  have yA:∀ {b:Code} {e e':Env} {x:X} {lg lg':Option Log},exec P H orc yo al nt hh m b e lg=some (x,e',lg')→Fin lg'→Fin lg:=fun h hf=>zK9 F m _ h hf
  cases c<;>simp only [exec] at h<;>try (cases h;done)
  case skip=>cases h;exact hf
  case region id ops draw =>
   split at h
   ·rename_i e1 lg1 h1
    cases h
    cases draw with
    | true=>exact zSA F h1 hf
    | false=>exact zHy F _ _ h1 hf
   ·cases h
  case seq a b =>
   split at h
   ·rename_i e1 lg1 h1;exact yA h1 (yA h hf)
   ·exact yA h hf
  case cond c a b =>
   cases c with
   | tmp t =>
    simp only at h
    split at h
    ·exact yA h hf
    ·exact yA h hf
    ·cases h
   | const v =>
    split at h
    ·rename_i u7;cases u7
    ·exact yA h hf
    ·exact yA h hf
    ·cases h
   | global g=>cases h
   | func f=>cases h
  case block id b =>
   split at h
   ·rename_i id' r h1
    obtain ⟨e1,lg1⟩:=r
    cases h;exact yA h1 hf
   ·exact yA h hf
  case loop b =>
   split at h
   ·rename_i e1 lg1 h1;exact yA h1 (yA h hf)
   ·exact yA h hf
  case exit id=>cases h;exact hf
  case ret=>cases h;exact hf
  case label l=>cases h;exact hf
  case scope b=>exact yA h hf
  case rangeFunc f ps a b =>
   cases f with
   | tmp t =>
    cases lg with
    | none =>
     simp only at h
     obtain ⟨r,_,h2⟩:=Option.map_eq_some_iff.1 h
     cases h2;exact hf
    | some l=>cases h
   | const v=>cases h
   | global g=>cases h
   | func f=>cases h
def zD7 (P:Program) (H:zBc) (orc:zAC) (yo:zCD) (al:All) (nt:Nat) (hh:FHint) (ro:Option Nat) (n:Nat) (G:Act→World→Env→Option Log→Prop) (m:Nat):Prop :=
 ∀ m',m'<m→∀ (t:Nat) (ps:Array Tmp) (ca cb:Code) (a:Act) (w:World) (e:Env) (x:X) (e':Env),zCy P nt (.rangeFunc (.tmp t) ps ca cb)=true→G a w e none→exec P H orc yo al nt hh (m'+1) (.rangeFunc (.tmp t) ps ca cb) e none=some (x,e',none) →
   (Code.rangeFunc (.tmp t) ps ca cb).wpIn (FF ro) n P (fun ex a' w'=>ex=x.exit∧G a' w' e' none) a w
theorem zD7.less {m m':Nat} (h:zD7 P H orc yo al nt hh ro n G m) (hm:m'≤m):zD7 P H orc yo al nt hh ro n G m':=fun k hk=>h k (by omega)
theorem zHz (F:Frame P H orc nt ro n D Fin G) (zE4:P.follows .mixedOrders=true):∀ (m:Nat) (c:Code) (hr:zCP c=true∨zD7 P H orc yo al nt hh ro n G m) {a:Act} {w:World} {e:Env} {x:X} {e':Env} {lg lg':Option Log},zCy P nt c=true→(∀ d∈zBI c,D d)→Fin lg'→G a w e lg→exec P H orc yo al nt hh m c e lg=some (x,e',lg') →
  c.wpIn (FF ro) n P (fun ex a' w'=>ex=x.exit∧G a' w' e' lg') a w
 | 0,c,hr,a,w,e,x,e',lg,lg',hc,hD,yM,hf,h=>by cases h
 | m + 1,c,hr,a,w,e,x,e',lg,lg',hc,hD,yM,hf,h=>by
  have yA:∀ {b:Code} {e1:Env} {y:X} {e2:Env} {a w} {l1 l2:Option Log},(zCP b=true∨zD7 P H orc yo al nt hh ro n G m)→zCy P nt b=true→(∀ d∈zBI b,D d)→Fin l2→G a w e1 l1→exec P H orc yo al nt hh m b e1 l1=some (y,e2,l2)→b.wpIn (FF ro) n P (fun ex a' w'=>ex=y.exit∧G a' w' e2 l2) a w :=
   fun hr hc hd hn hf h=>zHz F zE4 m _ hr hc hd hn hf h
  have two:∀ {p q:Bool},((p&&q)=true∨zD7 P H orc yo al nt hh ro n G (m+1))→(p=true∨zD7 P H orc yo al nt hh ro n G m)∧(q=true∨zD7 P H orc yo al nt hh ro n G m):=by
   intro p q h
   rcases h with h | h
   ·rw [Bool.and_eq_true] at h;exact ⟨.inl h.1,.inl h.2⟩
   ·exact ⟨.inr (h.less (by omega)),.inr (h.less (by omega))⟩
  have one:∀ {p:Bool},(p=true∨zD7 P H orc yo al nt hh ro n G (m+1))→(p=true∨zD7 P H orc yo al nt hh ro n G m):=fun h=>h.imp_right fun h=>h.less (by omega)
  cases c<;>simp only [zCy,Bool.and_eq_true] at hc<;>try (cases hc;done)
  case skip =>
   simp only [exec,Option.some.injEq,Prod.mk.injEq] at h
   obtain ⟨rfl,rfl,rfl⟩:=h
   exact wpIn_skip ⟨rfl,hf⟩
  case region id ops draw =>
   simp only [exec] at h
   split at h
   ·rename_i e1 lg1 h1
    simp only [Option.some.injEq,Prod.mk.injEq] at h
    obtain ⟨rfl,rfl,rfl⟩:=h
    have fin:∀ {a' w'},G a' w' e1 lg1→G a' w' (e1.drop (hh.drop id)).norm lg1:=fun hg=>F.get (F.drop _ hg) (by funext s;exact zIr _ s)
    have hDs:zPt D ops:=fun o ho d hd=>hD d (List.mem_filterMap.2 ⟨o,ho,hd⟩)
    cases draw with
    | true=>exact zP7 F zE4 hc hDs yM hf h1 fun a' w' yk=>⟨rfl,fin yk⟩
    | false =>
     refine wpIn_region ?_
     have:=zHT (Q:=fun ex a' w'=>ex=X.norm.exit∧G a' w' (e1.drop (hh.drop id)).norm lg1) F hc hDs yM ops.toList 0 (by simp) (by simp) hf h1 fun a' w' yk=>⟨rfl,fin yk⟩
     rw [List.range_eq_range']
     simpa using this
   ·cases h
  case seq c1 c2 =>
   simp only [exec] at h
   refine wpIn_seq ?_
   split at h
   ·rename_i e1 lg1 h1
    exact wpIn_mono (yA (two hr).1 hc.1 (fun d hd=>hD d (List.mem_append_left _ hd)) (zK9 F _ _ h yM) hf h1) fun ex a' w' ⟨hx,yk⟩=>by subst hx;exact yA (two hr).2 hc.2 (fun d hd=>hD d (List.mem_append_right _ hd)) yM yk h
   ·rename_i hI
    exact wpIn_mono (yA (two hr).1 hc.1 (fun d hd=>hD d (List.mem_append_left _ hd)) yM hf h) fun ex a' w' ⟨hx,yk⟩=>by
     subst hx
     cases x with
     | norm=>exact absurd h (hI _ _)
     | ex id=>exact ⟨rfl,yk⟩
     | ret=>exact ⟨rfl,yk⟩
  case cond c c1 c2 =>
   have key:∀ t:Bool,a.eval c = .bool t→exec P H orc yo al nt hh m (if t then c1 else c2) e lg=some (x,e',lg')→(Code.cond c c1 c2).wpIn (FF ro) n P (fun ex a' w'=>ex=x.exit∧G a' w' e' lg') a w:=by
    intro t ht h
    refine wpIn_cond ht ?_
    cases t with
    | true=>exact yA (two hr).1 hc.1.2 (fun d hd=>hD d (List.mem_append_left _ hd)) yM hf h
    | false=>exact yA (two hr).2 hc.2 (fun d hd=>hD d (List.mem_append_right _ hd)) yM hf h
   simp only [exec] at h
   cases c with
   | tmp t =>
    simp only at h
    have uN:t<nt:=zBW hc.1.1
    split at h
    ·rename_i hp;exact key true (F.cond hf uN hp) h
    ·rename_i hp;exact key false (F.cond hf uN hp) h
    ·cases h
   | const v =>
    split at h
    ·rename_i yD;cases yD
    ·rename_i u7;cases u7;exact key true rfl h
    ·rename_i u7;cases u7;exact key false rfl h
    ·cases h
   | global g=>cases h
   | func f=>cases h
  case block id b =>
   simp only [exec] at h
   refine wpIn_block ?_
   split at h
   ·rename_i id' r h1
    obtain ⟨e1,lg1⟩:=r
    simp only [Option.some.injEq,Prod.mk.injEq] at h
    obtain ⟨rfl,rfl,rfl⟩:=h
    refine wpIn_mono (yA (one hr) hc hD yM hf h1) fun ex a' w' ⟨hx,yk⟩=>?_
    subst hx
    simp only [X.exit,Exit.inBlock]
    split
    ·exact ⟨rfl,yk⟩
    ·exact ⟨rfl,yk⟩
   ·rename_i hI
    refine wpIn_mono (yA (one hr) hc hD yM hf h) fun ex a' w' ⟨hx,yk⟩=>?_
    subst hx
    cases x with
    | norm=>exact ⟨rfl,yk⟩
    | ex id=>exact absurd h (hI _ _)
    | ret=>exact ⟨rfl,yk⟩
  case loop b =>
   have key:∀ (m':Nat),m'≤m+1→∀ {e:Env} {a:Act} {w:World} {lg:Option Log},G a w e lg→exec P H orc yo al nt hh m' (.loop b) e lg=some (x,e',lg') →
     Code.roundsIn (FF ro) n P b (fun ex a' w'=>ex=x.exit∧G a' w' e' lg') m' a w:=by
    intro m'
    induction m' with
    | zero=>intro _ e a w _ _ h;cases h
    | succ m' ih =>
     intro yP e a w lg hf h
     simp only [exec] at h
     show b.wpIn (FF ro) n P (Exit.then (Code.roundsIn (FF ro) n P b _ m') _) a w
     have qZ:∀ {e1:Env} {y:X} {e2:Env} {a w} {l1 l2:Option Log},Fin l2→G a w e1 l1→exec P H orc yo al nt hh m' b e1 l1=some (y,e2,l2)→b.wpIn (FF ro) n P (fun ex a' w'=>ex=y.exit∧G a' w' e2 l2) a w:=by
      intro e1 y e2 a w l1 l2 hn hf h
      exact zHz F zE4 m' b (hr.imp_right fun h=>h.less (by omega)) hc hD hn hf h
     split at h
     ·rename_i e1 lg1 h1
      exact wpIn_mono (qZ (zK9 F _ _ h yM) (F.drop _ hf) h1) fun ex a' w' ⟨hx,yk⟩=>by subst hx;exact ih (by omega) yk h
     ·rename_i hI
      refine wpIn_mono (qZ yM (F.drop _ hf) h) fun ex a' w' ⟨hx,yk⟩=>?_
      subst hx
      cases x with
      | norm=>exact absurd h (hI _ _)
      | ex id=>exact ⟨rfl,yk⟩
      | ret=>exact ⟨rfl,yk⟩
   exact wpIn_loop_rounds (m+1) (key (m+1) (Nat.le_refl _) hf h)
  case exit id =>
   simp only [exec,Option.some.injEq,Prod.mk.injEq] at h
   obtain ⟨rfl,rfl,rfl⟩:=h
   exact wpIn_exit ⟨rfl,F.ice _ hf⟩
  case ret =>
   simp only [exec,Option.some.injEq,Prod.mk.injEq] at h
   obtain ⟨rfl,rfl,rfl⟩:=h
   exact wpIn_ret ⟨rfl,hf⟩
  case label l =>
   simp only [exec,Option.some.injEq,Prod.mk.injEq] at h
   obtain ⟨rfl,rfl,rfl⟩:=h
   exact wpIn_label ⟨rfl,hf⟩
  case scope b =>
   simp only [exec] at h
   exact zP1 (fun l a w hx=>by cases x<;>cases hx.1) (yA (one hr) hc hD yM hf h)
  case rangeFunc f ps ca cb =>
   cases f with
   | tmp t =>
    have h0:=h
    simp only [exec] at h
    cases lg with
    | none =>
     simp only at h
     obtain ⟨r,_,h2⟩:=Option.map_eq_some_iff.1 h
     cases h2
     rcases hr with hr | hr
     ·cases hr
     exact hr m (by omega) t ps ca cb a w e _ _ (by simp only [zCy,Bool.and_eq_true];exact hc) hf h0
    | some l=>cases h
   | const v=>simp only [exec] at h;cases h
   | global g=>simp only [exec] at h;cases h
   | func f=>simp only [exec] at h;cases h
end
end Go.Eng
namespace Go.Eng
open Go
structure Rel (w0:World) (U Φ0:Nat→Prop) (w1:World) (U1 Φ1:Nat→Prop):Prop where
 size:w0.heap.size≤w1.heap.size
 kept:∀ b,b<w0.heap.size→¬ U b→w1.heap[b]? = w0.heap[b]?
 own:∀ b,U1 b→U b∨w0.heap.size≤b
 frz:∀ b,Φ1 b→Φ0 b∨U b∨w0.heap.size≤b
 frz0:∀ b,Φ0 b→Φ1 b
 os:w1.os=w0.os
 tape:w1.tape=w0.tape
 output:w1.output=w0.output
section
variable {w0 w w' w1 w2:World} {U Φ0 Φ U1 Φ1 U2 Φ2:Nat→Prop} {nt:Nat} {hv:Hid} {a:Act} {e e':Env} {rv:Nat→Value} {E:Nat→PV} {L:Nat→List Nat}
theorem Rel.refl:Rel w U Φ w U Φ:=⟨Nat.le_refl _,fun _ _ _=>rfl,fun _ h => .inl h,fun _ h => .inl h,fun _ h=>h,rfl,rfl,rfl⟩
theorem Rel.trans (h:Rel w0 U Φ0 w1 U1 Φ1) (k:Rel w1 U1 Φ1 w2 U2 Φ2):Rel w0 U Φ0 w2 U2 Φ2:=by
 have hU:∀ b,b<w0.heap.size→¬ U b→¬ U1 b:=fun b hb hu h1=>by rcases h.own b h1 with h2 | h2<;>first | exact hu h2 | omega
 refine ⟨Nat.le_trans h.size k.size,fun b hb hu=>(k.kept b (Nat.lt_of_lt_of_le hb h.size) (hU b hb hu)).trans (h.kept b hb hu),fun b hb=>?_,fun b hb=>?_,fun b hb=>k.frz0 b (h.frz0 b hb),k.os.trans h.os,k.tape.trans h.tape,k.output.trans h.output⟩
 ·rcases k.own b hb with h1 | h1
  ·exact h.own b h1
  ·exact .inr (Nat.le_trans h.size h1)
 ·rcases k.frz b hb with h1 | h1 | h1
  ·exact h.frz b h1
  ·rcases h.own b h1 with h2 | h2
   ·exact .inr (.inl h2)
   ·exact .inr (.inr h2)
  ·exact .inr (.inr (Nat.le_trans h.size h1))
theorem Conf.rel (C:Conf w0 U Φ0 w Φ rv E L):Rel w0 U Φ0 w (fun b=>∃ s,b∈L s) Φ :=
 ⟨C.size,C.kept,fun b ⟨s,hs⟩=>(C.own s b hs).2.2,fun b hb=>(C.frz b hb).2,C.frz0,C.os,C.tape,C.output⟩
theorem Conf.rebase (h:Rel w0 U Φ0 w1 U1 Φ1) (C:Conf w1 U1 Φ1 w Φ rv E L):Conf w0 U Φ0 w Φ rv E L:=by
 have r:=h.trans C.rel
 exact ⟨C.rep,C.nodup,C.disj,fun s b hb=>⟨(C.own s b hb).1,(C.own s b hb).2.1,r.own b ⟨s,hb⟩⟩,fun b hb=>⟨(C.frz b hb).1,r.frz b hb⟩,r.frz0,r.size,r.kept,r.os,r.tape,r.output⟩
theorem Conf.fresh (C:Conf w0 U Φ0 w Φ rv E L):Conf w (fun b=>∃ s,b∈L s) Φ w Φ rv E L :=
 ⟨C.rep,C.nodup,C.disj,fun s b hb=>⟨(C.own s b hb).1,(C.own s b hb).2.1,.inl ⟨s,hb⟩⟩,fun b hb=>⟨(C.frz b hb).1,.inl hb⟩,fun _ h=>h,Nat.le_refl _,fun _ _ _=>rfl,rfl,rfl,rfl⟩
theorem Conf.moved (C:Conf w0 U Φ0 w Φ rv E L) (hs:w.heap.size≤w'.heap.size) (hL:∀ s,∀ b∈L s,w'.heap[b]? = w.heap[b]?) (hΦ:∀ b,Φ b→w'.heap[b]? = w.heap[b]?) (hk:∀ b,b<w0.heap.size→¬ U b→w'.heap[b]? = w.heap[b]?)
  (ho:w'.os=w.os∧w'.tape=w.tape∧w'.output=w.output):Conf w0 U Φ0 w' Φ rv E L:=by
 refine ⟨fun s=>?_,C.nodup,C.disj,fun s b hb=>⟨Nat.lt_of_lt_of_le (C.own s b hb).1 hs,(C.own s b hb).2⟩,fun b hb=>⟨Nat.lt_of_lt_of_le (C.frz b hb).1 hs,(C.frz b hb).2⟩,C.frz0,Nat.le_trans C.size hs,fun b hb hu=>(hk b hb hu).trans (C.kept b hb hu),
  ho.1.trans C.os,ho.2.1.trans C.tape,ho.2.2.trans C.output⟩
 have:=Rep.map (f:=fun p=>p) (w':=w') (Φ':=Φ) (A':=zA1 w' rv E) (fun _=>rfl) (fun b hb=>⟨hb,hΦ b hb⟩) (fun b v hw ha=>zCN hw (zCz C zCb ha (zBb _).symm rfl (hL _))) (E s) (rv s) (L s) (hL s) (C.rep s)
 rwa [zBb] at this
theorem Conf.arrive (C:Conf w0 U Φ0 w Φ rv E L) (hs:w.heap.size≤w'.heap.size) (hL:∀ s,∀ b∈L s,w'.heap[b]? = w.heap[b]?) (hΦ:∀ b,Φ b→w'.heap[b]? = w.heap[b]?):Conf w' (fun b=>∃ s,b∈L s) Φ w' Φ rv E L:=by
 refine ⟨fun s=>?_,C.nodup,C.disj,fun s b hb=>⟨Nat.lt_of_lt_of_le (C.own s b hb).1 hs,(C.own s b hb).2.1,.inl ⟨s,hb⟩⟩,fun b hb=>⟨Nat.lt_of_lt_of_le (C.frz b hb).1 hs,.inl hb⟩,fun _ h=>h,Nat.le_refl _,fun _ _ _=>rfl,rfl,rfl,rfl⟩
 have:=Rep.map (f:=fun p=>p) (w':=w') (Φ':=Φ) (A':=zA1 w' rv E) (fun _=>rfl) (fun b hb=>⟨hb,hΦ b hb⟩) (fun b v hw ha=>zCN hw (zCz C zCb ha (zBb _).symm rfl (hL _))) (E s) (rv s) (L s) (hL s) (C.rep s)
 rwa [zBb] at this
theorem St.with (S:St w0 U Φ0 nt hv a w e Φ rv E L) (C:Conf w1 U1 Φ1 w' Φ2 rv E L):St w1 U1 Φ1 nt hv a w' e Φ2 rv E L :=
 ⟨C,S.env,S.size,S.small,S.tmps,S.parts,S.hid,S.dfr⟩
def zKv:PV→Value
 | .int k n => .int k n
 | .bool b => .bool b
 | _=>undef
def zCB:PV→Value
 | .agg cs => .agg (cs.map zKv).toArray
 | p=>zKv p
theorem zVr {A:Al} {p:PV} {v:Value} {Lp:List Nat} (h:Rep w Φ A p v Lp) (hn:p.num=true):v=zKv p:=by
 cases p<;>first | (cases hn;done) | exact h.1
theorem zOf {A:Al}:∀ {ps:List PV} {vs:List Value} {Lp:List Nat},zAX w Φ A ps vs Lp→ps.all PV.num=true→vs=ps.map zKv
 | [],vs,_,h,_=>h.1
 | p::ps,vs,_,⟨v,vs',L1,L2,h1,_,h3,h4⟩,hn=>by
  simp only [List.all_cons,Bool.and_eq_true] at hn
  rw [h1,zVr h3 hn.1,zOf h4 hn.2];rfl
theorem zSH {A:Al} {p:PV} {v:Value} {Lp:List Nat} (h:Rep w Φ A p v Lp) (hn:p.flat=true):v=zCB p:=by
 cases p<;>first | (cases hn;done) | exact h.1 | skip
 obtain ⟨vs,rfl,h2⟩:=h
 have:=zOf h2 hn
 simp only [zCB,← this]
theorem zSN (S:St w0 U Φ0 nt hv a w e Φ rv E L) {x:Operand} (hx:zAL nt x=true):Rep w Φ (zA1 w rv E) (zPJ e x) (a.eval x) []:=by
 cases x with
 | tmp t =>
  have ht:t<nt:=zBW hx
  have hg:t<zAb:=Nat.lt_of_lt_of_le ht (Nat.le_trans S.small (by decide))
  have:=S.conf.view hg
  rw [S.env t hg,← S.tmps t ht] at this
  exact this
 | const v=>exact zIU v
 | global g=>exact (rfl:([]:List Nat)=[])
 | func f=>exact (rfl:([]:List Nat)=[])
theorem zS5 {ops:Array Oper} {P:Program} (yx:zNU P nt ops=true) (S:St w0 U Φ0 nt hv a w e Φ rv E L) {o:Oper} {b:Bool} (h:zLv ops e o=some b):Region.wanted o (yielded ops a.tmps)=b:=by
 have yT:∀ (j:Nat) (x:Oper),ops[j]? = some x→zQt P nt x=true:=fun j x hx=>List.all_eq_true.1 yx x (by
  rw [← Array.getElem?_toList] at hx;exact List.mem_of_getElem? hx)
 simp only [zLv] at h
 cases hg:o.guard with
 | none=>rw [hg] at h;simp only [Option.some.injEq] at h;subst h;simp [Region.wanted,hg]
 | some x =>
  obtain ⟨j,want⟩:=x
  rw [hg] at h
  simp only at h
  cases hj:(ops[j]?).bind (·.dst) with
  | none=>rw [hj] at h;cases h
  | some t =>
   rw [hj] at h
   simp only at h
   have uN:t<nt:=by
    cases gP:ops[j]? with
    | none=>rw [gP] at hj;cases hj
    | some oj=>rw [gP] at hj;exact zIi (yT j oj gP) t hj
   have ye:t<zAb:=Nat.lt_of_lt_of_le uN (Nat.le_trans S.small (by decide))
   have hX:=S.conf.rep t
   rw [S.env t ye] at hX
   have htm:a.tmps[t]? = some (rv t):=by
    have h1:=S.tmps t uN
    have h2:t<a.tmps.size:=by rw [S.size];exact uN
    rw [Array.getElem?_eq_getElem h2]
    simp only [Array.getD,h2,dite_true] at h1
    rw [← h1];rfl
   have kH:yielded ops a.tmps j=match rv t with | .bool b=>some b | _=>none:=by
    simp only [yielded,hj,Option.bind_some,htm]
    cases rv t<;>rfl
   revert h
   cases hp:e.get t<;>intro h<;>try (cases h;done)
   case bool c =>
    simp only [Option.some.injEq] at h
    have yD:rv t = .bool c:=by rw [hp] at hX;exact hX.1
    rw [yD] at kH
    simp only at kH
    rw [← h]
    simp only [Region.wanted,hg,kH]
    rfl
   case und =>
    simp only [Option.some.injEq] at h
    have yD:rv t=undef:=by rw [hp] at hX;exact hX.1
    rw [yD] at kH
    rw [← h]
    simp only [Region.wanted,hg,kH]
    rfl
end
theorem zMK {P:Program} {w:World} {fn:Func} {a:Act} (h:fn.results.isEmpty=true):(results fn a.tmps).run P w = .ok (.tuple #[]) w:=by
 have h0:fn.results=#[]:=by simpa using h
 simp only [results,h0]
 simp [Sem.run_bind,Sem.run_pure]
structure Apart (w w':World) (B Ψ:Nat→Prop):Prop where
 size:w.heap.size≤w'.heap.size
 os:w'.os=w.os
 tape:w'.tape=w.tape
 output:w'.output=w.output
 kept:∀ b,b<w.heap.size→¬ B b→w'.heap[b]? = w.heap[b]?
 seen:∀ b,Ψ b→w'.heap[b]? = w.heap[b]?
structure Client (P:Program) (l:Nat) (plan:List (List PV)) (k0:Int) (Ψ:Nat→Prop) (J:List (List PV)→World→(Nat→Prop)→Prop) (Jx:World→Prop):Prop where
 abide:∀ {xs:List (List PV)} {w w':World} {B:Nat→Prop},J xs w B→w.heap.size≤w'.heap.size→(∀ b,B b→w'.heap[b]? = w.heap[b]?)→w'.os=w.os∧w'.tape=w.tape∧w'.output=w.output→J xs w' B
 small:∀ {xs:List (List PV)} {w:World} {B:Nat→Prop},J xs w B→∀ b,B b→b<w.heap.size
 round:∀ {xs:List (List PV)} {x:List PV} {w:World} {B:Nat→Prop},J xs w B→xs++[x] <+: plan→k0-xs.length≠1→x.all PV.flat=true→YieldAt (FF none) 0 P l (x.map zCB).toArray w fun en w'=>en = .returned (.bool true)∧Apart w w' B Ψ ∧
  ∃ B',J (xs++[x]) w' B'∧∀ b,B' b→B b∨w.heap.size≤b
 last:∀ {xs:List (List PV)} {x:List PV} {w:World} {B:Nat→Prop},J xs w B→xs++[x] <+: plan→k0-xs.length=1→x.all PV.flat=true→YieldAt (FF none) 0 P l (x.map zCB).toArray w fun en w'=>en = .returned (.bool false)∧Jx w'
 abideX:∀ {w w':World},Jx w→w.heap.size≤w'.heap.size→(∀ b,b<w.heap.size→w'.heap[b]? = w.heap[b]?)→w'.os=w.os∧w'.tape=w.tape∧w'.output=w.output→Jx w'
section
variable {P:Program} {H:zBc} {orc:zAC} {yo:zCD} {al:All} {nt:Nat} {val:Nat→Value} {l:Nat} {plan:List (List PV)} {k0:Int} {Ψ:Nat→Prop} {J:List (List PV)→World→(Nat→Prop)→Prop} {Jx:World→Prop}
def GJ (nt:Nat) (val:Nat→Value) (l:Nat) (k0:Int) (Ψ:Nat→Prop) (J:List (List PV)→World→(Nat→Prop)→Prop) (Jx:World→Prop) (a:Act) (w:World) (e:Env) (lg:Option Log):Prop :=
 ∃ g,lg=some g∧g.at_=l∧g.k=k0-g.xs.length∧∃ w1 U1 Φ1,Fr w1 U1 Φ1 nt ⟨val,[]⟩ a w e ∧
  ((g.k≠0∧∃ B,J g.xs w1 B∧(∀ b,B b→¬ U1 b)∧∀ b,Φ1 b→Ψ b∨¬ B b)∨(g.k=0∧Jx w1∧∀ b,¬ U1 b))
def zY1 (plan:List (List PV)) (lg:Option Log):Prop:=∃ g,lg=some g∧g.xs <+: plan
theorem zHs {fz tk nl:Bool} {ops:Array Oper} {o:Oper} {e e':Env} {g:Log} {lg':Option Log} (h:zCF P H orc fz tk nl ops o e (some g)=some (e',lg')):∃ g',lg'=some g'∧g.xs <+: g'.xs:=by
 have mp:∀ {x:Option Env} {q:Log},x.map (fun e'=>(e',some q))=some (e',lg')→lg'=some q:=by
  intro x q h
  obtain ⟨y,_,h2⟩:=Option.map_eq_some_iff.1 h
  cases h2;rfl
 simp only [zCF] at h
 split at h
 ·simp only [zBL] at h
  split at h
  ·rcases zBe h with ⟨_,h⟩ | ⟨_,h⟩
   ·exact ⟨_,mp h,List.prefix_append _ _⟩
   ·cases h
  ·exact ⟨_,mp h,List.prefix_refl _⟩
  ·cases h
 ·exact ⟨_,mp h,List.prefix_refl _⟩
theorem zWb (jF : zF9 P orc) (hnm:zEL P) (hC:Client P l plan k0 Ψ J Jx):Frame P H orc nt none 0 (fun _=>True) (zY1 plan) (GJ nt val l k0 Ψ J Jx):=by
 refine ⟨?_,?_,?_,?_,?_,?_,?_⟩
 ·intro ops o fz tk nl e e' lg lg' h hf
  obtain ⟨g',rfl,hp⟩:=hf
  cases lg with
  | none=>simp only [zCF] at h;obtain ⟨y,_,h2⟩:=Option.map_eq_some_iff.1 h;cases h2
  | some g =>
   obtain ⟨g2,h2,h3⟩:=zHs h
   cases h2
   exact ⟨g,rfl,h3.trans hp⟩
 ·intro ops i o fz tk nl a w e e' lg lg' Q yx hi _ yM hG h
  obtain ⟨g,rfl,jl,hk,w1,U1,Φ1,hf,jj⟩:=hG
  have yT:zQt P nt o=true:=List.all_eq_true.1 yx o (by
   rw [← Array.getElem?_toList] at hi;exact List.mem_of_getElem? hi)
  simp only [zCF] at h
  cases hy:zB7 e o with
  | none =>
   rw [hy] at h;simp only at h
   obtain ⟨e1,h1,h2⟩:=Option.map_eq_some_iff.1 h
   cases h2
   exact zDG (zLm jF hnm yx hf hi h1) fun a' w' yk=>⟨g,rfl,jl,hk,w1,U1,Φ1,yk,jj⟩
  | some yL =>
   obtain ⟨h0,args⟩:=yL
   rw [hy] at h;simp only at h
   obtain ⟨Φ,rv,E,L,S,hb⟩:=hf
   have kC:=zIi yT
   simp only [zB7] at hy
   split at hy
   ·rename_i c hc
    split at hy
    ·rename_i tc yw
     split at hy
     ·rename_i h0' kH
      simp only [Option.some.injEq,Prod.mk.injEq] at hy
      obtain ⟨rfl,rfl⟩:=hy
      have yJ:zAL nt (.tmp tc)=true∧∀ x∈c.args.toList,zAL nt x=true:=by
       have h1:=yT
       simp only [zQt,hc,Bool.and_eq_true,yw] at h1
       obtain ⟨_,h2,h3⟩:=h1
       exact ⟨by simpa using h3,List.all_eq_true.1 (by simpa using h2)⟩
      have htc:tc<nt:=zBW yJ.1
      have ye:tc<zAb:=Nat.lt_of_lt_of_le htc (Nat.le_trans S.small (by decide))
      have hcv:a.eval (.tmp tc) = .func (.yield h0') #[] #[]:=by
       have:=S.conf.rep tc
       rw [S.env tc ye,kH] at this
       show a.tmps.getD tc undef=_
       rw [S.tmps tc htc];exact this.2
      simp only [zBL] at h
      cases hw:zLv ops e o with
      | none=>rw [hw] at h;cases h
      | some b =>
       have hwant:=zS5 yx S hw
       simp only [wpOpIn,hi,hwant]
       cases b with
       | false =>
        rw [hw] at h;simp only at h
        obtain ⟨e1,h1,h2⟩:=Option.map_eq_some_iff.1 h
        cases h2
        exact ⟨fun _ _=>trivial,g,rfl,jl,hk,w1,U1,Φ1,zAu S hb kC h1 (p := .und) ⟨rfl,rfl⟩,jj⟩
       | true =>
        rw [hw] at h;simp only at h
        rcases zBe h with ⟨jS,h⟩ | ⟨_,h⟩
        ·simp only [Bool.and_eq_true] at jS
         obtain ⟨⟨jm,hkn⟩,vP⟩:=jS
         have vP:=Nat.eq_of_beq_eq_true vP
         rw [jl] at vP;subst vP
         have hkn:g.k≠0:=by simpa using hkn
         obtain ⟨e1,h1,h2⟩:=Option.map_eq_some_iff.1 h
         cases h2
         rcases jj with ⟨_,B,hJ,hBU,hBΦ⟩ | ⟨h0,_⟩
         ·
          have hvals:c.args.map a.eval=((c.args.toList.map (zPJ e)).map zCB).toArray:=by
           have key:∀ l:List Operand,(∀ x∈l,zAL nt x=true)→(l.map (zPJ e)).all PV.flat=true→l.map a.eval=(l.map (zPJ e)).map zCB:=by
            intro l
            induction l with
            | nil=>intro _ _;rfl
            | cons x l ih =>
             intro h1 h2
             simp only [List.map_cons,List.all_cons,Bool.and_eq_true] at h2
             simp only [List.map_cons]
             rw [zSH (zSN S (h1 x (by simp))) h2.1,ih (fun y hy=>h1 y (by simp [hy])) h2.2]
           have:=key c.args.toList yJ.2 jm
           rw [← this]
           apply Array.toList_inj.1
           simp
          have hJw:J g.xs w B:=by
           refine hC.abide hJ S.conf.size (fun b hb=>S.conf.kept b (hC.small hJ b hb) (hBU b hb)) ⟨S.conf.os,S.conf.tape,S.conf.output⟩
          have hLB:∀ s,∀ b∈L s,¬ B b:=by
           intro s b jL wY
           rcases (S.conf.own s b jL).2.2 with h3 | h3
           ·exact hBU b wY h3
           ·have:=hC.small hJ b wY;omega
          have hΦB:∀ b,Φ b→Ψ b∨¬ B b:=by
           intro b hbΦ
           rcases (S.conf.frz b hbΦ).2 with h3 | h3 | h3
           ·exact hBΦ b h3
           ·exact .inr fun wY=>hBU b wY h3
           ·exact .inr fun wY=>by have:=hC.small hJ b wY;omega
          have qa:g.xs++[c.args.toList.map (zPJ e)] <+: plan:=by
           obtain ⟨g2,qE,hp⟩:=yM
           cases qE;exact hp
          have hexec:(execOp a.eval o).run P w=(Instr.yield h0' (c.args.map a.eval)).run P w:=by
           simp only [execOp,hc,Go.resolve,yw,hcv,Deferred.ofValue,Sem.run_bind,Sem.run_pure,Result.andThen_ok,invoke]
           simp
          have kW:∀ {R:Ending→World→Prop},YieldAt (FF none) 0 P h0' ((c.args.toList.map (zPJ e)).map zCB).toArray w R→(∀ en w',R en w'→∃ v,en = .returned v∧GJ nt val h0' k0 Ψ J Jx (a.put o.dst v) w' e' (some ⟨g.xs++[c.args.toList.map (zPJ e)],g.k-1,g.at_⟩)) →
            o.wpIn (FF none) 0 P a w (fun a' w'=>GJ nt val h0' k0 Ψ J Jx a' w' e' (some ⟨g.xs++[c.args.toList.map (zPJ e)],g.k-1,g.at_⟩)) Q:=by
           intro R ⟨fn,tmps,ca,cb,yA,yS⟩ hR
           refine ⟨fun _ _=>trivial,?_⟩
           rw [Oper.semAt_eq (FF none).round a.eval o (fun c' hc'=>by rw [hc] at hc';cases hc'),hexec,hvals,yA]
           refine ⟨fun h=>(by cases h),yS.mono fun en w' uy=>?_⟩
           obtain ⟨v,rfl,hv⟩:=hR en w' uy
           exact hv
          have hZ:g.k-1=k0-((g.xs++[c.args.toList.map (zPJ e)]).length:Int):=by rw [hk];simp;omega
          rcases zBe h1 with ⟨jI,h1⟩ | ⟨jI,h1⟩
          ·
           have jI:g.k=1:=by simpa using jI
           refine kW (hC.last hJw qa (by rw [← hk];exact jI) jm) fun en w' ⟨uy,hx⟩=>⟨_,uy,?_⟩
           refine ⟨_,rfl,jl,hZ,w',fun _=>False,fun _=>False,?_,.inr ⟨by rw [jI];rfl,hx,fun _ h=>h⟩⟩
           have C':Conf w' (fun _=>False) (fun _=>False) w' (fun _=>False) rv (fun s=>if (E s).num then E s else .bad) (fun _=>[]):=by
            refine ⟨fun s=>?_,fun _=>List.nodup_nil,fun _ _ _ b hb=>(by cases hb),fun s b hb=>(by cases hb),fun b hb=>hb.elim,fun b hb=>hb,Nat.le_refl _,fun _ _ _=>rfl,rfl,rfl,rfl⟩
            have:=S.conf.rep s
            split
            ·rename_i hn
             revert this hn
             cases E s<;>intro this hn<;>first | (cases hn;done) | exact ⟨this.1,rfl⟩
            ·rfl
           have S':St w' (fun _=>False) (fun _=>False) nt ⟨val,[]⟩ a w' (e.forget zAb) (fun _=>False) rv (fun s=>if (E s).num then E s else .bad) (fun _=>[]):=by
            refine ⟨C',fun s hs=>?_,S.size,S.small,S.tmps,fun d ps j hd hp hj=>?_,S.hid,S.dfr⟩
            ·rw [zEO,S.env s hs]
             have:s≠zAb:=by omega
             simp [this]
            ·split at hp
             ·rename_i hn;rw [hp] at hn;cases hn
             ·cases hp
           exact zAu S' (fun s hs=>by show (if (E s).num then E s else PV.bad) = .bad;rw [hb s hs];rfl) kC h1 (p := .bool false) ⟨rfl,rfl⟩
          ·
           have jI:g.k≠1:=by simpa using jI
           refine kW (hC.round hJw qa (by rw [← hk];exact jI) jm) fun en w' ⟨uy,hap,B',hJ',hB'⟩=>⟨_,uy,?_⟩
           have gh:∀ s,∀ b∈L s,w'.heap[b]? = w.heap[b]?:=fun s b hb=>hap.kept b (S.conf.own s b hb).1 (hLB s b hb)
           have hΦk:∀ b,Φ b→w'.heap[b]? = w.heap[b]?:=fun b hb=>(hΦB b hb).elim (fun h=>hap.seen b h) (fun h=>hap.kept b (S.conf.frz b hb).1 h)
           have C1:=S.conf.arrive (w':=w') hap.size gh hΦk
           have S':=S.with C1
           refine ⟨_,rfl,jl,hZ,w',_,_,zAu S' hb kC h1 (p := .bool true) ⟨rfl,rfl⟩,.inl ⟨by simp only;omega,B',hJ',fun b wY ⟨s,jL⟩=>?_,fun b hbΦ=>?_⟩⟩
           ·rcases hB' b wY with h3 | h3
            ·exact hLB s b jL h3
            ·have:=(S.conf.own s b jL).1;omega
           ·rcases hΦB b hbΦ with h3 | h3
            ·exact .inl h3
            ·refine .inr fun wY=>?_
             rcases hB' b wY with h4 | h4
             ·exact h3 h4
             ·have:=(S.conf.frz b hbΦ).1;omega
         ·exact absurd h0 hkn
        ·cases h
     ·cases hy
    ·cases hy
   ·cases hy
 ·intro a w e e' lg ⟨g,h1,h2,h3,w1,U1,Φ1,hf,hc⟩ hg
  exact ⟨g,h1,h2,h3,w1,U1,Φ1,hf.get' hg,hc⟩
 ·intro a w e lg d ⟨g,h1,h2,h3,w1,U1,Φ1,hf,hc⟩
  exact ⟨g,h1,h2,h3,w1,U1,Φ1,hf.tick d,hc⟩
 ·intro a w e lg l ⟨g,h1,h2,h3,w1,U1,Φ1,hf,hc⟩
  exact ⟨g,h1,h2,h3,w1,U1,Φ1,hf.drop l,hc⟩
 ·intro a w e lg l ⟨g,h1,h2,h3,w1,U1,Φ1,hf,hc⟩
  exact ⟨g,h1,h2,h3,w1,U1,Φ1,hf.ice,hc⟩
 ·intro a w e lg t b ⟨g,h1,h2,h3,w1,U1,Φ1,⟨Φ,rv,E,L,S,hb⟩,hc⟩ ht he
  have ye:t<zAb:=Nat.lt_of_lt_of_le ht (Nat.le_trans S.small (by decide))
  have:=S.conf.rep t
  rw [S.env t ye,he] at this
  rw [S.tmps t ht];exact this.1
theorem zVf (zE4:P.follows .mixedOrders=true) (jF:zF9 P orc) (hnm:zEL P) (hC:Client P l plan k0 Ψ J Jx) {m:Nat} {f:FuncId} {fn:Func} {body:Code} {args:List PV} (hf:P.funcs[f]? = some fn) (yV:fn.body=some body) (jJ:zCy P fn.ntmps body=true)
  (u5:fn.ntmps≤2000000) (yL:args.length≤fn.ntmps) (u8:args.all (fun p => !p.isTup)=true) (y8:fn.results.isEmpty=true) {x:X} {e1:Env} {g:Log}
  (hx:exec P H orc yo al fn.ntmps (H f) m body (zA5 args []) (some ⟨[],k0,l⟩)=some (x,e1,some g)) (gS:x = .norm∨x = .ret) (hg:g.xs=plan) (hk:k0≠0)
  {w:World} {Φ:Nat→Prop} {rv:Nat→Value} {E:Nat→PV} {L:Nat→List Nat} {vs:Array Value} (hE:∀ s,s<zAb→E s=(zA5 args []).get s) (kU:∀ s,zAb≤s→E s = .bad) (C:Conf w (fun b=>∃ s,b∈L s) Φ w Φ rv E L)
  (yE:vs.size=args.length) (yf:∀ i,i<args.length→vs[i]? = some (rv i)) (j0:∀ s,args.length≤s→s<zAm→rv s=undef) {B:Nat→Prop} (hJ:J [] w B) (hBL:∀ b,B b→∀ s,b∉L s) (hBΦ:∀ b,Φ b→Ψ b∨¬ B b) :
  CallsIn (FF none) 0 P f vs w fun en w'=>(∃ v,en = .returned v)∧((k0-plan.length≠0∧∃ B',J plan w' B')∨(k0-plan.length=0∧Jx w')):=by
 have ho:zAx=60000000:=rfl
 have hh:zAm=50000000:=rfl
 have wV:zAb=1000000000:=rfl
 refine callsIn_of_wp hf yV trivial ?_
 have S:St w (fun b=>∃ s,b∈L s) Φ fn.ntmps ⟨rv,[]⟩ {tmps:=vs++Array.replicate (fn.ntmps-vs.size) undef,defers:=[]} w (zA5 args []) Φ rv E L:=by
  refine ⟨C,hE,by simp;omega,u5,fun t ht=>?_,fun d ps i hd hp hi=>?_,fun _ _ _=>rfl,rfl⟩
  ·simp only [Array.getD_eq_getD_getElem?,Array.getElem?_append]
   by_cases h1:t<vs.size
   ·rw [if_pos h1,yf t (by omega)];rfl
   ·rw [if_neg h1,Array.getElem?_replicate,if_pos (by omega),j0 t (by omega) (by omega)];rfl
  ·rw [hE d (by omega),zC8 (by omega)] at hp
   split at hp
   ·rename_i v7
    have:(args.getD d .bad)∈args:=by
     simp only [List.getD,List.getElem?_eq_getElem v7,Option.getD_some];exact List.getElem_mem v7
    have:=List.all_eq_true.1 u8 _ this
    rw [hp] at this;cases this
   ·split at hp
    ·rename_i h2;simp at h2;omega
    ·cases hp
 have yM:zY1 plan (some g):=⟨g,rfl,by rw [hg];exact List.prefix_refl _⟩
 have hw:=zHz (zWb (val:=rv) jF hnm hC) zE4 m body (.inr fun m' _ t ps ca cb a w e x e' _ hG _=>by obtain ⟨g,h,_⟩:=hG;cases h) jJ (fun _ _=>trivial) yM
  (⟨_,rfl,rfl,by simp,w,_,_,⟨Φ,rv,E,L,S,kU⟩,.inl ⟨hk,B,hJ,fun b hb ⟨s,hs⟩=>hBL b hb s hs,hBΦ⟩⟩:GJ fn.ntmps rv l k0 Ψ J Jx _ w (zA5 args []) (some ⟨[],k0,l⟩)) hx
 refine wpIn_mono hw fun ex a' w' ⟨gT,g',hg',_,wX,w1,U1,Φ1,qn,jj⟩=>?_
 cases hg'
 rw [hg] at wX;rw [wX] at jj
 obtain ⟨Φ2,rv2,E2,L2,S2,j4⟩:=qn
 have yA:=zMK (P:=P) (w:=w') (fn:=fn) (a:=a') y8
 have vz:bodyPost P fn (fun en w'=>(∃ v,en = .returned v)∧((k0-plan.length≠0∧∃ B',J plan w' B')∨(k0-plan.length=0∧Jx w'))) .normal a' w':=by
  refine ⟨S2.dfr,_,yA,⟨_,rfl⟩,?_⟩
  rcases jj with ⟨h1,B1,hJ1,hBU,_⟩ | ⟨h1,j6,hU⟩
  ·rw [hg] at hJ1
   exact .inl ⟨h1,B1,hC.abide hJ1 S2.conf.size (fun b hb=>S2.conf.kept b (hC.small hJ1 b hb) (hBU b hb)) ⟨S2.conf.os,S2.conf.tape,S2.conf.output⟩⟩
  ·exact .inr ⟨h1,hC.abideX j6 S2.conf.size (fun b hb=>S2.conf.kept b hb (hU b)) ⟨S2.conf.os,S2.conf.tape,S2.conf.output⟩⟩
 subst gT
 rcases gS with rfl | rfl<;>exact vz
end
end Go.Eng
namespace Go.Eng
open Go
section
variable {w0 w w' w1 w2:World} {U Φ0 Φ U1 Φ1 U2 Φ2:Nat→Prop} {nt:Nat} {hv:Hid} {a:Act} {e e':Env} {rv rv':Nat→Value} {E E':Nat→PV} {L L':Nat→List Nat}
theorem zOh {f:Nat→PV→PV}:∀ (e:Env) (s:Nat),f s .bad = .bad→Env.get (e.map fun x=>(x.1,f x.1 x.2)) s=f s (e.get s)
 | [],s,h=>h.symm
 | (k,v)::e,s,h=>by
  simp only [List.map_cons,Env.get]
  cases hb:Nat.beq k s with
  | true=>rw [Nat.eq_of_beq_eq_true hb];rfl
  | false=>exact zOh e s h
def zDb (nt:Nat) (R ds:List Nat) (e:Env) (s:Nat) (p:PV):PV :=
 bif R.contains s || !p.heavy&&p.ways.all (fun w=>R.contains w.1) then p else bif !(Nat.blt s nt && !ds.contains s||Nat.ble zAm s&&Nat.blt s zAx) then .bad else bif (R.isEmpty||(e.get s).free) && !(e.get s).isTup then e.get s else .bad
theorem zQx (nt:Nat) (R ds:List Nat) (e0 e:Env) (s:Nat):(after nt R ds e0 e).get s=zDb nt R ds e s (e0.get s) :=
 zOh (f:=fun s p=>zDb nt R ds e s p) e0 s (by simp [zDb,PV.heavy,PV.ways])
theorem zLl (nt:Nat) (R ds:List Nat) (e:Env) (s:Nat) (p:PV) :
  (zDb nt R ds e s p=p∧s∈R)∨(zDb nt R ds e s p=p∧p.heavy=false∧∀ x∈p.ways,x.1∈R)∨zDb nt R ds e s p = .bad ∨
  (zDb nt R ds e s p=e.get s∧s∉R∧((s<nt∧s∉ds)∨(zAm≤s∧s<zAx))∧(R=[]∨(e.get s).free=true)∧(e.get s).isTup=false):=by
 simp only [zDb]
 cases h1:(R.contains s || !p.heavy&&p.ways.all (fun w=>R.contains w.1)) with
 | true =>
  simp only [Bool.or_eq_true,Bool.and_eq_true,Bool.not_eq_true',List.contains_iff_mem,List.all_eq_true] at h1
  rcases h1 with h1 | ⟨h1,h2⟩
  ·exact .inl ⟨rfl,h1⟩
  ·exact .inr (.inl ⟨rfl,h1,h2⟩)
 | false =>
  simp only [cond_false]
  have hs:s∉R:=by
   simp only [Bool.or_eq_false_iff] at h1
   intro hm
   rw [List.contains_iff_mem.2 hm] at h1;cases h1.1
  cases h2:(!(Nat.blt s nt && !ds.contains s||Nat.ble zAm s&&Nat.blt s zAx)) with
  | true=>exact .inr (.inr (.inl rfl))
  | false =>
   simp only [cond_false]
   cases h3:((R.isEmpty||(e.get s).free) && !(e.get s).isTup) with
   | false=>exact .inr (.inr (.inl rfl))
   | true =>
    simp only [Bool.not_eq_false',Bool.or_eq_true,Bool.and_eq_true,Bool.not_eq_true'] at h2 h3
    refine .inr (.inr (.inr ⟨rfl,hs,?_,?_,h3.2⟩))
    ·rcases h2 with ⟨h4,h5⟩ | ⟨h4,h5⟩
     ·refine .inl ⟨zBW h4,fun hm=>?_⟩
      rw [List.contains_iff_mem.2 hm] at h5;cases h5
     ·exact .inr ⟨Nat.le_of_ble_eq_true h4,zBW h5⟩
    ·rcases h3.1 with h4 | h4
     ·exact .inl (by simpa using h4)
     ·exact .inr h4
theorem zPG {p:PV} (h:p.flat=true):p.isTup=false∧p.heavy=false:=by
 cases p<;>first | (cases h;done) | exact ⟨rfl,rfl⟩ | skip
 rename_i cs
 refine ⟨rfl,?_⟩
 have key:∀ cs:List PV,cs.all PV.num=true→zCU cs=false:=by
  intro cs
  induction cs with
  | nil=>intro _;rfl
  | cons c cs ih =>
   intro h
   simp only [List.all_cons,Bool.and_eq_true] at h
   simp only [zCU,ih h.2,Bool.or_false]
   cases c<;>first | (cases h.1;done) | rfl
 exact key cs h
theorem zVM {A:Al} {p:PV} (h:p.num=true):Rep w Φ A p (zKv p) []:=by
 cases p<;>first | (cases h;done) | exact ⟨rfl,rfl⟩
theorem zOx {A:Al}:∀ (ps:List PV),ps.all PV.num=true→zAX w Φ A ps (ps.map zKv) []
 | [],_=>⟨rfl,rfl⟩
 | p::ps,h=>by
  simp only [List.all_cons,Bool.and_eq_true] at h
  exact ⟨_,_,[],[],rfl,rfl,zVM h.1,zOx ps h.2⟩
theorem zSM {A:Al} {p:PV} (h:p.flat=true):Rep w Φ A p (zCB p) []:=by
 cases p<;>first | (cases h;done) | exact ⟨rfl,rfl⟩ | skip
 exact ⟨_,rfl,by simpa using zOx _ h⟩
theorem zHW:∀ (ps:List Tmp) (x:List PV) {a:Act} {e e1:Env},Fr w0 U Φ0 nt hv a w e→(∀ t∈ps,t<nt)→x.all PV.flat=true→zCh ps x e=some e1 →
  ps.length=x.length∧Fr w0 U Φ0 nt hv {a with tmps:=(ps.zip (x.map zCB)).foldl (fun t (p,v)=>t.setIfInBounds p v) a.tmps} w e1 ∧
  ∀ t,t∉ps→((ps.zip (x.map zCB)).foldl (fun t (p,v)=>t.setIfInBounds p v) a.tmps).getD t undef=a.tmps.getD t undef
 | [],[],a,e,e1,hf,_,_,h=>by
  simp only [zCh,Option.some.injEq] at h;subst h
  exact ⟨rfl,hf,fun _ _=>rfl⟩
 | [],_::_,a,e,e1,hf,_,_,h=>by cases h
 | _::_,[],a,e,e1,hf,_,_,h=>by cases h
 | t :: ts,v::vs,a,e,e1,hf,ht,hx,h=>by
  simp only [zCh] at h
  split at h
  ·cases h
  ·simp only [List.all_cons,Bool.and_eq_true] at hx
   obtain ⟨Φ,rv,E,L,S,hb⟩:=hf
   have hl:=zPG hx.1
   have yA:(put (some t) v).run (fun _ _ _=>none) e=some (e.set t v):=by
    simp only [put,hl.1,cond_false,lay,hl.2,PM.run]
   have hf1:=zAu (d:=some t) S hb (fun y hy=>by cases hy;exact ht t (by simp)) yA (zSM hx.1)
   obtain ⟨h1,h2,h3⟩:=zHW ts vs hf1 (fun y hy=>ht y (by simp [hy])) hx.2 h
   refine ⟨by simp [h1],h2,fun y hy=>?_⟩
   simp only [List.mem_cons,not_or] at hy
   have:=h3 y hy.2
   simp only [List.map_cons,List.zip_cons_cons,List.foldl_cons]
   refine Eq.trans this ?_
   show (a.tmps.setIfInBounds t (zCB v)).getD y undef=_
   simp only [Array.getD_eq_getD_getElem?,Array.getElem?_setIfInBounds]
   rw [if_neg (fun e=>hy.1 e.symm)]
end
theorem zNN {F:Fence} {n:Nat} {P:Program} {ops:Array Oper} {Q:Exit→Act→World→Prop} {i:Nat} {K:Act→World→Prop} {T:Act→Prop} {a:Act} {w:World} {o:Oper} (hi:ops[i]? = some o) (hT:∀ v ds,T ({a with defers:=ds}.put o.dst v))
  (h:wpOpIn F n P ops Q i K a w):wpOpIn F n P ops Q i (fun a' w'=>K a' w'∧T a') a w:=by
 have hT0:∀ v,T (a.put o.dst v):=fun v=>hT v a.defers
 simp only [wpOpIn,hi] at h ⊢
 split
 ·rename_i hw
  rw [if_pos hw] at h
  refine ⟨h.1,?_⟩
  have h:=h.2
  revert h
  generalize (o.semAt F.round a.eval).run P w=r
  intro h
  cases r with
  | ok x w' =>
   cases x<;>simp only [Oper.uponIn] at h ⊢ <;> first
    | exact ⟨h,hT0 _⟩
    | exact ⟨h,hT _ _⟩
    | exact ⟨h.1,h.2.mono fun e w'' he=>by cases e<;>first | exact ⟨he,hT0 _⟩ | exact he⟩
    | exact ⟨h.1,h.2.mono fun v w'' he=>⟨he,hT0 _⟩⟩
    | exact h
  | halt x w'=>cases x<;>simp only [Oper.uponIn] at h ⊢ <;> exact h
 ·rename_i hw
  rw [if_neg hw] at h
  exact ⟨h.1,h.2,hT0 _⟩
def GR (wb:World) (Ub Φb:Nat→Prop) (nt:Nat) (val:Nat→Value) (ds:List Nat) (tm:Array Value) (a:Act) (w:World) (e:Env) (lg:Option Log):Prop :=
 lg=none∧Fr wb Ub Φb nt ⟨val,[]⟩ a w e∧∀ t,t∉ds→a.tmps.getD t undef=tm.getD t undef
theorem zTV {P:Program} {H:zBc} {orc:zAC} {nt l:Nat} {wb:World} {Ub Φb:Nat→Prop} {val:Nat→Value} {ds:List Nat} {tm:Array Value} (jF:zF9 P orc) (hnm:zEL P) :
  Frame P H orc nt (some l) 0 (fun d=>d∈ds) (fun lg=>lg=none) (GR wb Ub Φb nt val ds tm):=by
 refine ⟨?_,?_,?_,?_,?_,?_,?_⟩
 ·intro ops o fz tk nl e e' lg lg' h hf
  cases lg with
  | none=>rfl
  | some g=>obtain ⟨g',h2,_⟩:=zHs h;rw [h2] at hf;cases hf
 ·intro ops i o fz tk nl a w e e' lg lg' Q yx hi hd yM ⟨vQ,hf,ht⟩ h
  subst vQ
  simp only [zCF] at h
  obtain ⟨e1,h1,h2⟩:=Option.map_eq_some_iff.1 h
  cases h2
  refine zDG (zNN (T:=fun a'=>∀ t,t∉ds→a'.tmps.getD t undef=tm.getD t undef) hi (fun v ds' t uo=>?_) (zLm jF hnm yx hf hi h1)) fun a' w' ⟨yk,gg⟩=>⟨rfl,yk,gg⟩
  rw [← ht t uo]
  cases kC:o.dst with
  | none=>rfl
  | some d =>
   have hI:t≠d:=by rintro rfl;exact uo (hd t kC)
   simp only [Act.put,Array.getD_eq_getD_getElem?,Array.getElem?_setIfInBounds]
   rw [if_neg (fun e=>hI e.symm)]
 ·intro a w e e' lg ⟨h1,hf,ht⟩ hg
  exact ⟨h1,hf.get' hg,ht⟩
 ·intro a w e lg d ⟨h1,hf,ht⟩
  exact ⟨h1,hf.tick d,ht⟩
 ·intro a w e lg l ⟨h1,hf,ht⟩
  exact ⟨h1,hf.drop l,ht⟩
 ·intro a w e lg l ⟨h1,hf,ht⟩
  exact ⟨h1,hf.ice,ht⟩
 ·intro a w e lg t b ⟨_,⟨Φ,rv,E,L,S,hb⟩,_⟩ ht he
  have ye:t<zAb:=Nat.lt_of_lt_of_le ht (Nat.le_trans S.small (by decide))
  have:=S.conf.rep t
  rw [S.env t ye,he] at this
  rw [S.tmps t ht];exact this.1
def X.isNorm:X→Bool
 | .norm=>true
 | _=>false
def zIv:X→Code
 | .ret => .ret
 | .ex id => .exit id
 | .norm => .skip
def zIN (run:Code→Env→Option (X×Env)) (ps:List Tmp) (ca cb:Code) (x:List PV) (e:Env):Option (X×Env) :=
 match zCh ps x e with
 | some e1=>match run ca e1 with
  | some (.norm,e2)=>run cb e2
  | _=>none
 | none=>none
section
variable {w0 w w' w1 w2:World} {U Φ0 Φ U1 Φ1 U2 Φ2:Nat→Prop} {nt:Nat} {hv:Hid} {a:Act} {e e':Env} {rv rv':Nat→Value} {E E':Nat→PV} {L L':Nat→List Nat}
theorem zME {p:PV} (h:p.heavy=false):p.unlock=p:=by cases p<;>first | rfl | cases h
open Classical in
theorem Conf.behind {wb w4:World} {Ub Φb Φ3:Nat→Prop} {rv3:Nat→Value} {E3:Nat→PV} {L3:Nat→List Nat} {e3:Env} {R ds:List Nat} (C:Conf w0 U Φ0 w Φ rv E L) (hE:∀ s,s<zAb→E s=e.get s) (kU:zBk E)
  (C3:Conf wb Ub Φb w4 Φ3 rv3 E3 L3) (hE3:∀ s,s<zAb→E3 s=e3.get s) (yN:∀ r∈R,∀ x∈(E r).ways,x.1∈R)
  (jH:∀ s,(s<nt∧s∉ds)∨(zAm≤s∧s<zAx)→rv3 s=rv s)
  (hs:w.heap.size≤w4.heap.size) (hk:∀ b,b<w.heap.size→(Φ b∨(∃ r∈R,b∈L r)∨b<w0.heap.size∧¬ U b)→w4.heap[b]? = w.heap[b]?)
  (hΦ3:∀ b,Φ b→Φ3 b) (hΦb:∀ b,Φ3 b→Φ b∨(∃ s,b∈L s)∨w.heap.size≤b) (hΦR:∀ r∈R,∀ b∈L r,Φ3 b) (hL3:∀ s,∀ b∈L3 s,(∃ t,b∈L t)∨w.heap.size≤b) (ho:w4.os=w.os∧w4.tape=w.tape∧w4.output=w.output) :
  ∃ E' L',(∀ s,s<zAb→E' s=zDb nt R ds e3 s (e.get s))∧zBk E'∧Conf w0 U Φ0 w4 (fun b=>Φ3 b∧∀ r∈R,b∉L r) rv E' L'∧(∀ r∈R,L' r=L r)∧(∀ s,∀ b∈L' s,(∃ r∈R,b∈L r)∨∃ t,b∈L3 t) ∧
   ∀ d ps,d<zAb→E' d = .tup ps→E d = .tup ps:=by
 let Tk:Nat→Prop:=fun s=>s<zAb∧zDb nt R ds e3 s (e.get s)=e3.get s∧((s<nt∧s∉ds)∨(zAm≤s∧s<zAx))∧(R=[]∨(e3.get s).free=true)∧(e3.get s).isTup=false
 let E':Nat→PV:=fun s=>if s<zAb then zDb nt R ds e3 s (e.get s) else .bad
 let L':Nat→List Nat:=fun s=>if s∈R then L s else if Tk s then L3 s else []
 have hE':∀ s,s<zAb→E' s=zDb nt R ds e3 s (e.get s):=fun s hs=>if_pos hs
 have hEb':zBk E':=fun g hg=>if_neg (by omega)
 have qb:∀ s,s∈R→L' s=L s:=fun s hs=>if_pos hs
 have gU:∀ s,s∉R→Tk s→L' s=L3 s:=fun s hs ht=>by show (if s∈R then L s else if Tk s then L3 s else [])=_;rw [if_neg hs,if_pos ht]
 have qc:∀ s,s∉R→¬ Tk s→L' s=[]:=fun s hs ht=>by show (if s∈R then L s else if Tk s then L3 s else [])=_;rw [if_neg hs,if_neg ht]
 have fate:∀ s,(s∈R∧E' s=E s)∨(s∉R∧Tk s∧E' s=E3 s)∨(s∉R∧¬ Tk s∧E' s=E s∧(E s).heavy=false∧∀ x∈(E s).ways,x.1∈R)∨(s∉R∧¬ Tk s∧E' s = .bad):=by
  intro s
  by_cases ya:s<zAb
  ·rw [hE' s ya,hE s ya]
   by_cases jC:s∈R
   ·have:zDb nt R ds e3 s (e.get s)=e.get s:=by
     simp only [zDb,List.contains_iff_mem.2 jC,Bool.true_or,cond_true]
    exact .inl ⟨jC,this⟩
   ·by_cases ht:Tk s
    ·exact .inr (.inl ⟨jC,ht,by rw [hE3 s ya];exact ht.2.1⟩)
    ·rcases zLl nt R ds e3 s (e.get s) with ⟨_,h2⟩ | ⟨h1,h2,h3⟩ | h1 | ⟨h1,h2,h3,h4,h5⟩
     ·exact absurd h2 jC
     ·exact .inr (.inr (.inl ⟨jC,ht,h1,h2,h3⟩))
     ·exact .inr (.inr (.inr ⟨jC,ht,h1⟩))
     ·exact absurd ⟨ya,h1,h3,h4,h5⟩ ht
  ·have hb:E' s = .bad:=hEb' s (by omega)
   have ht:¬ Tk s:=fun ht=>ya ht.1
   by_cases jC:s∈R
   ·exact .inl ⟨jC,by rw [hb,kU s (by omega)]⟩
   ·exact .inr (.inr (.inr ⟨jC,ht,hb⟩))
 have hΦ:zDf w w4 Φ (fun b=>Φ3 b∧∀ r∈R,b∉L r):=fun b hb=>⟨⟨hΦ3 b hb,fun r _ wP=>(C.own r b wP).2.1 hb⟩,hk b (C.frz b hb).1 (.inl hb)⟩
 have gh:∀ r∈R,∀ b∈L r,w4.heap[b]? = w.heap[b]?:=fun r hr b hb=>hk b (C.own r b hb).1 (.inr (.inl ⟨r,hr,hb⟩))
 have hA:∀ b v,b.isWay=true→(zA1 w rv E b v∧∀ x∈b.ways,x.1∈R)→zA1 w4 rv E' b v:=by
  intro b v hw ⟨ha,hR⟩
  have hr:(zA3 b).1∈R:=by
   have:=hR (zA3 b)
   cases b<;>first | (cases hw;done) | (exact ha.elim) | skip
   all_goals exact this (by simp [PV.ways,zA3])
  have hg:=zCM ha
  rcases fate (zA3 b).1 with ⟨_,h1⟩ | ⟨h1,_⟩ | ⟨h1,_⟩ | ⟨h1,_⟩
  ·exact zCz C zCb ha (by rw [h1,zBb]) rfl (gh _ hr)
  all_goals exact absurd hr h1
 have keepRep:∀ s,(∀ x∈(E s).ways,x.1∈R)→(∀ b∈L s,w4.heap[b]? = w.heap[b]?)→Rep w4 (fun b=>Φ3 b∧∀ r∈R,b∉L r) (zA1 w4 rv E') (E s) (rv s) (L s):=by
  intro s hx hL
  have h1:=Rep.ways (A':=fun b v=>zA1 w rv E b v∧∀ x∈b.ways,x.1∈R) (E s) (rv s) (L s) (fun b v _ qt ha=>⟨ha,fun x hxb=>hx x (qt x hxb)⟩) (C.rep s)
  exact h1.mono (Φ':=fun b=>Φ3 b∧∀ r∈R,b∉L r) hΦ hA hL
 refine ⟨E',L',hE',hEb',⟨fun s=>?_,fun s=>?_,fun s s' hI b hb yH=>?_,fun s b hb=>?_,fun b ⟨hb,_⟩=>?_,fun b hb=>⟨hΦ3 b (C.frz0 b hb),fun r _ wP=>(C.own r b wP).2.1 (C.frz0 b hb)⟩,Nat.le_trans C.size hs,
  fun b hb hu=>(hk b (Nat.lt_of_lt_of_le hb C.size) (.inr (.inr ⟨hb,hu⟩))).trans (C.kept b hb hu),ho.1.trans C.os,ho.2.1.trans C.tape,ho.2.2.trans C.output⟩,qb,fun s b hb=>?_,fun d ps hd hp=>?_⟩
 ·rcases fate s with ⟨h1,h2⟩ | ⟨h1,h2,h3⟩ | ⟨h1,h2,h3,h4,h5⟩ | ⟨h1,h2,h3⟩
  ·rw [h2,qb s h1];exact keepRep s (yN s h1) (gh s h1)
  ·rw [h3,gU s h1 h2]
   have jP:=jH s h2.2.2.1
   rw [← jP]
   rcases h2.2.2.2.1 with hR | wE
   ·subst hR
    refine (C3.rep s).mono (Φ':=fun b=>Φ3 b∧∀ r∈([]:List Nat),b∉L r) (fun b hb=>⟨⟨hb,fun r hr=>by cases hr⟩,rfl⟩) (fun b v hw ha=>?_) (fun _ _=>rfl)
    have hg:=zCM ha
    rcases fate (zA3 b).1 with ⟨h1,_⟩ | ⟨_,h4,h5⟩ | ⟨_,_,h5,h6,_⟩ | ⟨_,_,h5⟩
    ·cases h1
    ·exact zCz C3 zCb ha (by rw [h5,zBb]) (jH _ h4.2.2.1).symm (fun _ _=>rfl)
    ·exact zLh ha (by rw [h5,zME h6];exact h6)
    ·exact zLh ha (by rw [h5];rfl)
   ·exact Rep.free _ _ _ (by rw [hE3 s h2.1];exact wE) (C3.rep s)
  ·rw [h3,qc s h1 h2]
   have ww:=zC9 _ _ _ h4 (C.rep s)
   have:=keepRep s h5 (by rw [ww];simp)
   rwa [ww] at this
  ·rw [h3,qc s h1 h2];rfl
 ·by_cases h1:s∈R
  ·rw [qb s h1];exact C.nodup s
  ·by_cases h2:Tk s
   ·rw [gU s h1 h2];exact C3.nodup s
   ·rw [qc s h1 h2];exact List.nodup_nil
 ·by_cases h1:s∈R
  ·rw [qb s h1] at hb
   by_cases j1:s'∈R
   ·rw [qb s' j1] at yH;exact C.disj s s' hI b hb yH
   ·by_cases jb:Tk s'
    ·rw [gU s' j1 jb] at yH;exact (C3.own s' b yH).2.1 (hΦR s h1 b hb)
    ·rw [qc s' j1 jb] at yH;cases yH
  ·by_cases h2:Tk s
   ·rw [gU s h1 h2] at hb
    by_cases j1:s'∈R
    ·rw [qb s' j1] at yH;exact (C3.own s b hb).2.1 (hΦR s' j1 b yH)
    ·by_cases jb:Tk s'
     ·rw [gU s' j1 jb] at yH;exact C3.disj s s' hI b hb yH
     ·rw [qc s' j1 jb] at yH;cases yH
   ·rw [qc s h1 h2] at hb;cases hb
 ·by_cases h1:s∈R
  ·rw [qb s h1] at hb
   have:=C.own s b hb
   exact ⟨Nat.lt_of_lt_of_le this.1 hs,fun ⟨_,h2⟩=>h2 s h1 hb,this.2.2⟩
  ·by_cases h2:Tk s
   ·rw [gU s h1 h2] at hb
    have:=C3.own s b hb
    refine ⟨this.1,fun ⟨h3,_⟩=>this.2.1 h3,?_⟩
    rcases hL3 s b hb with ⟨t,h3⟩ | h3
    ·exact (C.own t b h3).2.2
    ·exact .inr (Nat.le_trans C.size h3)
   ·rw [qc s h1 h2] at hb;cases hb
 ·refine ⟨(C3.frz b hb).1,?_⟩
  rcases hΦb b hb with h3 | ⟨t,h3⟩ | h3
  ·exact (C.frz b h3).2
  ·exact .inr (C.own t b h3).2.2
  ·exact .inr (.inr (Nat.le_trans C.size h3))
 ·by_cases h1:s∈R
  ·rw [qb s h1] at hb;exact .inl ⟨s,h1,hb⟩
  ·by_cases h2:Tk s
   ·rw [gU s h1 h2] at hb;exact .inr ⟨s,hb⟩
   ·rw [qc s h1 h2] at hb;cases hb
 ·rcases fate d with ⟨h1,h2⟩ | ⟨h1,h2,h3⟩ | ⟨h1,h2,h3,_⟩ | ⟨h1,h2,h3⟩
  ·rw [← h2];exact hp
  ·rw [h3,hE3 d hd] at hp
   have:=h2.2.2.2.2
   rw [hp] at this;cases this
  ·rw [← h3];exact hp
  ·rw [h3] at hp;cases hp
end
section
variable {P:Program} {H:zBc} {orc:zAC} {yo:zCD} {al:All} {w0 w:World} {U Φ0 Φ:Nat→Prop} {nt:Nat} {hv:Hid} {aM:Act} {e ef e3:Env} {rv:Nat→Value} {E:Nat→PV} {L:Nat→List Nat} {hh:FHint} {m:Nat}
def zJ1 (P:Program) (H:zBc) (orc:zAC) (yo:zCD) (al:All) (nt:Nat) (hh:FHint) (m:Nat) (c:Code) (e:Env):Option (X×Env) :=
 match exec P H orc yo al nt hh m c e none with
 | some (x,e',none)=>some (x,e')
 | _=>none
theorem zKI {c:Code} {e e':Env} {x:X} (h:zJ1 P H orc yo al nt hh m c e=some (x,e')):exec P H orc yo al nt hh m c e none=some (x,e',none):=by
 simp only [zJ1] at h
 split at h
 ·rename_i hx;cases h;exact hx
 ·cases h
theorem zKo:∀ (R:List Nat) {e ef:Env},zEd R e=some ef→∀ r∈R,r<zAb
 | [],_,_,_,r,hr=>by cases hr
 | t :: R,e,ef,h,r,hr=>by
  simp only [zEd] at h
  rcases zBe h with ⟨h1,h⟩ | ⟨_,h⟩
  ·split at h
   ·rcases List.mem_cons.1 hr with rfl | hr
    ·exact zBW h1
    ·exact zKo R h r hr
   ·cases h
  ·cases h
theorem zN8 (zE4:P.follows .mixedOrders=true) (jF:zF9 P orc) (hnm:zEL P) {ps:Array Tmp} {ca cb:Code} {ds:List Nat} {x:List PV} {r:X} (y5:∀ t∈ps.toList,t<nt) (gw:zCy P nt ca=true) (gx:zCy P nt cb=true) (gy:zCP ca=true) (gz:zCP cb=true)
  (LA:∀ t∈ps.toList,t∈ds) (v7:∀ d∈zBI ca,d∈ds) (LB:∀ d∈zBI cb,d∈ds) (hx:x.all PV.flat=true) (S:St w0 U Φ0 nt hv aM w e Φ rv E L) (hb:zBk E)
  {l:Nat} {rc:Go.Loop} (uV:rc.params=ps) (uQ:rc.assign=ca) (hrb:rc.body=cb) (wZ:rc.tmps=aM.tmps) (jP:rc.state = .ready) (hl:w.heap[l]? = some (.loop rc)) (hlL:∀ s,l∉L s) (hlΦ:¬ Φ l) (vr:w0.heap.size≤l)
  {R:List Nat} (hR:(R=[]∧ef=e)∨(zFT e R=true∧zEd R e=some ef)) (yS:zIN (zJ1 P H orc yo al nt hh m) ps.toList ca cb x ef=some (r,e3)) :
  YieldAt (FF none) 0 P l (x.map zCB).toArray w fun en w4=>en = .returned (.bool r.isNorm)∧w.heap.size≤w4.heap.size∧(w4.os=w.os∧w4.tape=w.tape∧w4.output=w.output) ∧
   w4.heap[l]? = some (.loop {rc with state:=bif r.isNorm then .ready else .done,pending:=bif r.isNorm then none else some (zIv r)})∧(∀ b,b<w.heap.size→b≠l→(∀ s,s∉R→b∉L s)→w4.heap[b]? = w.heap[b]?) ∧
   ∃ Φ4 E4 L4,St w0 U Φ0 nt hv aM w4 (after nt R ds e e3) Φ4 rv E4 L4∧zBk E4∧(∀ b,Φ b→Φ4 b)∧(∀ b,Φ4 b→Φ b∨(∃ s,b∈L s)∨w.heap.size≤b)∧(∀ r∈R,L4 r=L r)∧∀ s,∀ b∈L4 s,(∃ t,b∈L t)∨w.heap.size≤b:=by
 subst uQ;subst hrb
 have wV:zAb=1000000000:=rfl
 have jv:=S.small
 have wx:l<w.heap.size:=(Array.getElem?_eq_some_iff.1 hl).1
 obtain ⟨Φr,Er,Lr,Sr,wP,f1,f2,f3,f4⟩:∃ Φr Er Lr,St w (fun b=>∃ s,b∈L s) Φ nt hv aM w ef Φr rv Er Lr∧zBk Er∧(∀ b,Φ b→Φr b)∧(∀ b,Φr b→Φ b∨∃ r∈R,b∈L r)∧(∀ r∈R,∀ b∈L r,Φr b)∧∀ s,∀ b∈Lr s,b∈L s:=by
  rcases hR with ⟨rfl,rfl⟩ | ⟨_,hf⟩
  ·exact ⟨Φ,E,L,S.with S.conf.fresh,hb,fun _ h=>h,fun _ h => .inl h,fun _ h=>(by cases h),fun _ _ h=>h⟩
  ·exact zJF R (S.with S.conf.fresh) hb hf
 have yN:∀ r∈R,∀ x∈(E r).ways,x.1∈R:=by
  rcases hR with ⟨rfl,_⟩ | ⟨hc,hf⟩
  ·intro r hr;cases hr
  ·intro r hr x hx
   have:=List.all_eq_true.1 hc r hr
   rw [S.env r (zKo R hf r hr)] at hx
   exact List.contains_iff_mem.1 (List.all_eq_true.1 this x hx)
 have hlr:∀ s,l∉Lr s:=fun s hs=>hlL s (f4 s l hs)
 have hlΦr:¬ Φr l:=fun h=>(f2 l h).elim hlΦ fun ⟨t,_,ht⟩=>hlL t ht
 simp only [zIN] at yS
 cases j9:zCh ps.toList x ef with
 | none=>rw [j9] at yS;cases yS
 | some e1 =>
  rw [j9] at yS;simp only at yS
  split at yS
  ·rename_i e2 hra1
   have j6:=zKI hra1
   have jW:=zKI yS
   have S0:St w (fun b=>∃ s,b∈Lr s) Φr nt ⟨hv.val,[]⟩ {tmps:=aM.tmps,defers:=[]} w ef Φr rv Er Lr :=
    ⟨Sr.conf.fresh,Sr.env,Sr.size,Sr.small,Sr.tmps,Sr.parts,Sr.hid,rfl⟩
   obtain ⟨g1,g2,g3⟩:=zHW ps.toList x ⟨_,_,_,_,S0,wP⟩ y5 hx j9
   have kW:=run_yield (P:=P) (args:=(x.map zCB).toArray) hl (by rw [uV];simpa using g1.symm)
   have hfold:(rc.params.zip (x.map zCB).toArray).foldl (fun tmps (t,a)=>tmps.setIfInBounds t a) rc.tmps=(ps.toList.zip (x.map zCB)).foldl (fun t (p,v)=>t.setIfInBounds p v) aM.tmps:=by
    rw [uV,wZ,← Array.foldl_toList]
    simp
   refine ⟨_,_,_,_,kW,roundIn_of_wpIn trivial ?_⟩
   rw [hfold]
   refine wpIn_mono (zHz (zTV (l:=l) (tm:=aM.tmps) jF hnm) zE4 m rc.assign (.inl gy) gw v7 rfl ⟨rfl,g2,fun t ht=>g3 t (fun h=>ht (LA t h))⟩ j6) fun ex a1 w1 ⟨gT,_,hf1,ht1⟩=>?_
   subst gT
   obtain ⟨Φa,rva,Ea,La,Sa,hba⟩:=hf1
   have wd:w1.heap[l]? = some (.loop rc):=(Sa.conf.kept l wx (fun ⟨s,hs⟩=>hlr s hs)).trans hl
   have hla:∀ s,l∉La s:=fun s hs=>by rcases (Sa.conf.own s l hs).2.2 with ⟨t,ht⟩ | h2<;>first | exact hlr t ht | omega
   have hlΦa:¬ Φa l:=fun h=>by rcases (Sa.conf.frz l h).2 with h2 | ⟨t,ht⟩ | h2<;>first | exact hlΦr h2 | exact hlr t ht | omega
   refine ⟨_,run_beginRound wd jP,?_⟩
   obtain ⟨w2,v8⟩:∃ w2,w1.putObj l (.loop {rc with state := .busy})=w2:=⟨_,rfl⟩
   rw [v8]
   have hlw1:l<w1.heap.size:=(Array.getElem?_eq_some_iff.1 wd).1
   have qd:∀ b,b≠l→w2.heap[b]? = w1.heap[b]?:=fun b hb=>by rw [← v8];exact World.putObj_heap_other hb
   have h2l:w2.heap[l]? = some (.loop {rc with state := .busy}):=by rw [← v8];exact World.putObj_heap_same hlw1
   have h2s:w1.heap.size≤w2.heap.size:=by rw [← v8];simp
   have wF:w2.os=w1.os∧w2.tape=w1.tape∧w2.output=w1.output:=by rw [← v8];exact ⟨rfl,rfl,rfl⟩
   have C2:=Sa.conf.arrive h2s (fun s b hb=>qd b fun e=>hla s (e▸hb)) (fun b hb=>qd b fun e=>hlΦa (e▸hb))
   refine wpIn_mono (zHz (zTV (l:=l) (tm:=aM.tmps) jF hnm) zE4 m rc.body (.inl gz) gx LB rfl ⟨rfl,⟨_,_,_,_,Sa.with C2,hba⟩,ht1⟩ jW) fun ex a3 w3 ⟨gT,_,hf3,ht3⟩=>?_
   obtain ⟨Φ3,rv3,E3,L3,S3,qX⟩:=hf3
   have hlw2:l<w2.heap.size:=by omega
   have hl3:w3.heap[l]? = some (.loop {rc with state := .busy}):=(S3.conf.kept l hlw2 (fun ⟨s,hs⟩=>hla s hs)).trans h2l
   have hl3L:∀ s,l∉L3 s:=fun s hs=>by rcases (S3.conf.own s l hs).2.2 with ⟨t,ht⟩ | h2<;>first | exact hla t ht | omega
   have hl3Φ:¬ Φ3 l:=fun h=>by rcases (S3.conf.frz l h).2 with h2 | ⟨t,ht⟩ | h2<;>first | exact hlΦa h2 | exact hla t ht | omega
   have hlw3:l<w3.heap.size:=(Array.getElem?_eq_some_iff.1 hl3).1
   have hws:w.heap.size≤w1.heap.size:=Sa.conf.size
   have hws3:w2.heap.size≤w3.heap.size:=S3.conf.size
   have hLa:∀ s,∀ b∈La s,(∃ t,b∈L t)∨w.heap.size≤b:=fun s b hb=>(Sa.conf.own s b hb).2.2.imp (fun ⟨t,ht⟩=>⟨t,f4 t b ht⟩) id
   have hL3:∀ s,∀ b∈L3 s,(∃ t,b∈L t)∨w.heap.size≤b:=fun s b hb=>by
    rcases (S3.conf.own s b hb).2.2 with ⟨t,ht⟩ | h2
    ·exact hLa t b ht
    ·exact .inr (by omega)
   have hΦ3:∀ b,Φr b→Φ3 b:=fun b hb=>S3.conf.frz0 b (Sa.conf.frz0 b hb)
   have hΦb:∀ b,Φ3 b→Φ b∨(∃ s,b∈L s)∨w.heap.size≤b:=fun b hb=>by
    rcases (S3.conf.frz b hb).2 with h2 | ⟨t,ht⟩ | h2
    ·rcases (Sa.conf.frz b h2).2 with h4 | ⟨t,ht⟩ | h4
     ·rcases f2 b h4 with h5 | ⟨t,_,ht⟩
      ·exact .inl h5
      ·exact .inr (.inl ⟨t,ht⟩)
     ·exact .inr (.inl ⟨t,f4 t b ht⟩)
     ·exact .inr (.inr h4)
    ·exact .inr (hLa t b ht)
    ·exact .inr (.inr (by omega))
   have hkept:∀ b,b<w.heap.size→b≠l→(∀ s,b∉Lr s)→w3.heap[b]? = w.heap[b]?:=by
    intro b gQ hbl jL
    have e1:=Sa.conf.kept b gQ (fun ⟨s,hs⟩=>jL s hs)
    have e3:=S3.conf.kept b (by omega) (fun ⟨s,hs⟩=>by
     rcases (Sa.conf.own s b hs).2.2 with ⟨t,ht⟩ | h2
     ·exact jL t ht
     ·omega)
    rw [e3,qd b hbl,e1]
   have hRr:∀ t∈R,∀ b∈L t,∀ s,b∉Lr s:=fun t ht b kZ s hs=>(Sr.conf.own s b hs).2.1 (f3 t ht b kZ)
   have fin:∀ (w4:World),(∀ b,b≠l→w4.heap[b]? = w3.heap[b]?)→w4.heap.size=w3.heap.size→(w4.os=w3.os∧w4.tape=w3.tape∧w4.output=w3.output)→w4.heap[l]? = some (.loop {rc with state:=bif r.isNorm then .ready else .done,pending:=bif r.isNorm then none else some (zIv r)}) →
     w.heap.size≤w4.heap.size∧(w4.os=w.os∧w4.tape=w.tape∧w4.output=w.output) ∧
     w4.heap[l]? = some (.loop {rc with state:=bif r.isNorm then .ready else .done,pending:=bif r.isNorm then none else some (zIv r)})∧(∀ b,b<w.heap.size→b≠l→(∀ s,s∉R→b∉L s)→w4.heap[b]? = w.heap[b]?) ∧
     ∃ Φ4 E4 L4,St w0 U Φ0 nt hv aM w4 (after nt R ds e e3) Φ4 rv E4 L4∧zBk E4∧(∀ b,Φ b→Φ4 b)∧(∀ b,Φ4 b→Φ b∨(∃ s,b∈L s)∨w.heap.size≤b)∧(∀ r∈R,L4 r=L r)∧∀ s,∀ b∈L4 s,(∃ t,b∈L t)∨w.heap.size≤b:=by
    intro w4 qe h4s wG h4l
    have uH:w4.os=w.os∧w4.tape=w.tape∧w4.output=w.output:=⟨wG.1.trans (S3.conf.os.trans (wF.1.trans Sa.conf.os)),wG.2.1.trans (S3.conf.tape.trans (wF.2.1.trans Sa.conf.tape)),wG.2.2.trans (S3.conf.output.trans (wF.2.2.trans Sa.conf.output))⟩
    have C4:=S3.conf.arrive (w':=w4) (by omega) (fun s b hb=>qe b fun e=>hl3L s (e▸hb)) (fun b hb=>qe b fun e=>hl3Φ (e▸hb))
    have hk4:∀ b,b<w.heap.size→b≠l→(∀ s,b∉Lr s)→w4.heap[b]? = w.heap[b]?:=fun b h1 h2 h3=>(qe b h2).trans (hkept b h1 h2 h3)
    obtain ⟨E',L',q1,q2,q3,q4,q5,q6⟩:=S.conf.behind (nt:=nt) (R:=R) (ds:=ds) (e3:=e3) S.env hb C4 S3.env yN (fun s hs=>by
      rcases hs with ⟨h1,h2⟩ | ⟨h1,h2⟩
      ·rw [← S3.tmps s h1,ht3 s h2,S.tmps s h1]
      ·exact (S3.hid s h1 h2).trans (S.hid s h1 h2).symm) (by omega) (fun b gQ hc=>hk4 b gQ (fun e=>by
       subst e
       rcases hc with h1 | ⟨t,_,h1⟩ | ⟨h1,_⟩
       ·exact hlΦ h1
       ·exact hlL t h1
       ·omega) (fun s hs=>by
       rcases hc with h1 | ⟨t,ht,h1⟩ | ⟨h1,h2⟩
       ·exact (S.conf.own s b (f4 s b hs)).2.1 h1
       ·exact hRr t ht b h1 s hs
       ·rcases (S.conf.own s b (f4 s b hs)).2.2 with h3 | h3
        ·exact h2 h3
        ·omega)) (fun b hb=>hΦ3 b (f1 b hb)) hΦb (fun t ht b kZ=>hΦ3 b (f3 t ht b kZ)) hL3 uH
    refine ⟨by omega,uH,h4l,fun b h1 h2 h3=>hk4 b h1 h2 fun s hs=>?_,_,E',L',⟨q3,fun s hs=>by rw [q1 s hs,zQx],S.size,S.small,S.tmps,fun d ps i hd hp hi=>?_,S.hid,S.dfr⟩,q2,fun b hb=>⟨hΦ3 b (f1 b hb),fun t _ ht=>(S.conf.own t b ht).2.1 hb⟩,fun b hb=>hΦb b hb.1,q4,fun s b hb=>?_⟩
    ·by_cases jC:s∈R
     ·exact hRr s jC b (f4 s b hs) s hs
     ·exact h3 s jC (f4 s b hs)
    ·exact S.parts d ps i hd (q6 d ps (by omega) hp) hi
    ·rcases q5 s b hb with ⟨t,_,ht⟩ | ⟨t,ht⟩
     ·exact .inl ⟨t,ht⟩
     ·exact hL3 t b ht
   have put_o:∀ o:Obj,(∀ b,b≠l→(w3.putObj l o).heap[b]? = w3.heap[b]?)∧(w3.putObj l o).heap.size=w3.heap.size∧((w3.putObj l o).os=w3.os∧(w3.putObj l o).tape=w3.tape∧(w3.putObj l o).output=w3.output)∧(w3.putObj l o).heap[l]? = some o :=
    fun o=>⟨fun b hb=>World.putObj_heap_other hb,by simp,⟨rfl,rfl,rfl⟩,World.putObj_heap_same hlw3⟩
   subst gT
   cases r with
   | norm =>
    have he:(Instr.endRound l none).run P w3 = .ok (.bool true) (w3.putObj l (.loop {rc with state := .ready,pending:=none})):=by rw [run_endRound none hl3];rfl
    refine ⟨_,_,he,?_⟩
    obtain ⟨p1,p2,p3,p4⟩:=put_o (.loop {rc with state := .ready,pending:=none})
    exact ⟨rfl,fin _ p1 p2 p3 p4⟩
   | ret =>
    have he:(Instr.endRound l (some .ret)).run P w3 = .ok (.bool false) (w3.putObj l (.loop {rc with state := .done,pending:=some .ret})):=by rw [run_endRound (some .ret) hl3];rfl
    refine ⟨_,_,he,?_⟩
    obtain ⟨p1,p2,p3,p4⟩:=put_o (.loop {rc with state := .done,pending:=some .ret})
    exact ⟨rfl,fin _ p1 p2 p3 p4⟩
   | ex id =>
    have he:(Instr.endRound l (some (.exit id))).run P w3 = .ok (.bool false) (w3.putObj l (.loop {rc with state := .done,pending:=some (.exit id)})):=by rw [run_endRound (some (.exit id)) hl3];rfl
    refine ⟨_,_,he,?_⟩
    obtain ⟨p1,p2,p3,p4⟩:=put_o (.loop {rc with state := .done,pending:=some (.exit id)})
    exact ⟨rfl,fin _ p1 p2 p3 p4⟩
  ·cases yS
end
end Go.Eng
namespace Go.Eng
open Go
section
variable {P:Program} {H:zBc} {orc:zAC} {yo:zCD} {al:All} {w0 w w':World} {U Φ0 Φ:Nat→Prop} {nt:Nat} {hv:Hid} {aM a:Act} {e e' ef e3:Env} {rv:Nat→Value} {E:Nat→PV} {L:Nat→List Nat} {hh:FHint} {m:Nat}
structure Side (w0:World) (U Φ0:Nat→Prop) (nt:Nat) (hv:Hid) (aM:Act) (rv:Nat→Value) (l D size2:Nat) (rc:Go.Loop) (Φs:Nat→Prop) (Ls:Nat→List Nat) (R:List Nat) (w:World) (e:Env) (Φ:Nat→Prop) (E:Nat→PV) (L:Nat→List Nat) (B:Nat→Prop):Prop where
 st:St w0 U Φ0 nt hv aM w e Φ rv E L
 emp:zBk E
 recd:w.heap[l]? = some (.loop rc)
 mark:w.heap[D]? = some (.deferred (some []))
 lL:∀ s,l∉L s
 dL:∀ s,D∉L s
 lΦ:¬ Φ l
 dΦ:¬ Φ D
 BL:∀ s,∀ b∈L s,B b
 BΦ:∀ b,Φ b→B b
 old:∀ b,b<size2→B b
 small:∀ b,B b→b<w.heap.size
 see:∀ b,Φs b→Φ b
 Rs:∀ r∈R,L r=Ls r
structure Left (w0:World) (U Φ0:Nat→Prop) (nt:Nat) (hv:Hid) (aM:Act) (rv:Nat→Value) (l D:Nat) (rc:Go.Loop) (r:X) (w:World) (e:Env) (Φ:Nat→Prop) (E:Nat→PV) (L:Nat→List Nat):Prop where
 st:St w0 U Φ0 nt hv aM w e Φ rv E L
 emp:zBk E
 recd:w.heap[l]? = some (.loop {rc with state := .done,pending:=some (zIv r)})
 mark:w.heap[D]? = some (.deferred (some []))
 lL:∀ s,l∉L s
 dL:∀ s,D∉L s
 lΦ:¬ Φ l
 dΦ:¬ Φ D
theorem zJO {run:Code→Env→Option (X×Env)} {ps:List Tmp} {ca cb:Code} {R ds:List Nat} {x:List PV} {xs:List (List PV)} {j:Nat} :
  zC0 nt run ps ca cb R ds (x::xs) e j=match zIN run ps ca cb x e with
   | some (.norm,e3)=>(match R with
    | []=>zC0 nt run ps ca cb R ds xs (after nt [] ds e e3) (j+1)
    | r :: R=>match (bif zFT e (zCJ e (r::R)) then zEd (zCJ e (r::R)) e else none) with
     | some e1=>match zIN run ps ca cb x e1 with
      | some (.norm,e3)=>zC0 nt run ps ca cb (r::R) ds xs (after nt (zCJ e (r::R)) ds e e3) (j+1)
      | _=>none
     | none=>none)
   | some (r,e3)=>some (some (j+1,r),after nt [] ds e e3)
   | none=>none:=rfl
theorem zSG {rc:Go.Loop} (h1:rc.state = .ready) (h2:rc.pending=none):{rc with state := .ready,pending:=none}=rc:=by
 cases rc;simp only at h1 h2;subst h1;subst h2;rfl
theorem zQI (zE4:P.follows .mixedOrders=true) (jF:zF9 P orc) (hnm:zEL P) {ps:Array Tmp} {ca cb:Code} {ds:List Nat} (y5:∀ t∈ps.toList,t<nt) (gw:zCy P nt ca=true) (gx:zCy P nt cb=true) (gy:zCP ca=true) (gz:zCP cb=true)
  (LA:∀ t∈ps.toList,t∈ds) (v7:∀ d∈zBI ca,d∈ds) (LB:∀ d∈zBI cb,d∈ds) {l D size2:Nat} {rc:Go.Loop} (uV:rc.params=ps) (uQ:rc.assign=ca) (hrb:rc.body=cb) (wZ:rc.tmps=aM.tmps) (jP:rc.state = .ready) (hrn:rc.pending=none)
  (vr:w0.heap.size≤l) (hl2:l<size2) (hd2:D<size2) (h02:w0.heap.size≤size2) (hld:l≠D) {Φs:Nat→Prop} {Ls:Nat→List Nat} {R:List Nat} {plan:List (List PV)} {k0:Int} {res:Option (Nat×X)×Env}
  (y8:(res.1=none∧k0 = -1)∨∃ r,res.1=some (plan.length,r)∧k0=plan.length) :
  Client P l plan k0 (fun b=>Φs b∨∃ r∈R,b∈Ls r)
   (fun xs w B=>∃ rest e Φ E L,plan=xs++rest∧zC0 nt (zJ1 P H orc yo al nt hh m) ps.toList ca cb R ds rest e xs.length=some res∧Side w0 U Φ0 nt hv aM rv l D size2 rc Φs Ls R w e Φ E L B)
   (fun w=>∃ r Φ E L,(∃ j,res.1=some (j,r))∧r.isNorm=false∧Left w0 U Φ0 nt hv aM rv l D rc r w res.2 Φ E L):=by
 refine ⟨?_,?_,?_,?_,?_⟩
 ·rintro xs w w' B ⟨rest,e,Φ,E,L,h1,h2,S⟩ hs hB ho
  refine ⟨rest,e,Φ,E,L,h1,h2,⟨S.st.with (S.st.conf.moved hs (fun s b hb=>hB b (S.BL s b hb)) (fun b hb=>hB b (S.BΦ b hb)) (fun b hb _=>hB b (S.old b (by omega))) ho),S.emp,(hB l (S.old l hl2)).trans S.recd,(hB D (S.old D hd2)).trans S.mark,
   S.lL,S.dL,S.lΦ,S.dΦ,S.BL,S.BΦ,S.old,fun b hb=>Nat.lt_of_lt_of_le (S.small b hb) hs,S.see,S.Rs⟩⟩
 ·rintro xs w B ⟨rest,e,Φ,E,L,h1,h2,S⟩
  exact S.small
 ·rintro xs x w B ⟨rest,e,Φ,E,L,h1,h2,S⟩ u9 hk jm
  have wx:l<w.heap.size:=S.small l (S.old l hl2)
  have LC:D<w.heap.size:=S.small D (S.old D hd2)
  obtain ⟨rest',rfl⟩:∃ rest',rest=x::rest':=by
   obtain ⟨t,ht⟩:=u9
   rw [h1,List.append_assoc] at ht
   exact ⟨t,(List.append_cancel_left ht).symm⟩
  rw [zJO] at h2
  have go:∀ (R':List Nat) (ef e3:Env),(∀ r∈R,r∈R')→((R'=[]∧ef=e)∨(zFT e R'=true∧zEd R' e=some ef))→zIN (zJ1 P H orc yo al nt hh m) ps.toList ca cb x ef=some (.norm,e3) →
    zC0 nt (zJ1 P H orc yo al nt hh m) ps.toList ca cb R ds rest' (after nt R' ds e e3) (xs.length+1)=some res →
    YieldAt (FF none) 0 P l (x.map zCB).toArray w fun en w'=>en = .returned (.bool true)∧Apart w w' B (fun b=>Φs b∨∃ r∈R,b∈Ls r) ∧
     ∃ B',(∃ rest e Φ E L,plan=(xs++[x])++rest∧zC0 nt (zJ1 P H orc yo al nt hh m) ps.toList ca cb R ds rest e (xs++[x]).length=some res∧Side w0 U Φ0 nt hv aM rv l D size2 rc Φs Ls R w' e Φ E L B')∧∀ b,B' b→B b∨w.heap.size≤b:=by
   intro R' ef e3 hRR hR' um yc
   obtain ⟨fn,tm,c1,c2,hy,yS⟩:=zN8 zE4 jF hnm y5 gw gx gy gz LA v7 LB jm S.st S.emp uV uQ hrb wZ jP S.recd S.lL S.lΦ vr hR' um
   refine ⟨fn,tm,c1,c2,hy,yS.mono fun en w4 ⟨uy,g1,g2,g3,g4,Φ4,E4,L4,S4,hb4,g5,g6,g7,g8⟩=>?_⟩
   have keepL:∀ b,b<w.heap.size→b≠l→(∀ s,b∉L s)→w4.heap[b]? = w.heap[b]?:=fun b h1 h2 h3=>g4 b h1 h2 fun s _=>h3 s
   refine ⟨uy,⟨g1,g2.1,g2.2.1,g2.2.2,fun b hb hnB=>keepL b hb (fun e=>hnB (e▸S.old l hl2)) (fun s hs=>hnB (S.BL s b hs)),fun b hb=>?_⟩,fun b=>B b∨(w.heap.size≤b∧b<w4.heap.size),⟨rest',_,Φ4,E4,L4,by rw [h1];simp,by simpa using yc,?_⟩,fun b hb=>hb.imp id (fun h=>h.1)⟩
   ·rcases hb with hb | ⟨r,hr,hb⟩
    ·have hΦ:=S.see b hb
     exact keepL b (S.st.conf.frz b hΦ).1 (fun e=>S.lΦ (e▸hΦ)) (fun s hs=>(S.st.conf.own s b hs).2.1 hΦ)
    ·rw [← S.Rs r hr] at hb
     exact g4 b (S.st.conf.own r b hb).1 (fun e=>S.lL r (e▸hb)) (fun s hs kb=>S.st.conf.disj s r (fun e=>hs (e▸hRR r hr)) b kb hb)
   ·refine ⟨S4,hb4,?_,(keepL D LC (Ne.symm hld) S.dL).trans S.mark,fun s hs=>?_,fun s hs=>?_,fun h=>?_,fun h=>?_,fun s b hs=>?_,fun b hb=>?_,fun b hb => .inl (S.old b hb),fun b hb=>?_,fun b hb=>g5 b (S.see b hb),fun r hr=>(g7 r (hRR r hr)).trans (S.Rs r hr)⟩
    ·rw [g3];simp only [X.isNorm,cond_true];rw [zSG jP hrn]
    ·rcases g8 s l hs with ⟨t,ht⟩ | h<;>first | exact S.lL t ht | omega
    ·rcases g8 s D hs with ⟨t,ht⟩ | h<;>first | exact S.dL t ht | omega
    ·rcases g6 l h with h | ⟨t,ht⟩ | h<;>first | exact S.lΦ h | exact S.lL t ht | omega
    ·rcases g6 D h with h | ⟨t,ht⟩ | h<;>first | exact S.dΦ h | exact S.dL t ht | omega
    ·rcases g8 s b hs with ⟨t,ht⟩ | h
     ·exact .inl (S.BL t b ht)
     ·exact .inr ⟨h,(S4.conf.own s b hs).1⟩
    ·rcases g6 b hb with h | ⟨t,ht⟩ | h
     ·exact .inl (S.BΦ b h)
     ·exact .inl (S.BL t b ht)
     ·exact .inr ⟨h,(S4.conf.frz b hb).1⟩
    ·rcases hb with h | h
     ·exact Nat.lt_of_lt_of_le (S.small b h) g1
     ·exact h.2
  split at h2
  ·rename_i e3 um
   cases R with
   | nil=>exact go [] e e3 (fun r hr=>hr) (.inl ⟨rfl,rfl⟩) um h2
   | cons r R =>
    simp only at h2
    split at h2
    ·rename_i e1 hf
     rcases zBe hf with ⟨hc,hf⟩ | ⟨_,hf⟩
     ·split at h2
      ·rename_i e4 hro2
       exact go _ e1 e4 (fun t ht=>List.mem_append_left _ ht) (.inr ⟨hc,hf⟩) hro2 h2
      ·cases h2
     ·cases hf
    ·cases h2
  ·rename_i r e3 hI um
   simp only [Option.some.injEq] at h2
   subst h2
   rcases y8 with ⟨hr,_⟩ | ⟨r',hr,vN⟩
   ·cases hr
   ·simp only [Option.some.injEq,Prod.mk.injEq] at hr
    exfalso;apply hk;omega
  ·cases h2
 ·rintro xs x w B ⟨rest,e,Φ,E,L,h1,h2,S⟩ u9 hk jm
  have wx:l<w.heap.size:=S.small l (S.old l hl2)
  have LC:D<w.heap.size:=S.small D (S.old D hd2)
  obtain ⟨rest',rfl⟩:∃ rest',rest=x::rest':=by
   obtain ⟨t,ht⟩:=u9
   rw [h1,List.append_assoc] at ht
   exact ⟨t,(List.append_cancel_left ht).symm⟩
  have ww:rest'=[]∧res.1≠none:=by
   rcases y8 with ⟨_,vN⟩ | ⟨r,hr,vN⟩
   ·omega
   ·rw [h1] at vN
    simp at vN
    exact ⟨List.eq_nil_of_length_eq_zero (by omega),by rw [hr];simp⟩
  obtain ⟨rfl,wR⟩:=ww
  rw [zJO] at h2
  have none_:∀ {f:Env} {j:Nat} {R':List Nat},zC0 nt (zJ1 P H orc yo al nt hh m) ps.toList ca cb R' ds [] f j=some res→False:=by
   intro f j R' h
   simp only [zC0,Option.some.injEq] at h
   rw [← h] at wR;exact wR rfl
  split at h2
  ·cases R with
   | nil=>exact (none_ h2).elim
   | cons r R =>
    simp only at h2
    split at h2
    ·split at h2
     ·exact (none_ h2).elim
     ·cases h2
    ·cases h2
  ·rename_i r e3 hI um
   simp only [Option.some.injEq] at h2
   have hrn':r.isNorm=false:=by cases r<;>first | rfl | exact (hI rfl).elim
   obtain ⟨fn,tm,c1,c2,hy,yS⟩:=zN8 (R:=[]) zE4 jF hnm y5 gw gx gy gz LA v7 LB jm S.st S.emp uV uQ hrb wZ jP S.recd S.lL S.lΦ vr (.inl ⟨rfl,rfl⟩) um
   refine ⟨fn,tm,c1,c2,hy,yS.mono fun en w4 ⟨uy,g1,g2,g3,g4,Φ4,E4,L4,S4,hb4,g5,g6,g7,g8⟩=>?_⟩
   rw [hrn'] at uy g3
   have keepL:∀ b,b<w.heap.size→b≠l→(∀ s,b∉L s)→w4.heap[b]? = w.heap[b]?:=fun b h1 h2 h3=>g4 b h1 h2 fun s _=>h3 s
   refine ⟨uy,r,Φ4,E4,L4,⟨xs.length+1,by rw [← h2]⟩,hrn',by rw [← h2];exact S4,hb4,g3,(keepL D LC (Ne.symm hld) S.dL).trans S.mark,fun s hs=>?_,fun s hs=>?_,fun h=>?_,fun h=>?_⟩
   ·rcases g8 s l hs with ⟨t,ht⟩ | h<;>first | exact S.lL t ht | omega
   ·rcases g8 s D hs with ⟨t,ht⟩ | h<;>first | exact S.dL t ht | omega
   ·rcases g6 l h with h | ⟨t,ht⟩ | h<;>first | exact S.lΦ h | exact S.lL t ht | omega
   ·rcases g6 D h with h | ⟨t,ht⟩ | h<;>first | exact S.dΦ h | exact S.dL t ht | omega
  ·cases h2
 ·rintro w w' ⟨r,Φ,E,L,h1,h2,S⟩ hs hk ho
  have wx:l<w.heap.size:=(Array.getElem?_eq_some_iff.1 S.recd).1
  have LC:D<w.heap.size:=(Array.getElem?_eq_some_iff.1 S.mark).1
  exact ⟨r,Φ,E,L,h1,h2,S.st.with (S.st.conf.moved hs (fun s b hb=>hk b (S.st.conf.own s b hb).1) (fun b hb=>hk b (S.st.conf.frz b hb).1) (fun b hb _=>hk b (Nat.lt_of_lt_of_le hb S.st.conf.size)) ho),S.emp,(hk l wx).trans S.recd,(hk D LC).trans S.mark,
   S.lL,S.dL,S.lΦ,S.dΦ⟩
structure Marks (z:Nat) (w1:World) (U1 Φ1:Nat→Prop) (ds:List Deferred):Prop where
 each:∀ d∈ds,∃ D,d.target = .collected D∧z≤D∧D<w1.heap.size∧w1.heap[D]? = some (.deferred (some []))∧¬ U1 D∧¬ Φ1 D
 apart:ds.Pairwise fun d d'=>∀ D D',d.target = .collected D→d'.target = .collected D'→D≠D'
def FrB (w0:World) (U Φ0:Nat→Prop) (nt:Nat) (val:Nat→Value) (a:Act) (w:World) (e:Env):Prop :=
 ∃ w1 U1 Φ1 ds,Rel w0 U Φ0 w1 U1 Φ1∧Marks w0.heap.size w1 U1 Φ1 ds∧Fr w1 U1 Φ1 nt ⟨val,ds⟩ a w e
def GB (w0:World) (U Φ0:Nat→Prop) (nt:Nat) (val:Nat→Value) (a:Act) (w:World) (e:Env) (lg:Option Log):Prop:=lg=none∧FrB w0 U Φ0 nt val a w e
theorem zWv {val:Nat→Value} (jF:zF9 P orc) (hnm:zEL P):Frame P H orc nt none 0 (fun _=>True) (fun lg=>lg=none) (GB w0 U Φ0 nt val):=by
 refine ⟨?_,?_,?_,?_,?_,?_,?_⟩
 ·intro ops o fz tk nl e e' lg lg' h hf
  cases lg with
  | none=>rfl
  | some g=>obtain ⟨g',h2,_⟩:=zHs h;rw [h2] at hf;cases hf
 ·intro ops i o fz tk nl a w e e' lg lg' Q yx hi hd yM ⟨vQ,w1,U1,Φ1,ds,h1,h2,hf⟩ h
  subst vQ
  simp only [zCF] at h
  obtain ⟨e1,h3,h4⟩:=Option.map_eq_some_iff.1 h
  cases h4
  exact zDG (zLm jF hnm yx hf hi h3) fun a' w' yk=>⟨rfl,w1,U1,Φ1,ds,h1,h2,yk⟩
 ·intro a w e e' lg ⟨h1,w1,U1,Φ1,ds,h2,h3,hf⟩ hg
  exact ⟨h1,w1,U1,Φ1,ds,h2,h3,hf.get' hg⟩
 ·intro a w e lg d ⟨h1,w1,U1,Φ1,ds,h2,h3,hf⟩
  exact ⟨h1,w1,U1,Φ1,ds,h2,h3,hf.tick d⟩
 ·intro a w e lg l ⟨h1,w1,U1,Φ1,ds,h2,h3,hf⟩
  exact ⟨h1,w1,U1,Φ1,ds,h2,h3,hf.drop l⟩
 ·intro a w e lg l ⟨h1,w1,U1,Φ1,ds,h2,h3,hf⟩
  exact ⟨h1,w1,U1,Φ1,ds,h2,h3,hf.ice⟩
 ·intro a w e lg t b ⟨_,_,_,_,_,_,_,⟨Φ,rv,E,L,S,hb⟩⟩ ht he
  have ye:t<zAb:=Nat.lt_of_lt_of_le ht (Nat.le_trans S.small (by decide))
  have:=S.conf.rep t
  rw [S.env t ye,he] at this
  rw [S.tmps t ht];exact this.1
def zMH (P:Program) (yo:zCD):Prop:=∀ g first i caps k plan,yo g first i caps k=some plan→Callable P g∧(first++PV.yld i::caps).length≤zAm ∧
 ∀ (J:List (List PV)→World→(Nat→Prop)→Prop) (Jx:World→Prop) (Ψ:Nat→Prop),Client P i plan k Ψ J Jx→∀ (w:World) (Φ:Nat→Prop) (rv:Nat→Value) (E:Nat→PV) (L:Nat→List Nat) (vs:Array Value) (B:Nat→Prop),
  (∀ s,s<zAb→E s=(zA5 (first++PV.yld i::caps) []).get s)→(∀ s,zAb≤s→E s = .bad)→Conf w (fun b=>∃ s,b∈L s) Φ w Φ rv E L→vs.size=(first++PV.yld i::caps).length→(∀ j,j<(first++PV.yld i::caps).length→vs[j]? = some (rv j)) →
  (∀ s,(first++PV.yld i::caps).length≤s→s<zAm→rv s=undef)→J [] w B→(∀ b,B b→∀ s,b∉L s)→(∀ b,Φ b→Ψ b∨¬ B b) →
  CallsIn (FF none) 0 P g vs w fun en w'=>(∃ v,en = .returned v)∧((k-plan.length≠0∧∃ B',J plan w' B')∨(k-plan.length=0∧Jx w'))
theorem zIA {x:Nat→Option (List (List PV))} {r:List (List PV)} (h:zB5 x=some r) (i:Nat):x i=some r:=by
 simp only [zB5] at h
 split at h
 ·rename_i hx
  have:=Classical.choose_spec hx i
  simp only [Option.some.injEq] at h
  rw [h] at this;exact this
 ·cases h
theorem zPj (S:St w0 U Φ0 nt hv a w e Φ rv E L) {t g:Nat} (ht:t<nt) {first caps:List PV} {R:List Nat} (h:zDC e t=some (g,first,caps,R)) {Ψ:Nat→Prop} (h1:∀ b,Φ b→Ψ b) (h2:∀ r∈R,∀ b∈L r,Ψ b) :
  ∃ fs cs:Array Value,rv t = .func (.func g) fs cs∧zAX w Ψ zB6 first fs.toList []∧zAX w Ψ zB6 caps cs.toList []:=by
 have ye:t<zAb:=Nat.lt_of_lt_of_le ht (Nat.le_trans S.small (by decide))
 have hX:=S.conf.view ye
 rw [S.env t ye] at hX
 simp only [zDC] at h
 split at h
 ·rename_i e' wH
  obtain ⟨q,l,h3,h4,h5⟩:=zOW S hX wH
  simp only [PM.run,Option.some.injEq] at h3
  subst h3
  have g0:(((e.set 0 (.tup [q])).set 1 (.tup (l.map fun x=>PV.int .i64 x.1))).get 0) = .tup [q]:=by rw [Env.get_set,if_neg (by decide),Env.get_set,if_pos rfl]
  have g1:(((e.set 0 (.tup [q])).set 1 (.tup (l.map fun x=>PV.int .i64 x.1))).get 1) = .tup (l.map fun x=>PV.int .i64 x.1):=by rw [Env.get_set,if_pos rfl]
  rw [g0,g1] at h
  split at h
  ·rename_i g' f' c' l' hq hl
   simp only [PV.tup.injEq,List.cons.injEq,and_true] at hq hl
   subst hq;subst hl
   simp only [Option.some.injEq,Prod.mk.injEq] at h
   obtain ⟨rfl,rfl,rfl,rfl⟩:=h
   have jx:∀ x∈l,Cov w Φ rv E Ψ x:=by
    intro x hx nv q Li A hf hr b hb
    refine h2 x.1 ?_ b ?_
    ·refine List.mem_eraseDups.2 (List.mem_filterMap.2 ⟨_,List.mem_map.2 ⟨x,hx,rfl⟩,?_⟩)
     simp
    ·obtain ⟨nv',Li',h6,h7,h8⟩:=zBG (zBT (S.conf.rep x.1)) (zEp hf)
     rw [hf] at h6;cases h6
     have:=Rep.uniq _ _ _ _ hr h8
     subst this;exact h7 b hb
   obtain ⟨_,fs,cs,h6,h7,h8⟩:=h5 Ψ h1 jx (by simp)
   exact ⟨fs,cs,h6,h7,h8⟩
  ·cases h
 ·cases h
theorem zLs {A:Al}:∀ {ps:List PV} {vs:List Value},zAX w Φ A ps vs []→vs.length=ps.length∧∀ (i:Nat) (p:PV),ps[i]? = some p→∃ v,vs[i]? = some v∧Rep w Φ A p v []
 | [],vs,h=>by rw [h.1];exact ⟨rfl,fun i p hp=>by simp at hp⟩
 | p::ps,vs,⟨v,vs',L1,L2,h1,h2,h3,h4⟩=>by
  obtain ⟨rfl,rfl⟩:L1=[]∧L2=[]:=by simpa using h2.symm
  obtain ⟨g1,g2⟩:=zLs h4
  subst h1
  refine ⟨by simp [g1],fun i q hq=>?_⟩
  cases i with
  | zero=>simp only [List.getElem?_cons_zero,Option.some.injEq] at hq;subst hq;exact ⟨v,rfl,h3⟩
  | succ i=>simp only [List.getElem?_cons_succ] at hq;exact g2 i q hq
theorem zJd (w:World) (o:Obj) {k:Nat} (h:k<w.heap.size):(w.alloc o).heap[k]? = w.heap[k]?:=by
 simp only [World.alloc]
 rw [Array.getElem?_push,if_neg (by omega)]
theorem zRA {val:Nat→Value} (zE4:P.follows .mixedOrders=true) (jF:zF9 P orc) (hnm:zEL P) (qf:zMH P yo) {t:Nat} {ps:Array Tmp} {ca cb:Code} {x:X} (jJ:zCy P nt (.rangeFunc (.tmp t) ps ca cb)=true) (hG:FrB w0 U Φ0 nt val a w e)
    (h:zHi nt yo zB5 (zJ1 P H orc yo zB5 nt hh m) t ps.toList ca cb e=some (x,e')):(Code.rangeFunc (.tmp t) ps ca cb).wpIn (FF none) 0 P (fun ex a' w'=>ex=x.exit∧GB w0 U Φ0 nt val a' w' e' none) a w:=by
  have wV:zAb=1000000000:=rfl
  have hhh:zAm=50000000:=rfl
  simp only [zCy,Bool.and_eq_true] at jJ
  obtain ⟨⟨⟨⟨⟨gi,y5⟩,gw⟩,gx⟩,gy⟩,gz⟩:=jJ
  have gi:t<nt:=zBW gi
  have y5:∀ t∈ps.toList,t<nt:=fun t ht=>zBW (List.all_eq_true.1 y5 t ht)
  obtain ⟨w1,U1,Φ1,ds,wy,wW,Φ,rv,E,L,S,hb⟩:=hG
  have jv:=S.small
  simp only [zHi] at h
  cases yN:zDC e t with
  | none=>rw [yN] at h;cases h
  | some cl =>
    obtain ⟨gf,first,caps,R⟩:=cl
    rw [yN] at h;simp only at h
    obtain ⟨plan,k0,res,hplan,qA,y8,hx⟩:∃ (plan:List (List PV)) (k0:Int) (res:Option (Nat×X)×Env),(∀ i,yo gf first i caps k0=some plan)∧zC0 nt (zJ1 P H orc yo zB5 nt hh m) ps.toList ca cb R (ps.toList++zBI ca++zBI cb) plan e 0=some res ∧
        ((res.1=none∧k0 = -1)∨∃ r,res.1=some (plan.length,r)∧k0=plan.length)∧((res.1=none∧x = .norm)∨∃ j,res.1=some (j,x))∧e'=res.2:=by
      cases uU:zB5 fun i=>yo gf first i caps (-1) with
      | none=>rw [uU] at h;cases h
      | some xs =>
        rw [uU] at h;simp only at h
        split at h
        · rename_i e1 hr
          cases h
          exact ⟨xs,-1,_,zIA uU,hr,.inl ⟨rfl,rfl⟩,.inl ⟨rfl,rfl⟩,rfl⟩
        · rename_i j x1 e1 hr
          cases gV:zB5 fun i=>yo gf first i caps j with
          | none=>rw [gV] at h;cases h
          | some ys =>
            rw [gV] at h;simp only at h
            split at h
            · rename_i j' r e2 qj
              split at h
              · rename_i hj
                cases h
                exact ⟨ys,j,_,zIA gV,qj,.inr ⟨x,by rw [hj.1,hj.2],by rw [hj.2]⟩,.inr ⟨j',rfl⟩,rfl⟩
              · cases h
            · cases h
        · cases h
    obtain ⟨hx,rfl⟩:=hx
    refine wpIn_rangeFunc ?_
    intro fn _
    obtain ⟨rc,kK⟩:∃ rc:Go.Loop,rc={state := .ready,pending:=none,fn,tmps:=a.tmps,params:=ps,assign:=ca,body:=cb,defers:=w.heap.size}:=⟨_,rfl⟩
    obtain ⟨w2,v8⟩:∃ w2,(w.alloc (.deferred (some []))).alloc (.loop rc)=w2:=⟨_,rfl⟩
    have hsz2:w2.heap.size=w.heap.size+2:=by rw [← v8];simp
    have qd:∀ b,b<w.heap.size→w2.heap[b]? = w.heap[b]?:=fun b hb=>by
      rw [← v8];exact (zJd _ _ (by simp;omega)).trans (zJd _ _ hb)
    have h2D:w2.heap[w.heap.size]? = some (.deferred (some [])):=by
      rw [← v8];exact (zJd _ _ (by simp)).trans (World.alloc_heap_new w _)
    have h2l:w2.heap[w.heap.size+1]? = some (.loop rc):=by
      rw [← v8];have:=World.alloc_heap_new (w.alloc (.deferred (some []))) (.loop rc);rwa [World.size_alloc] at this
    have wF:w2.os=w.os∧w2.tape=w.tape∧w2.output=w.output:=by rw [← v8];exact ⟨rfl,rfl,rfl⟩
    obtain ⟨kP,uU,wI⟩:=qf gf first (w.heap.size+1) caps k0 plan (hplan _)
    obtain ⟨fn',jk,yV⟩:=kP
    have hΨs:∀ b,(Φ b∨∃ r∈R,b∈L r)→b<w.heap.size:=fun b hb=>hb.elim (fun h=>(S.conf.frz b h).1) (fun ⟨r,_,h⟩=>(S.conf.own r b h).1)
    obtain ⟨fs,cs,hv,wg,j3⟩:=zPj S gi yN (Ψ:=fun b=>Φ b∨∃ r∈R,b∈L r) (fun b hb => .inl hb) (fun r hr b hb => .inr ⟨r,hr,hb⟩)
    have kF:a.eval (.tmp t) = .func (.func gf) fs cs:=by
      show a.tmps.getD t undef=_
      rw [S.tmps t gi,hv]
    refine ⟨w.heap.size+1,[{target := .collected w.heap.size,args:=#[]}],w2,{target := .fn (.func gf) cs,args:=fs++#[.func (.yield (w.heap.size+1)) #[] #[]]},w2,gf,(fs++#[.func (.yield (w.heap.size+1)) #[] #[]])++cs,w2,?_,?_,?_,?_,fun h=>(by cases h),?_⟩
    · rw [← v8,kK];exact run_enterLoop_outer _ _ _ _ _
    · simp only [Go.resolve,kF,Deferred.ofValue]
      simp [Sem.run_pure,Act.eval]
    · intro f' _;trivial
    · have hn:=hnm gf fn' jk
      have wS:¬ fn'.body=none:=by intro hb;rw [hb] at yV;cases yV
      have vl : ¬ fn'.name = "runtime.NumGoroutine" := by simpa using hn
      simp [invoke,callFunc,jk,wS,vl]
    ·
      have yL:zAX w2 (fun b=>Φ b∨∃ r∈R,b∈L r) zB6 (first++PV.yld (w.heap.size+1)::caps) (fs.toList ++ .func (.yield (w.heap.size+1)) #[] #[]::cs.toList) []:=by
        have hs:zDf w w2 (fun b=>Φ b∨∃ r∈R,b∈L r) (fun b=>Φ b∨∃ r∈R,b∈L r):=fun b hb=>⟨hb,qd b (hΨs b hb)⟩
        have h1:=wg.mono hs (fun _ _ _ h=>h) (by simp)
        have h2:=j3.mono hs (fun _ _ _ h=>h) (by simp)
        have h3:zAX w2 (fun b=>Φ b∨∃ r∈R,b∈L r) zB6 (PV.yld (w.heap.size+1)::caps) (.func (.yield (w.heap.size+1)) #[] #[]::cs.toList) []:=⟨_,_,[],[],rfl,rfl,⟨rfl,rfl⟩,h2⟩
        have:=h1.append h3
        simpa using this
      obtain ⟨hZ,jl⟩:=zLs yL
      obtain ⟨vs,yf⟩:∃ vs:Array Value,vs=(fs++#[.func (.yield (w.heap.size+1)) #[] #[]])++cs:=⟨_,rfl⟩
      have jy:vs.toList=fs.toList ++ .func (.yield (w.heap.size+1)) #[] #[]::cs.toList:=by rw [yf];simp
      obtain ⟨args,hargs_⟩:∃ args,first++PV.yld (w.heap.size+1)::caps=args:=⟨_,rfl⟩
      rw [hargs_] at jl hZ wI uU
      rw [← jy] at jl hZ
      have hvz:vs.size=args.length:=by rw [← hZ];simp
      have LA:∀ t∈ps.toList,t∈ps.toList++zBI ca++zBI cb:=fun t ht=>by simp [ht]
      have v7:∀ d∈zBI ca,d∈ps.toList++zBI ca++zBI cb:=fun t ht=>by simp [ht]
      have LB:∀ d∈zBI cb,d∈ps.toList++zBI ca++zBI cb:=fun t ht=>by simp [ht]
      have hw1:=S.conf.size
      have qB:=zQI (hv:=⟨val,{target := .collected w.heap.size,args:=#[]}::ds⟩) (aM:={a with defers:=[{target := .collected w.heap.size,args:=#[]}]++a.defers}) (w0:=w1) (U:=U1) (Φ0:=Φ1) (rv:=rv) (yo:=yo) (al:=zB5) (hh:=hh) (m:=m) (H:=H) zE4 jF hnm y5 gw gx gy gz LA v7 LB
        (l:=w.heap.size+1) (D:=w.heap.size) (size2:=w2.heap.size) (rc:=rc) (by rw [kK]) (by rw [kK]) (by rw [kK]) (by rw [kK]) (by rw [kK]) (by rw [kK]) (by omega) (by omega) (by omega) (by omega) (by omega) (Φs:=Φ) (Ls:=L) (R:=R) (plan:=plan) (k0:=k0) (res:=res) y8
      have p1:∀ s,zAb≤s→(zA5 args []).get s = .bad:=fun s hs=>by
        rw [zC8 (by omega),if_neg (by omega),if_neg (by simp only [List.length_nil];omega)]
      have p2:Conf w2 (fun b=>∃ s,b∈((fun _=>[]):Nat→List Nat) s) (fun b=>Φ b∨∃ r∈R,b∈L r) w2 (fun b=>Φ b∨∃ r∈R,b∈L r) (fun s=>(vs[s]?).getD undef) (fun s=>(zA5 args []).get s) (fun _=>[]):=by
        refine ⟨fun s=>?_,fun _=>List.nodup_nil,fun _ _ _ _ h=>(by cases h),fun _ _ h=>(by cases h),fun b hb=>⟨by have:=hΨs b hb;omega,.inl hb⟩,fun _ h=>h,Nat.le_refl _,fun _ _ _=>rfl,rfl,rfl,rfl⟩
        show Rep _ _ _ ((zA5 args []).get s) _ _
        rw [zC8 (by omega)]
        by_cases h1:s<args.length
        · rw [if_pos h1]
          obtain ⟨v,uL,ke⟩:=jl s args[s] (List.getElem?_eq_getElem h1)
          have:vs[s]? = some v:=by rw [← Array.getElem?_toList];exact uL
          rw [this]
          simp only [List.getD,List.getElem?_eq_getElem h1,Option.getD_some]
          exact ke.mono (fun b hb=>⟨hb,rfl⟩) (fun _ _ _ h=>h.elim) (by simp)
        · rw [if_neg h1,if_neg (by simp only [List.length_nil];omega)]
          rfl
      have p3:∀ j,j<args.length→vs[j]? = some ((vs[j]?).getD undef):=fun j hj=>by rw [Array.getElem?_eq_getElem (by omega)];rfl
      have p4:∀ s,args.length≤s→s<zAm→(vs[s]?).getD undef=undef:=fun s hs _=>by rw [Array.getElem?_eq_none (by omega)];rfl
      have kh:∀ s,∀ b∈L s,b<w.heap.size:=fun s b hb=>(S.conf.own s b hb).1
      have hΦo:∀ b,Φ b→b<w.heap.size:=fun b hb=>(S.conf.frz b hb).1
      have hC2:Conf w1 U1 Φ1 w2 Φ rv E L:=S.conf.moved (by omega) (fun s b hb=>qd b (kh s b hb)) (fun b hb=>qd b (hΦo b hb)) (fun b hb _=>qd b (by omega)) wF
      have hSide:Side w1 U1 Φ1 nt ⟨val,{target := .collected w.heap.size,args:=#[]}::ds⟩ {a with defers:=[{target := .collected w.heap.size,args:=#[]}]++a.defers} rv (w.heap.size+1) w.heap.size w2.heap.size rc Φ L R w2 e Φ E L (fun b=>b<w2.heap.size):=by
        refine ⟨⟨hC2,S.env,S.size,S.small,S.tmps,S.parts,S.hid,by simp [S.dfr]⟩,hb,h2l,h2D,fun s h=>?_,fun s h=>?_,fun h=>?_,fun h=>?_,fun s b hb=>?_,fun b hb=>?_,fun b hb=>hb,fun b hb=>hb,fun b hb=>hb,fun r _=>rfl⟩
        · have:=kh s _ h;omega
        · have:=kh s _ h;omega
        · have:=hΦo _ h;omega
        · have:=hΦo _ h;omega
        · have:=kh s b hb;show b<w2.heap.size;omega
        · have:=hΦo b hb;show b<w2.heap.size;omega
      have kV:=wI _ _ _ qB w2 (fun b=>Φ b∨∃ r∈R,b∈L r) (fun s=>(vs[s]?).getD undef) (fun s=>(zA5 args []).get s) (fun _=>[]) vs (fun b=>b<w2.heap.size) (fun _ _=>rfl) p1 p2 hvz p3 p4
        ⟨plan,e,Φ,E,L,rfl,qA,hSide⟩ (fun _ _ _=>by simp) (fun b hb => .inl hb)
      rw [yf] at kV
      refine kV.mono fun en w3 ⟨⟨v,uy⟩,hend⟩=>?_
      subst uy
      have behind:∀ (rc3:Go.Loop) (e3:Env) (Φ3:Nat→Prop) (E3:Nat→PV) (L3:Nat→List Nat),w3.heap[w.heap.size+1]? = some (.loop rc3)→rc3.state ≠ .busy→w3.heap[w.heap.size]? = some (.deferred (some []))→(∀ s,w.heap.size+1∉L3 s)→(∀ s,w.heap.size∉L3 s)→¬ Φ3 (w.heap.size+1)→¬ Φ3 w.heap.size →
          St w1 U1 Φ1 nt ⟨val,{target := .collected w.heap.size,args:=#[]}::ds⟩ {a with defers:=[{target := .collected w.heap.size,args:=#[]}]++a.defers} w3 e3 Φ3 rv E3 L3→zBk E3 →
          ∃ w4,(Instr.endLoop (w.heap.size+1)).run P w3 = .ok rc3.pending w4∧GB w0 U Φ0 nt val {a with defers:=[{target := .collected w.heap.size,args:=#[]}]++a.defers} w4 e3 none:=by
        intro rc3 e3 Φ3 E3 L3 vP yK qg hlL hdL hlΦ hdΦ S3 qX
        obtain ⟨w4,hw4⟩:∃ w4,w3.putObj (w.heap.size+1) (.loop {rc3 with state := .exhausted})=w4:=⟨_,rfl⟩
        have qe:∀ b,b≠w.heap.size+1→w4.heap[b]? = w3.heap[b]?:=fun b hb=>by rw [← hw4];exact World.putObj_heap_other hb
        have h4s:w4.heap.size=w3.heap.size:=by rw [← hw4];simp
        have wG:w4.os=w3.os∧w4.tape=w3.tape∧w4.output=w3.output:=by rw [← hw4];exact ⟨rfl,rfl,rfl⟩
        have LD:Conf w1 U1 Φ1 w4 Φ3 rv E3 L3:=S3.conf.moved (by omega) (fun s b hb=>qe b fun h=>hlL s (h▸hb)) (fun b hb=>qe b fun h=>hlΦ (h▸hb)) (fun b hb _=>qe b (by omega)) wG
        have LC:w.heap.size<w3.heap.size:=(Array.getElem?_eq_some_iff.1 qg).1
        have hsz4:=LD.size
        refine ⟨w4,by rw [← hw4];exact run_endLoop vP yK,rfl,w4,_,Φ3,{target := .collected w.heap.size,args:=#[]}::ds,wy.trans LD.rel,⟨fun d hd=>?_,?_⟩,Φ3,rv,E3,L3,S3.with LD.fresh,qX⟩
        · rcases List.mem_cons.1 hd with rfl | hd
          · exact ⟨_,rfl,by have:=wy.size;omega,by omega,(qe _ (by omega)).trans qg,fun ⟨s,hs⟩=>hdL s hs,hdΦ⟩
          · obtain ⟨D,q1,q0,q2,q3,q4,q5⟩:=wW.each d hd
            refine ⟨D,q1,q0,by omega,(LD.kept D q2 q4).trans q3,fun ⟨s,hs⟩=>?_,fun h=>?_⟩
            · rcases (LD.own s D hs).2.2 with h | h
              · exact q4 h
              · omega
            · rcases (LD.frz D h).2 with h | h | h
              · exact q5 h
              · exact q4 h
              · omega
        · refine List.pairwise_cons.2 ⟨fun d hd D D' h1 h2=>?_,wW.apart⟩
          obtain ⟨D2,q1,_,q2,_⟩:=wW.each d hd
          rw [h2] at q1;cases q1;cases h1
          omega
      rcases hend with ⟨hk,B',rest,e3,Φ3,E3,L3,r1,r2,S3⟩ | ⟨hk,r,Φ3,E3,L3,⟨j,r1⟩,r2,S3⟩
      · have:rest=[]:=by simpa using r1
        subst this
        simp only [zC0,Option.some.injEq] at r2
        subst r2
        have gS:x = .norm:=by
          rcases hx with ⟨_,h⟩ | ⟨j,h⟩
          · exact h
          · cases h
        subst gS
        obtain ⟨w4,g1,g2⟩:=behind rc e3 Φ3 E3 L3 S3.recd (by rw [kK];simp) S3.mark S3.lL S3.dL S3.lΦ S3.dΦ S3.st S3.emp
        rw [show rc.pending=none by rw [kK]] at g1
        exact ⟨none,w4,g1,rfl,g2⟩
      · have vf:x=r:=by
          rcases hx with ⟨h,_⟩ | ⟨j',h⟩
          · rw [h] at r1;cases r1
          · rw [h] at r1;cases r1;rfl
        subst vf
        obtain ⟨w4,g1,g2⟩:=behind _ _ Φ3 E3 L3 S3.recd (by simp) S3.mark S3.lL S3.dL S3.lΦ S3.dΦ S3.st S3.emp
        refine ⟨_,w4,g1,?_⟩
        cases x with
        | norm=>cases r2
        | ret=>exact wpIn_ret ⟨rfl,g2⟩
        | ex id=>exact wpIn_exit ⟨rfl,g2⟩
theorem zWK {val:Nat→Value} (zE4:P.follows .mixedOrders=true) (jF:zF9 P orc) (hnm:zEL P) (qf:zMH P yo):zD7 P H orc yo zB5 nt hh none 0 (GB w0 U Φ0 nt val) m:=by
 intro m' _ t ps ca cb a w e x e' jJ hG h
 simp only [exec] at h
 obtain ⟨⟨x1,e1⟩,h1,h2⟩:=Option.map_eq_some_iff.1 h
 simp only [Option.some.injEq,Prod.mk.injEq,and_true] at h2
 obtain ⟨rfl,rfl⟩:=h2
 exact zRA zE4 jF hnm qf jJ hG.2 h1
end
end Go.Eng
