/- For all numbers, cries, which and when the law NewsAlone ends in true: chains do not matter to each other; without conditions. -/
import Derived.Test.YtppbomajegnkeaaGreatPb
import Derived.MapKept
import Derived.OrdersIn
import Derived.LoopNIn
import Derived.RangeFuncRecord
import Derived.RangeFuncLeaves
import Derived.RangeFuncSeq
set_option linter.unusedVariables false
set_option linter.unusedSimpArgs false
set_option linter.unusedSectionVars false
namespace Go.Eng
open Go
section
variable {P:Program} {w0 w:World} {U Φ0 Φ:Nat→Prop} {nt:Nat} {hv:Hid} {a:Act} {e e':Env} {rv:Nat→Value} {E:Nat→PV} {L:Nat→List Nat} {o:zAD} {A:Al}
theorem zON {empty:Bool} {n:Nat} {ok:TypeId→PV→Bool} {p:PV} {xs:Array Value} (hp:Rep w Φ A p (.agg xs) [])
    (hd:∀ t p x,ok t p=true→Rep w Φ A p x []→(Instr.checkKey empty n t x).run P w = .ok () w) :
    ∀ (fs:List Field),zT1 ok (shT P) p fs=true→((forIn fs () fun f _=>do
      if f.name ≠ "_" then
        Instr.checkKey empty n f.type (← part f.type xs f.offset)
        pure (.yield ())
      else pure (.yield ()):Sem Unit)).run P w = .ok () w
  | [],_=>by simp
  | f :: fs,h=>by
    simp only [zT1,Bool.and_eq_true] at h
    have ih:=zON hp hd fs h.2
    simp only [List.forIn_cons,Sem.run_bind]
    by_cases hn : f.name = "_"
    · simp only [hn,ne_eq,not_true_eq_false,if_false,Sem.run_pure,Result.andThen_ok]
      exact ih
    · have h1:=h.1
      rw [if_neg hn] at h1
      rw [if_pos hn]
      cases hs:shT P f.type with
      | none=>rw [hs] at h1;cases h1
      | some sh =>
        rw [hs] at h1;simp only at h1
        cases y8:sub p f.offset sh with
        | none=>rw [y8] at h1;cases h1
        | some q =>
          rw [y8] at h1;simp only at h1
          obtain ⟨u,h3,h4⟩:=zFD hs hp y8
          simp only [Sem.run_bind,h3,Result.andThen_ok,hd _ _ _ h1 h4,Sem.run_pure]
          exact ih
theorem zOK {empty:Bool} {n:Nat} {ok:PV→Bool} {el:TypeId} {sh:Option Nat} {i:TypeInfo} (hs:shT P el=some sh) (hi:P.info? el=some i) {p:PV} {xs:Array Value} (hp:Rep w Φ A p (.agg xs) [])
  (hd:∀ p x,ok p=true→Rep w Φ A p x []→(Instr.checkKey empty n el x).run P w = .ok () w) :
  ∀ (m k:Nat),zS2 ok sh i.size p k m=true→((forIn (List.range' k m 1) () fun j _=>do
   Instr.checkKey empty n el (← part el xs (j*(← sizeOf el)))
   pure (.yield ()):Sem Unit)).run P w = .ok () w
 | 0,k,_=>by simp
 | m + 1,k,h=>by
  simp only [zS2,Bool.and_eq_true] at h
  have ih:=zOK (empty:=empty) hs hi hp hd m (k+1) h.2
  have h1:=h.1
  simp only [List.range'_succ,List.forIn_cons,Sem.run_bind]
  cases y8:sub p (k*i.size) sh with
  | none=>rw [y8] at h1;cases h1
  | some q =>
   rw [y8] at h1;simp only at h1
   obtain ⟨u,h3,h4⟩:=zFD hs hp y8
   simp only [zAV hi,Result.andThen_ok,h3,hd _ _ h1 h4,Sem.run_pure]
   exact ih
theorem zJF {empty:Bool}:∀ (n d:Nat) (t:TypeId) (p:PV) (x:Value),n≤d→zPd P n t p=true→Rep w Φ A p x []→(Instr.checkKey empty d t x).run P w = .ok () w
 | 0,d,t,p,x,_,h,_=>by cases h
 | n+1,0,t,p,x,hd,h,_=>by omega
 | n + 1,d+1,t,p,x,hd,h,hp=>by
  have yN:n≤d:=by omega
  simp only [zPd] at h
  split at h
  ·rename_i ht
   rw [hp.1];simp [Instr.checkKey,run_underlying ht]
  ·rename_i ht
   rw [hp.1];simp [Instr.checkKey,run_underlying ht]
  ·rename_i fs xs ht
   obtain ⟨vs,rfl,jf⟩:=hp
   have:=zON (empty:=empty) (n:=d) (p := .agg xs) ⟨vs,rfl,jf⟩ (fun t p x h1 h2=>zJF n d t p x yN h1 h2) fs.toList h
   simp only [Instr.checkKey,Sem.run_bind,run_underlying ht,Result.andThen_ok]
   simp only [ne_eq,ite_not] at this ⊢
   simp at this ⊢
   rw [this];rfl
  ·rename_i len el xs ht
   split at h
   ·rename_i sz sh yF j6
    obtain ⟨vs,rfl,jf⟩:=hp
    obtain ⟨i,hi,_⟩:=zER (w:=w) j6
    have qt:i.size=sz:=by simp only [szT,hi,Option.map_some,Option.some.injEq] at yF;exact yF
    subst qt
    have:=zOK (empty:=empty) (n:=d) (p := .agg xs) j6 hi ⟨vs,rfl,jf⟩ (fun p x h1 h2=>zJF n d el p x yN h1 h2) len 0 h
    simp only [Instr.checkKey,Sem.run_bind,run_underlying ht,Result.andThen_ok,Std.Legacy.Range.forIn_eq_forIn_range',Std.Legacy.Range.size,Nat.sub_zero,Nat.add_sub_cancel,Nat.div_one]
    simp at this ⊢
    rw [this];rfl
   ·cases h
  ·cases h
theorem zKK {kt:TypeId} {d:TypeDesc} {kv:Value} (hd:P.underlying kt=some d):∀ {ms:List MapEntry} {i:Nat},(∀ x y,Instr.sameNow d x y=none)→Instr.findNow d kv ms i=none∨ms=[]
 | [],_,_ => .inr rfl
 | m::ms,i,h => .inl (by simp only [Instr.findNow,h])
theorem zDv {kt:TypeId} {key:PV} {kv:Value} (hk:Rep w Φ A key kv []):∀ (es:List (PV×PV)) (ms:List MapEntry) (i:Nat) (r:Option Nat),zC7 P kt key es i=some r→zDO w Φ es ms i →
  (Instr.findAsking kt kv ms i).run P w = .ok (r.bind fun j=>(ms[j-i]?).map fun m=>(j,m.val)) w∧∀ j,r=some j→i≤j∧j-i<ms.length∧∃ k v m,es[j-i]? = some (k,v)∧ms[j-i]? = some m∧zFP key.cells k.cells=some true∧Rep w Φ zCb k m.key []∧Rep w Φ zCb v m.val []∧m.born=j
 | [],ms,i,r,h,hm=>by
  simp only [zC7,Option.some.injEq] at h;subst h
  simp only [zDO] at hm;subst hm
  exact ⟨rfl,fun j hj=>by cases hj⟩
 | (k, p)::es,ms,i,r,h,hm=>by
  obtain ⟨m,ms',rfl,hb,h1,h2,h3⟩:=hm
  have j1:Rep w Φ A k m.key []:=h1.mono zDm.refl (fun _ _ _ h=>h.elim) (by simp)
  simp only [zC7] at h
  split at h
  ·rename_i he
   split at h
   ·rename_i hc
    simp only [Option.some.injEq] at h;subst h
    have:=zKD 20 kt key k true kv m.key Op.maxDepth (by decide) he hk j1
    refine ⟨?_,fun j hj=>?_⟩
    ·simp [Instr.findAsking,Op.equal,this]
    ·cases hj
     exact ⟨Nat.le_refl _,by simp,k,p,m,by simp,by simp,hc,h1,h2,hb⟩
   ·cases h
  ·rename_i he
   have:=zKD 20 kt key k false kv m.key Op.maxDepth (by decide) he hk j1
   obtain ⟨g1,g2⟩:=zDv hk es ms' (i+1) r h h3
   refine ⟨?_,fun j hj=>?_⟩
   ·simp only [Instr.findAsking,Op.equal,Sem.run_bind,this,Result.andThen_ok,Bool.false_eq_true,if_false,g1]
    cases r with
    | none=>rfl
    | some j =>
     obtain ⟨k1,k2,_⟩:=g2 j rfl
     simp only [Option.bind_some]
     rw [show j-i=(j-(i+1))+1 by omega];simp
   ·obtain ⟨k1,k2,k',v',m',k3,k4,k5⟩:=g2 j hj
    have vq:j-i=(j-(i+1))+1:=by omega
    refine ⟨by omega,by rw [vq];simp;omega,k',v',m',by rw [vq];simpa using k3,by rw [vq];simpa using k4,k5⟩
  ·cases h
theorem zIZ {kt:TypeId} {k:IntKind} {n:Int} {key:PV} {kv:Value} (hd:∃ k0,P.underlying kt=some (.int k0)) (qA:kv = .int k n) (yS:key = .int k n):∀ (es:List (PV×PV)) (ms:List MapEntry) (i:Nat) (r:Option Nat),zC7 P kt key es i=some r→zDO w Φ es ms i →
  ∀ k0,Instr.findNow (.int k0) kv ms i=some (r.bind fun j=>(ms[j-i]?).map fun m=>(j,m.val))
 | [],ms,i,r,h,hm,_=>by
  simp only [zC7,Option.some.injEq] at h;subst h
  simp only [zDO] at hm;subst hm;rfl
 | (q, p)::es,ms,i,r,h,hm,k0=>by
  obtain ⟨k1,hd⟩:=hd
  obtain ⟨m,ms',rfl,hb,h1,h2,h3⟩:=hm
  simp only [zC7] at h
  have hq:∀ b,eqT P 20 kt key q=some b→∃ n',q = .int k n'∧b=(n==n'):=by
   intro b he
   rw [yS] at he
   simp only [eqT,hd] at he
   cases q<;>simp only at he<;>try (cases he;done)
   split at he
   ·rename_i vY;subst vY;cases he;exact ⟨_,rfl,rfl⟩
   ·cases he
  split at h
  ·rename_i he
   obtain ⟨n',rfl,hn⟩:=hq _ he
   split at h
   ·simp only [Option.some.injEq] at h;subst h
    simp only [Instr.findNow,h1.1,qA,Instr.sameNow,if_true,← hn]
    simp
   ·cases h
  ·rename_i he
   obtain ⟨n',rfl,hn⟩:=hq _ he
   have g1:=zIZ ⟨k1,hd⟩ qA yS es ms' (i+1) r h h3 k0
   simp only [Instr.findNow,h1.1,qA,Instr.sameNow,if_true,← hn]
   rw [qA] at g1
   rw [g1]
   cases r with
   | none=>rfl
   | some j =>
    obtain ⟨k1,_⟩:=(zDv (P:=P) (A:=zCb) (key:=key) (kv := .int k n) (by rw [yS];exact ⟨rfl,rfl⟩) es ms' (i+1) (some j) h h3).2 j rfl
    simp only [Option.bind_some]
    rw [show j-i=(j-(i+1))+1 by omega];simp
  ·cases h
theorem zHX {kt:TypeId} {n:Bool} {key:PV} {kv:Value} (hd:P.underlying kt=some .bool) (qA:kv = .bool n) (yS:key = .bool n):∀ (es:List (PV×PV)) (ms:List MapEntry) (i:Nat) (r:Option Nat),zC7 P kt key es i=some r→zDO w Φ es ms i →
  Instr.findNow .bool kv ms i=some (r.bind fun j=>(ms[j-i]?).map fun m=>(j,m.val))
 | [],ms,i,r,h,hm=>by
  simp only [zC7,Option.some.injEq] at h;subst h
  simp only [zDO] at hm;subst hm;rfl
 | (q, p)::es,ms,i,r,h,hm=>by
  obtain ⟨m,ms',rfl,hb,h1,h2,h3⟩:=hm
  simp only [zC7] at h
  have hq:∀ b,eqT P 20 kt key q=some b→∃ n',q = .bool n'∧b=(n==n'):=by
   intro b he
   rw [yS] at he
   simp only [eqT,hd] at he
   cases q<;>simp only at he<;>try (cases he;done)
   cases he;exact ⟨_,rfl,rfl⟩
  split at h
  ·rename_i he
   obtain ⟨n',rfl,hn⟩:=hq _ he
   split at h
   ·simp only [Option.some.injEq] at h;subst h
    simp only [Instr.findNow,h1.1,qA,Instr.sameNow,← hn]
    simp
   ·cases h
  ·rename_i he
   obtain ⟨n',rfl,hn⟩:=hq _ he
   have g1:=zHX hd qA yS es ms' (i+1) r h h3
   simp only [Instr.findNow,h1.1,qA,Instr.sameNow,← hn]
   rw [qA] at g1
   rw [g1]
   cases r with
   | none=>rfl
   | some j =>
    obtain ⟨k1,_⟩:=(zDv (P:=P) (A:=zCb) (key:=key) (kv := .bool n) (by rw [yS];exact ⟨rfl,rfl⟩) es ms' (i+1) (some j) h h3).2 j rfl
    simp only [Option.bind_some]
    rw [show j-i=(j-(i+1))+1 by omega];simp
  ·cases h
theorem zHB {kt:TypeId} {key:PV} {kv:Value} (ht:zPd P 20 kt key=true) (hk:Rep w Φ A key kv []) {es:List (PV×PV)} {ms:List MapEntry} {r:Option Nat} (h:zC7 P kt key es 0=some r) (hm:zDO w Φ es ms 0) :
  (Instr.findKey kt kv ms).run P w = .ok (r.bind fun j=>(ms[j]?).map fun m=>(j,m.val)) w:=by
 have h1:=(zDv hk es ms 0 r h hm).1
 simp only [Nat.sub_zero] at h1
 simp only [zPd] at ht
 split at ht
 ·rename_i k0 k n hd
  have h2:=zIZ (key := .int k n) ⟨_,hd⟩ hk.1 rfl es ms 0 r h hm k0
  simp only [Nat.sub_zero] at h2
  simp only [Instr.findKey,Sem.run_bind,run_underlying hd,Result.andThen_ok,h2,Sem.run_pure]
 ·rename_i b hd
  have h2:=zHX (key := .bool b) hd hk.1 rfl es ms 0 r h hm
  simp only [Nat.sub_zero] at h2
  simp only [Instr.findKey,Sem.run_bind,run_underlying hd,Result.andThen_ok,h2,Sem.run_pure]
 ·rename_i fs xs hd
  simp only [Instr.findKey,Sem.run_bind,run_underlying hd,Result.andThen_ok]
  rcases zKK (kv:=kv) hd (ms:=ms) (i:=0) (fun x y=>by simp [Instr.sameNow]) with h2 | rfl
  ·rw [h2];exact h1
  ·simp only [Instr.findNow,Sem.run_pure];rw [← h1];rfl
 ·rename_i len el xs hd
  simp only [Instr.findKey,Sem.run_bind,run_underlying hd,Result.andThen_ok]
  rcases zKK (kv:=kv) hd (ms:=ms) (i:=0) (fun x y=>by simp [Instr.sameNow]) with h2 | rfl
  ·rw [h2];exact h1
  ·simp only [Instr.findNow,Sem.run_pure];rw [← h1];rfl
 ·cases ht
theorem zMo {p:PV} {v:Value} (h:Rep w Φ A p v []):Rep w Φ A (zJd p) v []:=by
 unfold zJd
 split
 ·rcases h with ⟨_,_,rfl⟩ | ⟨a,n,c,us,L',h,_⟩
  ·exact ⟨rfl,.inl ⟨rfl,none,0,rfl,fun _=>rfl⟩⟩
  ·cases h
 ·exact h
theorem zM6 {p:PV} {v:Value} {M:List Nat} (hp:p.lone0=true) (h:Rep w Φ A p v M):M=[]∧Rep w Φ zCb p v []:=by
 cases p<;>first | (cases hp;done) | skip
 case int=>exact ⟨h.2,h.1,rfl⟩
 case bool=>exact ⟨h.2,h.1,rfl⟩
 case nilp=>exact ⟨h.2,h.1,rfl⟩
 case nilf=>exact ⟨h.2,h.1,rfl⟩
 case nilm=>exact ⟨h.2,h.1,rfl⟩
 case nn=>exact ⟨h.1,rfl,h.2⟩
 case nils=>exact ⟨h.2,h.1,rfl⟩
 case sl=>exact ⟨h.1,rfl,h.2⟩
 case map=>exact ⟨h.1,rfl,h.2⟩
theorem zKi:∀ {ps:List PV} {vs:List Value} {M:List Nat},ps.all PV.lone0=true→zAX w Φ A ps vs M→M=[]∧zAX w Φ zCb ps vs []
 | [],vs,M,_,h=>⟨h.2,h.1,rfl⟩
 | p::ps,vs,M,hp,h=>by
  simp only [List.all_cons,Bool.and_eq_true] at hp
  obtain ⟨v,vs',L1,L2,rfl,rfl,h1,h2⟩:=h
  obtain ⟨rfl,h3⟩:=zM6 hp.1 h1
  obtain ⟨rfl,h4⟩:=zKi hp.2 h2
  exact ⟨rfl,v,vs',[],[],rfl,rfl,h3,h4⟩
theorem zGO {p:PV} {v:Value} {M:List Nat} (hp:p.lone=true) (h:Rep w Φ A p v M):M=[]∧Rep w Φ zCb p v []:=by
 cases p<;>first | exact zM6 hp h | skip
 obtain ⟨vs,rfl,h⟩:=h
 obtain ⟨rfl,h2⟩:=zKi hp h
 exact ⟨rfl,vs,rfl,h2⟩
theorem zKE (S:St w0 U Φ0 nt hv a w e Φ rv E L) (hb:zBo E) {d:Option Nat} (hd:∀ x,d=some x→x<nt) {p:PV} {v:Value} {b:Bool} (hp:Rep w Φ zCb p v []) (uk:p.lone=true) (h:(zDp d (.tup [p,.bool b])).run o e=some e') :
  Fr w0 U Φ0 nt hv (a.put d (.tuple #[v,.bool b])) w e':=by
 have jv:=S.small
 cases d with
 | none =>
  simp only [zDp] at h
  exact zAu S hb hd h ⟨#[v,.bool b],rfl,v,[.bool b],[],[],rfl,rfl,hp.mono zDm.refl (fun _ _ _ h=>h.elim) (by simp),.bool b,[],[],[],rfl,rfl,⟨rfl,rfl⟩,rfl,rfl⟩
 | some d =>
  have uH:=hd d rfl
  simp only [zDp] at h
  obtain ⟨kZ,h⟩:=zAE h
  simp only [PM.run] at h
  simp only [Bool.and_eq_true] at kZ
  obtain ⟨L1,S1⟩:=S.empty uH
  have S2:=S1.hold (g:=zAb) (Nat.le_refl _) (hp.mono (A':=zA2 w rv (upd E d .bad)) zDm.refl (fun _ _ _ h=>h.elim) (by simp))
  have S3:=S2.hold (g:=zAb+1) (by omega) (p := .bool b) (v := .bool b) ⟨rfl,rfl⟩
  refine zEX uH (vs:=#[v,.bool b]) [p,.bool b] 0 S3 (fun ps hp=>?_) (by simp) (by simp) (fun j q hq=>?_) (fun g hg hI=>?_) (fun x hx=>?_) (fun j hj=>by omega) h
  ·rw [zAf (by simp only [zAb];omega),zAf (by simp only [zAb];omega),zAj] at hp;cases hp
  ·match j,hq with
   | 0,hq =>
    simp at hq;subst hq
    rw [show zAb+0+0=zAb from rfl]
    refine ⟨by rw [zAf (by omega),zAj],?_⟩
    rw [zAf (by omega),zAj];rfl
   | 1,hq =>
    simp at hq;subst hq
    rw [show zAb+0+1=zAb+1 from rfl]
    refine ⟨by rw [zAj],?_⟩
    rw [zAj];rfl
  ·have h0:=hI 0 (by simp)
   have h1:=hI 1 (by simp)
   rw [zAf (by omega),zAf (by omega)]
   by_cases qc:g=d
   ·subst qc;rw [zAj]
   ·rw [zAf qc];exact hb g hg
  ·simpa using List.all_eq_true.1 kZ.2 x hx
theorem zLq (S:St w0 U Φ0 nt hv a w e Φ rv E L) (hb:zBo E) {d:Option Nat} (hd:∀ x,d=some x→x<nt) {t kt el:TypeId} {z key:PV} {kv zv:Value} {ok:Bool} {es:List (PV×PV)} {ms:Array MapEntry} {mv:Value} (ht:P.underlying t=some (.map kt el)) (vZ:zPd P 20 kt key=true) (hk:Rep w Φ (zA2 w rv E) key kv [])
  (hz:(zeroValue el).run P w = .ok zv w) (qB:Rep w Φ zCb z zv []) (hzp:z.lone=true) (hm:zDO w Φ es ms.toList 0) (v6:mv = .map none∧ms=#[]∨∃ b n,mv = .map (some b)∧w.heap[b]? = some (.map ms n))
  (h:(zJy P d kt z key ok es).run o e=some e'):∃ v,(Instr.lookup t mv kv ok).run P w = .ok v w∧Fr w0 U Φ0 nt hv (a.put d v) w e':=by
 simp only [zJy] at h
 cases hf:zC7 P kt key es 0 with
 | none=>rw [hf] at h;cases h
 | some r =>
  rw [hf] at h
  have yS:=zHB vZ hk hf hm
  have u4:=zJF (empty:=ms.isEmpty) 20 10000 kt key kv (by decide) vZ hk
  have yA:∀ v ok',(match (r.bind fun j=>(ms.toList[j]?).map fun m=>(j,m.val)) with
    | some (_,v)=>(v,true)
    | none=>(zv,false))=(v,ok')→(Instr.lookup t mv kv ok).run P w = .ok (if ok then .tuple #[v,.bool ok'] else v) w:=by
   intro v ok' he
   revert he yS
   generalize (r.bind fun j=>(ms.toList[j]?).map fun m=>(j,m.val))=q
   intro yS he
   rcases v6 with ⟨rfl,rfl⟩ | ⟨b,n,rfl,yH⟩
   ·cases q with
    | none=>cases he;simp only [Instr.lookup,Sem.run_bind,run_underlying ht,Result.andThen_ok,Sem.run_pure,u4,yS,hz]
    | some x=>cases he;simp only [Instr.lookup,Sem.run_bind,run_underlying ht,Result.andThen_ok,Sem.run_pure,u4,yS]
   ·cases q with
    | none=>cases he;simp only [Instr.lookup,Sem.run_bind,run_underlying ht,Result.andThen_ok,Sem.run_pure,MapKept.run_getObj_map yH,u4,yS,hz]
    | some x=>cases he;simp only [Instr.lookup,Sem.run_bind,run_underlying ht,Result.andThen_ok,Sem.run_pure,MapKept.run_getObj_map yH,u4,yS]
  cases r with
  | none =>
   have:=yA zv false rfl
   refine ⟨_,this,?_⟩
   simp only at h
   cases ok with
   | true=>exact zKE S hb hd qB hzp (by simpa using h)
   | false =>
    simp only [Bool.false_eq_true,if_false] at h ⊢
    have h':(put d z).run o e=some e':=by
     revert h;cases d<;>simp only [zDp]<;>cases z<;>first | exact fun h=>h | (cases hzp;done)
    exact zAu S hb hd h' (qB.mono zDm.refl (fun _ _ _ h=>h.elim) (by simp))
  | some i =>
   obtain ⟨_,_,k,v,m,h3,h4,_,_,h5,_⟩:=(zDv hk es ms.toList 0 (some i) hf hm).2 i rfl
   simp only [Nat.sub_zero] at h3 h4
   have:=yA m.val true (by simp only [Option.bind_some,h4,Option.map_some])
   refine ⟨_,this,?_⟩
   simp only [h3] at h
   obtain ⟨hvp,h⟩:=zAE h
   cases ok with
   | true=>exact zKE S hb hd h5 hvp (by simpa using h)
   | false =>
    simp only [Bool.false_eq_true,if_false] at h ⊢
    have h':(put d v).run o e=some e':=by
     revert h;cases d<;>simp only [zDp]<;>cases v<;>first | exact fun h=>h | (cases hvp;done)
    exact zAu S hb hd h' (h5.mono zDm.refl (fun _ _ _ h=>h.elim) (by simp))
theorem zK9 (S:St w0 U Φ0 nt hv a w e Φ rv E L) {r:Nat} {pre:zAR} {mv:Value} (hm:Rep w Φ (zA2 w rv E) (.bmap r pre) mv []) {es:List (PV×PV)} (hq:zAx (e.get r).unlock pre=some (.omap es)) :
  r<zAb∧∃ b ms,mv = .map (some b)∧w.heap[b]? = some (.map ms es.length)∧zDO w Φ es ms.toList 0:=by
 obtain ⟨_,hr,_,hn⟩:=hm
 rw [← S.env r hr] at hq
 obtain ⟨nv,La,Li,Lb,h1,_,h2,_⟩:=Rep.zip pre (zB3 (S.conf.rep r)) hq
 obtain ⟨b,ms,_,h3,h4,h5⟩:=h2
 have:=hn nv _ h1 es rfl
 exact ⟨hr,b,ms,this.trans h3,h4,h5⟩
theorem zQM (S:St w0 U Φ0 nt hv a w e Φ rv E L) (hb:zBo E) {d:Option Nat} (hd:∀ x,d=some x→x<nt) {t:TypeId} {m x:Operand} {ok:Bool} (hm:zAO nt m=true) (hx:zAO nt x=true) (h:(zIy P d t m x ok).run o e=some e') :
  ∃ v,(Instr.lookup t (a.eval m) (a.eval x) ok).run P w = .ok v w∧Fr w0 U Φ0 nt hv (a.put d v) w e':=by
 obtain ⟨p,h1,hp⟩:=zBq S hm h
 obtain ⟨key,h2,hk⟩:=zBq S hx h1
 split at h2
 ·rename_i kt el ht
  obtain ⟨vZ,h3⟩:=zAE h2
  obtain ⟨z,hz,h4⟩:=zBF h3
  obtain ⟨kM,h5⟩:=zAE h4
  obtain ⟨i,zv,_,_,uA,kG⟩:=zDH hz
  have qB:=zMo (zCd (w:=w) (Φ:=Φ) (A:=zCb) kG).1
  cases p<;>simp only [zT9] at h5<;>try (cases h5;done)
  case nilm=>exact zLq S hb hd (ms:=#[]) (es:=[]) ht vZ hk (uA w) qB kM (by simp [zDO]) (.inl ⟨hp.1,rfl⟩) h5
  case map es =>
   obtain ⟨_,b,ms,q1,_,q2,q3⟩:=hp
   exact zLq S hb hd ht vZ hk (uA w) qB kM q3 (.inr ⟨b,_,q1,q2⟩) h5
  case bmap r pre =>
   obtain ⟨q,hq,h6⟩:=zBI h5
   cases q<;>simp only at h6<;>try (cases h6;done)
   rename_i es
   obtain ⟨_,b,ms,q1,q2,q3⟩:=zK9 S hp hq
   exact zLq S hb hd ht vZ hk (uA w) qB kM q3 (.inr ⟨b,_,q1,q2⟩) h6
 ·cases h2
theorem zHk:∀ {ps qs:List PV} {us vs:List Value} {A A':Al},ps.all PV.num=true→zFP ps qs=some true→zAX w Φ A ps us []→zAX w Φ A' qs vs []→us=vs∧∀ u∈us,∀ n,Instr.sameBits n u u=true
 | [],[],us,vs,A,A',_,_,h1,h2=>by rw [h1.1,h2.1];exact ⟨rfl,by simp⟩
 | [],_::_,us,vs,A,A',_,h,_,_=>by cases h
 | p::ps,[],us,vs,A,A',_,h,_,_=>by cases h
 | p :: ps,q::qs,us,vs,A,A',hp,h,h1,h2=>by
  simp only [List.all_cons,Bool.and_eq_true] at hp
  obtain ⟨u,us',L1,L2,rfl,hL,h3,h4⟩:=h1
  obtain ⟨v,vs',M1,M2,rfl,hM,h5,h6⟩:=h2
  obtain ⟨rfl,rfl⟩:=List.append_eq_nil_iff.1 hL.symm
  obtain ⟨rfl,rfl⟩:=List.append_eq_nil_iff.1 hM.symm
  simp only [zFP] at h
  cases v7:zXm p q with
  | none=>rw [v7] at h;cases h
  | some b1 =>
   rw [v7] at h
   cases y7:zFP ps qs with
   | none=>rw [y7] at h;cases h
   | some b2 =>
    rw [y7] at h
    simp only [Option.some.injEq,Bool.and_eq_true] at h
    obtain ⟨rfl,rfl⟩:=h
    obtain ⟨ih1,ih2⟩:=zHk hp.2 y7 h4 h6
    have huv:u=v∧∀ n,Instr.sameBits n u u=true:=by
     cases p<;>first | (cases hp.1;done) | skip
     case int k n =>
      cases q<;>simp only [zXm] at v7<;>try (cases v7;done)
      split at v7
      ·rename_i hk;subst hk
       simp only [Option.some.injEq,beq_iff_eq] at v7;subst v7
       refine ⟨h3.1.trans h5.1.symm,fun n=>?_⟩
       rw [h3.1];cases n<;>simp [Instr.sameBits]
      ·cases v7
     case bool b =>
      cases q<;>simp only [zXm] at v7<;>try (cases v7;done)
      simp only [Option.some.injEq,beq_iff_eq] at v7;subst v7
      refine ⟨h3.1.trans h5.1.symm,fun n=>?_⟩
      rw [h3.1];cases n<;>simp [Instr.sameBits]
    refine ⟨by rw [huv.1,ih1],fun x hx n=>?_⟩
    rcases List.mem_cons.1 hx with rfl | hx
    ·exact huv.2 n
    ·exact ih2 x hx n
theorem zOz {p q:PV} {x y:Value} {A A':Al} (hp:p.flat=true) (h:zFP p.cells q.cells=some true) (h1:Rep w Φ A p x []) (h2:Rep w Φ A' q y []) (ha:q.isAgg=p.isAgg):x=y∧Instr.sameBits 10000 x x=true:=by
 cases p<;>first | (cases hp;done) | skip
 case agg cs =>
  cases q<;>first | (cases ha;done) | skip
  rename_i ds
  obtain ⟨us,rfl,h3⟩:=h1
  obtain ⟨vs,rfl,h4⟩:=h2
  obtain ⟨k1,k2⟩:=zHk (A:=A) (A':=A') hp h h3 h4
  refine ⟨by rw [Array.toList_inj.1 k1],?_⟩
  simp only [Instr.sameBits,BEq.rfl,Bool.true_and,List.all_eq_true]
  intro z hz
  obtain ⟨j,hj⟩:=List.getElem?_of_mem hz
  obtain ⟨g1,g2⟩:=List.getElem?_zip_eq_some.1 hj
  rw [g1] at g2
  simp only [Option.some.injEq] at g2
  rw [← g2]
  exact k2 _ (List.mem_of_getElem? g1) _
 case int k n =>
  cases q<;>first | (cases ha;done) | skip
  all_goals
   obtain ⟨k1,k2⟩:=zHk (A:=A) (A':=A') (ps:=[.int k n]) rfl h ⟨_,[],[],[],rfl,rfl,h1,rfl,rfl⟩ ⟨_,[],[],[],rfl,rfl,h2,rfl,rfl⟩
   exact ⟨by simpa using k1,k2 _ (by simp) _⟩
 case bool b =>
  cases q<;>first | (cases ha;done) | skip
  all_goals
   obtain ⟨k1,k2⟩:=zHk (A:=A) (A':=A') (ps:=[.bool b]) rfl h ⟨_,[],[],[],rfl,rfl,h1,rfl,rfl⟩ ⟨_,[],[],[],rfl,rfl,h2,rfl,rfl⟩
   exact ⟨by simpa using k1,k2 _ (by simp) _⟩
theorem zVN {n:Nat} {t:TypeId} {p q:PV} {b:Bool} (h:eqT P n t p q=some b):q.isAgg=p.isAgg:=by
 cases n with
 | zero=>cases h
 | succ n =>
  simp only [eqT] at h
  split at h<;>first | rfl | (cases h;done)
theorem zJr {kt:TypeId} {key:PV}:∀ {es:List (PV×PV)} {i j:Nat},zC7 P kt key es i=some (some j)→i≤j∧∃ k v,es[j-i]? = some (k,v)∧k.isAgg=key.isAgg
 | [],i,j,h=>by cases h
 | (k, v)::es,i,j,h=>by
  simp only [zC7] at h
  split at h
  ·rename_i he
   split at h
   ·simp only [Option.some.injEq] at h;subst h
    exact ⟨Nat.le_refl _,k,v,by simp,zVN he⟩
   ·cases h
  ·obtain ⟨h1,k',v',h2,h3⟩:=zJr h
   exact ⟨by omega,k',v',by rw [show j-i=(j-(i+1))+1 by omega];simpa using h2,h3⟩
  ·cases h
theorem zNw (S:St w0 U Φ0 nt hv a w e Φ rv E L) {r b:Nat} {pre:zAR} {mv:Value} {es es':List (PV×PV)} {ms ms':Array MapEntry} {root:PV} (hm:Rep w Φ (zA2 w rv E) (.bmap r pre) mv []) (hq:zAx (e.get r).unlock pre=some (.omap es)) (v6:mv = .map (some b))
  (jW:w.heap[b]? = some (.map ms es.length)) (yD:(e.get r).isLock=false) (yt:zAt (fun _=>some (.omap es')) (e.get r) pre=some root) (hR:∀ w':World,(∀ c,Φ c→w'.heap[c]? = w.heap[c]?)→zDO w' Φ es' ms'.toList 0) :
  ∃ rv' E' L',St w0 U Φ0 nt hv a {w with heap:=w.heap.setIfInBounds b (.map ms' es'.length)} (e.set r root) Φ rv' E' L'∧zBo E'∧∀ c,Φ c→({w with heap:=w.heap.setIfInBounds b (.map ms' es'.length)}:World).heap[c]? = w.heap[c]?:=by
 obtain ⟨_,hr,_,hn⟩:=hm
 rw [← S.env r hr] at hq yD yt
 have yx:(E r).unlock=E r:=by cases hE:E r<;>first | rfl | (rw [hE] at yD;cases yD)
 rw [yx] at hq
 obtain ⟨kr,kt⟩:=zBM (q' := .omap es') rfl rfl yt
 obtain ⟨nv,Li,uy,hX,qy,ug,vn⟩:=S.conf.mod hr (f:=fun x=>x) (fun _ => .inl rfl) (pre:=pre) (q := .omap es) (by rw [zBe];exact yx) (by rw [zBe];exact hq)
 rw [zBe] at uy
 obtain ⟨b',ents,rfl,rfl,hh',_⟩:=hX
 have hbb:b'=b:=by
  have:=hn _ _ (by rw [yx];exact uy) es rfl
  rw [v6] at this;cases this;rfl
 subst hbb
 have jJ:b'∈L r:=ug b' (by simp)
 have hnΦ:¬ Φ b':=(S.conf.own r b' jJ).2.1
 obtain ⟨s1,s2⟩:=MapKept.heap_set (o' := .map ms' es'.length) jW
 have hG:∀ s,decide (zAb≤s)=true↔zAb≤s:=fun s=>decide_eq_true_iff
 obtain ⟨L',vf,hc⟩:=vn (fun s=>decide (zAb≤s)) {w with heap:=w.heap.setIfInBounds b' (.map ms' es'.length)} (.omap es') root [b'] (fun s hs=>(hG s).1 hs) (fun _=>rfl) (by rw [zBe];exact yt) kr
  (fun A hA=>⟨b',ms',rfl,rfl,s1,hR _ fun c hc=>s2 c fun h=>hnΦ (h▸hc)⟩) (by simp) (fun c hc => .inl hc) (by simp)
  (fun c hc hci _=>s2 c (by simpa using hci)) (fun rest nv2 np2 hf hh=>by
   cases rest with
   | nil =>
    simp only [zAP,Option.some.injEq,Prod.mk.injEq] at hf
    obtain ⟨rfl,rfl⟩:=hf
    exact .inr ⟨_,rfl,trivial⟩
   | cons ic rest=>obtain ⟨i,c⟩:=ic;rw [zA1] at hf;cases hf) ⟨rfl,rfl,rfl⟩
 have hdec:∀ s,s<zAb→decide (zAb≤s)=false:=fun s hs=>decide_eq_false (by omega)
 refine ⟨_,_,_,S.turn (e':=e.set r root) hc (fun s hs=>?_) (fun s hs=>rfl) (fun d ps hd hp=>?_),fun g hg=>?_,fun c hc=>s2 c fun h=>hnΦ (h▸hc)⟩
 ·rw [Env.get_set]
  by_cases yZ:s=r
  ·subst yZ;rw [if_pos rfl,if_pos rfl]
  ·rw [if_neg yZ,if_neg yZ,hdec s hs];simp only [Bool.false_eq_true,if_false,zBe];exact S.env s hs
 ·by_cases jx:d=r
  ·subst jx;rw [if_pos rfl] at hp;rw [hp] at kt;cases kt
  ·rw [if_neg jx,hdec d (by simp only [zAb];omega)] at hp
   simp only [Bool.false_eq_true,if_false,zBe] at hp
   exact ⟨ps,hp,rfl⟩
 ·show (if g=r then root else if decide (zAb≤g)=true then PV.bad else PV.mapW (fun x=>x) (E g))=PV.bad
  rw [if_neg (by omega),(hG g).2 hg];rfl
theorem zIG (S:St w0 U Φ0 nt hv a w e Φ rv E L) {r b:Nat} {pre:zAR} {mv:Value} {es es':List (PV×PV)} {ms ms':Array MapEntry} {root:PV} (hm:Rep w Φ (zA2 w rv E) (.bmap r pre) mv []) (hq:zAx (e.get r).unlock pre=some (.omap es)) (v6:mv = .map (some b))
  (jW:w.heap[b]? = some (.map ms es.length)) (yD:(e.get r).isLock=false) (yt:zAt (fun _=>some (.omap es')) (e.get r) pre=some root) (hR:∀ w':World,(∀ c,Φ c→w'.heap[c]? = w.heap[c]?)→zDO w' Φ es' ms'.toList 0) :
  Fr w0 U Φ0 nt hv a {w with heap:=w.heap.setIfInBounds b (.map ms' es'.length)} (e.set r root):=by
 obtain ⟨rv',E',L',h1,h2,_⟩:=zNw S hm hq v6 jW yD yt hR
 exact ⟨Φ,rv',E',L',h1,h2⟩
theorem zDO.modify' {w':World} (hΦ:∀ c,Φ c→w'.heap[c]? = w.heap[c]?) {key v:PV} {kv vv:Value} (hk:Rep w Φ zCb key kv []) (hv:Rep w Φ zCb v vv []):∀ (es:List (PV×PV)) (ms:List MapEntry) (i j:Nat),zDO w Φ es ms i→zDO w' Φ (es.modify j fun _=>(key,v)) (ms.modify j fun m=>{m with key:=kv,val:=vv}) i
 | [],ms,i,j,h=>by simp only [zDO] at h;subst h;cases j<;>simp [zDO]
 | (k,p)::es,ms,i,0,h=>by
  obtain ⟨m,ms',rfl,hb,h1,h2,h3⟩:=h
  simp only [List.modify_zero_cons]
  exact ⟨_,_,rfl,hb,hk.mono (fun c hc=>⟨hc,hΦ c hc⟩) (fun _ _ _ h=>h) (by simp),hv.mono (fun c hc=>⟨hc,hΦ c hc⟩) (fun _ _ _ h=>h) (by simp),zDO.same (fun c hc=>⟨hc,hΦ c hc⟩) _ _ _ h3⟩
 | (k,p)::es,ms,i,j+1,h=>by
  obtain ⟨m,ms',rfl,hb,h1,h2,h3⟩:=h
  simp only [List.modify_succ_cons]
  exact ⟨_,_,rfl,hb,h1.mono (fun c hc=>⟨hc,hΦ c hc⟩) (fun _ _ _ h=>h) (by simp),h2.mono (fun c hc=>⟨hc,hΦ c hc⟩) (fun _ _ _ h=>h) (by simp),zDO.modify' hΦ hk hv es ms' (i+1) j h3⟩
theorem zDO.push' {w':World} (hΦ:∀ c,Φ c→w'.heap[c]? = w.heap[c]?) {key v:PV} {kv vv:Value} (hk:Rep w Φ zCb key kv []) (hv:Rep w Φ zCb v vv []):∀ (es:List (PV×PV)) (ms:List MapEntry) (i:Nat),zDO w Φ es ms i→zDO w' Φ (es++[(key,v)]) (ms++[{key:=kv,val:=vv,born:=i+es.length}]) i
 | [],ms,i,h=>by
  simp only [zDO] at h;subst h
  exact ⟨_,_,rfl,rfl,hk.mono (fun c hc=>⟨hc,hΦ c hc⟩) (fun _ _ _ h=>h) (by simp),hv.mono (fun c hc=>⟨hc,hΦ c hc⟩) (fun _ _ _ h=>h) (by simp),by simp [zDO]⟩
 | (k,p)::es,ms,i,h=>by
  obtain ⟨m,ms',rfl,hb,h1,h2,h3⟩:=h
  have ih:=zDO.push' hΦ hk hv es ms' (i+1) h3
  rw [show i+1+es.length=i+(es.length+1) by omega] at ih
  exact ⟨m,_,rfl,hb,h1.mono (fun c hc=>⟨hc,hΦ c hc⟩) (fun _ _ _ h=>h) (by simp),h2.mono (fun c hc=>⟨hc,hΦ c hc⟩) (fun _ _ _ h=>h) (by simp),ih⟩
theorem zIR {p:PV} (h:p.flat=true):p.lone=true:=by
 cases p<;>first | (cases h;done) | rfl | skip
 rename_i cs
 simp only [PV.flat,PV.lone,List.all_eq_true] at h ⊢
 intro q hq
 have:=h q hq
 cases q<;>first | (cases this;done) | rfl
theorem zQg (S:St w0 U Φ0 nt hv a w e Φ rv E L) {t kt el:TypeId} {key v m:PV} {mv kv vv:Value} (ht:P.underlying t=some (.map kt el)) (vZ:zPd P 20 kt key=true) (hkf:key.flat=true) (hEv:E zAb=v) (hEm:E (zAb+1)=m) (hEk:E (zAb+2)=key) (jZ:rv zAb=vv) (hrm:rv (zAb+1)=mv) (hrk:rv (zAb+2)=kv)
  (h:(zMO P kt key v m).run o e=some e'):∃ w',(Instr.mapUpdate t mv kv vv).run P w = .ok () w'∧Fr w0 U Φ0 nt hv a w' e':=by
 have h0:=S.conf.rep zAb
 have h1:=S.conf.rep (zAb+1)
 have h2:=S.conf.rep (zAb+2)
 rw [hEv,jZ] at h0
 rw [hEm,hrm] at h1
 rw [hEk,hrk] at h2
 cases m<;>simp only [zMO] at h<;>try (cases h;done)
 rename_i r pre
 obtain ⟨jr,h⟩:=zAE h
 obtain ⟨_,ul⟩:=zGO jr h0
 obtain ⟨jP,vK⟩:=zGO (zIR hkf) h2
 rw [jP] at h2
 have hL1:L (zAb+1)=[]:=h1.1
 rw [hL1] at h1
 obtain ⟨q,hq,h⟩:=zBI h
 cases q<;>simp only at h<;>try (cases h;done)
 rename_i es
 obtain ⟨_,b,ms,rfl,jW,hM⟩:=zK9 S h1 hq
 cases hf:zC7 P kt key es 0 with
 | none=>rw [hf] at h;cases h
 | some x =>
  rw [hf] at h
  have yS:=zHB vZ h2 hf hM
  have u4:=zJF (empty:=false) 20 10000 kt key kv (by decide) vZ h2
  cases x with
  | none =>
   obtain ⟨root,yD,yt,h⟩:=zBX h
   simp only [PM.run,Option.some.injEq] at h;subst h
   have:=zIG S (ms':=ms.push {key:=kv,val:=vv,born:=es.length}) h1 hq rfl jW yD yt (fun w' hw=>by
    have:=zDO.push' hw vK ul es ms.toList 0 hM
    simpa using this)
   refine ⟨_,?_,this⟩
   simp only [Option.bind_none] at yS
   simp [Instr.mapUpdate,run_underlying ht,MapKept.run_getObj_map jW,u4,yS,MapKept.run_setObj_map _ jW]
  | some i =>
   obtain ⟨root,yD,yt,h⟩:=zBX h
   simp only [PM.run,Option.some.injEq] at h;subst h
   obtain ⟨_,hi,k,v',m,h3,h4,h5,h6,h7,h8⟩:=(zDv h2 es ms.toList 0 (some i) hf hM).2 i rfl
   simp only [Nat.sub_zero] at h3 h4 hi
   obtain ⟨_,k',v'',h9,jQ⟩:=zJr hf
   simp only [Nat.sub_zero] at h9
   rw [h3] at h9;cases h9
   obtain ⟨vY,hsb⟩:=zOz hkf h5 h2 h6 jQ
   have:=zIG S (ms':=ms.modify i fun m=>{m with key:=kv,val:=vv}) h1 hq rfl jW yD yt (fun w' hw=>by
    have:=zDO.modify' hw vK ul es ms.toList 0 i hM
    simpa using this)
   refine ⟨_,?_,this⟩
   have qo:ms[i]? = some m:=by rw [← Array.getElem?_toList];exact h4
   simp only [Option.bind_some,h4,Option.map_some] at yS
   rw [vY] at hsb u4 yS ⊢
   simp [Instr.mapUpdate,run_underlying ht,MapKept.run_getObj_map jW,u4,yS,qo,Instr.keyThatStays,hsb,MapKept.run_setObj_map _ jW]
theorem zKb (S:St w0 U Φ0 nt hv a w e Φ rv E L) (hb:zBo E) {t:TypeId} {m x y:Operand} (hm:zAO nt m=true) (hx:zAO nt x=true) (hy:zAO nt y=true) (h:(zEV P t m x y).run o e=some e') :
  ∃ w',(Instr.mapUpdate t (a.eval m) (a.eval x) (a.eval y)).run P w = .ok () w'∧Fr w0 U Φ0 nt hv a w' e':=by
 obtain ⟨p,h1,hp⟩:=zBq S hm h
 obtain ⟨key,h2,hk⟩:=zBq S hx h1
 split at h2
 ·rename_i kt el ht
  obtain ⟨hc,h3⟩:=zAE h2
  simp only [Bool.and_eq_true] at hc
  have vz:=(zGO (zIR hc.2) hk).2
  have S1:=S.hold (g:=zAb+1) (by omega) hp
  have S2:=S1.hold (g:=zAb+2) (by omega) (vz.mono (A':=zA2 w (upd rv (zAb+1) (a.eval m)) (upd E (zAb+1) p)) zDm.refl (fun _ _ _ h=>h.elim) (by simp))
  obtain ⟨e1,rv1,E1,L1,h4,S3,h5,h6⟩:=zGn S2 hy (g:=zAb) (Nat.le_refl _) h3
  obtain ⟨e2,rv2,E2,h7,W⟩:=zO5 S3 (g:=zAb) (Nat.le_refl _) h4
  obtain ⟨Φ2,L2,S4⟩:=W.st
  obtain ⟨Φ3,L3,S5⟩:=S4.iced (g:=zAb) (Nat.le_refl _)
  obtain ⟨a1,a2,_⟩:=h6 (zAb+1) (by omega) (by omega)
  obtain ⟨b1,b2,_⟩:=h6 (zAb+2) (by omega) (by omega)
  obtain ⟨c1,c2⟩:=W.rest (zAb+1) (by omega) (by omega)
  obtain ⟨d1,d2⟩:=W.rest (zAb+2) (by omega) (by omega)
  refine zQg S5 (vv:=a.eval y) (mv:=a.eval m) (kv:=a.eval x) ht hc.1 hc.2 zAj ?_ ?_ ?_ ?_ ?_ h7
  ·rw [zAf (by omega),c1,a1,zAf (by omega),zAj]
  ·rw [zAf (by omega),d1,b1,zAj]
  ·rw [W.val,h5]
  ·rw [c2,a2,zAf (by omega),zAj]
  ·rw [d2,b2,zAj]
 ·cases h2
end
end Go.Eng
namespace Go.Eng
open Go
section
variable {P:Program} {w0 w:World} {U Φ0 Φ:Nat→Prop} {nt:Nat} {hv:Hid} {a:Act} {e e':Env} {rv:Nat→Value} {E:Nat→PV} {L:Nat→List Nat} {o:zAD} {A:Al}
theorem zJU (S:St w0 U Φ0 nt hv a w e Φ rv E L) (hb:zBo E) {d:Option Nat} (hd:∀ x,d=some x→x<nt) {p:PV} {v:Value} {n:Int} (hp:Rep w Φ zCb p v []) (uk:p.lone=true) (h:(zDp d (.tup [p,.int .i64 n])).run o e=some e') :
  Fr w0 U Φ0 nt hv (a.put d (.tuple #[v,.int .i64 n])) w e':=by
 have jv:=S.small
 cases d with
 | none =>
  simp only [zDp] at h
  exact zAu S hb hd h ⟨#[v,.int .i64 n],rfl,v,[.int .i64 n],[],[],rfl,rfl,hp.mono zDm.refl (fun _ _ _ h=>h.elim) (by simp),.int .i64 n,[],[],[],rfl,rfl,⟨rfl,rfl⟩,rfl,rfl⟩
 | some d =>
  have uH:=hd d rfl
  simp only [zDp] at h
  obtain ⟨kZ,h⟩:=zAE h
  simp only [PM.run] at h
  simp only [Bool.and_eq_true] at kZ
  obtain ⟨L1,S1⟩:=S.empty uH
  have S2:=S1.hold (g:=zAb) (Nat.le_refl _) (hp.mono (A':=zA2 w rv (upd E d .bad)) zDm.refl (fun _ _ _ h=>h.elim) (by simp))
  have S3:=S2.hold (g:=zAb+1) (by omega) (p := .int .i64 n) (v := .int .i64 n) ⟨rfl,rfl⟩
  refine zEX uH (vs:=#[v,.int .i64 n]) [p,.int .i64 n] 0 S3 (fun ps hp=>?_) (by simp) (by simp) (fun j q hq=>?_) (fun g hg hI=>?_) (fun x hx=>?_) (fun j hj=>by omega) h
  ·rw [zAf (by simp only [zAb];omega),zAf (by simp only [zAb];omega),zAj] at hp;cases hp
  ·match j,hq with
   | 0,hq =>
    simp at hq;subst hq
    rw [show zAb+0+0=zAb from rfl]
    refine ⟨by rw [zAf (by omega),zAj],?_⟩
    rw [zAf (by omega),zAj];rfl
   | 1,hq =>
    simp at hq;subst hq
    rw [show zAb+0+1=zAb+1 from rfl]
    refine ⟨by rw [zAj],?_⟩
    rw [zAj];rfl
  ·have h0:=hI 0 (by simp)
   have h1:=hI 1 (by simp)
   rw [zAf (by omega),zAf (by omega)]
   by_cases qc:g=d
   ·subst qc;rw [zAj]
   ·rw [zAf qc];exact hb g hg
  ·simpa using List.all_eq_true.1 kZ.2 x hx
theorem zNY {ms:Array MapEntry} {i:Nat} {m:MapEntry} {kv:Value} (h:ms[i]? = some m):ms.modify i (fun e=>{e with key:=kv})=ms.modify i (fun e=>{e with key:=kv,val:=m.val}):=by
 apply Array.ext_getElem?
 intro j
 rw [Array.getElem?_modify,Array.getElem?_modify]
 by_cases hj:i=j
 ·subst hj;simp [h]
 ·simp [hj]
theorem zLJ (S:St w0 U Φ0 nt hv a w e Φ rv E L) (hb:zBo E) {d:Option Nat} (hd:∀ x,d=some x→x<nt) {t:TypeId} {m x:Operand} (hm:zAO nt m=true) (hx:zAO nt x=true) (h:(zF8 P d t m x).run o e=some e') :
  ∃ v w',(Instr.mapEntry t (a.eval m) (a.eval x)).run P w = .ok v w'∧Fr w0 U Φ0 nt hv (a.put d v) w' e':=by
 obtain ⟨p,h1,hp⟩:=zBq S hm h
 obtain ⟨key,h2,hk⟩:=zBq S hx h1
 split at h2
 ·rename_i kt el ht
  obtain ⟨hc,h3⟩:=zAE h2
  simp only [Bool.and_eq_true] at hc
  obtain ⟨vZ,hkf⟩:=hc
  obtain ⟨z,hz,h4⟩:=zBF h3
  obtain ⟨kM,h5⟩:=zAE h4
  obtain ⟨_,zv,_,_,uA,kG⟩:=zDH hz
  have qB:=zMo (zCd (w:=w) (Φ:=Φ) (A:=zCb) kG).1
  generalize zJd z=z at *
  have vK:=(zGO (zIR hkf) hk).2
  cases p<;>simp only [zOi] at h5<;>try (cases h5;done)
  rename_i r pre
  obtain ⟨q,hq,h6⟩:=zBI h5
  cases q<;>simp only at h6<;>try (cases h6;done)
  rename_i es
  obtain ⟨_,b,ms,v6,jW,hM⟩:=zK9 S hp hq
  cases hf:zC7 P kt key es 0 with
  | none=>rw [hf] at h6;cases h6
  | some y =>
   rw [hf] at h6
   have yS:=zHB vZ hk hf hM
   have u4:=zJF (empty:=false) 20 10000 kt key (a.eval x) (by decide) vZ hk
   rw [v6]
   cases y with
   | none =>
    simp only at h6
    obtain ⟨root,yD,yt,h7⟩:=zBX h6
    obtain ⟨rv',E',L',S',yH,jD⟩:=zNw S (ms':=ms.push {key:=a.eval x,val:=zv,born:=es.length}) hp hq v6 jW yD yt (fun w' hw=>by
     have:=zDO.push' hw vK qB es ms.toList 0 hM
     simpa using this)
    have hzr':=qB.mono (w':={w with heap:=w.heap.setIfInBounds b (.map (ms.push {key:=a.eval x,val:=zv,born:=es.length}) (es++[(key,z)]).length)}) (fun c hc=>⟨hc,jD c hc⟩) (fun _ _ _ h=>h) (by simp)
    refine ⟨_,_,?_,zJU S' yH hd hzr' kM h7⟩
    simp only [Option.bind_none] at yS
    simp [Instr.mapEntry,run_underlying ht,MapKept.run_getObj_map jW,u4,yS,uA,MapKept.run_setObj_map _ jW,goInt]
   | some i =>
    obtain ⟨_,hi,k,v',m',g3,g4,g5,g6,g7,g8⟩:=(zDv hk es ms.toList 0 (some i) hf hM).2 i rfl
    simp only [Nat.sub_zero] at g3 g4 hi
    simp only [g3] at h6
    obtain ⟨jr,h6⟩:=zAE h6
    obtain ⟨root,yD,yt,h7⟩:=zBX h6
    obtain ⟨_,k',v'',g9,g10⟩:=zJr hf
    simp only [Nat.sub_zero] at g9
    rw [g3] at g9;cases g9
    obtain ⟨vY,hsb⟩:=zOz hkf g5 hk g6 g10
    have g4':ms[i]? = some m':=by rw [← Array.getElem?_toList];exact g4
    obtain ⟨rv',E',L',S',yH,jD⟩:=zNw S (ms':=ms.modify i fun e=>{e with key:=a.eval x,val:=m'.val}) hp hq v6 jW yD yt (fun w' hw=>by
     have:=zDO.modify' hw vK g7 es ms.toList 0 i hM
     simpa using this)
    have hvr':=g7.mono (w':={w with heap:=w.heap.setIfInBounds b (.map (ms.modify i fun e=>{e with key:=a.eval x,val:=m'.val}) (es.modify i fun _=>(key,v')).length)}) (fun c hc=>⟨hc,jD c hc⟩) (fun _ _ _ h=>h) (by simp)
    refine ⟨_,_,?_,zJU S' yH hd hvr' jr h7⟩
    simp only [Option.bind_some,g4,Option.map_some] at yS
    have wm:=zNY (kv:=m'.key) g4'
    rw [vY] at hsb u4 yS ⊢
    simp [Instr.mapEntry,run_underlying ht,MapKept.run_getObj_map jW,u4,yS,g4',Instr.keyThatStays,hsb,MapKept.run_setObj_map _ jW,goInt,wm,g8]
 ·cases h2
theorem zRy:∀ {es:List (PV×PV)} {ms:List MapEntry} {i j:Nat},zDO w Φ es ms j→i<ms.length→ms.findIdx? (fun e=>(e.born:Int)==((i+j:Nat):Int))=some i
 | [],ms,i,j,h,hi=>by simp only [zDO] at h;subst h;simp at hi
 | (k,p)::es,ms,0,j,h,hi=>by
  obtain ⟨m,ms',rfl,hb,_⟩:=h
  rw [List.findIdx?_cons,hb];simp
 | (k,p)::es,ms,i+1,j,h,hi=>by
  obtain ⟨m,ms',rfl,hb,_,_,h3⟩:=h
  have:=zRy (i:=i) h3 (by simpa using hi)
  rw [List.findIdx?_cons,hb]
  have hI:((j:Int)==((i+1+j:Nat):Int))=false:=by simp;omega
  rw [hI]
  simp only [Bool.false_eq_true,if_false]
  rw [show i+1+j=i+(j+1) by omega,this];rfl
theorem zSi:∀ {es:List (PV×PV)} {ms:List MapEntry} {i j:Nat} {k x:PV},zDO w Φ es ms j→es[i]? = some (k,x)→∃ m,ms[i]? = some m∧Rep w Φ zCb k m.key []
 | [],_,_,_,_,_,_,h=>by cases h
 | (k',p)::es,ms,0,j,k,x,h,hi=>by
  obtain ⟨m,ms',rfl,_,h1,_⟩:=h
  cases hi
  exact ⟨m,rfl,h1⟩
 | (k',p)::es,ms,i+1,j,k,x,h,hi=>by
  obtain ⟨m,ms',rfl,_,_,_,h3⟩:=h
  exact zSi (i:=i) h3 (by simpa using hi)
theorem zMr {ms:Array MapEntry} {i:Nat} {m:MapEntry} {vv:Value} (h:ms[i]? = some m):ms.modify i (fun e=>{e with val:=vv})=ms.modify i (fun e=>{e with key:=m.key,val:=vv}):=by
 apply Array.ext_getElem?
 intro j
 rw [Array.getElem?_modify,Array.getElem?_modify]
 by_cases hj:i=j
 ·subst hj;simp [h]
 ·simp [hj]
theorem zIX (S:St w0 U Φ0 nt hv a w e Φ rv E L) (hb:zBo E) {t:TypeId} {m s y:Operand} (hm:zAO nt m=true) (hs:zAO nt s=true) (hy:zAO nt y=true) (h:(zEo m s y).run o e=some e') :
  ∃ w',(Instr.entryStore t (a.eval m) (a.eval s) (a.eval y)).run P w = .ok () w'∧Fr w0 U Φ0 nt hv a w' e':=by
 obtain ⟨p,h1,hp⟩:=zBq S hm h
 obtain ⟨q,h2,hq⟩:=zBq S hs h1
 obtain ⟨ik,n,rfl,hn,h3⟩:=zD3 h2
 have hq0:a.eval s = .int ik n:=hq.1
 have S1:=S.hold (g:=zAb+1) (by omega) hp
 obtain ⟨e1,rv1,E1,L1,h4,S3,h5,h6⟩:=zGn S1 hy (g:=zAb) (Nat.le_refl _) h3
 obtain ⟨e2,rv2,E2,h7,W⟩:=zO5 S3 (g:=zAb) (Nat.le_refl _) h4
 obtain ⟨Φ2,L2,S4⟩:=W.st
 obtain ⟨Φ3,L3,S5⟩:=S4.iced (g:=zAb) (Nat.le_refl _)
 obtain ⟨a1,a2,_⟩:=h6 (zAb+1) (by omega) (by omega)
 obtain ⟨c1,c2⟩:=W.rest (zAb+1) (by omega) (by omega)
 have hEm:(upd E2 zAb (zAT (E2 zAb))) (zAb+1)=p:=by rw [zAf (by omega),c1,a1,zAj]
 have hrm:rv2 (zAb+1)=a.eval m:=by rw [c2,a2,zAj]
 have jZ:rv2 zAb=a.eval y:=by rw [W.val,h5]
 have h0:=S5.conf.rep zAb
 have gT:=S5.conf.rep (zAb+1)
 rw [zAj,jZ] at h0
 rw [hEm,hrm] at gT
 generalize yE:zAT (E2 zAb)=v at *
 cases p<;>simp only [zIh] at h7<;>try (cases h7;done)
 rename_i r pre
 obtain ⟨jr,h7⟩:=zAE h7
 obtain ⟨_,ul⟩:=zGO jr h0
 have hL1:L3 (zAb+1)=[]:=gT.1
 rw [hL1] at gT
 obtain ⟨q,hq,h8⟩:=zBI h7
 cases q<;>simp only at h8<;>try (cases h8;done)
 rename_i es
 obtain ⟨_,b,ms,v6,jW,hM⟩:=zK9 S5 gT hq
 cases hes:es[n.toNat]? with
 | none=>rw [hes] at h8;cases h8
 | some kx =>
  obtain ⟨k,x⟩:=kx
  rw [hes] at h8
  simp only at h8
  obtain ⟨root,yD,yt,h9⟩:=zBX h8
  simp only [PM.run,Option.some.injEq] at h9;subst h9
  obtain ⟨m',g4,g5⟩:=zSi hM hes
  have g4':ms[n.toNat]? = some m':=by rw [← Array.getElem?_toList];exact g4
  have yG:n.toNat<ms.toList.length:=(List.getElem?_eq_some_iff.1 g4).1
  have kA:=zRy hM yG
  rw [Nat.add_zero,Int.toNat_of_nonneg hn] at kA
  have:=zIG S5 (ms':=ms.modify n.toNat fun e=>{e with key:=m'.key,val:=a.eval y}) gT hq v6 jW yD yt (fun w' hw=>by
   have:=zDO.modify' hw g5 ul es ms.toList 0 n.toNat hM
   simpa using this)
  refine ⟨_,?_,this⟩
  have uG:a.eval s = .int ik n:=hq0
  rw [v6,uG]
  have hf:ms.findIdx? (fun e=>(e.born:Int)==n)=some n.toNat:=by first | (rw [← Array.findIdx?_toList];exact kA) | (rw [Array.findIdx?_toList] at kA;exact kA) | (rw [← kA];exact (Array.findIdx?_toList ..).symm) | (rw [← kA];exact (List.findIdx?_toArray ..))
  simp [Instr.entryStore,MapKept.run_getObj_map jW,asInt,asIntOf,hf,MapKept.run_setObj_map _ jW,zMr g4']
end
end Go.Eng
namespace Go.Eng
open Go
section
variable {w:World} {Φ:Nat→Prop} {rv:Nat→Value} {E:Nat→PV}
mutual
theorem zG6:∀ (p:PV) (v:Value) (L:List Nat),Rep w Φ (zA2 w rv E) p v L→∀ x∈p.ways,x.1<zAb
 | .agg cs,v,L,h,x,hx=>by obtain ⟨vs,_,h⟩:=h;exact zFA cs _ L h x hx
 | .tup cs,v,L,h,x,hx=>by obtain ⟨vs,_,h⟩:=h;exact zFA cs _ L h x hx
 | .ref q,v,L,h,x,hx=>by obtain ⟨_,a,c,u,_,_,_,_,_,_,h7⟩:=h;exact zG6 q u [] h7 x hx
 | .box q,v,L,h,x,hx=>by obtain ⟨a,c,u,L',_,_,_,_,_,_,h7⟩:=h;exact zG6 q u L' h7 x hx
 | .lock q,v,L,h,x,hx=>zG6 q v L h x hx
 | .func g a b,v,L,h,x,hx=>by
  obtain ⟨_,fs,cs,_,h2,h3⟩:=h
  simp only [PV.ways,List.mem_append] at hx
  rcases hx with hx | hx
  ·exact zFA a _ [] h2 x hx
  ·exact zFA b _ [] h3 x hx
 | .addr ..,v,L,h,x,hx=>by simp only [PV.ways,List.mem_singleton] at hx;subst hx;exact h.2.1
 | .bor ..,v,L,h,x,hx=>by simp only [PV.ways,List.mem_singleton] at hx;subst hx;exact h.2.1
 | .bsl ..,v,L,h,x,hx=>by simp only [PV.ways,List.mem_singleton] at hx;subst hx;exact h.2.1
 | .bmap ..,v,L,h,x,hx=>by simp only [PV.ways,List.mem_singleton] at hx;subst hx;exact h.2.1
 | .yld _,v,L,h,x,hx=>by cases hx
 | .log ..,v,L,h,x,hx=>h.2.elim
 | .bad,_,_,_,x,hx=>by cases hx
 | .und,_,_,_,x,hx=>by cases hx
 | .int ..,_,_,_,x,hx=>by cases hx
 | .bool _,_,_,_,x,hx=>by cases hx
 | .nilp,_,_,_,x,hx=>by cases hx
 | .nilf,_,_,_,x,hx=>by cases hx
 | .nilm,_,_,_,x,hx=>by cases hx
 | .nn,_,_,_,x,hx=>by cases hx
 | .nils _,_,_,_,x,hx=>by cases hx
 | .sl _,_,_,_,x,hx=>by cases hx
 | .own ..,_,_,_,x,hx=>by cases hx
 | .map _,_,_,_,x,hx=>by cases hx
 | .omap _,_,_,_,x,hx=>by cases hx
theorem zFA:∀ (ps:List PV) (vs:List Value) (L:List Nat),zAX w Φ (zA2 w rv E) ps vs L→∀ x∈zBw ps,x.1<zAb
 | [],_,_,_,x,hx=>by cases hx
 | p::ps,vs,L,h,x,hx=>by
  obtain ⟨v,vs',L1,L2,_,_,h1,h2⟩:=h
  simp only [zBw,List.mem_append] at hx
  rcases hx with hx | hx
  ·exact zG6 p v L1 h1 x hx
  ·exact zFA ps vs' L2 h2 x hx
end
theorem zWD {w:World} {rv rv':Nat→Value} {E E':Nat→PV} (h:∀ s,s<zAb→E' s=E s∧rv' s=rv s) {a:PV} {v:Value} (ha:zA2 w rv E a v):zA2 w rv' E' a v:=by
 obtain ⟨h1,h2⟩:=h _ (zCU ha)
 exact ha.mono fun nv np hn hh=>⟨np,by rw [h1,h2] at hn;exact hn,zCf.refl hh⟩
end
section
variable {P:Program} {w0 w:World} {U Φ0 Φ:Nat→Prop} {nt:Nat} {hv:Hid} {a:Act} {e e':Env} {rv:Nat→Value} {E:Nat→PV} {L:Nat→List Nat} {o:zAD}
theorem zLm:∀ (ps:List PV) (vs:List Value) (i:Nat) {rv:Nat→Value} {E:Nat→PV} {L:Nat→List Nat},St w0 U Φ0 nt hv a w e Φ rv E L→zAX w Φ (zA2 w rv E) ps vs [] →
  ∃ rv1 E1 L1,St w0 U Φ0 nt hv a w e Φ rv1 E1 L1∧(∀ s,s<zAb→E1 s=E s∧rv1 s=rv s)∧(∀ (j:Nat) (p:PV) (v:Value),ps[j]? = some p→vs[j]? = some v→E1 (zAb+i+j)=p∧rv1 (zAb+i+j)=v∧L1 (zAb+i+j)=[]) ∧
   ∀ s,zAb≤s→(s<zAb+i∨zAb+i+ps.length≤s)→E1 s=E s∧rv1 s=rv s∧L1 s=L s
 | [],vs,i,rv,E,L,S,h=>⟨rv,E,L,S,fun _ _=>⟨rfl,rfl⟩,by simp,fun _ _ _=>⟨rfl,rfl,rfl⟩⟩
 | p :: ps,vs,i,rv,E,L,S,h=>by
  obtain ⟨v,vs',L1,L2,rfl,hL,h1,h2⟩:=h
  obtain ⟨rfl,rfl⟩:L1=[]∧L2=[]:=by simpa using hL.symm
  have S1:=S.hold (g:=zAb+i) (by omega) h1
  have yr:∀ s,s<zAb→upd E (zAb+i) p s=E s∧upd rv (zAb+i) v s=rv s:=fun s hs=>⟨zAf (by omega),zAf (by omega)⟩
  obtain ⟨rv1,E1,L1,S2,h3,h4,h5⟩:=zLm ps vs' (i+1) S1 (h2.mono zDm.refl (fun _ _ _ ha=>zWD yr ha) (fun _ _=>rfl))
  refine ⟨rv1,E1,L1,S2,fun s hs=>⟨(h3 s hs).1.trans (yr s hs).1,(h3 s hs).2.trans (yr s hs).2⟩,fun j q u hq hu=>?_,fun s hs jn=>?_⟩
  ·cases j with
   | zero =>
    simp at hq hu;subst hq;subst hu
    obtain ⟨k1,k2,k3⟩:=h5 (zAb+i) (by omega) (.inl (by omega))
    simp only [Nat.add_zero]
    rw [k1,k2,k3,zAj,zAj,zAj];exact ⟨rfl,rfl,rfl⟩
   | succ j =>
    have:=h4 j q u (by simpa using hq) (by simpa using hu)
    rwa [show zAb+i+(j+1)=zAb+(i+1)+j by omega]
  ·obtain ⟨k1,k2,k3⟩:=h5 s hs (by simp at jn;omega)
   have hI:s≠zAb+i:=by simp at jn;omega
   rw [k1,k2,k3,zAf hI,zAf hI,zAf hI];exact ⟨rfl,rfl,rfl⟩
structure Handed (rv1:Nat→Value) (E1:Nat→PV) (L1:Nat→List Nat) (i:Nat) (bs:List (Bool×PV)):Prop where
 at_:∀ (j:Nat) (b:Bool×PV),bs[j]? = some b→E1 (zAb+i+j)=b.2∧(b.1=true→b.2.ways=[])∧(b.1=false→L1 (zAb+i+j)=[])
theorem zGq:∀ (ps:List PV) (ms:List Nat) (i:Nat) {k:List (Bool×PV)→PM} {e:Env} {Φ:Nat→Prop} {rv:Nat→Value} {E:Nat→PV} {L:Nat→List Nat},St w0 U Φ0 nt hv a w e Φ rv E L →
  (∀ (j:Nat) (p:PV),ps[j]? = some p→E (zAb+i+j)=p∧L (zAb+i+j)=[])→(zDZ ms ps k).run o e=some e' →
  ∃ e1 rv1 E1 L1 bs,(k bs).run o e1=some e'∧St w0 U Φ0 nt hv a w e1 Φ rv1 E1 L1∧bs.length=ps.length∧Handed rv1 E1 L1 i bs∧(∀ s,rv1 s=rv s)∧(∀ s,zAb≤s→(s<zAb+i∨zAb+i+ps.length≤s)→E1 s=E s∧L1 s=L s)
 | [],ms,i,k,e,Φ,rv,E,L,S,hp,h=>⟨e,rv,E,L,[],by simpa [zDZ] using h,S,rfl,⟨by simp⟩,fun _=>rfl,fun _ _ _=>⟨rfl,rfl⟩⟩
 | p :: ps,ms,i,k,e,Φ,rv,E,L,S,hp,h=>by
  obtain ⟨hE,hL⟩:=hp 0 p rfl
  simp only [Nat.add_zero] at hE hL
  have plain:(zDZ ms.tail ps fun as=>k ((false,p)::as)).run o e=some e'→∃ e1 rv1 E1 L1 bs,(k bs).run o e1=some e'∧St w0 U Φ0 nt hv a w e1 Φ rv1 E1 L1∧bs.length=(p::ps).length∧Handed rv1 E1 L1 i bs∧(∀ s,rv1 s=rv s) ∧
    (∀ s,zAb≤s→(s<zAb+i∨zAb+i+(p::ps).length≤s)→E1 s=E s∧L1 s=L s):=by
   intro h
   obtain ⟨e1,rv1,E1,L1,bs,h1,S1,h2,h3,h4,h5⟩:=zGq ps ms.tail (i+1) S (fun j q hq=>by
    rw [show zAb+(i+1)+j=zAb+i+(j+1) by omega];exact hp (j+1) q (by simpa using hq)) h
   refine ⟨e1,rv1,E1,L1,(false,p)::bs,h1,S1,by simp [h2],⟨fun j b hb=>?_⟩,h4,fun s hs jn=>h5 s hs (by simp at jn;omega)⟩
   cases j with
   | zero =>
    simp at hb;subst hb
    obtain ⟨k1,k2⟩:=h5 (zAb+i) (by omega) (.inl (by omega))
    simp only [Nat.add_zero]
    exact ⟨k1.trans hE,by simp,fun _=>k2.trans hL⟩
   | succ j =>
    have:=h3.at_ j b (by simpa using hb)
    rwa [show zAb+(i+1)+j=zAb+i+(j+1) by omega] at this
  simp only [zDZ] at h
  split at h
  ·rename_i r pre z n _
   obtain ⟨q,hq,h1⟩:=zBI h
   split at h1
   ·rename_i sz xs
    obtain ⟨yN,h2⟩:=zAE h1
    have yN:=Nat.le_of_ble_eq_true yN
    obtain ⟨root,hl,hm,h3⟩:=zBX h2
    have hX:=S.conf.rep (zAb+i)
    rw [hE] at hX
    obtain ⟨_,hr,_,hn⟩:=hX
    have yD:=zBy hl
    rw [yD,← S.env r hr] at hq
    rw [← S.env r hr] at yD hm
    obtain ⟨kk1,kk2⟩:=zBM (q' := .bad) rfl rfl hm
    obtain ⟨nv,Li,g1,g2,g3,g4,g5⟩:=S.taken (g:=zAb+i) (by omega) hr yD hq rfl hm kk1 kk2
    have j4:zBO (rv (zAb+i)) nv sz 0 n:=by
     obtain ⟨s2,xs2,q1,q2,q3⟩:=hn nv _ (by rw [yD];exact g1) rfl
     cases q1;subst q2;exact q3
    obtain ⟨Lg,p1,p2,p3⟩:=zIm g2 (by omega) j4
    obtain ⟨L',S1,vf⟩:=g5 _ (rv (zAb+i)) Lg p1 (p3 g3) (fun b hb => .inl (p2 b hb))
    have jZ:∀ s,upd rv (zAb+i) (rv (zAb+i)) s=rv s:=fun s=>by
     by_cases hs:s=zAb+i
     ·subst hs;rw [zAj]
     ·rw [zAf hs]
    have uw:∀ s,zAb≤s→s≠zAb+i→upd (upd E r root) (zAb+i) (PV.own sz ((xs.drop 0).take n)) s=E s∧L' s=L s:=fun s hs hI=>⟨by rw [zAf hI,zAf (by omega)],vf s hs hI⟩
    obtain ⟨e1,rv1,E1,L1,bs,h4,S2,h5,h6,h7,h8⟩:=zGq ps ms.tail (i+1) S1 (fun j q hq=>by
     obtain ⟨k1,k2⟩:=uw (zAb+(i+1)+j) (by omega) (by omega)
     rw [k1,k2,show zAb+(i+1)+j=zAb+i+(j+1) by omega];exact hp (j+1) q (by simpa using hq)) h3
    refine ⟨e1,rv1,E1,L1,_::bs,h4,S2,by simp [h5],⟨fun j b hb=>?_⟩,fun s=>(h7 s).trans (jZ s),fun s hs jn=>?_⟩
    ·cases j with
     | zero =>
      simp only [List.getElem?_cons_zero,Option.some.injEq] at hb;subst hb
      obtain ⟨k1,k2⟩:=h8 (zAb+i) (by omega) (.inl (by omega))
      simp only [Nat.add_zero]
      exact ⟨by rw [k1,zAj],fun _=>rfl,fun h=>by cases h⟩
     | succ j =>
      have:=h6.at_ j b (by simpa using hb)
      rwa [show zAb+(i+1)+j=zAb+i+(j+1) by omega] at this
    ·obtain ⟨k1,k2⟩:=h8 s hs (by simp at jn;omega)
     obtain ⟨k3,k4⟩:=uw s hs (by simp at jn;omega)
     exact ⟨k1.trans k3,k2.trans k4⟩
   ·cases h1
  ·exact plain h
theorem zHQ (S:St w0 U Φ0 nt hv a w e Φ rv E L):∀ (bs:List (Bool×PV)) (ms:List Nat) (i:Nat) {k:List Arg→PM},Handed rv E L i bs→(zCs ms bs k).run o e=some e' →
  ∃ as,(k as).run o e=some e'∧as.length=bs.length∧∀ (j:Nat) (x:Arg),as[j]? = some x→zNu w Φ rv E (i+j) x
 | [],ms,i,k,hb,h=>⟨[],by simpa [zCs] using h,rfl,by simp⟩
 | (m, p)::bs,ms,i,k,hb,h=>by
  obtain ⟨h1,h2,h3⟩:=hb.at_ 0 (m,p) rfl
  simp only [Nat.add_zero] at h1 h2 h3
  have uB:Handed rv E L (i+1) bs:=⟨fun j b hj=>by
   rw [show zAb+(i+1)+j=zAb+i+(j+1) by omega];exact hb.at_ (j+1) b (by simpa using hj)⟩
  have fin:∀ x,zNu w Φ rv E i x→(zCs ms.tail bs fun as=>k (x::as)).run o e=some e'→∃ as,(k as).run o e=some e'∧as.length=((m,p)::bs).length∧∀ (j:Nat) (x:Arg),as[j]? = some x→zNu w Φ rv E (i+j) x:=by
   intro x hx h
   obtain ⟨as,g1,g2,g3⟩:=zHQ S bs ms.tail (i+1) uB h
   refine ⟨x::as,g1,by simp [g2],fun j y hy=>?_⟩
   cases j with
   | zero=>simp at hy;subst hy;exact hx
   | succ j=>rw [show i+(j+1)=i+1+j by omega];exact g3 j y (by simpa using hy)
  cases m with
  | true=>exact fin _ ⟨by simp,.inr (.inl ⟨rfl,h1.symm,by rw [h1];exact h2 rfl⟩)⟩ h
  | false =>
   simp only [zCs] at h
   revert h
   cases Nat.beq (ms.headD 0) 1 with
   | true=>exact fun h=>fin _ ⟨by simp,.inl ⟨rfl,h1.symm⟩⟩ h
   | false =>
    intro h
    simp only [cond_false] at h
    have hX:=S.conf.rep (zAb+i)
    rw [h1,h3 rfl] at hX
    obtain ⟨q,l,g1,g2,g3⟩:=zO0 S hX h
    exact fin _ ⟨g2,.inr (.inr ⟨rfl,fun Φ1 k1 k2=>g3 Φ1 k1 k2 (by simp)⟩)⟩ g1
theorem zKL:∀ (bs:List (Bool×PV)) (ms:List Nat) (i:Nat) {k:List Arg→PM} {e:Env} {Φ:Nat→Prop} {E:Nat→PV} {L:Nat→List Nat},St w0 U Φ0 nt hv a w e Φ rv E L→Handed rv E L i bs→(zEa ms bs k).run o e=some e' →
  ∃ as e1 Φ1 E1 L1,(k as).run o e1=some e'∧St w0 U Φ0 nt hv a w e1 Φ1 rv E1 L1∧as.length=bs.length∧(∀ (j:Nat) (x:Arg),as[j]? = some x→zNu w Φ1 rv E1 (i+j) x)∧∀ s,zAb≤s→s<zAb+i→E1 s=E s
 | [],ms,i,k,e,Φ,E,L,S,hb,h=>⟨[],e,Φ,E,L,by simpa [zEa] using h,S,rfl,by simp,fun _ _ _=>rfl⟩
 | (m, p)::bs,ms,i,k,e,Φ,E,L,S,hb,h=>by
  obtain ⟨h1,h2,h3⟩:=hb.at_ 0 (m,p) rfl
  simp only [Nat.add_zero] at h1 h2 h3
  have uB:Handed rv E L (i+1) bs:=⟨fun j b hj=>by
   rw [show zAb+(i+1)+j=zAb+i+(j+1) by omega];exact hb.at_ (j+1) b (by simpa using hj)⟩
  have fin:∀ {e:Env} {Φ:Nat→Prop} {E2:Nat→PV} {L2:Nat→List Nat} (x:Arg),St w0 U Φ0 nt hv a w e Φ rv E2 L2→Handed rv E2 L2 (i+1) bs→(∀ s,zAb≤s→s<zAb+i→E2 s=E s)→(∀ (Φ1:Nat→Prop) (E1:Nat→PV),E1 (zAb+i)=E2 (zAb+i)→zNu w Φ1 rv E1 i x) →
    (zEa ms.tail bs fun as=>k (x::as)).run o e=some e'→∃ as e1 Φ1 E1 L1,(k as).run o e1=some e'∧St w0 U Φ0 nt hv a w e1 Φ1 rv E1 L1∧as.length=((m,p)::bs).length∧(∀ (j:Nat) (x:Arg),as[j]? = some x→zNu w Φ1 rv E1 (i+j) x)∧∀ s,zAb≤s→s<zAb+i→E1 s=E s:=by
   intro e Φ E2 L2 x S hh hE hx h
   obtain ⟨as,e1,Φ1,E1,L1,g1,S1,g2,g3,g4⟩:=zKL bs ms.tail (i+1) S hh h
   refine ⟨x::as,e1,Φ1,E1,L1,g1,S1,by simp [g2],fun j y hy=>?_,fun s hs yG=>(g4 s hs (by omega)).trans (hE s hs yG)⟩
   cases j with
   | zero=>simp at hy;subst hy;exact hx Φ1 E1 (g4 _ (by omega) (by omega))
   | succ j=>rw [show i+(j+1)=i+1+j by omega];exact g3 j y (by simpa using hy)
  cases m with
  | true=>exact fin _ S uB (fun _ _ _=>rfl) (fun Φ1 E1 he=>⟨by simp,.inr (.inl ⟨rfl,by rw [he,h1],by rw [he,h1];exact h2 rfl⟩)⟩) h
  | false =>
   simp only [zEa] at h
   revert h
   cases Nat.beq (ms.headD 0) 1 with
   | true=>exact fun h=>fin _ S uB (fun _ _ _=>rfl) (fun Φ1 E1 he=>⟨by simp,.inl ⟨rfl,by rw [he,h1]⟩⟩) h
   | false =>
    intro h
    simp only [cond_false] at h
    rw [← h1] at h
    obtain ⟨e1,Φ1,E1,L1,g1,S1,g2,g3,g4,g5,_,_⟩:=zJq (g:=zAb+i) (by omega) (Nat.le_refl _) zDw S h
    have hw:(E1 (zAb+i)).ways=[]:=by
     have yr:=zG6 _ _ _ (S1.conf.rep (zAb+i))
     cases hw:(E1 (zAb+i)).ways with
     | nil=>rfl
     | cons x xs =>
      have k1:=yr x (by rw [hw];simp)
      have k2:=g5 x (by rw [hw];simp)
      omega
    refine fin _ S1 ⟨fun j b hj=>?_⟩ (fun s hs yG=>g3 s hs (by omega)) (fun Φ1 E1' he=>⟨by simp,.inr (.inl ⟨rfl,he.symm,by rw [he];exact hw⟩)⟩) g1
    rw [g3 _ (by omega) (by omega),g4 _ (by omega)]
    exact uB.at_ j b hj
variable {H:zBb}
theorem zSY (jE:zGb P o) (S:St w0 U Φ0 nt hv a w e Φ rv E L) {d:Option Nat} (hd:∀ x,d=some x→x<nt) {f:FuncId} {ps:List PV} {vs:Array Value} (hr:zAX w Φ (zA2 w rv E) ps vs.toList [])
  (h:(zNJ H d f ps).run o e=some e'):Callable P f∧Calls P f vs w fun en w''=>∃ u,en = .returned u∧Fr w0 U Φ0 nt hv (a.put d u) w'' e':=by
 have hZ:=hr.length
 obtain ⟨rv1,E1,L1,S1,_,h2,_⟩:=zLm ps vs.toList 0 S hr
 have hpv:∀ (j:Nat) (p:PV),ps[j]? = some p→∃ v,vs.toList[j]? = some v:=fun j p hj=>by
  have:j<ps.length:=(List.getElem?_eq_some_iff.1 hj).1
  exact ⟨_,List.getElem?_eq_getElem (by omega)⟩
 simp only [zNJ] at h
 obtain ⟨e2,rv2,E2,L2,bs,h3,S2,h4,h5,h6,_⟩:=zGq ps (H f).mode 0 S1 (fun j p hj=>by
  obtain ⟨v,yE⟩:=hpv j p hj
  have:=h2 j p v hj yE
  exact ⟨this.1,this.2.2⟩) h
 have yg:∀ i,i<bs.length→vs[i]? = some (rv2 (zAb+i)):=by
  intro i hi
  obtain ⟨p,hp⟩:∃ p,ps[i]? = some p:=⟨_,List.getElem?_eq_getElem (by omega)⟩
  obtain ⟨v,yE⟩:=hpv i p hp
  have:=h2 i p v hp yE
  simp only [Nat.add_zero] at this
  rw [h6,this.2.1]
  simpa using yE
 have hvsz:vs.size=bs.length:=by rw [h4,← hZ];simp
 obtain ⟨as,g1,g2,g3⟩:=zHQ S2 bs (H f).mode 0 h5 h3
 rcases zOU jE S2 hd (vs:=vs) (by rw [hvsz,g2]) (fun i hi=>yg i (by omega)) (fun i x hx=>by simpa using g3 i x hx) g1 with h7 | h7
 ·obtain ⟨as',e3,Φ3,E3,L3,k1,S3,k2,k3,_⟩:=zKL bs (H f).mode 0 S2 h5 h7
  rcases zOU jE S3 hd (vs:=vs) (by rw [hvsz,k2]) (fun i hi=>yg i (by omega)) (fun i x hx=>by simpa using k3 i x hx) k1 with h8 | h8
  ·cases h8
  ·exact h8
 ·exact h7
end
end Go.Eng
namespace Go.Eng
open Go
def zSF (P:Program) (o:Oper) (a:Act) (w:World) (K:Act→World→Prop):Prop :=
 match (execOp a.eval o).run P w with
 | .ok (.value v) w'=>K (a.put o.dst v) w'
 | .ok .skip w'=>K (a.put o.dst undef) w'
 | .ok (.enter f args) w'=>Calls P f args w' fun en w''=>∃ u,en = .returned u∧K (a.put o.dst u) w''
 | _=>False
def zQ2:Op→Bool
 | .defer _=>true
 | _=>false
theorem zVg {P:Program} {o:Oper} {a:Act} {w:World} {K:Act→World→Prop} {n:Nat} {ro:Option Nat} {Q:Exit→Act→World→Prop} (hd:zQ2 o.op=false) (h:zSF P o a w K):o.wpIn {Fence.wide with round:=ro} n P a w K Q:=by
 refine ⟨fun _ _=>trivial,?_⟩
 rw [Oper.semAt_eq ro a.eval o (fun c hc=>by rw [hc] at hd;cases hd)]
 simp only [zSF] at h
 split at h
 ·rename_i v w' hr;rw [hr];exact h
 ·rename_i w' hr;rw [hr];exact h
 ·rename_i f args w' hr
  rw [hr]
  refine ⟨fun h=>(by cases h),?_⟩
  have h1:CallsIn Fence.wide (n-1) P f args w' _:=callsIn_wide.2 h
  refine CallsIn.mono (F:={Fence.wide with round:=ro}) ?_ (R:=fun en w''=>∃ u,en = .returned u∧K (a.put o.dst u) w'') (fun en w'' ut=>?_)
  ·exact h1
  ·obtain ⟨u,rfl,hk⟩:=ut;exact hk
 ·exact h.elim
def zSv (P:Program) (nt:Nat):Oper→Bool:=fun o =>
 (match o.dst with | some d=>Nat.blt d nt | none=>true) &&
 match o.op with
 | .move x | .assign x | .nilCheck x | .unOp _ _ x | .box _ x | .load _ x | .fieldAddr _ x _ | .field _ x _=>zAO nt x
 | .pick c a b=>zAO nt c&&zAO nt a&&zAO nt b
 | .alloc _=>true
 | .build _ ps | .buildSlice _ _ ps=>ps.toList.all fun x=>zAO nt x.2
 | .store _ a x=>o.dst.isNone&&zAO nt a&&zAO nt x
 | .binOp _ _ x y _=>zAO nt x&&zAO nt y
 | .convert s _ x=>(P.underlying s).isSome&&zAO nt x
 | .makeFunc _ fs cs=>fs.toList.all (zAO nt)&&cs.toList.all (zAO nt)
 | .makeMap _ _=>true
 | .makeSlice _ l c=>zAO nt l&&zAO nt c
 | .slice _ x lo hi mx=>zAO nt x&&(match lo with | some y=>zAO nt y | none=>true)&&(match hi with | some y=>zAO nt y | none=>true)&&(match mx with | some y=>zAO nt y | none=>true)
 | .indexAddr _ x i | .index _ x i=>zAO nt x&&zAO nt i
 | .lookup _ m x _=>zAO nt m&&zAO nt x
 | .mapUpdate _ m x y=>o.dst.isNone&&zAO nt m&&zAO nt x&&zAO nt y
 | .mapEntry _ m x=>zAO nt m&&zAO nt x
 | .entryStore _ m s x=>o.dst.isNone&&zAO nt m&&zAO nt s&&zAO nt x
 | .panic _ | .makeInterface .. => true
 | .extract (.tmp s) _=>Nat.blt s nt
 | .call c=>c.args.toList.all (zAO nt)&&(match c.callee with
  | .builtin b=>match b with
   | .append | .copy=>Nat.beq c.argTypes.size 2
   | .len | .max | .min=>true
   | .clear=>Nat.blt 0 c.argTypes.size
   | _=>false
  | .value f=>zAO nt f
  | _=>false)
 | _=>false
def zEJ (P : Program) : Prop := ∀ (f : FuncId) (fn : Func), P.funcs[f]? = some fn → (fn.name == "runtime.NumGoroutine") = false
section
variable {P:Program} {H:zBb} {w0 w:World} {U Φ0 Φ:Nat→Prop} {nt:Nat} {hv:Hid} {a:Act} {e e':Env} {rv:Nat→Value} {E:Nat→PV} {L:Nat→List Nat} {orc:zAD}
theorem zAK {o:Oper} {K:Act→World→Prop} {v:Value} {w':World} (h:(execOp a.eval o).run P w = .ok (.value v) w') (hk:K (a.put o.dst v) w'):zSF P o a w K:=by
 simp only [zSF,h];exact hk
theorem zW9 (jE:zGb P orc) (hnm:zEJ P) (S:St w0 U Φ0 nt hv a w e Φ rv E L) (hb:zBo E) {o:Oper} (yI:zSv P nt o=true) {fz tk nl:Bool} (h:(opM P H fz tk nl o).run orc e=some e') :
    zSF P o a w fun a' w'=>Fr w0 U Φ0 nt hv a' w' e':=by
  obtain ⟨dst,op,type,pos,after,guard⟩:=o
  simp only [zSv,Bool.and_eq_true] at yI
  obtain ⟨w6,yI⟩:=yI
  have hd:∀ x,dst=some x→x<nt:=by
    intro x hx;subst hx;exact zB1 w6
  have all:∀ {xs:List Operand},xs.all (zAO nt)=true→∀ x∈xs,zAO nt x=true:=fun h=>List.all_eq_true.1 h
  cases op<;>simp only [opM] at h<;>try (cases h;done)
  case move x=>exact zAK (by simp [execOp]) (zU0 S hb hd yI h)
  case assign x=>exact zAK (by simp [execOp]) (zR3 S hb hd yI h)
  case pick c x y =>
    simp only [Bool.and_eq_true] at yI
    obtain ⟨t,h1,h2⟩:=zVw S hb hd yI.1.1 yI.1.2 yI.2 h
    exact zAK (by simp [execOp,asBool,h1]) h2
  case alloc t =>
    obtain ⟨v,w',h1,h2⟩:=zSJ S hb hd h
    exact zAK (by simp [execOp,h1]) h2
  case box t x =>
    obtain ⟨v,w',h1,h2⟩:=zWN S hb hd yI h
    exact zAK (by simp [execOp,h1]) h2
  case build t ps =>
    obtain ⟨v,h1,h2⟩:=zT7 S hb hd (List.all_eq_true.1 yI) h
    exact zAK (by simp only [execOp,Sem.run_bind,h1,Result.andThen_ok,Sem.run_pure]) h2
  case buildSlice t n ps =>
    obtain ⟨v,w',h1,h2⟩:=zKV S hb hd (List.all_eq_true.1 yI) h
    exact zAK (by simp only [execOp,Sem.run_bind,h1,Result.andThen_ok,Sem.run_pure]) h2
  case load t x =>
    obtain ⟨v,h1,h2⟩:=zQH S hb hd yI h
    exact zAK (by simp [execOp,h1]) h2
  case store t x y =>
    simp only [Bool.and_eq_true,Option.isNone_iff_eq_none] at yI
    obtain ⟨⟨rfl,hx⟩,hy⟩:=yI
    obtain ⟨w',h1,h2⟩:=zT4 S hb hx hy h
    simp only [zSF,execOp,Sem.run_bind,h1,Result.andThen_ok,Sem.run_pure,Act.put]
    exact h2
  case nilCheck x =>
    obtain ⟨h1,h2⟩:=zWy S hb hd yI h
    refine zAK (v:=a.eval x) (w':=w) ?_ h2
    simp only [execOp]
    revert h1
    generalize a.eval x=v
    intro h1
    split<;>first | (exact h1.elim) | rfl
  case binOp op t x y ty =>
    simp only [Bool.and_eq_true] at yI
    obtain ⟨v,h1,h2⟩:=zV8 S hb hd yI.1 yI.2 h
    exact zAK (by simp only [execOp,Sem.run_bind] at h1 ⊢;simp only [h1];rfl) h2
  case unOp op t x =>
    obtain ⟨v,h1,h2⟩:=zY6 (P:=P) S hb hd yI h
    exact zAK (by simp [execOp,h1]) h2
  case convert s t x =>
    simp only [Bool.and_eq_true] at yI
    obtain ⟨v,h1,h2⟩:=zVr S hb hd yI.1 yI.2 h
    exact zAK (by simp [execOp,h1]) h2
  case makeFunc f fs cs =>
    simp only [Bool.and_eq_true] at yI
    cases f<;>try (cases h;done)
    exact zAK (by simp [execOp,Instr.makeFunc]) (zUQ S hb hd (all yI.1) (all yI.2) h)
  case makeMap t r =>
    cases r with
    | some r=>cases h
    | none =>
      obtain ⟨v,w',h1,h2⟩:=zP2 (P:=P) (t:=t) S hb hd h
      exact zAK (by simp [execOp,h1]) h2
  case makeSlice t l c =>
    simp only [Bool.and_eq_true] at yI
    obtain ⟨v,w',h1,h2⟩:=zMQ S hb hd yI.1 yI.2 h
    exact zAK (by simp [execOp,h1]) h2
  case slice t x lo hi mx =>
    simp only [Bool.and_eq_true] at yI
    obtain ⟨v,h1,h2⟩:=zTM S hb hd yI.1.1.1 (fun y hy=>by subst hy;exact yI.1.1.2) (fun y hy=>by subst hy;exact yI.1.2) (fun y hy=>by subst hy;exact yI.2) h
    exact zAK (by simp [execOp,h1]) h2
  case fieldAddr t x i =>
    obtain ⟨v,h1,h2⟩:=zMt S hb hd yI h
    exact zAK (by simp [execOp,h1]) h2
  case field t x i =>
    obtain ⟨v,h1,h2⟩:=zSV S hb hd yI h
    exact zAK (by simp [execOp,h1]) h2
  case indexAddr t x i =>
    simp only [Bool.and_eq_true] at yI
    obtain ⟨v,h1,h2⟩:=zMf S hb hd yI.1 yI.2 h
    exact zAK (by simp [execOp,h1]) h2
  case index t x i =>
    simp only [Bool.and_eq_true] at yI
    obtain ⟨v,h1,h2⟩:=zTI S hb hd yI.1 yI.2 h
    exact zAK (by simp [execOp,h1]) h2
  case lookup t m x ok =>
    simp only [Bool.and_eq_true] at yI
    obtain ⟨v,h1,h2⟩:=zQM S hb hd yI.1 yI.2 h
    exact zAK (by simp [execOp,h1]) h2
  case mapUpdate t m x y =>
    simp only [Bool.and_eq_true,Option.isNone_iff_eq_none] at yI
    obtain ⟨⟨⟨rfl,hm⟩,hx⟩,hy⟩:=yI
    obtain ⟨w',h1,h2⟩:=zKb S hb hm hx hy h
    simp only [zSF,execOp,Sem.run_bind,h1,Result.andThen_ok,Sem.run_pure,Act.put]
    exact h2
  case mapEntry t m x =>
    simp only [Bool.and_eq_true] at yI
    obtain ⟨v,w',h1,h2⟩:=zLJ S hb hd yI.1 yI.2 h
    simp only [zSF,execOp,Sem.run_bind,h1,Result.andThen_ok,Sem.run_pure]
    exact h2
  case entryStore t m s x =>
    simp only [Bool.and_eq_true,Option.isNone_iff_eq_none] at yI
    obtain ⟨⟨⟨rfl,hm⟩,hs⟩,hx⟩:=yI
    obtain ⟨w',h1,h2⟩:=zIX (P:=P) (t:=t) S hb hm hs hx h
    simp only [zSF,execOp,Sem.run_bind,Act.put]
    rw [h1]
    exact h2
  case extract x i =>
    cases x<;>try (cases h;done)
    obtain ⟨v,h1,h2⟩:=zPn (P:=P) S hb hd (zB1 yI) h
    exact zAK (by simp [execOp,h1]) h2
  case call c =>
    simp only [Bool.and_eq_true] at yI
    obtain ⟨yL,yu⟩:=yI
    obtain ⟨callee,args,argTypes⟩:=c
    replace yL:∀ x∈args.toList,zAO nt x=true:=List.all_eq_true.1 yL
    simp only [zKM] at h
    cases callee with
    | invoke r m=>cases h
    | value f =>
      simp only at h yu yL
      obtain ⟨g,h1,hg⟩:=zBq S yu h
      cases g<;>simp only [zTh] at h1<;>try (cases h1;done)
      case func g fs cs =>
        obtain ⟨ps,h2,y7⟩:=zHq S yL h1
        obtain ⟨_,us,vs,hgv,vt,yg⟩:=hg
        have hr:zAX w Φ (zA2 w rv E) (fs++ps++cs) (us++args.map a.eval++vs).toList []:=by
          have:=(vt.append y7).append yg
          simpa using this
        obtain ⟨⟨fn,kP,yT⟩,kQ⟩:=zSY jE S hd hr h2
        have yA:(execOp a.eval ⟨dst,.call ⟨.value f,args,argTypes⟩,type,pos,after,guard⟩).run P w = .ok (.enter g (us++args.map a.eval++vs)) w:=by
          have hn:=hnm g fn kP
          have wW:¬ fn.body=none:=by intro hb;rw [hb] at yT;cases yT
          have vp : ¬ fn.name = "runtime.NumGoroutine" := by simpa using hn
          simp [execOp,Go.resolve,hgv,Deferred.ofValue,invoke,callFunc,kP,wW,vp]
        simp only [zSF,yA]
        exact kQ
    | builtin b =>
      simp only at h yu yL
      have yA:∀ v w',(builtin b argTypes type (args.map fun | .const _=>true | _=>false) (args.map a.eval)).run P w = .ok (.value v) w'→(execOp a.eval ⟨dst,.call ⟨.builtin b,args,argTypes⟩,type,pos,after,guard⟩).run P w = .ok (.value v) w':=by
        intro v w' hr
        simp only [execOp,Go.resolve,Sem.run_bind,Sem.run_pure,Result.andThen_ok,invoke]
        exact hr
      cases b<;>simp only at yu<;>try (cases yu;done)
      case len =>
        obtain ⟨v,h1,h2⟩:=zWp (ty:=type) S hb hd yL h
        exact zAK (yA v w (by simp [builtin,h1])) h2
      case max =>
        obtain ⟨v,h1,h2⟩:=zWG (ty:=type) S hb hd yL h
        exact zAK (yA v w (by simp [builtin,h1])) h2
      case min =>
        obtain ⟨v,h1,h2⟩:=zWl (ty:=type) S hb hd yL h
        exact zAK (yA v w (by simp [builtin,h1])) h2
      case append =>
        have yF:=Nat.eq_of_beq_eq_true yu
        obtain ⟨t,t2,rfl⟩:∃ t t2,argTypes=#[t,t2]:=by
          match argTypes,yF with
          | ⟨[t,t2]⟩,_=>exact ⟨t,t2,rfl⟩
        have hax:∃ x y,args=#[x,y]:=by
          obtain ⟨l⟩:=args
          simp only [zBu] at h
          match l,h with
          | [x,y],_=>exact ⟨x,y,rfl⟩
          | [],h=>cases h
          | [_],h=>cases h
          | _::_::_::_,h=>cases h
        obtain ⟨x,y,rfl⟩:=hax
        obtain ⟨v,w',h1,h2⟩:=zQs (ty:=type) S hb hd (yL x (by simp)) (yL y (by simp)) h
        exact zAK (yA v w' (by simp only [builtin,Sem.run_bind,List.map_toArray,List.map_cons,List.map_nil,h1,Result.andThen_ok,Sem.run_pure])) h2
      case clear =>
        obtain ⟨t,ts,rfl⟩:∃ t ts,argTypes=(t::ts).toArray:=by
          match argTypes,yu with
          | ⟨t::ts⟩,_=>exact ⟨t,ts,rfl⟩
        obtain ⟨x,rfl⟩:∃ x,args=#[x]:=by
          obtain ⟨l⟩:=args
          match l,h with
          | [x],_=>exact ⟨x,rfl⟩
          | [],h=>simp only [zBu] at h;cases h
          | _::_::_,h=>simp only [zBu] at h;cases h
        obtain ⟨w',h1,h2⟩:=zTj (ty:=type) S hb hd (yL x (by simp)) h
        exact zAK (yA _ w' (by simp only [builtin,Sem.run_bind,List.map_toArray,List.map_cons,List.map_nil,h1,Result.andThen_ok,Sem.run_pure])) h2
      case copy =>
        have yF:=Nat.eq_of_beq_eq_true yu
        obtain ⟨t,t2,rfl⟩:∃ t t2,argTypes=#[t,t2]:=by
          match argTypes,yF with
          | ⟨[t,t2]⟩,_=>exact ⟨t,t2,rfl⟩
        have hax:∃ x y,args=#[x,y]:=by
          obtain ⟨l⟩:=args
          simp only [zBu] at h
          match l,h with
          | [x,y],_=>exact ⟨x,y,rfl⟩
          | [],h=>cases h
          | [_],h=>cases h
          | _::_::_::_,h=>cases h
        obtain ⟨x,y,rfl⟩:=hax
        obtain ⟨v,w',h1,h2⟩:=zU1 (ty:=type) S hb hd (yL x (by simp)) (yL y (by simp)) h
        exact zAK (yA v w' (by simp only [builtin,Sem.run_bind,List.map_toArray,List.map_cons,List.map_nil,h1,Result.andThen_ok,Sem.run_pure])) h2
  all_goals first | (cases yI;done) | skip
end
end Go.Eng
namespace Go.Eng
open Go
def FF (ro:Option Nat):Fence:={Fence.wide with round:=ro}
def zN5 (P:Program) (nt:Nat) (ops:Array Oper):Bool:=ops.toList.all (zSv P nt)
def zCT:Code→Bool
 | .seq a b=>zCT a&&zCT b
 | .cond _ a b=>zCT a&&zCT b
 | .block _ b=>zCT b
 | .loop b=>zCT b
 | .scope b=>zCT b
 | .rangeFunc .. => false
 | _=>true
def zCC (P:Program) (nt:Nat):Code→Bool
 | .skip=>true
 | .region _ ops _=>zN5 P nt ops
 | .seq a b=>zCC P nt a&&zCC P nt b
 | .cond c a b=>zAO nt c&&zCC P nt a&&zCC P nt b
 | .block _ b=>zCC P nt b
 | .loop b=>zCC P nt b
 | .exit _=>true
 | .ret=>true
 | .label _=>true
 | .scope b=>zCC P nt b
 | .rangeFunc f ps a b=>zAO nt f&&ps.toList.all (fun t=>Nat.blt t nt)&&zCC P nt a&&zCC P nt b&&zCT a&&zCT b
 | _=>false
def X.exit:X→Exit
 | .norm => .normal
 | .ex id => .exit id
 | .ret => .ret
section
variable {P:Program} {H:zBb} {w0 w:World} {U Φ0 Φ:Nat→Prop} {nt:Nat} {hv:Hid} {a:Act} {e e':Env} {rv:Nat→Value} {E:Nat→PV} {L:Nat→List Nat} {orc:zAD} {ro:Option Nat} {n:Nat} {Q:Exit→Act→World→Prop}
theorem zLS {o:Oper} (h:zSv P nt o=true):zQ2 o.op=false:=by
 obtain ⟨dst,op,type,pos,after,guard⟩:=o
 simp only [zSv,Bool.and_eq_true] at h
 cases op<;>first | rfl | (cases h.2;done)
theorem zIv {o:Oper} (h:zSv P nt o=true):∀ x,o.dst=some x→x<nt:=by
 intro x hx
 simp only [zSv,Bool.and_eq_true] at h
 rw [hx] at h
 exact zB1 h.1
theorem zDK {ops:Array Oper} {i:Nat} {F:Fence} {K K':Act→World→Prop} (h:wpOpIn F n P ops Q i K a w) (hk:∀ a w,K a w→K' a w):wpOpIn F n P ops Q i K' a w:=wpOpIn_mono hk h
theorem zLg (jE:zGb P orc) (hnm:zEJ P) {ops:Array Oper} (yv:zN5 P nt ops=true) (hf:Fr w0 U Φ0 nt hv a w e) {i:Nat} {o:Oper} (hi:ops[i]? = some o) {fz tk nl:Bool} (h:(zFL P H ops fz tk nl o).run orc e=some e') :
  wpOpIn (FF ro) n P ops Q i (fun a' w'=>Fr w0 U Φ0 nt hv a' w' e') a w:=by
 obtain ⟨Φ,rv,E,L,S,hb⟩:=hf
 have yY:∀ (j:Nat) (x:Oper),ops[j]? = some x→zSv P nt x=true:=fun j x hx=>List.all_eq_true.1 yv x (by
  rw [← Array.getElem?_toList] at hx;exact List.mem_of_getElem? hx)
 have yI:=yY i o hi
 have ju:=zIv yI
 simp only [wpOpIn,hi]
 simp only [zFL] at h
 have done:Region.wanted o (yielded ops a.tmps)=true→(opM P H fz tk nl o).run orc e=some e' →
   (if Region.wanted o (yielded ops a.tmps) then o.wpIn (FF ro) n P a w (fun a' w'=>Fr w0 U Φ0 nt hv a' w' e') Q else (∀ f,o.about P w a.eval=some f→(FF ro).fn f)∧(fun a' w'=>Fr w0 U Φ0 nt hv a' w' e') (a.put o.dst undef) w):=by
  intro hw h
  rw [if_pos hw]
  exact zVg (zLS yI) (zW9 jE hnm S hb yI h)
 have skip:Region.wanted o (yielded ops a.tmps)=false→(put o.dst .und).run orc e=some e' →
   (if Region.wanted o (yielded ops a.tmps) then o.wpIn (FF ro) n P a w (fun a' w'=>Fr w0 U Φ0 nt hv a' w' e') Q else (∀ f,o.about P w a.eval=some f→(FF ro).fn f)∧(fun a' w'=>Fr w0 U Φ0 nt hv a' w' e') (a.put o.dst undef) w):=by
  intro hw h
  rw [hw]
  exact ⟨fun _ _=>trivial,zAu S hb ju h (p := .und) ⟨rfl,rfl⟩⟩
 cases hg:o.guard with
 | none =>
  rw [hg] at h
  exact done (by simp [Region.wanted,hg]) h
 | some x =>
  obtain ⟨j,want⟩:=x
  rw [hg] at h
  simp only at h
  cases hj:(ops[j]?).bind (·.dst) with
  | none=>rw [hj] at h;cases h
  | some t =>
   rw [hj] at h
   simp only [PM.run] at h
   have uK:t<nt:=by
    cases gU:ops[j]? with
    | none=>rw [gU] at hj;cases hj
    | some oj=>rw [gU] at hj;exact zIv (yY j oj gU) t hj
   have yf:t<zAb:=Nat.lt_of_lt_of_le uK (Nat.le_trans S.small (by decide))
   have hX:=S.conf.rep t
   rw [S.env t yf] at hX
   have htm:a.tmps[t]? = some (rv t):=by
    have h1:=S.tmps t uK
    have h2:t<a.tmps.size:=by rw [S.size];exact uK
    rw [Array.getElem?_eq_getElem h2]
    simp only [Array.getD,h2,dite_true] at h1
    rw [← h1];rfl
   have jz:yielded ops a.tmps j=match rv t with | .bool b=>some b | _=>none:=by
    simp only [yielded,hj,Option.bind_some,htm]
    cases rv t<;>rfl
   revert h
   cases hp:e.get t<;>intro h<;>try (cases h;done)
   case bool b =>
    simp only at h
    have yE:rv t = .bool b:=by rw [hp] at hX;exact hX.1
    rw [yE] at jz
    simp only at jz
    split at h
    ·rename_i gV
     subst gV
     exact done (by simp [Region.wanted,hg,jz]) h
    ·rename_i gV
     exact skip (by simp [Region.wanted,hg,jz,gV]) h
   case und =>
    have yE:rv t=undef:=by rw [hp] at hX;exact hX.1
    rw [yE] at jz
    exact skip (by simp only [Region.wanted,hg,jz];rfl) h
theorem Fr.drop (hf:Fr w0 U Φ0 nt hv a w e) (l:List Nat):Fr w0 U Φ0 nt hv a w (e.drop l):=by
 obtain ⟨Φ,rv,E,L,S,hb⟩:=hf
 have hc:=S.conf.drop (fun s=>decide (s<zAb)&&zLQ l s)
 refine ⟨Φ,rv,_,_,S.turn hc (fun s hs=>?_) (fun _ _=>rfl) (fun d ps hd hp=>?_),fun g hg=>?_⟩
 ·rw [Env.get_drop,S.env s hs];simp [hs]
 ·by_cases h:(decide (d<zAb)&&zLQ l d)=true
  ·simp only [h,if_true] at hp;cases hp
  ·simp only [h] at hp;exact ⟨ps,hp,rfl⟩
 ·have:¬ g<zAb:=by omega
  simp [this,hb g hg]
end
end Go.Eng
namespace Go.Eng
open Go
section
variable {w0 w w' w1 w2:World} {U Φ0 Φ U1 Φ1 U2 Φ2:Nat→Prop} {nt:Nat} {hv:Hid} {a:Act} {e e':Env} {rv rv':Nat→Value} {E E':Nat→PV} {L L':Nat→List Nat}
theorem zBg {α:Type} {b:Bool} {x y:Option α} {r:α} (h:(bif b then x else y)=some r):(b=true∧x=some r)∨(b=false∧y=some r):=by
 cases b with
 | true=>exact .inl ⟨rfl,h⟩
 | false=>exact .inr ⟨rfl,h⟩
theorem zH9:∀ (p:PV),(zAT p).heavy=false:=by
 intro p
 induction p using PV.rec (motive_2:=fun ps=>zC0 (zAz ps)=false) (motive_3:=fun _=>True) (motive_4:=fun _=>True)<;>first | trivial | rfl | skip
 all_goals simp_all [zAT,zAz,PV.heavy,zC0]
mutual
theorem zKI {f:PV→PV} (hf:∀ a,a.isWay=true→(f a).heavy=false):∀ (p:PV),p.heavy=false→(p.mapW f).heavy=false
 | .agg cs,h=>zGt hf cs h
 | .tup cs,h=>zGt hf cs h
 | .addr ..,_=>hf _ rfl
 | .bor ..,_=>hf _ rfl
 | .bsl ..,_=>hf _ rfl
 | .bmap ..,_=>hf _ rfl
 | .log ..,_=>hf _ rfl
 | .own ..,h=>h
 | .box _,h=>by cases h
 | .omap _,h=>h
 | .lock _,h=>by cases h
 | .bad,h=>h
 | .und,h=>h
 | .int ..,h=>h
 | .bool _,h=>h
 | .nilp,h=>h
 | .nilf,h=>h
 | .nilm,h=>h
 | .nn,h=>h
 | .nils _,h=>h
 | .sl _,h=>h
 | .ref _,h=>rfl
 | .map _,h=>h
 | .func ..,h=>rfl
 | .yld _,h=>h
theorem zGt {f:PV→PV} (hf:∀ a,a.isWay=true→(f a).heavy=false):∀ (ps:List PV),zC0 ps=false→zC0 (zCN f ps)=false
 | [],h=>h
 | p::ps,h=>by
  simp only [zC0,Bool.or_eq_false_iff] at h
  simp only [zCN,zC0,zKI hf p h.1,zGt hf ps h.2,Bool.or_self]
end
theorem zQo (r:Nat) (pre:zAR) (q0:PV):∀ a:PV,a.isWay=true→(inl r pre q0 a).heavy=false:=by
 have at_:∀ {q:Option PV} {g:PV→PV},(∀ x,(g x).heavy=false)→(zGe q g).heavy=false:=by
  intro q g h;cases q<;>first | rfl | exact h _
 have h1:∀ i c sh x,(zDD i c sh x).heavy=false:=by
  intro i c sh x
  simp only [zDD]
  repeat' split
  all_goals first | rfl | (cases (_:Bool)<;>rfl) | skip
  all_goals (rename_i h;revert h;intro _)
  all_goals first | (generalize (Nat.ble _ _&&_)=b;cases b<;>rfl) | (generalize PV.oneCell _=b;cases b<;>rfl)
 have h2:∀ lo n x,(zCy lo n x).heavy=false:=by
  intro lo n x
  simp only [zCy]
  split
  ·generalize Nat.ble _ _=b;cases b<;>rfl
  ·rfl
 have h3:∀ i c sz ag m x,(zCq i c sz ag m x).heavy=false:=by
  intro i c sz ag m x
  simp only [zCq]
  repeat' split
  all_goals first | rfl | skip
  generalize (zCk _ _ _ _&&_)=b;cases b<;>rfl
 have h4:∀ x,(zEI x).heavy=false:=by intro x;cases x<;>rfl
 intro a ha
 cases a<;>first | (cases ha;done) | skip
 case addr=>simp only [inl];generalize zAJ _ _ _ _=b;cases b<;>first | rfl | exact at_ (h1 _ _ _)
 case bor=>simp only [inl];generalize zAJ _ _ _ _=b;cases b<;>first | rfl | exact at_ (h2 _ _)
 case bsl=>simp only [inl];generalize zAJ _ _ _ _=b;cases b<;>first | rfl | exact at_ (h3 _ _ _ _ _)
 case bmap=>simp only [inl];generalize zAJ _ _ _ _=b;cases b<;>first | rfl | exact at_ h4
 case log=>rfl
theorem zJP:∀ (R:List Nat) {e ef:Env} {Φ:Nat→Prop} {E:Nat→PV} {L:Nat→List Nat},St w0 U Φ0 nt hv a w e Φ rv E L→zBo E→zEn R e=some ef →
  ∃ Φ' E' L',St w0 U Φ0 nt hv a w ef Φ' rv E' L'∧zBo E'∧(∀ b,Φ b→Φ' b)∧(∀ b,Φ' b→Φ b∨∃ r∈R,b∈L r)∧(∀ r∈R,∀ b∈L r,Φ' b)∧∀ s,∀ b∈L' s,b∈L s
 | [],e,ef,Φ,E,L,S,hb,h=>by
  simp only [zEn,Option.some.injEq] at h;subst h
  exact ⟨Φ,E,L,S,hb,fun _ h=>h,fun _ h => .inl h,fun _ h=>(by cases h),fun _ _ h=>h⟩
 | r :: R, e,ef,Φ,E,L,S,hb,h=>by
  simp only [zEn] at h
  rcases zBg h with ⟨hr,h⟩ | ⟨_,h⟩
  ·have hr:=zB1 hr
   cases hf:e.frz r [] with
   | none=>rw [hf] at h;cases h
   | some e1 =>
    rw [hf] at h;simp only at h
    obtain ⟨q0,root,hl,hn,hm,yY⟩:=Env.frz_eq hf
    have yD:=zBy hl
    have hE:=S.env r hr
    obtain ⟨k1,k2⟩:=zBM (zFc q0).1 (zFc q0).2 hm
    obtain ⟨nv,Li,L1,h1,h2,h3,h4⟩:=S.conf.ice (fun _=>false) hr (pre:=[]) (q:=q0) (root':=root) (by rw [hE];exact yD) (by rw [hE];exact hn) (by rw [hE];exact hm) k1
    have hq:q0=E r:=by simp only [zAx,Option.some.injEq] at hn;rw [hE,hn]
    have kg:root=zAT q0:=by simp only [zAt,Option.some.injEq] at hm;exact hm.symm
    have uR:Li=L r:=by
     simp only [zAP,Option.some.injEq,Prod.mk.injEq] at h1
     rw [← h1.1,hq] at h2
     exact Rep.uniq _ _ _ _ h2 (by rw [show E r=(E r).unlock from (by rw [hE];exact yD.symm)];exact zB3 (S.conf.rep r))
    have hL1r:L1 r=[]:=by
     have:=h4.rep r
     simp only [hr,true_or,if_true] at this
     refine zDj _ _ _ ?_ this
     rw [kg]
     have hh:=zH9 q0
     exact zKI (zQo r [] q0) _ hh
    have S1:St w0 U Φ0 nt hv a w e1 (fun b=>Φ b∨b∈Li) rv (fun s=>if s<zAb∨False then (if s=r then root else E s).mapW (inl r [] q0) else E s) L1:=by
     refine S.turn (by simpa using h4) (fun s hs=>?_) (fun _ _=>rfl) (fun d ps hd hp=>?_)
     ·simp only [hs,true_or,if_true]
      rw [yY s]
      by_cases yZ:s=r
      ·subst yZ;simp
      ·rw [if_neg yZ,if_neg yZ,S.env s hs]
     ·have uc:d<zAb:=by simp only [zAb];omega
      simp only [uc,true_or,if_true] at hp
      obtain ⟨ps',h5,h6⟩:=zDY (zRY r [] q0) hp
      by_cases jx:d=r
      ·rw [if_pos jx] at h5;rw [h5] at k2;cases k2
      ·rw [if_neg jx] at h5;exact ⟨ps',h5,h6⟩
    have y5:zBo fun s=>if s<zAb∨False then (if s=r then root else E s).mapW (inl r [] q0) else E s:=by
     intro g hg
     have:¬ g<zAb:=by omega
     simp [this,hb g hg]
    obtain ⟨Φ',E',L',g1,g2,g3,g4,g5,g6⟩:=zJP R S1 y5 h
    have y8:∀ s,∀ b∈L1 s,b∈L s:=by
     intro s b kX
     by_cases yZ:s=r
     ·subst yZ;rw [hL1r] at kX;cases kX
     ·rw [h3 s yZ] at kX;exact kX
    refine ⟨Φ',E',L',g1,g2,fun b hb=>g3 b (.inl hb),fun b hb=>?_,fun t ht b kT=>?_,fun s b kX=>y8 s b (g6 s b kX)⟩
    ·rcases g4 b hb with (h5 | h5) | ⟨t,ht,h5⟩
     ·exact .inl h5
     ·exact .inr ⟨r,by simp,by rw [← uR];exact h5⟩
     ·exact .inr ⟨t,by simp [ht],y8 t b h5⟩
    ·by_cases htr:t=r
     ·subst htr;exact g3 b (.inr (by rw [uR];exact kT))
     ·rcases List.mem_cons.1 ht with h5 | h5
      ·exact absurd h5 htr
      ·exact g5 t h5 b (by rw [h3 t htr];exact kT)
  ·cases h
theorem Fr.ice {R:List Nat} (hf:Fr w0 U Φ0 nt hv a w e):Fr w0 U Φ0 nt hv a w (zV2 R e):=by
 simp only [zV2]
 cases h:zEn R e with
 | none=>exact hf
 | some ef =>
  obtain ⟨Φ,rv,E,L,S,hb⟩:=hf
  obtain ⟨Φ',E',L',S',yH,_⟩:=zJP R S hb h
  exact ⟨Φ',rv,E',L',S',yH⟩
end
end Go.Eng
namespace Go.Eng
open Go
theorem zD1 {r:Nat} {pre:zAR} {p:PV} (h:∀ x∈p.ways,zAJ r pre x.1 x.2=false):p.mapW (lose r pre)=p:=by
 refine zDJ p (fun a ha hw hn=>?_) (fun _ _=>rfl)
 have hx:∀ x,a.ways=[x]→zAJ r pre x.1 x.2=false:=fun x hx=>h x (hw x (by rw [hx];simp))
 cases a<;>first | (cases ha;done) | (exact absurd rfl (hn _ _)) | skip
 case addr r' q i c sh=>have:=hx _ rfl;simp only [zAJ] at this;simp only [lose,this];rfl
 case bor r' q z lo n=>have:=hx _ rfl;simp only [zAJ] at this;simp only [lose,this];rfl
 case bsl r' q i c sz ag n=>have:=hx _ rfl;simp only [zAJ] at this;simp only [lose,this];rfl
 case bmap r' q=>have:=hx _ rfl;simp only [zAJ] at this;simp only [lose,this];rfl
theorem zCx {r:Nat} {keep:List zAR} {p:PV} (h:∀ x∈p.ways,(Nat.beq x.1 r && !x.2.isEmpty)=false):p.mapW (zBJ r keep)=p:=by
 refine zDJ p (fun a ha hw hn=>?_) (fun _ _=>rfl)
 have hx:∀ x,a.ways=[x]→(Nat.beq x.1 r && !x.2.isEmpty)=false:=fun x hx=>h x (hw x (by rw [hx];simp))
 have key:∀ r' (q:zAR),(Nat.beq r' r && !q.isEmpty)=false→(Nat.beq r' r && !(q.isEmpty||keep.any q.isPrefixOf))=false:=by
  intro r' q h
  cases hb:Nat.beq r' r with
  | false=>rfl
  | true=>rw [hb] at h;simp only [Bool.true_and,Bool.not_eq_false'] at h ⊢;rw [h];rfl
 cases a<;>first | (cases ha;done) | (exact absurd rfl (hn _ _)) | skip
 case addr r' q i c sh=>simp only [zBJ,key _ _ (hx _ rfl)];rfl
 case bor r' q z lo n=>simp only [zBJ,key _ _ (hx _ rfl)];rfl
 case bsl r' q i c sz ag n=>simp only [zBJ,key _ _ (hx _ rfl)];rfl
 case bmap r' q=>simp only [zBJ,key _ _ (hx _ rfl)];rfl
theorem zFB {r:Nat} {pre:zAR} {q0 p:PV} (h:∀ x∈p.ways,zAJ r pre x.1 x.2=false):p.mapW (inl r pre q0)=p:=by
 refine zDJ p (fun a ha hw hn=>?_) (fun _ _=>rfl)
 have hx:∀ x,a.ways=[x]→zAJ r pre x.1 x.2=false:=fun x hx=>h x (hw x (by rw [hx];simp))
 cases a<;>first | (cases ha;done) | (exact absurd rfl (hn _ _)) | rfl | skip
 case addr r' q i c sh=>have:=hx _ rfl;simp only [inl,this];rfl
 case bor r' q z lo n=>have:=hx _ rfl;simp only [inl,this];rfl
 case bsl r' q i c sz ag n=>have:=hx _ rfl;simp only [inl,this];rfl
 case bmap r' q=>have:=hx _ rfl;simp only [inl,this];rfl
theorem zHy {x q q':PV} {c:Nat} (hq:x.cells[c]? = some q) (hg:q'.isAgg=q.isAgg∨q'.isAgg=false):(zAw x c [q']).cells=x.cells.set c q':=by
 rcases hg with hg | hg
 ·exact zL2 hq hg
 ·cases hx:x.isAgg with
  | true =>
   cases x<;>simp [PV.isAgg] at hx
   rename_i cs
   have hc:c<cs.length:=(List.getElem?_eq_some_iff.1 hq).1
   show cs.take c++[q']++cs.drop (c+1)=cs.set c q'
   rw [List.set_eq_take_append_cons_drop,if_pos hc];simp
  | false =>
   have j3:x.cells=[x]:=by cases x<;>first | rfl | simp [PV.isAgg] at hx
   rw [j3] at hq ⊢
   have hc:c=0:=by have:=(List.getElem?_eq_some_iff.1 hq).1;simp at this;exact this
   subst hc
   have he:zAw x 0 [q']=q':=by cases x<;>first | rfl | simp [PV.isAgg] at hx
   rw [he]
   cases q'<;>first | rfl | simp [PV.isAgg] at hg
theorem zHh {p q q' p':PV} {i c:Nat} (hc:Eng.child p i c=some q) (hp:zBZ p i c q'=some p') :
  ∃ xs x,zAZ p=some xs∧xs[i]? = some x∧x.cells[c]? = some q∧zAZ p'=some (xs.set i (zAw x c [q']))∧((∃ sz,p = .own sz xs∧p' = .own sz (xs.set i (zAw x c [q'])))∨(∃ y,p = .box y∧i=0∧x=y∧p' = .box (zAw y c [q']))∨∃ cs,p = .agg cs∧i=0∧x = .agg cs∧p' = .agg (cs.take c++[q']++cs.drop (c+1))):=by
 simp only [Eng.child] at hc
 simp only [zBZ] at hp
 cases hh:zAZ p with
 | none=>rw [hh] at hc;cases hc
 | some xs =>
  rw [hh] at hc hp;simp only [Option.bind_some] at hc hp
  cases hx:xs[i]? with
  | none=>rw [hx] at hc;cases hc
  | some x =>
   rw [hx] at hc hp;simp only [Option.bind_some] at hc hp
   have hi:i<xs.length:=(List.getElem?_eq_some_iff.1 hx).1
   refine ⟨xs,x,rfl,hx,hc,?_⟩
   cases p<;>simp only [zAZ] at hh<;>try cases hh
   ·rename_i cs
    have j8:i=0:=by simpa using hi
    subst j8
    simp only [List.getElem?_cons_zero,Option.some.injEq] at hx;subst hx
    simp only [zAw,List.set_cons_zero,zAB,Option.some.injEq] at hp ⊢
    subst hp;refine ⟨?_,.inr (.inr ⟨cs,?_⟩)⟩<;>first | (simp [zAZ];done) | rfl | exact ⟨rfl,rfl⟩ | exact ⟨rfl,rfl,rfl,rfl⟩
   ·rename_i sz
    simp only [zAB,Option.some.injEq] at hp
    subst hp;refine ⟨?_,.inl ⟨sz,?_⟩⟩<;>first | (simp [zAZ];done) | rfl | exact ⟨rfl,rfl⟩ | exact ⟨rfl,rfl,rfl,rfl⟩
   ·rename_i q0
    have j8:i=0:=by simpa using hi
    subst j8
    simp only [List.getElem?_cons_zero,Option.some.injEq] at hx;subst hx
    simp only [List.set_cons_zero,zAB,Option.some.injEq] at hp ⊢
    subst hp;refine ⟨?_,.inr (.inl ⟨q0,?_⟩)⟩<;>first | (simp [zAZ];done) | rfl | exact ⟨rfl,rfl⟩ | exact ⟨rfl,rfl,rfl,rfl⟩
theorem zPX {p q q' p':PV} {i c:Nat} (hc:Eng.child p i c=some q) (hg:q'.isAgg=q.isAgg∨q'.isAgg=false) (hp:zBZ p i c q'=some p') :
  Eng.child p' i c=some q'∧∀ i2 c2,(i2,c2)≠(i,c)→Eng.child p' i2 c2=Eng.child p i2 c2:=by
 obtain ⟨xs,x,hh,hx,LF,wg,_⟩:=zHh hc hp
 have yi:=zHy LF hg
 have hi:i<xs.length:=(List.getElem?_eq_some_iff.1 hx).1
 have yO:c<x.cells.length:=(List.getElem?_eq_some_iff.1 LF).1
 refine ⟨?_,fun i2 c2 hI=>?_⟩
 ·simp only [Eng.child,wg,Option.bind_some,List.getElem?_set_self hi,yi,List.getElem?_set_self yO]
 ·simp only [Eng.child,wg,hh,Option.bind_some]
  by_cases kS:i2=i
  ·subst kS
   rw [List.getElem?_set_self hi,hx];simp only [Option.bind_some,yi]
   rw [List.getElem?_set_ne (by intro e;exact hI (by rw [e]))]
  ·rw [List.getElem?_set_ne (by omega)]
theorem zM3 (r:Nat) (pre:zAR) (a:PV):zG4 r pre (.box a) = .addr r pre 0 0 (if a.isAgg then some a.cells.length else none):=by
 cases a<;>rfl
theorem zEt {p q:PV} (h:zCw p q=true) (r:Nat) (pre:zAR):zG4 r pre p=zG4 r pre q:=by
 cases p<;>cases q<;>simp only [zCw] at h<;>try (cases h;done)
 ·simp only [Bool.and_eq_true] at h
  have h1:=Nat.eq_of_beq_eq_true h.1
  have h2:=Nat.eq_of_beq_eq_true h.2
  subst h1
  simp only [zG4,h2]
 ·rename_i a b
  simp only [Bool.and_eq_true,beq_iff_eq] at h
  have h2:=Nat.eq_of_beq_eq_true h.2
  have h3:=h.1
  rw [zM3,zM3,h3,h2]
 ·rfl
theorem zTU {v:PV} (hv:v.isAgg=false):∀ (P:zAR) (x q':PV),P≠[]→zAt (fun _=>some v) x P=some q'→x.isAgg=false→zCw x q'=true
 | [],_,_,hn,_,_=>absurd rfl hn
 | (i, c) :: P,x,q',_,h,hx=>by
  rw [zBn] at h
  cases hc:Eng.child x i c with
  | none=>rw [hc] at h;cases h
  | some y =>
   rw [hc] at h;simp only [Option.bind_some] at h
   cases hm:zAt (fun _=>some v) y P with
   | none=>rw [hm] at h;cases h
   | some y' =>
    rw [hm] at h;simp only [Option.bind_some] at h
    obtain ⟨xs,z,_,hz,kB,_,⟨sz,rfl,rfl⟩ | ⟨w,rfl,rfl,rfl,rfl⟩ | ⟨cs,rfl,_⟩⟩:=zHh hc h
    ·simp [zCw]
    ·have wT:y'.isAgg=y.isAgg∨y'.isAgg=false:=by
      cases P with
      | nil=>simp only [zAt,Option.some.injEq] at hm;subst hm;exact .inr hv
      | cons a P =>
       rw [zBn] at hm
       cases jF:Eng.child y a.1 a.2 with
       | none=>rw [jF] at hm;cases hm
       | some y2 =>
        rw [jF] at hm;simp only [Option.bind_some] at hm
        cases vP:zAt (fun _=>some v) y2 P with
        | none=>rw [vP] at hm;cases hm
        | some y3=>rw [vP] at hm;simp only [Option.bind_some] at hm;exact .inl (zD2 hm)
     have yi:=zHy kB wT
     simp only [zCw,yi,List.length_set,Nat.beq_refl,Bool.and_true,beq_iff_eq]
     cases kY:z.isAgg with
     | true=>cases z<;>first | (cases kY;done) | rfl
     | false =>
      have j3:z.cells=[z]:=by cases z<;>first | rfl | simp [PV.isAgg] at kY
      rw [j3] at kB
      have vU:c=0:=by have:=(List.getElem?_eq_some_iff.1 kB).1;simp at this;exact this
      subst vU
      simp at kB;subst kB
      have he:zAw z 0 [y']=y':=by cases z<;>first | rfl | simp [PV.isAgg] at kY
      rw [he]
      rcases wT with h | h
      ·rw [h,kY]
      ·rw [h]
    ·cases hx
theorem zD6 {r i:Nat} {pre:zAR}:∀ (l1 l2:List PV) (k:Nat),(∀ (j:Nat) (nm:zAR),(l1[j]?).map (zG4 r nm)=(l2[j]?).map (zG4 r nm))→zBA r pre i k l1=zBA r pre i k l2
 | [],[],_,_=>rfl
 | [],y::ys,_,h=>by have:=h 0 [];simp at this
 | x::xs,[],_,h=>by have:=h 0 [];simp at this
 | x::xs,y::ys,k,h=>by
  have h0:=h 0 (pre++[(i,k)])
  simp only [List.getElem?_cons_zero,Option.map_some,Option.some.injEq] at h0
  simp only [zBA,h0]
  rw [zD6 xs ys (k+1) fun j nm=>by have:=h (j+1) nm;simpa using this]
theorem zR9 {s:Nat} {p q:PV} (h:zCw p q=true):view s p=view s q:=by
 have:=zEt h s []
 cases p<;>cases q<;>simp only [zCw] at h<;>first | (cases h;done) | exact this
theorem zVG {v:PV} (hv:v.isAgg=false):∀ (P:zAR) (x x':PV),zAt (fun _=>some v) x P=some x'→x'.isAgg=x.isAgg∨x'.isAgg=false
 | [],x,x',h=>by simp only [zAt,Option.some.injEq] at h;subst h;exact .inr hv
 | (i,c)::P,x,x',h=>by
  rw [zBn] at h
  cases jF:Eng.child x i c with
  | none=>rw [jF] at h;cases h
  | some y2 =>
   rw [jF] at h;simp only [Option.bind_some] at h
   cases vP:zAt (fun _=>some v) y2 P with
   | none=>rw [vP] at h;cases h
   | some y3=>rw [vP] at h;simp only [Option.bind_some] at h;exact .inl (zD2 h)
theorem zHc {s:Nat} {F:PV→Option PV} {P:zAR} {p q:PV} (h:zAt F p P=some q) (hk:zAN p q P=true):view s p=view s q:=by
 by_cases ha:(∃ cs,p = .agg cs)∧(∃ ds,q = .agg ds)∧P≠[]
 ·obtain ⟨⟨cs,rfl⟩,⟨ds,rfl⟩,hP⟩:=ha
  match P,hP with
  | (i, c)::rest,_ =>
   rw [zBn] at h
   cases hc:Eng.child (.agg cs) i c with
   | none=>rw [hc] at h;cases h
   | some x =>
    rw [hc] at h;simp only [Option.bind_some] at h
    cases hm:zAt F x rest with
    | none=>rw [hm] at h;cases h
    | some x' =>
     rw [hm] at h;simp only [Option.bind_some] at h
     obtain ⟨xs,z,hh,hz,kB,wg,⟨sz,h1,_⟩ | ⟨w,h1,_⟩ | ⟨cs',h1,rfl,rfl,h2⟩⟩:=zHh hc h
     ·cases h1
     ·cases h1
     ·cases h1
      have kB:cs[c]? = some x:=kB
      have yO:c<cs.length:=(List.getElem?_eq_some_iff.1 kB).1
      have yi:cs.take c++[x']++cs.drop (c+1)=cs.set c x':=by rw [List.set_eq_take_append_cons_drop,if_pos yO];simp
      simp only [PV.agg.injEq] at h2
      rw [yi] at h2;subst h2
      simp only [zAN,kB,List.getElem?_set_self yO] at hk
      show PV.agg _=PV.agg _
      congr 1
      refine zD6 _ _ _ fun j nm=>?_
      by_cases hj:c=j
      ·subst hj
       rw [List.getElem?_set_self yO,kB];simp only [Option.map_some];rw [zEt hk]
      ·rw [List.getElem?_set_ne hj]
 ·have:zAN p q P=zCw p q:=by
   cases p<;>cases q<;>first | rfl | skip
   cases P with
   | nil=>rfl
   | cons a P=>exact absurd ⟨⟨_,rfl⟩,⟨_,rfl⟩,by simp⟩ ha
  rw [this] at hk
  exact zR9 hk
def zQK (r:Nat) (nm:zAR) (p:PV) (Q:zAR) (i c n:Nat):Option (Bool×List PV) :=
 match zAx p Q with
 | some q=>match zBa q with
  | some xs=>match xs[i]? with
   | some x=>bif Nat.ble (c+n) x.cells.length then some (x.isAgg,zBA r nm i c ((x.cells.drop c).take n)) else none
   | none=>none
  | none=>none
 | none=>none
theorem zHN {v:PV} (hv:v.isAgg=false) {r:Nat} {nm:zAR} {i c n:Nat}:∀ (P Q:zAR) (p p':PV),zAt (fun _=>some v) p P=some p' →
  ((P.isPrefixOf Q=false∧∀ x,zAx p P=some x→zCw x v=true)∨(P≠[]∧P.dropLast.isPrefixOf Q=false))→zQK r nm p' Q i c n=zQK r nm p Q i c n
 | [],Q,p,p',h,hc=>by
  rcases hc with hc | hc
  ·simp at hc
  ·exact absurd rfl hc.1
 | (i0, c0) :: P,Q,p,p',h,uu=>by
  rw [zBn] at h
  cases hc:Eng.child p i0 c0 with
  | none=>rw [hc] at h;cases h
  | some x =>
   rw [hc] at h;simp only [Option.bind_some] at h
   cases hm:zAt (fun _=>some v) x P with
   | none=>rw [hm] at h;cases h
   | some x' =>
    rw [hm] at h;simp only [Option.bind_some] at h
    have hg:=zVG hv P x x' hm
    obtain ⟨ya,uw⟩:=zPX hc hg h
    cases Q with
    | cons y Q =>
     obtain ⟨j,d⟩:=y
     simp only [zQK,zB4]
     by_cases hjd:(j,d)=(i0,c0)
     ·cases hjd
      rw [ya,hc];simp only [Option.bind_some]
      refine zHN hv P Q x x' hm ?_
      rcases uu with ⟨h1,h2⟩ | ⟨_,h2⟩
      ·refine .inl ⟨by simpa using h1,fun y hy=>h2 y (by rw [zB4,hc];exact hy)⟩
      ·cases P with
       | nil=>simp at h2
       | cons a P=>exact .inr ⟨by simp,by simpa using h2⟩
     ·rw [uw j d hjd]
    | nil =>
     have hview:∀ nm,zG4 r nm x'=zG4 r nm x:=by
      intro nm
      have yw:zCw x x'=true→zG4 r nm x'=zG4 r nm x:=fun h=>(zEt h r nm).symm
      cases P with
      | nil =>
       simp only [zAt,Option.some.injEq] at hm;subst hm
       rcases uu with ⟨_,h2⟩ | ⟨_,h2⟩
       ·exact yw (h2 x (by rw [zB4,hc];rfl))
       ·simp at h2
      | cons a P =>
       cases hx:x.isAgg with
       | false=>exact yw (zTU hv _ x x' (by simp) hm hx)
       | true =>
        have uM:x'.isAgg=true:=by
         rw [zBn] at hm
         cases jF:Eng.child x a.1 a.2 with
         | none=>rw [jF] at hm;cases hm
         | some y2 =>
          rw [jF] at hm;simp only [Option.bind_some] at hm
          cases vP:zAt (fun _=>some v) y2 P with
          | none=>rw [vP] at hm;cases hm
          | some y3=>rw [vP] at hm;simp only [Option.bind_some] at hm;rw [zD2 hm,hx]
        cases x<;>first | (cases hx;done) | skip
        cases x'<;>first | (cases uM;done) | rfl
     obtain ⟨xs,z,hh,hz,kB,wg,hform⟩:=zHh hc h
     have yi:=zHy kB hg
     have yO:c0<z.cells.length:=(List.getElem?_eq_some_iff.1 kB).1
     have kG:(zAw z c0 [x']).isAgg=z.isAgg:=by
      cases kY:z.isAgg with
      | true=>cases z<;>first | (cases kY;done) | rfl
      | false =>
       have j3:z.cells=[z]:=by cases z<;>first | rfl | simp [PV.isAgg] at kY
       rw [j3] at kB
       have vU:c0=0:=by have:=(List.getElem?_eq_some_iff.1 kB).1;simp at this;exact this
       subst vU
       simp at kB;subst kB
       have he:zAw z 0 [x']=x':=by cases z<;>first | rfl | simp [PV.isAgg] at kY
       rw [he]
       rcases hg with h | h
       ·rw [h,kY]
       ·exact h
     have hvc:zBA r nm i c (((zAw z c0 [x']).cells.drop c).take n)=zBA r nm i c ((z.cells.drop c).take n):=by
      rw [yi]
      refine zD6 _ _ _ fun j nm=>?_
      simp only [List.getElem?_take,List.getElem?_drop]
      split
      ·by_cases hj:c0=c+j
       ·subst hj
        rw [List.getElem?_set_self yO,kB];simp only [Option.map_some,hview]
       ·rw [List.getElem?_set_ne hj]
      ·rfl
     have elem:(match (xs.set i0 (zAw z c0 [x']))[i]? with | some x=>bif Nat.ble (c+n) x.cells.length then some (x.isAgg,zBA r nm i c ((x.cells.drop c).take n)) else none | none=>none) =
       (match xs[i]? with | some x=>bif Nat.ble (c+n) x.cells.length then some (x.isAgg,zBA r nm i c ((x.cells.drop c).take n)) else none | none=>none):=by
      have hi:i0<xs.length:=(List.getElem?_eq_some_iff.1 hz).1
      by_cases kS:i0=i
      ·subst kS
       rw [List.getElem?_set_self hi,hz];simp only
       rw [hvc,kG,yi,List.length_set]
      ·rw [List.getElem?_set_ne kS]
     simp only [zQK,zAx]
     rcases hform with ⟨sz,rfl,rfl⟩ | ⟨w,rfl,rfl,rfl,rfl⟩ | ⟨cs,rfl,rfl,rfl,rfl⟩
     ·simp only [zBa];exact elem
     ·simp only [zAZ,Option.some.injEq] at hh;subst hh
      simp only [zBa];simpa using elem
     ·simp only [zBa]
abbrev zCJ:=Nat→PV
def PM.does (o:zAD):PM→zCJ→Tok→zCJ→Prop
 | .ok,g,t,g'=>t={}∧g'=g
 | .fail,_,_,_=>False
 | .view s k,g,t,g'=>∃ t',t=Tok.join {look:=[s]} t'∧(k (Eng.view s (g s))).does o g t' g'
 | .get s k,g,t,g'=>(g s).isLock=false∧∃ t',t=Tok.join {rd:=[s]} t'∧(k (g s)).does o g t' g'
 | .set s p k,g,t,g'=>∃ t',t=Tok.join (zFd s (g s) p) t'∧k.does o (upd g s p) t' g'
 | .cells r pre i c n k,g,t,g'=>∃ a qs t',zAr r (g r) pre i c n=some (a,qs)∧t=Tok.join {cel:=[(r,pre)]} t'∧(k a qs).does o g t' g'
 | .deep r pre k,g,t,g'=>∃ q t',zAx (g r).unlock pre=some q∧t=Tok.join {rd:=[r]} t'∧(k q).does o g t' g'
 | .wcells r pre i c qs k,g,t,g'=>∃ root t',zBP (g r) pre i c qs=some root∧t=Tok.join (zBd r [] (zAN (g r) root pre) (g r) root) t'∧k.does o (upd g r root) t' g'
 | .wnode r pre q k,g,t,g'=>(g r).isLock=false∧∃ root t',zAt (fun _=>some q) (g r) pre=some root ∧
   t=Tok.join (zBd r pre.dropLast (zAN (g r) root pre&&(pre.isEmpty || !q.isAgg)) (g r) root) t'∧k.does o (upd g r root) t' g'
 | .kill r pre k,g,t,g'=>∃ D t',(∀ s,s∉D→∀ x∈(g s).ways,zAJ r pre x.1 x.2=false)∧t=Tok.join (zAH D g (fun s=>(g s).mapW (lose r pre)) [r] []) t'∧k.does o (fun s=>(g s).mapW (lose r pre)) t' g'
 | .frz r pre k,g,t,g'=>(g r).isLock=false∧∃ D t' q root,(∀ s,s∉D→∀ x∈(g s).ways,zAJ r pre x.1 x.2=false)∧r∈D∧zAx (g r) pre=some q∧zAt (fun _=>some (zAT q)) (g r) pre=some root ∧
   t=Tok.join (zAH D g (fun s=>(upd g r root s).mapW (inl r pre q)) [r] []) t'∧k.does o (fun s=>(upd g r root s).mapW (inl r pre q)) t' g'
 | .killEx r keep k,g,t,g'=>∃ D t',(∀ s,s∉D→∀ x∈(g s).ways,(Nat.beq x.1 r && !x.2.isEmpty)=false)∧t=Tok.join (zAH D g (fun s=>(g s).mapW (zBJ r keep)) [] [r]) t'∧k.does o (fun s=>(g s).mapW (zBJ r keep)) t' g'
 | .forget _ _,_,t,_=>t.all=true
 | .call f args hid k,g,t,g'=>∃ v hO,o f args hid=some (v,hO)∧(k v hO).does o g t g'
theorem zVz {a b:List Nat} {x:Nat} (ha:x∈a) (hb:x∈b):zRP a b=true:=List.any_eq_true.2 ⟨x,ha,List.any_eq_true.2 ⟨x,hb,Nat.beq_refl x⟩⟩
theorem zD0 {a b:List Nat} (h:zRP a b=false) {x:Nat} (ha:x∈a):x∉b:=fun hb=>by rw [zVz ha hb] at h;cases h
structure Off (a b:Tok):Prop where
 all:a.all=false
 look:∀ s∈a.wr,s∉b.look
 rd:∀ s∈a.wr,s∉b.rd
 cel:∀ s∈a.wr,∀ c∈b.cel,c.1≠s
 wr:∀ s∈a.wr,s∉b.wr
 inn:∀ s∈a.wr,∀ c∈b.inn,c.1≠s
 ird:∀ w∈a.inn,w.1∉b.rd
 iinn:∀ w∈a.inn,∀ c∈b.inn,c.1≠w.1
 icel:∀ w∈a.inn,∀ c∈b.cel,c.1=w.1→w.2.isPrefixOf c.2=false
 ways:∀ s∈a.kills,∀ x∈b.ways,x.1≠s
 waysIn:∀ s∈a.killsIn,∀ x∈b.ways,x.1=s→x.2.isEmpty=true
theorem zD9 {l:List (Nat×zAR)} {x:Nat×zAR} (h:x∈l):x.1∈zMR l:=List.mem_map.2 ⟨x,h,rfl⟩
theorem zKo {a b:Tok} (h:zOV a b=false):Off a b:=by
 simp only [zOV,Bool.or_eq_false_iff] at h
 obtain ⟨⟨⟨⟨⟨⟨⟨⟨⟨⟨h1,h2⟩,h3⟩,h4⟩,h5⟩,h6⟩,h7⟩,h8⟩,h9⟩,jQ⟩,vC⟩:=h
 refine ⟨h1,fun s hs=>zD0 h2 hs,fun s hs=>zD0 h3 hs,fun s hs c hc e=>?_,fun s hs=>zD0 h5 hs,fun s hs c hc e=>?_,fun w hw=>zD0 h7 (zD9 hw),fun w hw c hc e=>?_,fun w hw c hc e=>?_,fun s hs x hx e=>?_,fun s hs x hx e=>?_⟩
 ·subst e;exact zD0 h4 hs (zD9 hc)
 ·subst e;exact zD0 h6 hs (zD9 hc)
 ·exact zD0 h8 (zD9 hw) (by rw [← e];exact zD9 hc)
 ·have:=List.any_eq_false.1 h9 w hw
  have:=(List.any_eq_false (p:=fun c:Nat×zAR=>Nat.beq w.1 c.1&&w.2.isPrefixOf c.2)).1 (by simpa using this) c hc
  simp only [e,Nat.beq_refl,Bool.true_and,Bool.not_eq_true] at this
  exact this
 ·subst e;exact zD0 jQ hs (zD9 hx)
 ·cases he:x.2.isEmpty with
  | true=>rfl
  | false=>exact absurd (by rw [← e];exact zD9 (List.mem_filter.2 ⟨hx,by rw [he];rfl⟩)) (zD0 vC hs)
theorem Off.left {a a' b:Tok} (h:Off (Tok.join a a') b):Off a b:=by
 have ha:=h.all
 simp only [Tok.join,Bool.or_eq_false_iff] at ha
 exact ⟨ha.1,fun s hs=>h.look s (List.mem_append_left _ hs),fun s hs=>h.rd s (List.mem_append_left _ hs),fun s hs=>h.cel s (List.mem_append_left _ hs),fun s hs=>h.wr s (List.mem_append_left _ hs),fun s hs=>h.inn s (List.mem_append_left _ hs),
  fun s hs=>h.ird s (List.mem_append_left _ hs),fun s hs=>h.iinn s (List.mem_append_left _ hs),fun s hs=>h.icel s (List.mem_append_left _ hs),fun s hs=>h.ways s (List.mem_append_left _ hs),fun s hs=>h.waysIn s (List.mem_append_left _ hs)⟩
theorem Off.left' {a a' b:Tok} (h:Off (Tok.join a a') b):Off a' b:=by
 have ha:=h.all
 simp only [Tok.join,Bool.or_eq_false_iff] at ha
 exact ⟨ha.2,fun s hs=>h.look s (List.mem_append_right _ hs),fun s hs=>h.rd s (List.mem_append_right _ hs),fun s hs=>h.cel s (List.mem_append_right _ hs),fun s hs=>h.wr s (List.mem_append_right _ hs),fun s hs=>h.inn s (List.mem_append_right _ hs),
  fun s hs=>h.ird s (List.mem_append_right _ hs),fun s hs=>h.iinn s (List.mem_append_right _ hs),fun s hs=>h.icel s (List.mem_append_right _ hs),fun s hs=>h.ways s (List.mem_append_right _ hs),fun s hs=>h.waysIn s (List.mem_append_right _ hs)⟩
theorem Off.right {a b b':Tok} (h:Off a (Tok.join b b')):Off a b :=
 ⟨h.all,fun s hs hm=>h.look s hs (List.mem_append_left _ hm),fun s hs hm=>h.rd s hs (List.mem_append_left _ hm),fun s hs c hm=>h.cel s hs c (List.mem_append_left _ hm),fun s hs hm=>h.wr s hs (List.mem_append_left _ hm),fun s hs c hm=>h.inn s hs c (List.mem_append_left _ hm),
  fun s hs hm=>h.ird s hs (List.mem_append_left _ hm),fun s hs c hm=>h.iinn s hs c (List.mem_append_left _ hm),fun s hs c hm=>h.icel s hs c (List.mem_append_left _ hm),fun s hs x hm=>h.ways s hs x (List.mem_append_left _ hm),fun s hs x hm=>h.waysIn s hs x (List.mem_append_left _ hm)⟩
theorem Off.right' {a b b':Tok} (h:Off a (Tok.join b b')):Off a b' :=
 ⟨h.all,fun s hs hm=>h.look s hs (List.mem_append_right _ hm),fun s hs hm=>h.rd s hs (List.mem_append_right _ hm),fun s hs c hm=>h.cel s hs c (List.mem_append_right _ hm),fun s hs hm=>h.wr s hs (List.mem_append_right _ hm),fun s hs c hm=>h.inn s hs c (List.mem_append_right _ hm),
  fun s hs hm=>h.ird s hs (List.mem_append_right _ hm),fun s hs c hm=>h.iinn s hs c (List.mem_append_right _ hm),fun s hs c hm=>h.icel s hs c (List.mem_append_right _ hm),fun s hs x hm=>h.ways s hs x (List.mem_append_right _ hm),fun s hs x hm=>h.waysIn s hs x (List.mem_append_right _ hm)⟩
section
variable {o:zAD} {g g' g1 g2:zCJ} {t:Tok} {s r:Nat}
theorem zDB:∀ {q:PM} {g g':zCJ} {t:Tok},q.does o g t g'→t.all=false→s∉t.wr→(∀ c∈t.inn,c.1≠s)→g' s=g s:=by
 intro q
 induction q with
 | ok=>intro g g' t h _ _ _;rw [h.2]
 | fail=>intro g g' t h;cases h
 | view s0 k ih=>intro g g' t ⟨t',e,h⟩ ha hw hi;subst e;exact ih _ h ha hw hi
 | get s0 k ih=>intro g g' t ⟨_,t',e,h⟩ ha hw hi;subst e;exact ih _ h ha hw hi
 | set s0 p k ih =>
  intro g g' t ⟨t',e,h⟩ ha hw hi
  subst e
  simp only [Tok.join,zFd,List.mem_append,not_or,List.mem_singleton,Bool.false_or,List.nil_append] at ha hw hi
  rw [ih h ha hw.2 hi,zAf hw.1]
 | cells r0 pre i c n k ih=>intro g g' t ⟨a,qs,t',_,e,h⟩ ha hw hi;subst e;exact ih _ _ h ha hw hi
 | deep r0 pre k ih=>intro g g' t ⟨q,t',_,e,h⟩ ha hw hi;subst e;exact ih _ h ha hw hi
 | wcells r0 pre i c qs k ih =>
  intro g g' t ⟨root,t',_,e,h⟩ ha hw hi
  subst e
  have hI:s≠r0:=by
   rintro rfl
   cases hk:zAN (g s) root pre with
   | true=>exact hi (s,[]) (by simp [Tok.join,zBd,hk]) rfl
   | false=>exact hw (by simp [Tok.join,zBd,hk])
  rw [ih h (by simpa [Tok.join,zBd] using ha) (fun hm=>hw (List.mem_append_right _ hm)) (fun c hm=>hi c (List.mem_append_right _ hm)),zAf hI]
 | wnode r0 pre q k ih =>
  intro g g' t ⟨_,root,t',_,e,h⟩ ha hw hi
  subst e
  have hI:s≠r0:=by
   rintro rfl
   cases hk:(zAN (g s) root pre&&(pre.isEmpty || !q.isAgg)) with
   | true=>exact hi (s,pre.dropLast) (by simp only [Tok.join,zBd,hk];simp) rfl
   | false=>exact hw (by simp only [Tok.join,zBd,hk];simp)
  rw [ih h (by simpa [Tok.join,zBd] using ha) (fun hm=>hw (List.mem_append_right _ hm)) (fun c hm=>hi c (List.mem_append_right _ hm)),zAf hI]
 | kill r0 pre k ih =>
  intro g g' t ⟨D,t',hD,e,h⟩ ha hw hi
  subst e
  simp only [Tok.join,zAH,List.mem_append,not_or,Bool.false_or,List.nil_append] at ha hw hi
  rw [ih h ha hw.2 hi,zD1 (hD s hw.1)]
 | frz r0 pre k ih =>
  intro g g' t ⟨_,D,t',q,root,hD,hr,_,_,e,h⟩ ha hw hi
  subst e
  simp only [Tok.join,zAH,List.mem_append,not_or,Bool.false_or,List.nil_append] at ha hw hi
  rw [ih h ha hw.2 hi,zAf (by rintro rfl;exact hw.1 hr),zFB (hD s hw.1)]
 | killEx r0 pre k ih =>
  intro g g' t ⟨D,t',hD,e,h⟩ ha hw hi
  subst e
  simp only [Tok.join,zAH,List.mem_append,not_or,Bool.false_or,List.nil_append] at ha hw hi
  rw [ih h ha hw.2 hi,zCx (hD s hw.1)]
 | forget r0 k ih=>intro g g' t h ha;rw [show t.all=true from h] at ha;cases ha
 | call f args hid k ih=>intro g g' t ⟨v,hO,_,h⟩ ha hw hi;exact ih _ _ h ha hw hi
theorem zQh:∀ {q:PM} {g g':zCJ} {t:Tok},q.does o g t g'→t.all=false→s∉t.wr→view s (g' s)=view s (g s):=by
 intro q
 induction q with
 | ok=>intro g g' t h _ _;rw [h.2]
 | fail=>intro g g' t h;cases h
 | view s0 k ih=>intro g g' t ⟨t',e,h⟩ ha hw;subst e;exact ih _ h ha hw
 | get s0 k ih=>intro g g' t ⟨_,t',e,h⟩ ha hw;subst e;exact ih _ h ha hw
 | set s0 p k ih =>
  intro g g' t ⟨t',e,h⟩ ha hw
  subst e
  simp only [Tok.join,zFd,List.mem_append,not_or,List.mem_singleton,Bool.false_or] at ha hw
  rw [ih h ha hw.2,zAf hw.1]
 | cells r0 pre i c n k ih=>intro g g' t ⟨a,qs,t',_,e,h⟩ ha hw;subst e;exact ih _ _ h ha hw
 | deep r0 pre k ih=>intro g g' t ⟨q,t',_,e,h⟩ ha hw;subst e;exact ih _ h ha hw
 | wcells r0 pre i c qs k ih =>
  intro g g' t ⟨root,t',hr,e,h⟩ ha hw
  subst e
  rw [ih h (by simpa [Tok.join,zBd] using ha) (fun hm=>hw (List.mem_append_right _ hm))]
  by_cases hI:s=r0
  ·subst hI
   rw [zAj]
   cases hk:zAN (g s) root pre with
   | false=>exact absurd (by simp [Tok.join,zBd,hk]) hw
   | true =>
    simp only [zBP] at hr
    revert hr
    cases (zDA (g s) pre && !(zBw qs).isEmpty) with
    | true=>intro hr;cases hr
    | false=>intro hr;exact (zHc hr hk).symm
  ·rw [zAf hI]
 | wnode r0 pre q k ih =>
  intro g g' t ⟨_,root,t',hr,e,h⟩ ha hw
  subst e
  rw [ih h (by simpa [Tok.join,zBd] using ha) (fun hm=>hw (List.mem_append_right _ hm))]
  by_cases hI:s=r0
  ·subst hI
   rw [zAj]
   cases hk:(zAN (g s) root pre&&(pre.isEmpty || !q.isAgg)) with
   | false=>exact absurd (by simp only [Tok.join,zBd,hk];simp) hw
   | true =>
    rw [Bool.and_eq_true] at hk
    exact (zHc hr hk.1).symm
  ·rw [zAf hI]
 | kill r0 pre k ih =>
  intro g g' t ⟨D,t',hD,e,h⟩ ha hw
  subst e
  simp only [Tok.join,zAH,List.mem_append,not_or,Bool.false_or] at ha hw
  rw [ih h ha hw.2,zD1 (hD s hw.1)]
 | frz r0 pre k ih =>
  intro g g' t ⟨_,D,t',q,root,hD,hr,_,_,e,h⟩ ha hw
  subst e
  simp only [Tok.join,zAH,List.mem_append,not_or,Bool.false_or] at ha hw
  rw [ih h ha hw.2,zAf (by rintro rfl;exact hw.1 hr),zFB (hD s hw.1)]
 | killEx r0 pre k ih =>
  intro g g' t ⟨D,t',hD,e,h⟩ ha hw
  subst e
  simp only [Tok.join,zAH,List.mem_append,not_or,Bool.false_or] at ha hw
  rw [ih h ha hw.2,zCx (hD s hw.1)]
 | forget r0 k ih=>intro g g' t h ha;rw [show t.all=true from h] at ha;cases ha
 | call f args hid k ih=>intro g g' t ⟨v,hO,_,h⟩ ha hw;exact ih _ _ h ha hw
theorem zLV {p:PV} (h:p.isLock=false):p.unlock=p:=by cases p<;>first | rfl | cases h
theorem zI0 {r:Nat} {p:PV} {pre:zAR} {i c n:Nat}:zAr r p pre i c n=zQK r pre p.unlock pre i c n:=rfl
theorem zJ8 {F:PV→Option PV} {p q:PV} {x:Nat×zAR} {pre:zAR} {i c:Nat} (h:zAt F p ((i,c)::pre)=some q):q.isLock=false:=by
 rw [zBn] at h
 cases hc:Eng.child p i c with
 | none=>rw [hc] at h;cases h
 | some y =>
  rw [hc] at h;simp only [Option.bind_some] at h
  cases hm:zAt F y pre with
  | none=>rw [hm] at h;cases h
  | some y' =>
   rw [hm] at h;simp only [Option.bind_some] at h
   obtain ⟨xs,z,_,hz,kB,_,⟨sz,rfl,rfl⟩ | ⟨w,rfl,rfl,rfl,rfl⟩ | ⟨cs,rfl,_,_,rfl⟩⟩:=zHh hc h<;>rfl
theorem zJO {r:Nat} {q root p:PV} {pre Q:zAR} (hl:p.isLock=false) (hr:zAt (fun _=>some q) p pre=some root) (hk:(zAN p root pre&&(pre.isEmpty || !q.isAgg))=true) (hp:pre.dropLast.isPrefixOf Q=false) (i c n:Nat) :
  zAr r root Q i c n=zAr r p Q i c n:=by
 rw [zI0,zI0,zLV hl]
 cases pre with
 | nil=>simp at hp
 | cons x pre =>
  have hq:q.isAgg=false:=by
   rw [Bool.and_eq_true] at hk
   have:=hk.2
   simpa using this
  rw [zLV (zJ8 (x:=(0,[])) hr)]
  exact zHN hq _ _ _ _ hr (.inr ⟨by simp,hp⟩)
theorem zPA {Q:zAR} {i c n:Nat}:∀ {q:PM} {g g':zCJ} {t:Tok},q.does o g t g'→t.all=false→s∉t.wr→(∀ w∈t.inn,s=w.1→w.2.isPrefixOf Q=false)→zAr s (g' s) Q i c n=zAr s (g s) Q i c n:=by
 intro q
 induction q with
 | ok=>intro g g' t h _ _ _;rw [h.2]
 | fail=>intro g g' t h;cases h
 | view s0 k ih=>intro g g' t ⟨t',e,h⟩ ha hw hi;subst e;exact ih _ h ha hw hi
 | get s0 k ih=>intro g g' t ⟨_,t',e,h⟩ ha hw hi;subst e;exact ih _ h ha hw hi
 | set s0 p k ih =>
  intro g g' t ⟨t',e,h⟩ ha hw hi
  subst e
  simp only [Tok.join,zFd,List.mem_append,not_or,List.mem_singleton,Bool.false_or,List.nil_append] at ha hw hi
  rw [ih h ha hw.2 hi,zAf hw.1]
 | cells r0 pre i c n k ih=>intro g g' t ⟨a,qs,t',_,e,h⟩ ha hw hi;subst e;exact ih _ _ h ha hw hi
 | deep r0 pre k ih=>intro g g' t ⟨q,t',_,e,h⟩ ha hw hi;subst e;exact ih _ h ha hw hi
 | wcells r0 pre i c qs k ih =>
  intro g g' t ⟨root,t',_,e,h⟩ ha hw hi
  subst e
  have hI:s≠r0:=by
   rintro rfl
   cases hk:zAN (g s) root pre with
   | true=>have:=hi (s,[]) (by simp [Tok.join,zBd,hk]) rfl;simp at this
   | false=>exact hw (by simp [Tok.join,zBd,hk])
  rw [ih h (by simpa [Tok.join,zBd] using ha) (fun hm=>hw (List.mem_append_right _ hm)) (fun c hm=>hi c (List.mem_append_right _ hm)),zAf hI]
 | wnode r0 pre q k ih =>
  intro g g' t ⟨hl,root,t',hr,e,h⟩ ha hw hi
  subst e
  rw [ih h (by simpa [Tok.join,zBd] using ha) (fun hm=>hw (List.mem_append_right _ hm)) (fun c hm=>hi c (List.mem_append_right _ hm))]
  by_cases hI:s=r0
  ·subst hI
   rw [zAj]
   cases hk:(zAN (g s) root pre&&(pre.isEmpty || !q.isAgg)) with
   | true=>exact zJO hl hr hk (hi (s,pre.dropLast) (by simp only [Tok.join,zBd,hk];simp) rfl) _ _ _
   | false=>exact absurd (by simp only [Tok.join,zBd,hk];simp) hw
  ·rw [zAf hI]
 | kill r0 pre k ih =>
  intro g g' t ⟨D,t',hD,e,h⟩ ha hw hi
  subst e
  simp only [Tok.join,zAH,List.mem_append,not_or,Bool.false_or,List.nil_append] at ha hw hi
  rw [ih h ha hw.2 hi,zD1 (hD s hw.1)]
 | frz r0 pre k ih =>
  intro g g' t ⟨_,D,t',q,root,hD,hr,_,_,e,h⟩ ha hw hi
  subst e
  simp only [Tok.join,zAH,List.mem_append,not_or,Bool.false_or,List.nil_append] at ha hw hi
  rw [ih h ha hw.2 hi,zAf (by rintro rfl;exact hw.1 hr),zFB (hD s hw.1)]
 | killEx r0 pre k ih =>
  intro g g' t ⟨D,t',hD,e,h⟩ ha hw hi
  subst e
  simp only [Tok.join,zAH,List.mem_append,not_or,Bool.false_or,List.nil_append] at ha hw hi
  rw [ih h ha hw.2 hi,zCx (hD s hw.1)]
 | forget r0 k ih=>intro g g' t h ha;rw [show t.all=true from h] at ha;cases ha
 | call f args hid k ih=>intro g g' t ⟨v,hO,_,h⟩ ha hw hi;exact ih _ _ h ha hw hi
theorem zJw {D:List Nat} {ok:Nat×zAR→Prop}:∀ {q:PM} {g g':zCJ} {t:Tok},q.does o g t g'→t.all=false→(∀ x∈t.ways,ok x)→(∀ s,s∉D→∀ x∈(g s).ways,ok x)→∀ s,s∉D→∀ x∈(g' s).ways,ok x:=by
 have put:∀ {g:zCJ} {s0:Nat} {p:PV},(∀ x∈p.ways,ok x)→(∀ s,s∉D→∀ x∈(g s).ways,ok x)→∀ s,s∉D→∀ x∈(upd g s0 p s).ways,ok x:=by
  intro g s0 p hp hg s hs x hx
  by_cases h:s=s0
  ·subst h;rw [zAj] at hx;exact hp x hx
  ·rw [zAf h] at hx;exact hg s hs x hx
 have turn:∀ {g g1:zCJ} {D0:List Nat} {t:Tok} {ks ki:List Nat},(∀ x∈(Tok.join (zAH D0 g g1 ks ki) t).ways,ok x)→(∀ s,s∉D0→g1 s=g s)→(∀ s,s∉D→∀ x∈(g s).ways,ok x)→∀ s,s∉D→∀ x∈(g1 s).ways,ok x:=by
  intro g g1 D0 t ks ki hw h1 hg s hs x hx
  by_cases h:s∈D0
  ·exact hw x (List.mem_append_left _ (List.mem_flatMap.2 ⟨s,h,List.mem_append_right _ hx⟩))
  ·rw [h1 s h] at hx;exact hg s hs x hx
 intro q
 induction q with
 | ok=>intro g g' t h _ _ hg;rw [h.2];exact hg
 | fail=>intro g g' t h;cases h
 | view s0 k ih=>intro g g' t ⟨t',e,h⟩ ha hw hi;subst e;exact ih _ h ha hw hi
 | get s0 k ih=>intro g g' t ⟨_,t',e,h⟩ ha hw hi;subst e;exact ih _ h ha hw hi
 | set s0 p k ih =>
  intro g g' t ⟨t',e,h⟩ ha hw hi
  subst e
  exact ih h (by simpa [Tok.join,zFd] using ha) (fun x hx=>hw x (List.mem_append_right _ hx)) (put (fun x hx=>hw x (List.mem_append_left _ (List.mem_append_right _ hx))) hi)
 | cells r pre i c n k ih=>intro g g' t ⟨a,qs,t',_,e,h⟩ ha hw hi;subst e;exact ih _ _ h ha hw hi
 | deep r pre k ih=>intro g g' t ⟨q,t',_,e,h⟩ ha hw hi;subst e;exact ih _ h ha hw hi
 | wcells r pre i c qs k ih =>
  intro g g' t ⟨root,t',_,e,h⟩ ha hw hi
  subst e
  exact ih h (by simpa [Tok.join,zBd] using ha) (fun x hx=>hw x (List.mem_append_right _ hx)) (put (fun x hx=>hw x (List.mem_append_left _ (List.mem_append_right _ hx))) hi)
 | wnode r pre q k ih =>
  intro g g' t ⟨_,root,t',_,e,h⟩ ha hw hi
  subst e
  exact ih h (by simpa [Tok.join,zBd] using ha) (fun x hx=>hw x (List.mem_append_right _ hx)) (put (fun x hx=>hw x (List.mem_append_left _ (List.mem_append_right _ hx))) hi)
 | kill r pre k ih =>
  intro g g' t ⟨D0,t',hD,e,h⟩ ha hw hi
  subst e
  exact ih h (by simpa [Tok.join,zAH] using ha) (fun x hx=>hw x (List.mem_append_right _ hx)) (turn hw (fun s hs=>zD1 (hD s hs)) hi)
 | frz r pre k ih =>
  intro g g' t ⟨_,D0,t',q,root,hD,hr,_,_,e,h⟩ ha hw hi
  subst e
  exact ih h (by simpa [Tok.join,zAH] using ha) (fun x hx=>hw x (List.mem_append_right _ hx)) (turn hw (fun s hs=>by rw [zAf (by rintro rfl;exact hs hr),zFB (hD s hs)]) hi)
 | killEx r pre k ih =>
  intro g g' t ⟨D0,t',hD,e,h⟩ ha hw hi
  subst e
  exact ih h (by simpa [Tok.join,zAH] using ha) (fun x hx=>hw x (List.mem_append_right _ hx)) (turn hw (fun s hs=>zCx (hD s hs)) hi)
 | forget r k ih=>intro g g' t h ha;rw [show t.all=true from h] at ha;cases ha
 | call f args hid k ih=>intro g g' t ⟨v,hO,_,h⟩ ha hw hi;exact ih _ _ h ha hw hi
theorem zNS {α:Type} {f:Nat→α} {s:Nat} {x y:α}:upd (upd f s x) s y=upd f s y:=by funext t;simp only [upd];split<;>rfl
theorem zK5 {α:Type} {f:Nat→α} {s:Nat}:upd f s (f s)=f:=by
 funext u;simp only [upd];split
 ·rename_i e;rw [e]
 ·rfl
def mix (D:List Nat) (v g:zCJ):zCJ:=fun s=>if s∈D then v s else g s
theorem zBt {D:List Nat} {v g:zCJ} {s:Nat} (h:s∈D):mix D v g s=v s:=if_pos h
theorem zAL {D:List Nat} {v g:zCJ} {s:Nat} (h:s∉D):mix D v g s=g s:=if_neg h
theorem zIU {D:List Nat} {v g:zCJ} {s:Nat} {p:PV} (h:s∉D):upd (mix D v g) s p=mix D v (upd g s p):=by
 funext u
 by_cases hu:u=s
 ·subst hu;rw [zAj,zAL h,zAj]
 ·rw [zAf hu]
  by_cases hd:u∈D
  ·rw [zBt hd,zBt hd]
  ·rw [zAL hd,zAL hd,zAf hu]
theorem zNp {g:zCJ} {s:Nat} {p:PV}:upd g s p=mix [s] (fun _=>p) g:=by
 funext u;simp only [upd,mix,List.mem_singleton]
theorem zCz {D:List Nat} {g g' h h':zCJ} {ks ki:List Nat} (h1:∀ s∈D,g s=h s) (h2:∀ s∈D,g' s=h' s):zAH D g g' ks ki=zAH D h h' ks ki:=by
 simp only [zAH]
 congr 1
 induction D with
 | nil=>rfl
 | cons d D ih =>
  simp only [List.flatMap_cons]
  rw [h1 d (by simp),h2 d (by simp),ih (fun s hs=>h1 s (by simp [hs])) (fun s hs=>h2 s (by simp [hs]))]
structure Unseen (D:List Nat) (v g:zCJ) (t:Tok):Prop where
 rd:∀ s∈D,s∉t.rd
 wr:∀ s∈D,s∉t.wr
 inn:∀ s∈D,∀ c∈t.inn,c.1≠s
 look:∀ s∈D,s∈t.look→view s (v s)=view s (g s)
 cel:∀ s∈D,∀ c∈t.cel,c.1=s→∀ i c' n,zAr s (v s) c.2 i c' n=zAr s (g s) c.2 i c' n
 kills:∀ s∈D,∀ k∈t.kills,∀ x∈(g s).ways,x.1≠k
 killsIn:∀ s∈D,∀ k∈t.killsIn,∀ x∈(g s).ways,x.1=k→x.2.isEmpty=true
theorem Unseen.rest {D:List Nat} {v g g':zCJ} {a t:Tok} (h:Unseen D v g (Tok.join a t)) (hg:∀ s∈D,g' s=g s):Unseen D v g' t :=
 ⟨fun s hs hm=>h.rd s hs (List.mem_append_right _ hm),fun s hs hm=>h.wr s hs (List.mem_append_right _ hm),fun s hs c hm=>h.inn s hs c (List.mem_append_right _ hm),fun s hs hm=>by rw [hg s hs];exact h.look s hs (List.mem_append_right _ hm),
  fun s hs c hm=>by rw [hg s hs];exact h.cel s hs c (List.mem_append_right _ hm),fun s hs k hm=>by rw [hg s hs];exact h.kills s hs k (List.mem_append_right _ hm),fun s hs k hm=>by rw [hg s hs];exact h.killsIn s hs k (List.mem_append_right _ hm)⟩
theorem zGQ {r:Nat} {pre:zAR} {x:Nat×zAR} (h:x.1≠r):zAJ r pre x.1 x.2=false:=by
 simp only [zAJ]
 cases hb:Nat.beq x.1 r with
 | true=>exact absurd (Nat.eq_of_beq_eq_true hb) h
 | false=>rfl
theorem zUn {r:Nat} {x:Nat×zAR} (h:x.1=r→x.2.isEmpty=true):(Nat.beq x.1 r && !x.2.isEmpty)=false:=by
 cases hb:Nat.beq x.1 r with
 | true=>rw [h (Nat.eq_of_beq_eq_true hb)];rfl
 | false=>rfl
theorem zF1 {D:List Nat} {v:zCJ}:∀ {q:PM} {g g':zCJ} {t:Tok},q.does o (mix D v g) t g'→t.all=false→Unseen D v g t→q.does o g t (mix D g g'):=by
 intro q
 induction q with
 | ok =>
  intro g g' t h _ _
  refine ⟨h.1,?_⟩
  rw [h.2];funext s
  by_cases hs:s∈D
  ·rw [zBt hs]
  ·rw [zAL hs,zAL hs]
 | fail=>intro g g' t h;cases h
 | view s0 k ih =>
  intro g g' t ⟨t',e,h⟩ ha hu
  subst e
  have hv:view s0 (mix D v g s0)=view s0 (g s0):=by
   by_cases hs:s0∈D
   ·rw [zBt hs];exact hu.look s0 hs (by simp [Tok.join])
   ·rw [zAL hs]
  rw [hv] at h
  exact ⟨t',rfl,ih _ h ha (hu.rest fun _ _=>rfl)⟩
 | get s0 k ih =>
  intro g g' t ⟨yD,t',e,h⟩ ha hu
  subst e
  have hs:s0∉D:=fun hs=>hu.rd s0 hs (by simp [Tok.join])
  rw [zAL hs] at h yD
  exact ⟨yD,t',rfl,ih _ h ha (hu.rest fun _ _=>rfl)⟩
 | set s0 p k ih =>
  intro g g' t ⟨t',e,h⟩ ha hu
  subst e
  have hs:s0∉D:=fun hs=>hu.wr s0 hs (by simp [Tok.join,zFd])
  rw [zAL hs] at hu ⊢
  rw [zIU hs] at h
  have hg:∀ s∈D,upd g s0 p s=g s:=fun s hd=>zAf (by rintro rfl;exact hs hd)
  have:=ih h (by simpa [Tok.join,zFd] using ha) (hu.rest hg)
  refine ⟨t',rfl,?_⟩
  have he:mix D (upd g s0 p) g'=mix D g g':=by
   funext s;by_cases hd:s∈D
   ·rw [zBt hd,zBt hd,hg s hd]
   ·rw [zAL hd,zAL hd]
  rw [← he];exact this
 | cells r0 pre i c n k ih =>
  intro g g' t ⟨a,qs,t',kC,e,h⟩ ha hu
  subst e
  have hv:zAr r0 (g r0) pre i c n=some (a,qs):=by
   by_cases hs:r0∈D
   ·rw [zBt hs] at kC;rw [← hu.cel r0 hs (r0,pre) (by simp [Tok.join]) rfl];exact kC
   ·rw [zAL hs] at kC;exact kC
  exact ⟨a,qs,t',hv,rfl,ih _ _ h ha (hu.rest fun _ _=>rfl)⟩
 | deep r0 pre k ih =>
  intro g g' t ⟨q,t',hn,e,h⟩ ha hu
  subst e
  have hs:r0∉D:=fun hs=>hu.rd r0 hs (by simp [Tok.join])
  rw [zAL hs] at hn
  exact ⟨q,t',hn,rfl,ih _ h ha (hu.rest fun _ _=>rfl)⟩
 | wcells r0 pre i c qs k ih =>
  intro g g' t ⟨root,t',hn,e,h⟩ ha hu
  subst e
  have hs:r0∉D:=by
   intro hs
   cases u5:zAN (mix D v g r0) root pre with
   | true=>exact hu.inn r0 hs (r0,[]) (by simp [Tok.join,zBd,u5]) rfl
   | false=>exact hu.wr r0 hs (by simp [Tok.join,zBd,u5])
  rw [zAL hs] at hn hu ha ⊢
  rw [zIU hs] at h
  have hg:∀ s∈D,upd g r0 root s=g s:=fun s hd=>zAf (by rintro rfl;exact hs hd)
  have:=ih h (by simpa [Tok.join,zBd] using ha) (hu.rest hg)
  refine ⟨root,t',hn,rfl,?_⟩
  have he:mix D (upd g r0 root) g'=mix D g g':=by
   funext s;by_cases hd:s∈D
   ·rw [zBt hd,zBt hd,hg s hd]
   ·rw [zAL hd,zAL hd]
  rw [← he];exact this
 | wnode r0 pre q k ih =>
  intro g g' t ⟨yD,root,t',hn,e,h⟩ ha hu
  subst e
  have hs:r0∉D:=by
   intro hs
   cases u5:(zAN (mix D v g r0) root pre&&(pre.isEmpty || !q.isAgg)) with
   | true=>exact hu.inn r0 hs (r0,pre.dropLast) (by simp only [Tok.join,zBd,u5];simp) rfl
   | false=>exact hu.wr r0 hs (by simp only [Tok.join,zBd,u5];simp)
  rw [zAL hs] at hn yD hu ha ⊢
  rw [zIU hs] at h
  have hg:∀ s∈D,upd g r0 root s=g s:=fun s hd=>zAf (by rintro rfl;exact hs hd)
  have:=ih h (by simpa [Tok.join,zBd] using ha) (hu.rest hg)
  refine ⟨yD,root,t',hn,rfl,?_⟩
  have he:mix D (upd g r0 root) g'=mix D g g':=by
   funext s;by_cases hd:s∈D
   ·rw [zBt hd,zBt hd,hg s hd]
   ·rw [zAL hd,zAL hd]
  rw [← he];exact this
 | kill r0 pre k ih =>
  intro g g' t ⟨D0,t',hD,e,h⟩ ha hu
  subst e
  have ye:∀ s∈D0,s∉D:=fun s h0 hd=>hu.wr s hd (by simp [Tok.join,zAH,h0])
  have hq:∀ s∈D,∀ x∈(g s).ways,zAJ r0 pre x.1 x.2=false:=fun s hd x hx=>zGQ (hu.kills s hd r0 (by simp [Tok.join,zAH]) x hx)
  have hg:∀ s∈D,(fun s=>(g s).mapW (lose r0 pre)) s=g s:=fun s hd=>zD1 (hq s hd)
  have hm:(fun s=>(mix D v g s).mapW (lose r0 pre))=mix D v (fun s=>(g s).mapW (lose r0 pre)):=by
   funext s;by_cases hd:s∈D
   ·have:=hD s (fun h0=>ye s h0 hd)
    rw [zBt hd] at this
    rw [zBt hd,zBt hd,zD1 this]
   ·rw [zAL hd,zAL hd]
  have ht:=zCz (D:=D0) (g:=mix D v g) (g':=fun s=>(mix D v g s).mapW (lose r0 pre)) (h:=g) (h':=fun s=>(g s).mapW (lose r0 pre)) (ks:=[r0]) (ki:=[]) (fun s h0=>zAL (ye s h0)) (fun s h0=>by simp only [zAL (ye s h0)])
  rw [hm] at h
  rw [ht] at hu ha ⊢
  have:=ih h (by simpa [Tok.join,zAH] using ha) (hu.rest hg)
  refine ⟨D0,t',fun s h0 x hx=>?_,rfl,?_⟩
  ·by_cases hd:s∈D
   ·exact hq s hd x hx
   ·exact hD s h0 x (by rw [zAL hd];exact hx)
  ·have he:mix D (fun s=>(g s).mapW (lose r0 pre)) g'=mix D g g':=by
    funext s;by_cases hd:s∈D
    ·rw [zBt hd,zBt hd];exact hg s hd
    ·rw [zAL hd,zAL hd]
   rw [← he];exact this
 | frz r0 pre k ih =>
  intro g g' t ⟨yD,D0,t',q,root,hD,hr,hn,hmn,e,h⟩ ha hu
  subst e
  have ye:∀ s∈D0,s∉D:=fun s h0 hd=>hu.wr s hd (by simp [Tok.join,zAH,h0])
  have vW:=ye r0 hr
  have hq:∀ s∈D,∀ x∈(g s).ways,zAJ r0 pre x.1 x.2=false:=fun s hd x hx=>zGQ (hu.kills s hd r0 (by simp [Tok.join,zAH]) x hx)
  have hg:∀ s∈D,(fun s=>(upd g r0 root s).mapW (inl r0 pre q)) s=g s:=fun s hd=>by
   simp only
   rw [zAf (by rintro rfl;exact vW hd),zFB (hq s hd)]
  have hm:(fun s=>(upd (mix D v g) r0 root s).mapW (inl r0 pre q))=mix D v (fun s=>(upd g r0 root s).mapW (inl r0 pre q)):=by
   rw [zIU vW]
   funext s;by_cases hd:s∈D
   ·have:=hD s (fun h0=>ye s h0 hd)
    rw [zBt hd] at this
    rw [zBt hd,zBt hd,zFB this]
   ·rw [zAL hd,zAL hd]
  have ht:=zCz (D:=D0) (g:=mix D v g) (g':=fun s=>(upd (mix D v g) r0 root s).mapW (inl r0 pre q)) (h:=g) (h':=fun s=>(upd g r0 root s).mapW (inl r0 pre q)) (ks:=[r0]) (ki:=[]) (fun s h0=>zAL (ye s h0)) (fun s h0=>by simp only [zIU vW,zAL (ye s h0)])
  rw [hm] at h
  rw [ht] at hu ha ⊢
  rw [zAL vW] at yD hn hmn
  have:=ih h (by simpa [Tok.join,zAH] using ha) (hu.rest hg)
  refine ⟨yD,D0,t',q,root,fun s h0 x hx=>?_,hr,hn,hmn,rfl,?_⟩
  ·by_cases hd:s∈D
   ·exact hq s hd x hx
   ·exact hD s h0 x (by rw [zAL hd];exact hx)
  ·have he:mix D (fun s=>(upd g r0 root s).mapW (inl r0 pre q)) g'=mix D g g':=by
    funext s;by_cases hd:s∈D
    ·rw [zBt hd,zBt hd];exact hg s hd
    ·rw [zAL hd,zAL hd]
   rw [← he];exact this
 | killEx r0 pre k ih =>
  intro g g' t ⟨D0,t',hD,e,h⟩ ha hu
  subst e
  have ye:∀ s∈D0,s∉D:=fun s h0 hd=>hu.wr s hd (by simp [Tok.join,zAH,h0])
  have hq:∀ s∈D,∀ x∈(g s).ways,(Nat.beq x.1 r0 && !x.2.isEmpty)=false:=fun s hd x hx=>zUn (hu.killsIn s hd r0 (by simp [Tok.join,zAH]) x hx)
  have hg:∀ s∈D,(fun s=>(g s).mapW (zBJ r0 pre)) s=g s:=fun s hd=>zCx (hq s hd)
  have hm:(fun s=>(mix D v g s).mapW (zBJ r0 pre))=mix D v (fun s=>(g s).mapW (zBJ r0 pre)):=by
   funext s;by_cases hd:s∈D
   ·have:=hD s (fun h0=>ye s h0 hd)
    rw [zBt hd] at this
    rw [zBt hd,zBt hd,zCx this]
   ·rw [zAL hd,zAL hd]
  have ht:=zCz (D:=D0) (g:=mix D v g) (g':=fun s=>(mix D v g s).mapW (zBJ r0 pre)) (h:=g) (h':=fun s=>(g s).mapW (zBJ r0 pre)) (ks:=[]) (ki:=[r0]) (fun s h0=>zAL (ye s h0)) (fun s h0=>by simp only [zAL (ye s h0)])
  rw [hm] at h
  rw [ht] at hu ha ⊢
  have:=ih h (by simpa [Tok.join,zAH] using ha) (hu.rest hg)
  refine ⟨D0,t',fun s h0 x hx=>?_,rfl,?_⟩
  ·by_cases hd:s∈D
   ·exact hq s hd x hx
   ·exact hD s h0 x (by rw [zAL hd];exact hx)
  ·have he:mix D (fun s=>(g s).mapW (zBJ r0 pre)) g'=mix D g g':=by
    funext s;by_cases hd:s∈D
    ·rw [zBt hd,zBt hd];exact hg s hd
    ·rw [zAL hd,zAL hd]
   rw [← he];exact this
 | forget r0 k ih=>intro g g' t h ha;rw [show t.all=true from h] at ha;cases ha
 | call f args hid k ih=>intro g g' t ⟨v',hO,ho,h⟩ ha hu;exact ⟨v',hO,ho,ih _ _ h ha hu⟩
theorem zEK {D:List Nat} {v g:zCJ} {p q:Tok} (h1:Off p q) (h2:Off q p) (hD:∀ s∈D,s∈p.wr) (hw:∀ s∈D,∀ x∈(g s).ways,x∈p.ways):Unseen D v g q :=
 ⟨fun s hs=>h1.rd s (hD s hs),fun s hs=>h1.wr s (hD s hs),fun s hs=>h1.inn s (hD s hs),fun s hs hl=>absurd hl (h1.look s (hD s hs)),fun s hs c hc e=>absurd e (h1.cel s (hD s hs) c hc),
  fun s hs k hk x hx=>h2.ways k hk x (hw s hs x hx),fun s hs k hk x hx=>h2.waysIn k hk x (hw s hs x hx)⟩
theorem comm {q:PM}:∀ {p:PM} {g g1 g2:zCJ} {tp tq:Tok},p.does o g tp g1→q.does o g1 tq g2→Off tp tq→Off tq tp→∃ m,q.does o g tq m∧p.does o m tp g2:=by
 intro p
 induction p with
 | ok=>intro g g1 g2 tp tq h hq _ _;obtain ⟨rfl,rfl⟩:=h;exact ⟨g2,hq,rfl,rfl⟩
 | fail=>intro g g1 g2 tp tq h;cases h
 | view s k ih =>
  intro g g1 g2 tp tq ⟨t',e,h⟩ hq h1 h2
  subst e
  obtain ⟨m,hm,hk⟩:=ih _ h hq h1.left' h2.right'
  refine ⟨m,hm,t',rfl,?_⟩
  rw [zQh hm h2.all (fun hw=>h2.look s hw (by simp [Tok.join]))];exact hk
 | get s k ih =>
  intro g g1 g2 tp tq ⟨hl,t',e,h⟩ hq h1 h2
  subst e
  obtain ⟨m,hm,hk⟩:=ih _ h hq h1.left' h2.right'
  have:=zDB hm h2.all (fun hw=>h2.rd s hw (by simp [Tok.join])) (fun c hc e=>h2.ird c hc (by rw [e];simp [Tok.join]))
  exact ⟨m,hm,by rw [this];exact hl,t',rfl,by rw [this];exact hk⟩
 | set s v k ih =>
  intro g g1 g2 tp tq ⟨t',e,h⟩ hq h1 h2
  subst e
  obtain ⟨m,hm,hk⟩:=ih h hq h1.left' h2.right'
  have hw:s∈(Tok.join (zFd s (g s) v) t').wr:=by simp [Tok.join,zFd]
  have wm:m s=v:=by rw [zDB hm h2.all (h1.wr s hw) (h1.inn s hw),zAj]
  have hu:Unseen [s] (fun _=>v) g tq:=zEK h1 h2 (fun u hu=>by rw [List.mem_singleton.1 hu];exact hw) (fun u hu x hx=>by
   rw [List.mem_singleton.1 hu] at hx
   exact List.mem_append_left _ (List.mem_append_left _ hx))
  rw [zNp] at hm
  have hd:=zF1 hm h2.all hu
  have he:mix [s] g m=upd m s (g s):=by funext u;simp only [upd,mix,List.mem_singleton];split<;>simp_all
  rw [he] at hd
  refine ⟨_,hd,t',by rw [zAj],?_⟩
  rw [zNS,← wm,zK5];exact hk
 | cells r pre i c n k ih =>
  intro g g1 g2 tp tq ⟨a,qs,t',kC,e,h⟩ hq h1 h2
  subst e
  obtain ⟨m,hm,hk⟩:=ih _ _ h hq h1.left' h2.right'
  refine ⟨m,hm,a,qs,t',?_,rfl,hk⟩
  rw [zPA hm h2.all (fun hw=>h2.cel r hw (r,pre) (by simp [Tok.join]) rfl) (fun w hw e=>h2.icel w hw (r,pre) (by simp [Tok.join]) e)];exact kC
 | deep r pre k ih =>
  intro g g1 g2 tp tq ⟨q,t',hn,e,h⟩ hq h1 h2
  subst e
  obtain ⟨m,hm,hk⟩:=ih _ h hq h1.left' h2.right'
  have:=zDB hm h2.all (fun hw=>h2.rd r hw (by simp [Tok.join])) (fun c hc e=>h2.ird c hc (by rw [e];simp [Tok.join]))
  exact ⟨m,hm,q,t',by rw [this];exact hn,rfl,hk⟩
 | wcells r pre i c qs k ih =>
  intro g g1 g2 tp tq ⟨root,t',hn,e,h⟩ hq h1 h2
  subst e
  obtain ⟨m,hm,hk⟩:=ih h hq h1.left' h2.right'
  have yp:∀ x∈(g r).ways,x∈(Tok.join (zBd r [] (zAN (g r) root pre) (g r) root) t').ways:=fun x hx=>List.mem_append_left _ (List.mem_append_left _ hx)
  have fin:m r=root→Unseen [r] (fun _=>root) g tq→∃ m,q.does o g tq m∧(PM.wcells r pre i c qs k).does o m (Tok.join (zBd r [] (zAN (g r) root pre) (g r) root) t') g2:=by
   intro wm hu
   rw [zNp] at hm
   have hd:=zF1 hm h2.all hu
   have he:mix [r] g m=upd m r (g r):=by funext u;simp only [upd,mix,List.mem_singleton];split<;>simp_all
   rw [he] at hd
   refine ⟨_,hd,root,t',by rw [zAj];exact hn,by rw [zAj],?_⟩
   rw [zNS,← wm,zK5];exact hk
  cases u5:zAN (g r) root pre with
  | true =>
   rw [u5] at h1 h2 fin yp
   have hin:(r,([]:zAR))∈(Tok.join (zBd r [] true (g r) root) t').inn:=by simp [Tok.join,zBd]
   have hw:r∉tq.wr:=fun hw=>h2.inn r hw _ hin rfl
   have hi:∀ c∈tq.inn,c.1≠r:=h1.iinn _ hin
   have hcel:∀ c∈tq.cel,c.1≠r:=fun c hc e=>by have:=h1.icel _ hin c hc e;simp at this
   refine fin (by rw [zDB hm h2.all hw hi,zAj]) ⟨fun s hs=>?_,fun s hs=>?_,fun s hs=>?_,fun s hs _=>?_,fun s hs c hc e=>?_,fun s hs k hk x hx=>?_,fun s hs k hk x hx=>?_⟩<;>rw [List.mem_singleton.1 hs] at *
   ·exact h1.ird _ hin
   ·exact hw
   ·exact hi
   ·simp only [zBP] at hn
    revert hn
    cases (zDA (g r) pre && !(zBw qs).isEmpty) with
    | true=>intro hr;cases hr
    | false=>intro hr;exact (zHc hr u5).symm
   ·exact absurd e (hcel c hc)
   ·exact h2.ways k hk x (yp x hx)
   ·exact h2.waysIn k hk x (yp x hx)
  | false =>
   rw [u5] at h1 h2 fin yp
   have hw:r∈(Tok.join (zBd r [] false (g r) root) t').wr:=by simp [Tok.join,zBd]
   exact fin (by rw [zDB hm h2.all (h1.wr r hw) (h1.inn r hw),zAj]) (zEK h1 h2 (fun u hu=>by rw [List.mem_singleton.1 hu];exact hw) (fun u hu x hx=>by rw [List.mem_singleton.1 hu] at hx;exact yp x hx))
 | wnode r pre q0 k ih =>
  intro g g1 g2 tp tq ⟨yD,root,t',hn,e,h⟩ hq h1 h2
  subst e
  obtain ⟨m,hm,hk⟩:=ih h hq h1.left' h2.right'
  have yp:∀ x∈(g r).ways,x∈(Tok.join (zBd r pre.dropLast (zAN (g r) root pre&&(pre.isEmpty || !q0.isAgg)) (g r) root) t').ways:=fun x hx=>List.mem_append_left _ (List.mem_append_left _ hx)
  have fin:m r=root→Unseen [r] (fun _=>root) g tq→∃ m,q.does o g tq m∧(PM.wnode r pre q0 k).does o m (Tok.join (zBd r pre.dropLast (zAN (g r) root pre&&(pre.isEmpty || !q0.isAgg)) (g r) root) t') g2:=by
   intro wm hu
   rw [zNp] at hm
   have hd:=zF1 hm h2.all hu
   have he:mix [r] g m=upd m r (g r):=by funext u;simp only [upd,mix,List.mem_singleton];split<;>simp_all
   rw [he] at hd
   refine ⟨_,hd,by rw [zAj];exact yD,root,t',by rw [zAj];exact hn,by rw [zAj],?_⟩
   rw [zNS,← wm,zK5];exact hk
  cases u5:(zAN (g r) root pre&&(pre.isEmpty || !q0.isAgg)) with
  | true =>
   rw [u5] at h1 h2 fin yp
   have hin:(r,pre.dropLast)∈(Tok.join (zBd r pre.dropLast true (g r) root) t').inn:=by simp [Tok.join,zBd]
   have hw:r∉tq.wr:=fun hw=>h2.inn r hw _ hin rfl
   have hi:∀ c∈tq.inn,c.1≠r:=h1.iinn _ hin
   refine fin (by rw [zDB hm h2.all hw hi,zAj]) ⟨fun s hs=>?_,fun s hs=>?_,fun s hs=>?_,fun s hs _=>?_,fun s hs c hc e i c' n=>?_,fun s hs k hk x hx=>?_,fun s hs k hk x hx=>?_⟩<;>rw [List.mem_singleton.1 hs] at *
   ·exact h1.ird _ hin
   ·exact hw
   ·exact hi
   ·rw [Bool.and_eq_true] at u5
    exact (zHc hn u5.1).symm
   ·exact zJO yD hn u5 (h1.icel _ hin c hc e) i c' n
   ·exact h2.ways k hk x (yp x hx)
   ·exact h2.waysIn k hk x (yp x hx)
  | false =>
   rw [u5] at h1 h2 fin yp
   have hw:r∈(Tok.join (zBd r pre.dropLast false (g r) root) t').wr:=by simp [Tok.join,zBd]
   exact fin (by rw [zDB hm h2.all (h1.wr r hw) (h1.inn r hw),zAj]) (zEK h1 h2 (fun u hu=>by rw [List.mem_singleton.1 hu];exact hw) (fun u hu x hx=>by rw [List.mem_singleton.1 hu] at hx;exact yp x hx))
 | kill r pre k ih =>
  intro g g1 g2 tp tq ⟨D,t',hD,e,h⟩ hq h1 h2
  subst e
  obtain ⟨m,hm,hk⟩:=ih h hq h1.left' h2.right'
  have hw:∀ s∈D,s∈(Tok.join (zAH D g (fun s=>(g s).mapW (lose r pre)) [r] []) t').wr:=fun s hs=>List.mem_append_left _ hs
  have hu:Unseen D (fun s=>(g s).mapW (lose r pre)) g tq:=zEK h1 h2 hw (fun s hs x hx=>List.mem_append_left _ (List.mem_flatMap.2 ⟨s,hs,List.mem_append_left _ hx⟩))
  have kJ:(fun s=>(g s).mapW (lose r pre))=mix D (fun s=>(g s).mapW (lose r pre)) g:=by
   funext s;by_cases hs:s∈D
   ·rw [zBt hs]
   ·rw [zAL hs,zD1 (hD s hs)]
  have hmD:∀ s∈D,m s=(g s).mapW (lose r pre):=fun s hs=>zDB hm h2.all (h1.wr s (hw s hs)) (h1.inn s (hw s hs))
  have jB:=zJw (D:=D) (ok:=fun x=>zAJ r pre x.1 x.2=false) hm h2.all (fun x hx=>zGQ (h1.ways r (by simp [Tok.join,zAH]) x hx)) (fun s hs x hx=>hD s hs x (by rw [zD1 (hD s hs)] at hx;exact hx))
  rw [kJ] at hm
  have hd:=zF1 hm h2.all hu
  have y9:(fun s=>(mix D g m s).mapW (lose r pre))=m:=by
   funext s;by_cases hs:s∈D
   ·rw [zBt hs,hmD s hs]
   ·rw [zAL hs,zD1 (jB s hs)]
  refine ⟨_,hd,D,t',fun s hs x hx=>jB s hs x (by rw [zAL hs] at hx;exact hx),?_,by rw [y9];exact hk⟩
  rw [zCz (g:=g) (h:=mix D g m) (h':=fun s=>(mix D g m s).mapW (lose r pre)) (fun s hs=>(zBt hs).symm) (fun s hs=>by simp only [zBt hs])]
 | frz r pre k ih =>
  intro g g1 g2 tp tq ⟨yD,D,t',q0,root,hD,hr,hn,hmn,e,h⟩ hq h1 h2
  subst e
  obtain ⟨m,hm,hk⟩:=ih h hq h1.left' h2.right'
  have hw:∀ s∈D,s∈(Tok.join (zAH D g (fun s=>(upd g r root s).mapW (inl r pre q0)) [r] []) t').wr:=fun s hs=>List.mem_append_left _ hs
  have hu:Unseen D (fun s=>(upd g r root s).mapW (inl r pre q0)) g tq:=zEK h1 h2 hw (fun s hs x hx=>List.mem_append_left _ (List.mem_flatMap.2 ⟨s,hs,List.mem_append_left _ hx⟩))
  have ye:∀ s,s∉D→(upd g r root s).mapW (inl r pre q0)=g s:=fun s hs=>by rw [zAf (by rintro rfl;exact hs hr),zFB (hD s hs)]
  have kJ:(fun s=>(upd g r root s).mapW (inl r pre q0))=mix D (fun s=>(upd g r root s).mapW (inl r pre q0)) g:=by
   funext s;by_cases hs:s∈D
   ·rw [zBt hs]
   ·rw [zAL hs,ye s hs]
  have hmD:∀ s∈D,m s=(upd g r root s).mapW (inl r pre q0):=fun s hs=>zDB hm h2.all (h1.wr s (hw s hs)) (h1.inn s (hw s hs))
  have jB:=zJw (D:=D) (ok:=fun x=>zAJ r pre x.1 x.2=false) hm h2.all (fun x hx=>zGQ (h1.ways r (by simp [Tok.join,zAH]) x hx)) (fun s hs x hx=>hD s hs x (by rw [ye s hs] at hx;exact hx))
  rw [kJ] at hm
  have hd:=zF1 hm h2.all hu
  have y9:(fun s=>(upd (mix D g m) r root s).mapW (inl r pre q0))=m:=by
   funext s;by_cases hs:s∈D
   ·rw [hmD s hs]
    by_cases yZ:s=r
    ·subst yZ;rw [zAj,zAj]
    ·rw [zAf yZ,zAf yZ,zBt hs]
   ·rw [zAf (by rintro rfl;exact hs hr),zAL hs,zFB (jB s hs)]
  have hmr:mix D g m r=g r:=zBt hr
  refine ⟨_,hd,by rw [hmr];exact yD,D,t',q0,root,fun s hs x hx=>jB s hs x (by rw [zAL hs] at hx;exact hx),hr,by rw [hmr];exact hn,by rw [hmr];exact hmn,?_,by rw [y9];exact hk⟩
  rw [zCz (g:=g) (h:=mix D g m) (fun s hs=>(zBt hs).symm) (fun s hs=>by
   show (upd g r root s).mapW (inl r pre q0)=(upd (mix D g m) r root s).mapW (inl r pre q0)
   by_cases yZ:s=r
   ·subst yZ;rw [zAj,zAj]
   ·rw [zAf yZ,zAf yZ,zBt hs])]
 | killEx r pre k ih =>
  intro g g1 g2 tp tq ⟨D,t',hD,e,h⟩ hq h1 h2
  subst e
  obtain ⟨m,hm,hk⟩:=ih h hq h1.left' h2.right'
  have hw:∀ s∈D,s∈(Tok.join (zAH D g (fun s=>(g s).mapW (zBJ r pre)) [] [r]) t').wr:=fun s hs=>List.mem_append_left _ hs
  have hu:Unseen D (fun s=>(g s).mapW (zBJ r pre)) g tq:=zEK h1 h2 hw (fun s hs x hx=>List.mem_append_left _ (List.mem_flatMap.2 ⟨s,hs,List.mem_append_left _ hx⟩))
  have kJ:(fun s=>(g s).mapW (zBJ r pre))=mix D (fun s=>(g s).mapW (zBJ r pre)) g:=by
   funext s;by_cases hs:s∈D
   ·rw [zBt hs]
   ·rw [zAL hs,zCx (hD s hs)]
  have hmD:∀ s∈D,m s=(g s).mapW (zBJ r pre):=fun s hs=>zDB hm h2.all (h1.wr s (hw s hs)) (h1.inn s (hw s hs))
  have jB:=zJw (D:=D) (ok:=fun x=>(Nat.beq x.1 r && !x.2.isEmpty)=false) hm h2.all (fun x hx=>zUn (h1.waysIn r (by simp [Tok.join,zAH]) x hx)) (fun s hs x hx=>hD s hs x (by rw [zCx (hD s hs)] at hx;exact hx))
  rw [kJ] at hm
  have hd:=zF1 hm h2.all hu
  have y9:(fun s=>(mix D g m s).mapW (zBJ r pre))=m:=by
   funext s;by_cases hs:s∈D
   ·rw [zBt hs,hmD s hs]
   ·rw [zAL hs,zCx (jB s hs)]
  refine ⟨_,hd,D,t',fun s hs x hx=>jB s hs x (by rw [zAL hs] at hx;exact hx),?_,by rw [y9];exact hk⟩
  rw [zCz (g:=g) (h:=mix D g m) (h':=fun s=>(mix D g m s).mapW (zBJ r pre)) (fun s hs=>(zBt hs).symm) (fun s hs=>by simp only [zBt hs])]
 | forget r k ih=>intro g g1 g2 tp tq h hq h1 h2;have:=h1.all;rw [show tp.all=true from h] at this;cases this
 | call f args hid k ih =>
  intro g g1 g2 tp tq ⟨v',hO,ho,h⟩ hq h1 h2
  obtain ⟨m,hm,hk⟩:=ih _ _ h hq h1 h2
  exact ⟨m,hm,v',hO,ho,hk⟩
theorem zBf (e:Env) (s:Nat) (p:PV):(e.set s p).get=upd e.get s p:=by
 funext t;rw [Env.get_set];rfl
theorem zFw {e:Env} {h:Nat×zAR→Bool}:∀ s,s∉zDl e h→∀ x∈(e.get s).ways,h x=false:=by
 intro s hs x hx
 cases hh:h x with
 | false=>rfl
 | true =>
  exfalso
  refine hs ?_
  clear hs
  induction e with
  | nil=>cases hx
  | cons y e ih =>
   obtain ⟨k,v⟩:=y
   simp only [Env.get] at hx
   cases hb:Nat.beq k s with
   | true =>
    rw [hb] at hx
    have hk:=Nat.eq_of_beq_eq_true hb
    exact List.mem_map.2 ⟨(k,v),List.mem_filter.2 ⟨by simp,List.any_eq_true.2 ⟨x,hx,hh⟩⟩,hk⟩
   | false =>
    rw [hb] at hx
    obtain ⟨y,hy,qW⟩:=List.mem_map.1 (ih hx)
    obtain ⟨h1,h2⟩:=List.mem_filter.1 hy
    exact List.mem_map.2 ⟨y,List.mem_filter.2 ⟨by simp [h1],h2⟩,qW⟩
theorem zU5 {e e':Env} {r:Nat} {pre:zAR} (h:e.frz r pre=some e') :
  (e.get r).isLock=false∧∃ q root,zAx (e.get r) pre=some q∧zAt (fun _=>some (zAT q)) (e.get r) pre=some root∧e'.get=fun s=>(upd e.get r root s).mapW (inl r pre q):=by
 simp only [Env.frz] at h
 cases hl:(e.get r).isLock with
 | true=>rw [hl] at h;cases h
 | false =>
  rw [hl] at h;simp only [cond_false] at h
  cases hn:zAx (e.get r) pre with
  | none=>rw [hn] at h;cases h
  | some q =>
   rw [hn] at h;simp only at h
   cases hm:zAt (fun _=>some (zAT q)) (e.get r) pre with
   | none=>rw [hm] at h;cases h
   | some root =>
    rw [hm] at h;simp only [Option.some.injEq] at h
    subst h
    refine ⟨rfl,q,root,rfl,hm,?_⟩
    funext s
    rw [Env.get_map (e.set r root) (g:=fun p=>p.mapW (inl r pre q)) rfl s,zBf]
theorem zHY:∀ {p:PM} {e e':Env} {t:Tok},p.runT o e=some (e',t)→t.all=true∨p.does o e.get t e'.get:=by
 intro p
 induction p with
 | ok=>intro e e' t h;simp only [PM.runT,Option.some.injEq,Prod.mk.injEq] at h;obtain ⟨rfl,rfl⟩:=h;exact .inr ⟨rfl,rfl⟩
 | fail=>intro e e' t h;cases h
 | view s k ih =>
  intro e e' t h
  simp only [PM.runT,Option.map_eq_some_iff] at h
  obtain ⟨⟨e1,t1⟩,h,hx⟩:=h
  cases hx
  rcases ih _ h with ha | hd
  ·exact .inl (by simp [Tok.join,ha])
  ·exact .inr ⟨t1,rfl,hd⟩
 | get s k ih =>
  intro e e' t h
  simp only [PM.runT] at h
  split at h
  ·cases h
  ·rename_i gx
   simp only [Option.map_eq_some_iff] at h
   obtain ⟨⟨e1,t1⟩,h,hx⟩:=h
   cases hx
   rcases ih _ h with ha | hd
   ·exact .inl (by simp [Tok.join,ha])
   ·refine .inr ⟨?_,t1,rfl,hd⟩
    cases hl:e.get s<;>first | rfl | exact absurd hl (gx _)
 | set s v k ih =>
  intro e e' t h
  simp only [PM.runT,Option.map_eq_some_iff] at h
  obtain ⟨⟨e1,t1⟩,h,hx⟩:=h
  cases hx
  rcases ih h with ha | hd
  ·exact .inl (by simp [Tok.join,ha])
  ·exact .inr ⟨t1,rfl,by rw [zBf] at hd;exact hd⟩
 | cells r pre i c n k ih =>
  intro e e' t h
  simp only [PM.runT] at h
  split at h
  ·rename_i a qs kC
   simp only [Option.map_eq_some_iff] at h
   obtain ⟨⟨e1,t1⟩,h,hx⟩:=h
   cases hx
   rcases ih _ _ h with ha | hd
   ·exact .inl (by simp [Tok.join,ha])
   ·exact .inr ⟨a,qs,t1,kC,rfl,hd⟩
  ·cases h
 | deep r pre k ih =>
  intro e e' t h
  simp only [PM.runT] at h
  split at h
  ·rename_i q hn
   simp only [Option.map_eq_some_iff] at h
   obtain ⟨⟨e1,t1⟩,h,hx⟩:=h
   cases hx
   rcases ih _ h with ha | hd
   ·exact .inl (by simp [Tok.join,ha])
   ·exact .inr ⟨q,t1,hn,rfl,hd⟩
  ·cases h
 | wcells r pre i c qs k ih =>
  intro e e' t h
  simp only [PM.runT] at h
  split at h
  ·rename_i root hn
   simp only [Option.map_eq_some_iff] at h
   obtain ⟨⟨e1,t1⟩,h,hx⟩:=h
   cases hx
   rcases ih h with ha | hd
   ·exact .inl (by simp [Tok.join,ha])
   ·exact .inr ⟨root,t1,hn,rfl,by rw [zBf] at hd;exact hd⟩
  ·cases h
 | wnode r pre q k ih =>
  intro e e' t h
  simp only [PM.runT] at h
  cases hl:(e.get r).isLock with
  | true=>rw [hl] at h;cases h
  | false =>
   rw [hl] at h;simp only [cond_false] at h
   split at h
   ·rename_i root hn
    simp only [Option.map_eq_some_iff] at h
    obtain ⟨⟨e1,t1⟩,h,hx⟩:=h
    cases hx
    rcases ih h with ha | hd
    ·exact .inl (by simp [Tok.join,ha])
    ·exact .inr ⟨hl,root,t1,hn,rfl,by rw [zBf] at hd;exact hd⟩
   ·cases h
 | kill r pre k ih =>
  intro e e' t h
  simp only [PM.runT,Option.map_eq_some_iff] at h
  obtain ⟨⟨e1,t1⟩,h,hx⟩:=h
  cases hx
  rcases ih h with hb | hd
  ·exact .inl (by simp [Tok.join,zAH,hb])
  ·have hg:(e.kill r pre).get=fun s=>(e.get s).mapW (lose r pre):=by funext s;rw [Env.get_kill]
   rw [hg] at hd ⊢
   exact .inr ⟨_,t1,zFw,rfl,hd⟩
 | frz r pre k ih =>
  intro e e' t h
  simp only [PM.runT] at h
  split at h
  ·rename_i e2 h2
   simp only [Option.map_eq_some_iff] at h
   obtain ⟨⟨e1,t1⟩,h,hx⟩:=h
   cases hx
   rcases ih h with hb | hd
   ·exact .inl (by simp [Tok.join,zAH,hb])
   ·obtain ⟨hl,q,root,hn,hm,hg⟩:=zU5 h2
    rw [hg] at hd ⊢
    exact .inr ⟨hl,_,t1,q,root,fun s hs=>zFw s (fun hm=>hs (List.mem_cons_of_mem _ hm)),by simp,hn,hm,rfl,hd⟩
  ·cases h
 | killEx r keep k ih =>
  intro e e' t h
  simp only [PM.runT,Option.map_eq_some_iff] at h
  obtain ⟨⟨e1,t1⟩,h,hx⟩:=h
  cases hx
  rcases ih h with hb | hd
  ·exact .inl (by simp [Tok.join,zAH,hb])
  ·have hg:(e.killEx r keep).get=fun s=>(e.get s).mapW (zBJ r keep):=by funext s;rw [Env.get_killEx]
   rw [hg] at hd ⊢
   exact .inr ⟨_,t1,zFw,rfl,hd⟩
 | forget r k ih =>
  intro e e' t h
  simp only [PM.runT,Option.map_eq_some_iff] at h
  obtain ⟨⟨e1,t1⟩,h,hx⟩:=h
  cases hx
  exact .inl rfl
 | call f args hid k ih =>
  intro e e' t h
  simp only [PM.runT] at h
  split at h
  ·rename_i v hO ho
   rcases ih _ _ h with ha | hd
   ·exact .inl ha
   ·exact .inr ⟨v,hO,ho,hd⟩
  ·cases h
theorem zNV:∀ {p:PM} {e:Env} {g':zCJ} {t:Tok},p.does o e.get t g'→t.all=false→∃ e',p.run o e=some e'∧e'.get=g':=by
 intro p
 induction p with
 | ok=>intro e g' t h _;exact ⟨e,rfl,h.2.symm⟩
 | fail=>intro e g' t h;cases h
 | view s k ih =>
  intro e g' t ⟨t',he,h⟩ ha
  subst he;exact ih _ h ha
 | get s k ih =>
  intro e g' t ⟨hl,t',he,h⟩ ha
  subst he
  obtain ⟨e',h1,h2⟩:=ih _ h ha
  refine ⟨e',?_,h2⟩
  simp only [PM.run]
  split
  ·rename_i p hp;rw [hp] at hl;cases hl
  ·exact h1
 | set s v k ih =>
  intro e g' t ⟨t',he,h⟩ ha
  subst he
  exact ih (e:=e.set s v) (by rw [zBf];exact h) (by simpa [Tok.join,zFd] using ha)
 | cells r pre i c n k ih =>
  intro e g' t ⟨a,qs,t',kC,he,h⟩ ha
  subst he
  obtain ⟨e',h1,h2⟩:=ih _ _ h ha
  exact ⟨e',by simp only [PM.run,kC];exact h1,h2⟩
 | deep r pre k ih =>
  intro e g' t ⟨q,t',hn,he,h⟩ ha
  subst he
  obtain ⟨e',h1,h2⟩:=ih _ h ha
  exact ⟨e',by simp only [PM.run,hn];exact h1,h2⟩
 | wcells r pre i c qs k ih =>
  intro e g' t ⟨root,t',hn,he,h⟩ ha
  subst he
  obtain ⟨e',h1,h2⟩:=ih (e:=e.set r root) (by rw [zBf];exact h) (by simpa [Tok.join,zBd] using ha)
  exact ⟨e',by simp only [PM.run,hn];exact h1,h2⟩
 | wnode r pre q k ih =>
  intro e g' t ⟨hl,root,t',hn,he,h⟩ ha
  subst he
  obtain ⟨e',h1,h2⟩:=ih (e:=e.set r root) (by rw [zBf];exact h) (by simpa [Tok.join,zBd] using ha)
  exact ⟨e',by simp only [PM.run,hl,cond_false,hn];exact h1,h2⟩
 | kill r pre k ih =>
  intro e g' t ⟨D,t',hD,he,h⟩ ha
  subst he
  exact ih (e:=e.kill r pre) (t:=t') (by
   have:(e.kill r pre).get=fun s=>(e.get s).mapW (lose r pre):=by funext s;rw [Env.get_kill]
   rw [this];exact h) (by simpa [Tok.join,zAH] using ha)
 | frz r pre k ih =>
  intro e g' t ⟨hl,D,t',q,root,hD,hr,hn,hm,he,h⟩ ha
  subst he
  have hf:e.frz r pre=some ((e.set r root).map fun x=>(x.1,x.2.mapW (inl r pre q))):=by
   simp only [Env.frz,hl,cond_false,hn,hm]
  have hg:Env.get ((e.set r root).map fun x=>(x.1,x.2.mapW (inl r pre q)))=fun s=>(upd e.get r root s).mapW (inl r pre q):=by
   funext s;rw [Env.get_map (e.set r root) (g:=fun p=>p.mapW (inl r pre q)) rfl s,zBf]
  obtain ⟨e',h1,h2⟩:=ih (e:=(e.set r root).map fun x=>(x.1,x.2.mapW (inl r pre q))) (t:=t') (by rw [hg];exact h) (by simpa [Tok.join,zAH] using ha)
  exact ⟨e',by simp only [PM.run,hf];exact h1,h2⟩
 | killEx r keep k ih =>
  intro e g' t ⟨D,t',hD,he,h⟩ ha
  subst he
  exact ih (e:=e.killEx r keep) (t:=t') (by
   have:(e.killEx r keep).get=fun s=>(e.get s).mapW (zBJ r keep):=by funext s;rw [Env.get_killEx]
   rw [this];exact h) (by simpa [Tok.join,zAH] using ha)
 | forget r k ih=>intro e g' t h ha;rw [show t.all=true from h] at ha;cases ha
 | call f args hid k ih =>
  intro e g' t ⟨v,hO,ho,h⟩ ha
  obtain ⟨e',h1,h2⟩:=ih _ _ h ha
  exact ⟨e',by simp only [PM.run,ho];exact h1,h2⟩
end
section
variable {o:zAD}
theorem zEH (e:Env) (h s:Nat):(e.forget h).get s=if s=h∨(e.get s).num=true then e.get s else .bad:=by
 induction e with
 | nil=>exact (ite_self (c:=s=h∨PV.bad.num=true) PV.bad).symm
 | cons x e ih =>
  obtain ⟨k,v⟩:=x
  have ih:Env.get (List.map (fun x=>bif Nat.beq x.1 h||x.2.num then x else (x.1,PV.bad)) e) s=_:=ih
  simp only [Env.forget,List.map_cons]
  cases hb:Nat.beq k s with
  | true =>
   have hk:=Nat.eq_of_beq_eq_true hb
   subst hk
   have e1:Env.get ((k,v)::e) k=v:=by simp only [Env.get,hb,cond_true]
   rw [e1]
   cases hc:(Nat.beq k h||v.num) with
   | true =>
    rw [cond_true]
    simp only [Env.get,hb,cond_true]
    rw [Bool.or_eq_true] at hc
    rw [if_pos (hc.imp (fun h=>Nat.eq_of_beq_eq_true h) id)]
   | false =>
    rw [cond_false]
    simp only [Env.get,hb,cond_true]
    rw [Bool.or_eq_false_iff] at hc
    rw [if_neg]
    rintro (h1 | h1)
    ·subst h1;rw [Nat.beq_refl] at hc;cases hc.1
    ·rw [hc.2] at h1;cases h1
  | false =>
   have e1:Env.get ((k,v)::e) s=Env.get e s:=by simp only [Env.get,hb,cond_false]
   rw [e1,← ih]
   cases (Nat.beq k h||v.num)<;>simp only [cond_true,cond_false,Env.get,hb]
theorem zRQ {e f e1:Env} {r:Nat} {pre:zAR} (he:f.get=e.get) (h:e.frz r pre=some e1):∃ f1,f.frz r pre=some f1∧f1.get=e1.get:=by
 simp only [Env.frz] at h ⊢
 rw [he]
 cases hl:(e.get r).isLock with
 | true=>rw [hl] at h;cases h
 | false =>
  rw [hl] at h;simp only [cond_false] at h ⊢
  cases hn:zAx (e.get r) pre with
  | none=>rw [hn] at h;cases h
  | some q =>
   rw [hn] at h;simp only at h ⊢
   cases hm:zAt (fun _=>some (zAT q)) (e.get r) pre with
   | none=>rw [hm] at h;cases h
   | some root =>
    rw [hm] at h;simp only [Option.some.injEq] at h ⊢
    subst h
    refine ⟨_,rfl,?_⟩
    funext s
    rw [Env.get_map (f.set r root) (g:=fun p=>p.mapW (inl r pre q)) rfl s,Env.get_map (e.set r root) (g:=fun p=>p.mapW (inl r pre q)) rfl s,zBf,zBf,he]
theorem zG7:∀ {p:PM} {e f e1:Env},f.get=e.get→p.run o e=some e1→∃ f1,p.run o f=some f1∧f1.get=e1.get:=by
 intro p
 induction p with
 | ok=>intro e f e1 he h;simp only [PM.run,Option.some.injEq] at h;subst h;exact ⟨f,rfl,he⟩
 | fail=>intro e f e1 he h;cases h
 | view s k ih=>intro e f e1 he h;simp only [PM.run] at h ⊢;rw [he];exact ih _ he h
 | get s k ih =>
  intro e f e1 he h
  simp only [PM.run] at h ⊢
  rw [he]
  split at h
  ·cases h
  ·exact ih _ he h
 | set s v k ih=>intro e f e1 he h;exact ih (by rw [zBf,zBf,he]) h
 | cells r pre i c n k ih =>
  intro e f e1 he h
  simp only [PM.run] at h ⊢
  rw [he]
  split at h
  ·exact ih _ _ he h
  ·cases h
 | deep r pre k ih =>
  intro e f e1 he h
  simp only [PM.run] at h ⊢
  rw [he]
  split at h
  ·exact ih _ he h
  ·cases h
 | wcells r pre i c qs k ih =>
  intro e f e1 he h
  simp only [PM.run] at h ⊢
  rw [he]
  split at h
  ·exact ih (by rw [zBf,zBf,he]) h
  ·cases h
 | wnode r pre q k ih =>
  intro e f e1 he h
  simp only [PM.run] at h ⊢
  rw [he]
  cases hl:(e.get r).isLock with
  | true=>rw [hl] at h;cases h
  | false =>
   rw [hl] at h;simp only [cond_false] at h ⊢
   split at h
   ·exact ih (by rw [zBf,zBf,he]) h
   ·cases h
 | kill r pre k ih=>intro e f e1 he h;exact ih (by funext s;rw [Env.get_kill,Env.get_kill,he]) h
 | frz r pre k ih =>
  intro e f e1 he h
  simp only [PM.run] at h ⊢
  split at h
  ·rename_i e2 h2
   obtain ⟨f2,jp,hg⟩:=zRQ he h2
   rw [jp]
   exact ih hg h
  ·cases h
 | killEx r pre k ih=>intro e f e1 he h;exact ih (by funext s;rw [Env.get_killEx,Env.get_killEx,he]) h
 | forget r k ih=>intro e f e1 he h;exact ih (by funext s;rw [zEH,zEH,he]) h
 | call f args hid k ih =>
  intro e f e1 he h
  simp only [PM.run] at h ⊢
  split at h
  ·exact ih _ _ he h
  ·cases h
theorem zD7:∀ {p:PM} {e e1:Env} {t:Tok},p.runT o e=some (e1,t)→p.run o e=some e1:=by
 have mp:∀ {x:Option (Env×Tok)} {f:Tok→Tok} {e1:Env} {t:Tok},(x.map fun y=>(y.1,f y.2))=some (e1,t)→∃ t',x=some (e1,t'):=by
  intro x f e1 t h
  cases x with
  | none=>cases h
  | some y=>simp only [Option.map_some,Option.some.injEq,Prod.mk.injEq] at h;exact ⟨y.2,by rw [← h.1]⟩
 intro p
 induction p with
 | ok=>intro e e1 t h;simp only [PM.runT,Option.some.injEq,Prod.mk.injEq] at h;rw [← h.1];rfl
 | fail=>intro e e1 t h;cases h
 | view s k ih=>intro e e1 t h;obtain ⟨t',h'⟩:=mp h;exact ih _ h'
 | get s k ih =>
  intro e e1 t h
  simp only [PM.runT,PM.run] at h ⊢
  split at h
  ·cases h
  ·obtain ⟨t',h'⟩:=mp h;exact ih _ h'
 | set s v k ih=>intro e e1 t h;obtain ⟨t',h'⟩:=mp h;exact ih h'
 | cells r pre i c n k ih =>
  intro e e1 t h
  simp only [PM.runT,PM.run] at h ⊢
  split at h
  ·obtain ⟨t',h'⟩:=mp h;exact ih _ _ h'
  ·cases h
 | deep r pre k ih =>
  intro e e1 t h
  simp only [PM.runT,PM.run] at h ⊢
  split at h
  ·obtain ⟨t',h'⟩:=mp h;exact ih _ h'
  ·cases h
 | wcells r pre i c qs k ih =>
  intro e e1 t h
  simp only [PM.runT,PM.run] at h ⊢
  split at h
  ·obtain ⟨t',h'⟩:=mp h;exact ih h'
  ·cases h
 | wnode r pre q k ih =>
  intro e e1 t h
  simp only [PM.runT,PM.run] at h ⊢
  cases hl:(e.get r).isLock with
  | true=>rw [hl] at h;cases h
  | false =>
   rw [hl] at h;simp only [cond_false] at h ⊢
   split at h
   ·obtain ⟨t',h'⟩:=mp h;exact ih h'
   ·cases h
 | kill r pre k ih=>intro e e1 t h;obtain ⟨t',h'⟩:=mp h;exact ih h'
 | frz r pre k ih =>
  intro e e1 t h
  simp only [PM.runT,PM.run] at h ⊢
  split at h
  ·obtain ⟨t',h'⟩:=mp h;exact ih h'
  ·cases h
 | killEx r pre k ih=>intro e e1 t h;obtain ⟨t',h'⟩:=mp h;exact ih h'
 | forget r k ih=>intro e e1 t h;obtain ⟨t',h'⟩:=mp (f:=fun _=>({all:=true}:Tok)) h;exact ih h'
 | call f args hid k ih =>
  intro e e1 t h
  simp only [PM.runT,PM.run] at h ⊢
  split at h
  ·exact ih _ _ h
  ·cases h
theorem zFq {e f:Env} {o:Oper} (h:f.get=e.get):zB9 f o=zB9 e o:=by
 have hv:zPW f=zPW e:=by funext x;cases x<;>simp only [zPW,h]
 simp only [zB9,h,hv]
theorem zNn {e f:Env} {ops:Array Oper} {o:Oper} (h:f.get=e.get):zLn ops f o=zLn ops e o:=by simp only [zLn,h]
theorem zJ7 {orc:zAD} {ops:Array Oper} {x:Oper} {k:Nat} {args:List PV} {l:Log} {e f e1:Env} {lg:Option Log} (h:f.get=e.get) (hr:zBQ orc ops x k args l e=some (e1,lg)) :
  ∃ f1,zBQ orc ops x k args l f=some (f1,lg)∧f1.get=e1.get:=by
 have mp:∀ {p:PM} {e f:Env} {lg':Option Log},f.get=e.get→(p.run orc e).map (fun e'=>(e',lg'))=some (e1,lg)→∃ f1,(p.run orc f).map (fun e'=>(e',lg'))=some (f1,lg)∧f1.get=e1.get:=by
  intro p e f lg' h hr
  obtain ⟨e2,h1,h2⟩:=Option.map_eq_some_iff.1 hr
  cases h2
  obtain ⟨f2,h3,h4⟩:=zG7 h h1
  exact ⟨f2,by rw [h3];rfl,h4⟩
 have hfg:(f.forget zAb).get=(e.forget zAb).get:=by funext s;rw [zEH,zEH,h]
 simp only [zBQ,zNn h] at hr ⊢
 split at hr
 ·cases hc:(args.all PV.flat&&l.k != 0&&Nat.beq k l.at_) with
  | false=>rw [hc] at hr;cases hr
  | true =>
   rw [hc] at hr;simp only [cond_true] at hr ⊢
   cases jP:(l.k==1) with
   | true=>rw [jP] at hr;exact mp hfg hr
   | false=>rw [jP] at hr;exact mp h hr
 ·exact mp h hr
 ·cases hr
section
variable {P:Program} {H:zBb} {o:zAD}
theorem zLF {ops:Array Oper} {x:Oper} {fz tk nl:Bool} {e:Env} {lg:Option Log} {t:Tok} {m:zCJ} (h:(zFL P H ops fz tk nl x).does o e.get t m) (ha:t.all=false) :
  ∃ e1,zCK P H o fz tk nl ops x e lg=some (e1,lg)∧e1.get=m:=by
 obtain ⟨e1,h1,h2⟩:=zNV h ha
 cases lg with
 | none=>exact ⟨e1,by simp only [zCK,h1,Option.map_some],h2⟩
 | some l =>
  cases hy:zB9 e x with
  | none=>exact ⟨e1,by simp only [zCK,hy,h1,Option.map_some],h2⟩
  | some kargs =>
   obtain ⟨kk,args⟩:=kargs
   have kU:(opM P H fz tk nl x).run o e=none:=by
    simp only [zB9] at hy
    split at hy
    ·rename_i c hc
     split at hy
     ·rename_i tc yu
      split at hy
      ·rename_i k hk
       simp only [opM,hc,zKM,yu,opd,PM.run,hk]
       rfl
      ·cases hy
     ·cases hy
    ·cases hy
   simp only [zFL] at h1
   simp only [zCK,hy,zBQ,zLn]
   cases hg:x.guard with
   | none=>rw [hg] at h1;rw [kU] at h1;cases h1
   | some jw =>
    obtain ⟨j,want⟩:=jw
    rw [hg] at h1;simp only at h1 ⊢
    cases hj:(ops[j]?).bind (·.dst) with
    | none=>rw [hj] at h1;cases h1
    | some tj =>
     rw [hj] at h1;simp only [PM.run] at h1 ⊢
     cases hp:e.get tj<;>rw [hp] at h1<;>simp only at h1<;>try (cases h1;done)
     case bool b =>
      simp only
      by_cases hb:b=want
      ·rw [if_pos hb,kU] at h1;cases h1
      ·rw [if_neg hb] at h1
       have:(b==want)=false:=by simpa using hb
       rw [this];simp only [h1,Option.map_some]
       exact ⟨e1,rfl,h2⟩
     case und =>
      simp only [h1,Option.map_some]
      exact ⟨e1,rfl,h2⟩
def zOI (P:Program) (H:zBb) (o:zAD) (fz tk nl:Bool) (ops:Array Oper) (x:Oper) (t:Tok) (g:zCJ) (lg:Option Log) (m:zCJ) (lg':Option Log):Prop :=
 (t.all=true∧∀ e:Env,e.get=g→∃ e1,zCK P H o fz tk nl ops x e lg=some (e1,lg')∧e1.get=m)∨(t.all=false∧lg'=lg∧(zFL P H ops fz tk nl x).does o g t m)
theorem zOI.run {fz tk nl:Bool} {ops:Array Oper} {x:Oper} {t:Tok} {e:Env} {m:zCJ} {lg lg':Option Log} (h:zOI P H o fz tk nl ops x t e.get lg m lg'):∃ e1,zCK P H o fz tk nl ops x e lg=some (e1,lg')∧e1.get=m:=by
 rcases h with ⟨_,h⟩ | ⟨ha,rfl,h⟩
 ·exact h e rfl
 ·exact zLF h ha
theorem zRi {fz tk nl:Bool} {ops:Array Oper} {x:Oper} {t:Tok} {e e1:Env} {lg lg':Option Log} (h:zEh P H o fz tk nl ops x e lg=some (e1,lg',t)):zOI P H o fz tk nl ops x t e.get lg e1.get lg':=by
 cases lg with
 | none =>
  simp only [zEh] at h
  obtain ⟨⟨e2,t2⟩,h1,h2⟩:=Option.map_eq_some_iff.1 h
  cases h2
  cases ha:t2.all with
  | true =>
   refine .inl ⟨ha,fun f hf=>?_⟩
   obtain ⟨f1,h3,h4⟩:=zG7 hf (zD7 h1)
   exact ⟨f1,by simp only [zCK,h3,Option.map_some],h4⟩
  | false =>
   rcases zHY h1 with h3 | h3
   ·rw [h3] at ha;cases ha
   ·exact .inr ⟨ha,rfl,h3⟩
 | some l =>
  simp only [zEh] at h
  cases hy:zB9 e x with
  | none =>
   rw [hy] at h;simp only at h
   obtain ⟨⟨e2,t2⟩,h1,h2⟩:=Option.map_eq_some_iff.1 h
   cases h2
   cases ha:t2.all with
   | true =>
    refine .inl ⟨ha,fun f hf=>?_⟩
    obtain ⟨f1,h3,h4⟩:=zG7 hf (zD7 h1)
    exact ⟨f1,by simp only [zCK,zFq hf,hy,h3,Option.map_some],h4⟩
   | false =>
    rcases zHY h1 with h3 | h3
    ·rw [h3] at ha;cases ha
    ·exact .inr ⟨ha,rfl,h3⟩
  | some kargs =>
   obtain ⟨kk,args⟩:=kargs
   rw [hy] at h;simp only at h
   obtain ⟨⟨e2,lg2⟩,h1,h2⟩:=Option.map_eq_some_iff.1 h
   cases h2
   refine .inl ⟨rfl,fun f hf=>?_⟩
   obtain ⟨f1,h3,h4⟩:=zJ7 hf h1
   exact ⟨f1,by simp only [zCK,zFq hf,hy,h3],h4⟩
def zNl (P:Program) (H:zBb) (o:zAD) (fzs tks:List Nat) (nl:Bool) (ops:Array Oper) (tk:Nat→Tok):List Nat→zCJ→Option Log→zCJ→Option Log→Prop
 | [],g,lg,g',lg'=>g'=g∧lg'=lg
 | i::l,g,lg,g',lg'=>∃ x m lm,ops[i]? = some x∧zOI P H o (fzs.contains i) (tks.contains i) nl ops x (tk i) g lg m lm∧zNl P H o fzs tks nl ops tk l m lm g' lg'
theorem zIB {fzs tks:List Nat} {nl:Bool} {ops:Array Oper} {tk:Nat→Tok} {i:Nat} {l2:List Nat}:∀ {l1:List Nat} {g g':zCJ} {lg lg':Option Log},zNl P H o fzs tks nl ops tk (l1++i::l2) g lg g' lg'→(∀ j∈l1,zPO (tk j) (tk i)=false)→zNl P H o fzs tks nl ops tk (i::(l1++l2)) g lg g' lg'
 | [],_,_,_,_,h,_=>h
 | j :: l1,g,g',lg,lg',⟨x,m,lm,hx,h1,h2⟩,hc=>by
  obtain ⟨y,m2,lm2,hy,h3,h4⟩:=zIB h2 fun k hk=>hc k (by simp [hk])
  have yO:=hc j (by simp)
  simp only [zPO,Bool.or_eq_false_iff] at yO
  have hp:=zKo yO.1
  have hq:=zKo yO.2
  rcases h1 with ⟨ha,_⟩ | ⟨_,rfl,hd1⟩
  ·have:=hp.all;rw [ha] at this;cases this
  ·rcases h3 with ⟨ha,_⟩ | ⟨_,rfl,hd2⟩
   ·have:=hq.all;rw [ha] at this;cases this
   ·obtain ⟨n,vS,j9⟩:=comm hd1 hd2 hp hq
    exact ⟨y,n,_,hy,.inr ⟨hq.all,rfl,vS⟩,x,m2,_,hx,.inr ⟨hp.all,rfl,j9⟩,h4⟩
end
end
section
variable {P:Program} {H:zBb} {w0 w:World} {U Φ0 Φ:Nat→Prop} {nt:Nat} {hv:Hid} {a:Act} {e e':Env} {rv:Nat→Value} {E:Nat→PV} {L:Nat→List Nat} {orc:zAD} {ro:Option Nat} {n:Nat} {Q:Exit→Act→World→Prop}
theorem Fr.get' (hf:Fr w0 U Φ0 nt hv a w e) (h:e'.get=e.get):Fr w0 U Φ0 nt hv a w e':=by
 obtain ⟨Φ,rv,E,L,S,hb⟩:=hf
 exact ⟨Φ,rv,E,L,⟨S.conf,fun s hs=>by rw [h];exact S.env s hs,S.size,S.small,S.tmps,S.parts,S.hid,S.dfr⟩,hb⟩
theorem Fr.tick (hf:Fr w0 U Φ0 nt hv a w e) (d:Nat):Fr w0 U Φ0 nt hv a {w with drawn:=d} e:=by
 obtain ⟨Φ,rv,E,L,S,hb⟩:=hf
 have hc:Conf w0 U Φ0 {w with drawn:=d} Φ rv E L:=by
  refine S.conf.step2 some (fun p=>p) zCg (fun a b t ha hb=>by cases ha;cases hb;rfl) (fun a t ha=>by cases ha;exact ⟨(zBe _).symm,rfl,rfl⟩) (fun a ha=>by cases ha) (fun a v hw ha=>?_)
   (fun a ha=>by cases ha) (fun a b ha=>by cases ha) (fun a ha=>by cases ha) (Nat.le_refl _) (fun _ _ _=>rfl) ⟨rfl,rfl,rfl⟩
  exact zCW hw (zCF S.conf zCg ha (zBe _).symm rfl (fun _ _=>rfl))
 exact ⟨Φ,rv,E,L,⟨hc,S.env,S.size,S.small,S.tmps,S.parts,S.hid,S.dfr⟩,hb⟩
structure Drawn (ops:Array Oper) (i:Nat) (Bs:List Nat) (Ts:List Tok):Prop where
 early:∀ (k:Nat) (x:Oper),i≤k→ops[k]? = some x→∀ ed∈x.after.toList,Region.binds .any ed=true→ed.on<k
 bits:∀ (k:Nat) (x:Oper),i≤k→ops[k]? = some x→∀ j,(Bs.getD k 0).testBit j=true→∃ ed∈x.after.toList,Region.binds .any ed=true∧(ed.on=j∨(Bs.getD ed.on 0).testBit j=true)
 free:∀ (k j:Nat),i≤k→k<ops.size→j<k→(Bs.getD k 0).testBit j=true∨zPO (Ts.getD j {}) (Ts.getD k {})=false
theorem zIT {b:Nat} {t:Tok}:∀ {l:List Tok} {j:Nat},zF2 b t j l=true→∀ k,k<l.length→b.testBit (j+k)=true∨zPO (l.getD k {}) t=false
 | [],j,_,k,hk=>by cases hk
 | u :: us,j,h,k,hk=>by
  simp only [zF2,Bool.and_eq_true,Bool.or_eq_true,Bool.not_eq_true'] at h
  cases k with
  | zero=>simpa using h.1
  | succ k =>
   have:=zIT h.2 k (by simpa using hk)
   rw [show j+(k+1)=j+1+k by omega]
   simpa using this
theorem zQW {acc:List Nat} {o:Oper} {j:Nat} (h:(zHZ acc o).testBit j=true):∃ ed∈o.after.toList,Region.binds .any ed=true∧(ed.on=j∨(acc.getD ed.on 0).testBit j=true):=by
 have key:∀ (l:List Edge) (s:Nat),(l.foldl (fun s e=>if Region.binds .any e then s ||| 2 ^ e.on ||| acc.getD e.on 0 else s) s).testBit j=true→s.testBit j=true∨∃ ed∈l,Region.binds .any ed=true∧(ed.on=j∨(acc.getD ed.on 0).testBit j=true):=by
  intro l
  induction l with
  | nil=>intro s h;exact .inl h
  | cons x l ih =>
   intro s h
   rcases ih _ h with h1 | ⟨ed,h1,h2⟩
   ·simp only at h1
    by_cases hb:Region.binds .any x=true
    ·rw [if_pos hb] at h1
     simp only [Nat.testBit_or,Bool.or_eq_true] at h1
     rcases h1 with (h1 | h1) | h1
     ·exact .inl h1
     ·refine .inr ⟨x,by simp,hb,.inl ?_⟩
      rw [Nat.testBit_two_pow] at h1
      simpa using h1
     ·exact .inr ⟨x,by simp,hb,.inr h1⟩
    ·rw [if_neg hb] at h1;exact .inl h1
   ·exact .inr ⟨ed,by simp [h1],h2⟩
 rcases key _ _ h with h1 | h1
 ·simp at h1
 ·exact h1
theorem zIL {fzs tks:List Nat} {nl:Bool} {ops:Array Oper} {lg':Option Log}:∀ (l:List Oper) (i:Nat) (acc:List Nat) (ts:List Tok) (e:Env) (lg:Option Log),zCm P H orc fzs tks nl ops l i acc ts e lg=some (e',lg')→l=ops.toList.drop i→i+l.length=ops.size→acc.length=i→ts.length=i →
  ∃ Bs Ts,(∀ k,k<i→Bs.getD k 0=acc.getD k 0∧Ts.getD k {}=ts.getD k {})∧Drawn ops i Bs Ts∧zNl P H orc fzs tks nl ops (fun k=>Ts.getD k {}) (List.range' i l.length) e.get lg e'.get lg'
 | [],i,acc,ts,e,lg,h,hl,hs,ha,ht=>by
  simp only [zCm,Option.some.injEq,Prod.mk.injEq] at h
  obtain ⟨rfl,rfl⟩:=h
  have yF:ops.size=i:=by simpa using hs.symm
  refine ⟨acc,ts,fun k _=>⟨rfl,rfl⟩,⟨fun k x hk hx=>?_,fun k x hk hx=>?_,fun k j hk wQ=>by omega⟩,rfl,rfl⟩
  ·have:=(Array.getElem?_eq_some_iff.1 hx).1;omega
  ·have:=(Array.getElem?_eq_some_iff.1 hx).1;omega
 | o :: l, i,acc,ts,e,lg,h,hl,hs,ha,ht=>by
  simp only [zCm] at h
  cases hr:zEh P H orc (fzs.contains i) (tks.contains i) nl ops o e lg with
  | none=>rw [hr] at h;cases h
  | some r =>
   obtain ⟨e1,lg1,t⟩:=r
   rw [hr] at h;simp only at h
   cases hb:(o.after.toList.all (fun e => !Region.binds .any e||Nat.blt e.on i)&&zF2 (zHZ acc o) t 0 ts) with
   | false=>rw [hb] at h;cases h
   | true =>
    rw [hb] at h;simp only [cond_true] at h
    rw [Bool.and_eq_true] at hb
    have hi:ops[i]? = some o:=by
     have:=congrArg (·[0]?) hl
     simp only [List.getElem?_cons_zero,List.getElem?_drop,Nat.add_zero] at this
     rw [← Array.getElem?_toList];exact this.symm
    have qu:l=ops.toList.drop (i+1):=by
     have:=congrArg List.tail hl
     simpa using this
    obtain ⟨Bs,Ts,h1,D,ya⟩:=zIL l (i+1) (acc++[zHZ acc o]) (ts++[t]) e1 lg1 h qu (by simp at hs;omega) (by simp [ha]) (by simp [ht])
    have hBi:Bs.getD i 0=zHZ acc o:=by rw [(h1 i (by omega)).1,← ha];simp [List.getD]
    have hTi:Ts.getD i {}=t:=by rw [(h1 i (by omega)).2,← ht];simp [List.getD]
    have hold:∀ k,k<i→Bs.getD k 0=acc.getD k 0∧Ts.getD k {}=ts.getD k {}:=by
     intro k hk
     obtain ⟨h2,h3⟩:=h1 k (by omega)
     rw [h2,h3]
     simp only [List.getD]
     rw [List.getElem?_append_left (by omega),List.getElem?_append_left (by omega)]
     exact ⟨rfl,rfl⟩
    have wF:∀ ed∈o.after.toList,Region.binds .any ed=true→ed.on<i:=by
     intro ed he hbd
     have:=List.all_eq_true.1 hb.1 ed he
     simp only [hbd,Bool.not_true,Bool.false_or] at this
     exact zB1 this
    refine ⟨Bs,Ts,hold,⟨fun k x hk hx=>?_,fun k x hk hx j hj=>?_,fun k j hk hks hj=>?_⟩,?_⟩
    ·by_cases gW:k=i
     ·subst gW;rw [hi] at hx;cases hx;exact wF
     ·exact D.early k x (by omega) hx
    ·by_cases gW:k=i
     ·subst gW;rw [hi] at hx;cases hx
      rw [hBi] at hj
      obtain ⟨ed,h2,h3,h4⟩:=zQW hj
      refine ⟨ed,h2,h3,h4.imp_right fun h4=>?_⟩
      rw [(hold _ (wF ed h2 h3)).1];exact h4
     ·exact D.bits k x (by omega) hx j hj
    ·by_cases gW:k=i
     ·subst gW
      have:=zIT hb.2 j (by omega)
      rw [hBi,hTi,(hold j hj).2]
      simpa using this
     ·exact D.free k j (by omega) hks hj
    ·show zNl P H orc fzs tks nl ops _ (List.range' i (l.length+1)) _ _ _ _
     rw [List.range'_succ]
     refine ⟨o,e1.get,lg1,hi,?_,ya⟩
     simp only [hTi]
     exact zRi hr
structure Frame (P:Program) (H:zBb) (orc:zAD) (nt:Nat) (ro:Option Nat) (n:Nat) (D:Nat→Prop) (Fin:Option Log→Prop) (G:Act→World→Env→Option Log→Prop):Prop where
 down:∀ {ops:Array Oper} {o:Oper} {fz tk nl:Bool} {e e':Env} {lg lg':Option Log},zCK P H orc fz tk nl ops o e lg=some (e',lg')→Fin lg'→Fin lg
 step:∀ {ops:Array Oper} {i:Nat} {o:Oper} {fz tk nl:Bool} {a:Act} {w:World} {e e':Env} {lg lg':Option Log} {Q:Exit→Act→World→Prop},zN5 P nt ops=true→ops[i]? = some o→(∀ d,o.dst=some d→D d)→Fin lg'→G a w e lg→zCK P H orc fz tk nl ops o e lg=some (e',lg') →
  wpOpIn (FF ro) n P ops Q i (fun a' w'=>G a' w' e' lg') a w
 get:∀ {a:Act} {w:World} {e e':Env} {lg:Option Log},G a w e lg→e'.get=e.get→G a w e' lg
 tick:∀ {a:Act} {w:World} {e:Env} {lg:Option Log} (d:Nat),G a w e lg→G a {w with drawn:=d} e lg
 drop:∀ {a:Act} {w:World} {e:Env} {lg:Option Log} (l:List Nat),G a w e lg→G a w (e.drop l) lg
 ice:∀ {a:Act} {w:World} {e:Env} {lg:Option Log} (l:List Nat),G a w e lg→G a w (zV2 l e) lg
 cond:∀ {a:Act} {w:World} {e:Env} {lg:Option Log} {t:Nat} {b:Bool},G a w e lg→t<nt→e.get t = .bool b→a.tmps.getD t undef = .bool b
variable {G:Act→World→Env→Option Log→Prop} {Fin:Option Log→Prop} {D:Nat→Prop}
def zP4 (D:Nat→Prop) (ops:Array Oper):Prop:=∀ o∈ops.toList,∀ d,o.dst=some d→D d
theorem zP4.at {ops:Array Oper} (h:zP4 D ops) {i:Nat} {o:Oper} (hi:ops[i]? = some o):∀ d,o.dst=some d→D d:=h o (by rw [← Array.getElem?_toList] at hi;exact List.mem_of_getElem? hi)
theorem zIV (F:Frame P H orc nt ro n D Fin G) {fzs tks:List Nat} {nl:Bool} {ops:Array Oper} {tk:Nat→Tok}:∀ {l:List Nat} {e:Env} {g':zCJ} {lg lg':Option Log},zNl P H orc fzs tks nl ops tk l e.get lg g' lg'→Fin lg'→Fin lg
 | [],_,_,_,_,⟨_,h⟩,hf=>by rw [← h];exact hf
 | i::l,e,g',lg,lg',⟨x,m,lm,_,yJ,hr⟩,hf=>by
  obtain ⟨e1,h1,h2⟩:=yJ.run
  exact F.down h1 (zIV F (by rw [h2];exact hr) hf)
theorem zW2 (F:Frame P H orc nt ro n D Fin G) {ops:Array Oper} (yv:zN5 P nt ops=true) (hD:zP4 D ops) {fzs tks:List Nat} {nl:Bool} {Bs:List Nat} {Ts:List Tok} (Dr:Drawn ops 0 Bs Ts) {g':zCJ} {lg':Option Log} (yK:Fin lg')
  (hq:∀ a' w' e',e'.get=g'→G a' w' e' lg'→Q .normal a' w'):∀ (rem:List Nat) (listed:Array Bool) {a:Act} {w:World} {e:Env} {lg:Option Log},listed.size=ops.size→rem.Pairwise (· < ·)→(∀ i,i∈rem↔i<ops.size∧listed.getD i true=false) →
   (∀ i,i<ops.size→listed.getD i true=true→∀ j,(Bs.getD i 0).testBit j=true→listed.getD j true=true)→zNl P H orc fzs tks nl ops (fun k=>Ts.getD k {}) rem e.get lg g' lg'→G a w e lg →
   wpAnyIn (FF ro) n P .any ops Q rem.length listed a w:=by
 have ready_mem:∀ (listed:Array Bool) (i:Nat),i∈Region.ready .any ops listed↔i<ops.size∧listed.getD i true=false∧∀ x,ops[i]? = some x→∀ ed∈x.after.toList,Region.binds .any ed=true→listed.getD ed.on false=true:=by
  intro listed i
  simp only [Region.ready,List.mem_filter,List.mem_range,Bool.and_eq_true,Bool.not_eq_true']
  refine ⟨fun ⟨h1,h2,h3⟩=>⟨h1,h2,fun x hx ed he hb=>?_⟩,fun ⟨h1,h2,h3⟩=>⟨h1,h2,?_⟩⟩
  ·rw [hx] at h3
   simp only [Option.map_some,Option.getD_some,Array.all_eq_true'] at h3
   have:=h3 ed (by simpa using he)
   rw [hb] at this
   simpa using this
  ·have hx:ops[i]? = some ops[i]:=Array.getElem?_eq_getElem h1
   rw [hx]
   simp only [Option.map_some,Option.getD_some,Array.all_eq_true']
   intro ed he
   cases hb:Region.binds .any ed with
   | false=>rfl
   | true=>simpa using h3 _ hx ed (by simpa using he) hb
 have tf:∀ {listed:Array Bool} {k:Nat},k<listed.size→listed.getD k true=listed.getD k false:=by
  intro listed k hk
  simp [Array.getD,hk]
 have ft:∀ {listed:Array Bool} {k:Nat},listed.getD k false=true→listed.getD k true=true:=by
  intro listed k hk
  by_cases yG:k<listed.size
  ·rw [tf yG];exact hk
  ·simp [Array.getD,yG] at hk
 intro rem
 induction hm:rem.length generalizing rem with
 | zero =>
  intro listed a w e lg yF wG y1 wH ya hf
  have hrem:rem=[]:=List.eq_nil_of_length_eq_zero hm
  subst hrem
  obtain ⟨h1,rfl⟩:=ya
  refine ⟨?_,hq a w e h1.symm hf⟩
  rw [List.eq_nil_iff_forall_not_mem]
  intro i hi
  obtain ⟨h1,h2,_⟩:=(ready_mem listed i).1 hi
  exact absurd ((y1 i).2 ⟨h1,h2⟩) (by simp)
 | succ m ih =>
  intro listed a w e lg yF wG y1 wH ya hf
  refine ⟨fun hr=>?_,fun i hi=>?_⟩
  ·
   exfalso
   match rem,hm with
   | i :: rest,_ =>
    have kS:=(y1 i).1 (by simp)
    have:i∈Region.ready .any ops listed:=(ready_mem listed i).2 ⟨kS.1,kS.2,fun x hx ed he hb=>by
     have yG:=Dr.early i x (by omega) hx ed he hb
     have hed:ed.on<listed.size:=by omega
     rw [← tf hed]
     cases hl:listed.getD ed.on true with
     | true=>rfl
     | false =>
      have hin:=(y1 ed.on).2 ⟨by omega,hl⟩
      rcases List.mem_cons.1 hin with h | h
      ·omega
      ·have:=List.rel_of_pairwise_cons wG h;omega⟩
    rw [hr] at this;cases this
  ·obtain ⟨h1,h2,h3⟩:=(ready_mem listed i).1 hi
   obtain ⟨l1,l2,gX⟩:=List.append_of_mem ((y1 i).2 ⟨h1,h2⟩)
   subst gX
   have hx:ops[i]? = some ops[i]:=Array.getElem?_eq_getElem h1
   have uv:∀ j,(Bs.getD i 0).testBit j=true→listed.getD j true=true:=by
    intro j hj
    obtain ⟨ed,he,hb,hc⟩:=Dr.bits i _ (by omega) hx j hj
    have hl:=ft (h3 _ hx ed he hb)
    rcases hc with hc | hc
    ·rw [← hc];exact hl
    ·have yG:=Dr.early i _ (by omega) hx ed he hb
     exact wH ed.on (by omega) hl j hc
   have wI:∀ j∈l1,zPO (Ts.getD j {}) (Ts.getD i {})=false:=by
    intro j hj
    have vq:j<i:=by
     rw [List.pairwise_append] at wG
     exact wG.2.2 j hj i (by simp)
    rcases Dr.free i j (by omega) h1 vq with hb | hb
    ·have:=uv j hb
     have hjn:=(y1 j).1 (by simp [hj])
     rw [hjn.2] at this;cases this
    ·exact hb
   obtain ⟨x,g1,lg1,j7,yJ,yd⟩:=zIB ya wI
   rw [hx] at j7;cases j7
   obtain ⟨e1,gC,kJ⟩:=yJ.run
   refine zDK (F.step yv hx (hD.at hx) (zIV F (by rw [kJ];exact yd) yK) hf gC) fun a' w' yk=>?_
   have yi:∀ k,(listed.setIfInBounds i true).getD k true=if k=i then true else listed.getD k true:=by
    intro k
    simp only [Array.getD_eq_getD_getElem?,Array.getElem?_setIfInBounds]
    by_cases hk:i=k
    ·subst hk
     rw [if_pos rfl,if_pos rfl]
     split<;>rfl
    ·rw [if_neg hk,if_neg (fun e=>hk e.symm)]
   have hpw2:(l1++l2).Pairwise (· < ·):=by
    rw [List.pairwise_append] at wG ⊢
    refine ⟨wG.1,wG.2.1.tail,fun x hx y hy=>wG.2.2 x hx y (by simp [hy])⟩
   have hni:i∉l1∧i∉l2:=by
    rw [List.pairwise_append] at wG
    refine ⟨fun hin=>?_,fun hin=>?_⟩
    ·have:=wG.2.2 i hin i (by simp);omega
    ·have:=List.rel_of_pairwise_cons wG.2.1 hin;omega
   have hmem2:∀ k,k∈l1++l2↔k<ops.size∧(listed.setIfInBounds i true).getD k true=false:=by
    intro k
    rw [yi]
    by_cases hk:k=i
    ·subst hk
     simp only [if_true,List.mem_append]
     exact ⟨fun h=>absurd h (by simp [hni]),fun h=>by cases h.2⟩
    ·rw [if_neg hk,← y1 k]
     simp only [List.mem_append,List.mem_cons,hk,false_or]
   have:=ih (l1++l2) (by simp at hm ⊢;omega) (listed.setIfInBounds i true) (by simpa using yF) hpw2 hmem2 (fun k hk hl j hj=>?_) (by rw [kJ];exact yd) yk
   ·exact this
   ·rw [yi] at hl ⊢
    split
    ·rfl
    ·split at hl
     ·rename_i gW;subst gW;exact uv j hj
     ·exact wH k hk hl j hj
theorem zPt (F:Frame P H orc nt ro n D Fin G) (zE1:P.follows .mixedOrders=true) {ops:Array Oper} (yv:zN5 P nt ops=true) (hD:zP4 D ops) {fzs tks:List Nat} {nl:Bool} {a:Act} {w:World} {e:Env} {lg lg':Option Log} {id:Nat} (yK:Fin lg') (hf:G a w e lg)
  (h:zCm P H orc fzs tks nl ops ops.toList 0 [] [] e lg=some (e',lg')) (hq:∀ a' w',G a' w' e' lg'→Q .normal a' w'):(Code.region id ops true).wpIn (FF ro) n P Q a w:=by
 obtain ⟨Bs,Ts,_,Dr,ya⟩:=zIL ops.toList 0 [] [] e lg h (by simp) (by simp) rfl rfl
 refine wpIn_region_any zE1 ?_
 have hZ:(List.range' 0 ops.toList.length).length=ops.size:=by simp
 have:=zW2 (Q:=Q) F yv hD Dr (g':=e'.get) yK (fun a' w' f hg yk=>hq a' w' (F.get yk hg.symm)) (List.range' 0 ops.toList.length) (Array.replicate ops.size false) (a:=a) (w:={w with drawn:=w.drawn+1}) (e:=e) (by simp) List.pairwise_lt_range' (fun i=>?_) (fun i hi hl=>?_) ya (F.tick _ hf)
 ·rw [hZ] at this;exact this
 ·simp only [List.mem_range'_1,Array.length_toList]
  constructor
  ·intro ⟨_,h2⟩
   have:i<ops.size:=by omega
   exact ⟨this,by simp [Array.getD,this]⟩
  ·intro ⟨h2,_⟩;omega
 ·simp [Array.getD,hi] at hl
theorem zHr (F:Frame P H orc nt ro n D Fin G) {ops:Array Oper} {fzs tks:List Nat} {nl:Bool} {lg':Option Log}:∀ (l:List Oper) (i:Nat) {e:Env} {lg:Option Log},zA7 P H orc fzs tks nl ops l i e lg=some (e',lg')→Fin lg'→Fin lg
 | [],i,e,lg,h,hf=>by
  simp only [zA7,Option.some.injEq,Prod.mk.injEq] at h
  rw [h.2];exact hf
 | o :: l,i,e,lg,h,hf=>by
  simp only [zA7] at h
  split at h
  ·rename_i e1 lg1 h1
   exact F.down h1 (zHr F l (i+1) h hf)
  ·cases h
theorem zSK (F:Frame P H orc nt ro n D Fin G) {ops:Array Oper} {fzs tks:List Nat} {nl:Bool} {lg lg':Option Log} {e:Env} (h:zCm P H orc fzs tks nl ops ops.toList 0 [] [] e lg=some (e',lg')) (hf:Fin lg'):Fin lg:=by
 obtain ⟨Bs,Ts,_,D,ya⟩:=zIL ops.toList 0 [] [] e lg h (by simp) (by simp) rfl rfl
 exact zIV F ya hf
theorem zH6 (F:Frame P H orc nt ro n D Fin G) {ops:Array Oper} (yv:zN5 P nt ops=true) (hD:zP4 D ops) {fzs tks:List Nat} {nl:Bool} {lg':Option Log} (yK:Fin lg'):∀ (l:List Oper) (i:Nat) {a:Act} {w:World} {e:Env} {lg:Option Log},l=ops.toList.drop i→i+l.length=ops.size→G a w e lg →
  zA7 P H orc fzs tks nl ops l i e lg=some (e',lg')→(∀ a' w',G a' w' e' lg'→Q .normal a' w')→wpOpsIn (FF ro) n P ops Q (List.range' i l.length) a w
 | [],i,a,w,e,lg,hl,hs,hf,h,hq=>by
  simp only [zA7,Option.some.injEq,Prod.mk.injEq] at h
  obtain ⟨rfl,rfl⟩:=h
  exact hq _ _ hf
 | o :: l,i,a,w,e,lg,hl,hs,hf,h,hq=>by
  simp only [zA7] at h
  split at h
  ·rename_i e1 lg1 h1
   have hi:ops[i]? = some o:=by
    have:=congrArg (·[0]?) hl
    simp only [List.getElem?_cons_zero,List.getElem?_drop,Nat.add_zero] at this
    rw [← Array.getElem?_toList];exact this.symm
   have qu:l=ops.toList.drop (i+1):=by
    have:=congrArg List.tail hl
    simpa using this
   show wpOpsIn (FF ro) n P ops Q (List.range' i (l.length+1)) a w
   rw [List.range'_succ,wpOpsIn_cons]
   exact zDK (F.step yv hi (hD.at hi) (zHr F l (i+1) h yK) hf h1) fun a' w' yk=>zH6 F yv hD yK l (i+1) qu (by simp at hs;omega) yk h hq
  ·cases h
end
end Go.Eng
namespace Go.Eng
open Go
theorem zVC (e:Env) (k:Nat) (v:PV) (s:Nat):(Env.put e k v).get s=if s=k then v else e.get s:=by
 by_cases hv:v = .bad
 ·subst hv
  simp only [Env.put]
  induction e with
  | nil=>simp only [List.filter_nil,Env.get];split<;>rfl
  | cons x e ih =>
   obtain ⟨k',v'⟩:=x
   simp only [List.filter_cons]
   cases hb:Nat.beq k' k with
   | true =>
    have:=Nat.eq_of_beq_eq_true hb
    subst this
    simp only [Bool.not_true,Bool.false_eq_true,if_false,ih,Env.get]
    by_cases hs:s=k'
    ·rw [if_pos hs,if_pos hs]
    ·rw [if_neg hs,if_neg hs]
     have:Nat.beq k' s=false:=by cases h:Nat.beq k' s with | false=>rfl | true=>exact absurd (Nat.eq_of_beq_eq_true h).symm hs
     rw [this];rfl
   | false =>
    simp only [Bool.not_false,if_true,Env.get]
    cases jX:Nat.beq k' s with
    | true =>
     have:=Nat.eq_of_beq_eq_true jX
     subst this
     have hI:k'≠k:=Nat.ne_of_beq_eq_false hb
     rw [if_neg hI];rfl
    | false=>simp only [cond_false,ih]
 ·have:Env.put e k v=e.set k v:=by cases v<;>first | rfl | exact absurd rfl hv
  rw [this,Env.get_set]
theorem zIc:∀ (e:Env) (s:Nat),e.norm.get s=e.get s
 | [],_=>rfl
 | (k,v)::e,s=>by
  simp only [Env.norm,zVC,zIc e,Env.get]
  cases hb:Nat.beq k s with
  | true=>rw [if_pos (Nat.eq_of_beq_eq_true hb).symm];rfl
  | false=>rw [if_neg (Ne.symm (Nat.ne_of_beq_eq_false hb))];rfl
section
variable {F:Fence} {n:Nat} {P:Program} {a:Act} {k:List Item} {cs:List Go.Frame} {w:World} {Q:Exit→Act→World→Prop}
theorem zDy {b:Go.Frame} {c:Code}:step P (lone (b.atR a (.code (.scope c)::k)) cs w) = .next (lone (b.atR a (.code c :: .inScope c::k)) cs w) :=
 step_lone_go (by simp [stepG,stepG.exec,Go.Frame.atR])
theorem zKR {b:Go.Frame} {c:Code}:step P (lone (b.atR a (.inScope c::k)) cs w) = .next (lone (b.atR a k) cs w) :=
 step_lone_go (by simp [stepG,stepG.exec,Go.Frame.atR])
theorem zPR {c:Code} (hq:∀ l a w,¬ Q (.goto l) a w) (h:c.wpIn F n P Q a w):(Code.scope c).wpIn F n P Q a w:=by
 intro b k cs uh hb hr
 have h0:(lone (b.atR a (.code (.scope c)::k)) cs w).fenced P F:=fenced_calm hb hr rfl
 obtain ⟨e,a₁,w₁,kV,vL⟩:=h b (.inScope c::k) cs uh hb hr
 cases e with
 | normal=>exact ⟨.normal,a₁,w₁,kV,.head h0 zDy (StepsIn.trans vL (.one (fenced_calm hb hr rfl) zKR))⟩
 | exit id =>
  have hx:exitTo id (.inScope c::k)=exitTo id k:=by simp [exitTo]
  exact ⟨.exit id,a₁,w₁,kV,fun k' hk => .head h0 zDy (vL.1 k' (by rw [hx];exact hk)),
   fun j2 hk=>let ⟨k₁,h1,h2⟩:=vL.2 j2 (by rw [hx];exact hk);⟨k₁,h1,.head h0 zDy h2⟩⟩
 | goto l=>exact absurd kV (hq l a₁ w₁)
 | ret=>exact ⟨_,a₁,w₁,kV,.of_steps (.one h0 zDy) vL⟩
 | panic ch=>exact ⟨_,a₁,w₁,kV,.of_steps (.one h0 zDy) vL⟩
 | outgrown=>exact ⟨_,a₁,w₁,kV,.of_steps (.one h0 zDy) vL⟩
end
section
variable {P:Program} {H:zBb} {nt:Nat} {orc:zAD} {yo:zCL} {al:All} {ro:Option Nat} {n:Nat} {D:Nat→Prop} {Fin:Option Log→Prop} {G:Act→World→Env→Option Log→Prop} {hh:FHint}
theorem zKS (F:Frame P H orc nt ro n D Fin G):∀ (m:Nat) (c:Code) {e e':Env} {x:X} {lg lg':Option Log},exec P H orc yo al nt hh m c e lg=some (x,e',lg')→Fin lg'→Fin lg
 | 0,c,e,e',x,lg,lg',h,hf=>by cases h
 | m + 1,c,e,e',x,lg,lg',h,hf=>by
  have yA:∀ {b:Code} {e e':Env} {x:X} {lg lg':Option Log},exec P H orc yo al nt hh m b e lg=some (x,e',lg')→Fin lg'→Fin lg:=fun h hf=>zKS F m _ h hf
  cases c<;>simp only [exec] at h<;>try (cases h;done)
  case skip=>cases h;exact hf
  case region id ops draw =>
   split at h
   ·rename_i e1 lg1 h1
    cases h
    cases draw with
    | true=>exact zSK F h1 hf
    | false=>exact zHr F _ _ h1 hf
   ·cases h
  case seq a b =>
   split at h
   ·rename_i e1 lg1 h1;exact yA h1 (yA h hf)
   ·exact yA h hf
  case cond c a b =>
   cases c with
   | tmp t =>
    simp only at h
    split at h
    ·exact yA h hf
    ·exact yA h hf
    ·cases h
   | const v =>
    split at h
    ·rename_i u6;cases u6
    ·exact yA h hf
    ·exact yA h hf
    ·cases h
   | global g=>cases h
   | func f=>cases h
  case block id b =>
   split at h
   ·rename_i id' r h1
    obtain ⟨e1,lg1⟩:=r
    cases h;exact yA h1 hf
   ·exact yA h hf
  case loop b =>
   split at h
   ·rename_i e1 lg1 h1;exact yA h1 (yA h hf)
   ·exact yA h hf
  case exit id=>cases h;exact hf
  case ret=>cases h;exact hf
  case label l=>cases h;exact hf
  case scope b=>exact yA h hf
  case rangeFunc f ps a b =>
   cases f with
   | tmp t =>
    cases lg with
    | none =>
     simp only at h
     obtain ⟨r,_,h2⟩:=Option.map_eq_some_iff.1 h
     cases h2;exact hf
    | some l=>cases h
   | const v=>cases h
   | global g=>cases h
   | func f=>cases h
def zEb (P:Program) (H:zBb) (orc:zAD) (yo:zCL) (al:All) (nt:Nat) (hh:FHint) (ro:Option Nat) (n:Nat) (G:Act→World→Env→Option Log→Prop) (m:Nat):Prop :=
 ∀ m',m'<m→∀ (t:Nat) (ps:Array Tmp) (ca cb:Code) (a:Act) (w:World) (e:Env) (x:X) (e':Env),zCC P nt (.rangeFunc (.tmp t) ps ca cb)=true→G a w e none→exec P H orc yo al nt hh (m'+1) (.rangeFunc (.tmp t) ps ca cb) e none=some (x,e',none) →
   (Code.rangeFunc (.tmp t) ps ca cb).wpIn (FF ro) n P (fun ex a' w'=>ex=x.exit∧G a' w' e' none) a w
theorem zEb.less {m m':Nat} (h:zEb P H orc yo al nt hh ro n G m) (hm:m'≤m):zEb P H orc yo al nt hh ro n G m':=fun k hk=>h k (by omega)
theorem zHC (F:Frame P H orc nt ro n D Fin G) (zE1:P.follows .mixedOrders=true):∀ (m:Nat) (c:Code) (hr:zCT c=true∨zEb P H orc yo al nt hh ro n G m) {a:Act} {w:World} {e:Env} {x:X} {e':Env} {lg lg':Option Log},zCC P nt c=true→(∀ d∈zBN c,D d)→Fin lg'→G a w e lg→exec P H orc yo al nt hh m c e lg=some (x,e',lg') →
  c.wpIn (FF ro) n P (fun ex a' w'=>ex=x.exit∧G a' w' e' lg') a w
 | 0,c,hr,a,w,e,x,e',lg,lg',hc,hD,yK,hf,h=>by cases h
 | m + 1,c,hr,a,w,e,x,e',lg,lg',hc,hD,yK,hf,h=>by
  have yA:∀ {b:Code} {e1:Env} {y:X} {e2:Env} {a w} {l1 l2:Option Log},(zCT b=true∨zEb P H orc yo al nt hh ro n G m)→zCC P nt b=true→(∀ d∈zBN b,D d)→Fin l2→G a w e1 l1→exec P H orc yo al nt hh m b e1 l1=some (y,e2,l2)→b.wpIn (FF ro) n P (fun ex a' w'=>ex=y.exit∧G a' w' e2 l2) a w :=
   fun hr hc hd hn hf h=>zHC F zE1 m _ hr hc hd hn hf h
  have two:∀ {p q:Bool},((p&&q)=true∨zEb P H orc yo al nt hh ro n G (m+1))→(p=true∨zEb P H orc yo al nt hh ro n G m)∧(q=true∨zEb P H orc yo al nt hh ro n G m):=by
   intro p q h
   rcases h with h | h
   ·rw [Bool.and_eq_true] at h;exact ⟨.inl h.1,.inl h.2⟩
   ·exact ⟨.inr (h.less (by omega)),.inr (h.less (by omega))⟩
  have one:∀ {p:Bool},(p=true∨zEb P H orc yo al nt hh ro n G (m+1))→(p=true∨zEb P H orc yo al nt hh ro n G m):=fun h=>h.imp_right fun h=>h.less (by omega)
  cases c<;>simp only [zCC,Bool.and_eq_true] at hc<;>try (cases hc;done)
  case skip =>
   simp only [exec,Option.some.injEq,Prod.mk.injEq] at h
   obtain ⟨rfl,rfl,rfl⟩:=h
   exact wpIn_skip ⟨rfl,hf⟩
  case region id ops draw =>
   simp only [exec] at h
   split at h
   ·rename_i e1 lg1 h1
    simp only [Option.some.injEq,Prod.mk.injEq] at h
    obtain ⟨rfl,rfl,rfl⟩:=h
    have fin:∀ {a' w'},G a' w' e1 lg1→G a' w' (e1.drop (hh.drop id)).norm lg1:=fun hg=>F.get (F.drop _ hg) (by funext s;exact zIc _ s)
    have hDs:zP4 D ops:=fun o ho d hd=>hD d (List.mem_filterMap.2 ⟨o,ho,hd⟩)
    cases draw with
    | true=>exact zPt F zE1 hc hDs yK hf h1 fun a' w' yk=>⟨rfl,fin yk⟩
    | false =>
     refine wpIn_region ?_
     have:=zH6 (Q:=fun ex a' w'=>ex=X.norm.exit∧G a' w' (e1.drop (hh.drop id)).norm lg1) F hc hDs yK ops.toList 0 (by simp) (by simp) hf h1 fun a' w' yk=>⟨rfl,fin yk⟩
     rw [List.range_eq_range']
     simpa using this
   ·cases h
  case seq c1 c2 =>
   simp only [exec] at h
   refine wpIn_seq ?_
   split at h
   ·rename_i e1 lg1 h1
    exact wpIn_mono (yA (two hr).1 hc.1 (fun d hd=>hD d (List.mem_append_left _ hd)) (zKS F _ _ h yK) hf h1) fun ex a' w' ⟨hx,yk⟩=>by subst hx;exact yA (two hr).2 hc.2 (fun d hd=>hD d (List.mem_append_right _ hd)) yK yk h
   ·rename_i hI
    exact wpIn_mono (yA (two hr).1 hc.1 (fun d hd=>hD d (List.mem_append_left _ hd)) yK hf h) fun ex a' w' ⟨hx,yk⟩=>by
     subst hx
     cases x with
     | norm=>exact absurd h (hI _ _)
     | ex id=>exact ⟨rfl,yk⟩
     | ret=>exact ⟨rfl,yk⟩
  case cond c c1 c2 =>
   have key:∀ t:Bool,a.eval c = .bool t→exec P H orc yo al nt hh m (if t then c1 else c2) e lg=some (x,e',lg')→(Code.cond c c1 c2).wpIn (FF ro) n P (fun ex a' w'=>ex=x.exit∧G a' w' e' lg') a w:=by
    intro t ht h
    refine wpIn_cond ht ?_
    cases t with
    | true=>exact yA (two hr).1 hc.1.2 (fun d hd=>hD d (List.mem_append_left _ hd)) yK hf h
    | false=>exact yA (two hr).2 hc.2 (fun d hd=>hD d (List.mem_append_right _ hd)) yK hf h
   simp only [exec] at h
   cases c with
   | tmp t =>
    simp only at h
    have uK:t<nt:=zB1 hc.1.1
    split at h
    ·rename_i hp;exact key true (F.cond hf uK hp) h
    ·rename_i hp;exact key false (F.cond hf uK hp) h
    ·cases h
   | const v =>
    split at h
    ·rename_i yE;cases yE
    ·rename_i u6;cases u6;exact key true rfl h
    ·rename_i u6;cases u6;exact key false rfl h
    ·cases h
   | global g=>cases h
   | func f=>cases h
  case block id b =>
   simp only [exec] at h
   refine wpIn_block ?_
   split at h
   ·rename_i id' r h1
    obtain ⟨e1,lg1⟩:=r
    simp only [Option.some.injEq,Prod.mk.injEq] at h
    obtain ⟨rfl,rfl,rfl⟩:=h
    refine wpIn_mono (yA (one hr) hc hD yK hf h1) fun ex a' w' ⟨hx,yk⟩=>?_
    subst hx
    simp only [X.exit,Exit.inBlock]
    split
    ·exact ⟨rfl,yk⟩
    ·exact ⟨rfl,yk⟩
   ·rename_i hI
    refine wpIn_mono (yA (one hr) hc hD yK hf h) fun ex a' w' ⟨hx,yk⟩=>?_
    subst hx
    cases x with
    | norm=>exact ⟨rfl,yk⟩
    | ex id=>exact absurd h (hI _ _)
    | ret=>exact ⟨rfl,yk⟩
  case loop b =>
   have key:∀ (m':Nat),m'≤m+1→∀ {e:Env} {a:Act} {w:World} {lg:Option Log},G a w e lg→exec P H orc yo al nt hh m' (.loop b) e lg=some (x,e',lg') →
     Code.roundsIn (FF ro) n P b (fun ex a' w'=>ex=x.exit∧G a' w' e' lg') m' a w:=by
    intro m'
    induction m' with
    | zero=>intro _ e a w _ _ h;cases h
    | succ m' ih =>
     intro yN e a w lg hf h
     simp only [exec] at h
     show b.wpIn (FF ro) n P (Exit.then (Code.roundsIn (FF ro) n P b _ m') _) a w
     have qd:∀ {e1:Env} {y:X} {e2:Env} {a w} {l1 l2:Option Log},Fin l2→G a w e1 l1→exec P H orc yo al nt hh m' b e1 l1=some (y,e2,l2)→b.wpIn (FF ro) n P (fun ex a' w'=>ex=y.exit∧G a' w' e2 l2) a w:=by
      intro e1 y e2 a w l1 l2 hn hf h
      exact zHC F zE1 m' b (hr.imp_right fun h=>h.less (by omega)) hc hD hn hf h
     split at h
     ·rename_i e1 lg1 h1
      exact wpIn_mono (qd (zKS F _ _ h yK) (F.drop _ hf) h1) fun ex a' w' ⟨hx,yk⟩=>by subst hx;exact ih (by omega) yk h
     ·rename_i hI
      refine wpIn_mono (qd yK (F.drop _ hf) h) fun ex a' w' ⟨hx,yk⟩=>?_
      subst hx
      cases x with
      | norm=>exact absurd h (hI _ _)
      | ex id=>exact ⟨rfl,yk⟩
      | ret=>exact ⟨rfl,yk⟩
   exact wpIn_loop_rounds (m+1) (key (m+1) (Nat.le_refl _) hf h)
  case exit id =>
   simp only [exec,Option.some.injEq,Prod.mk.injEq] at h
   obtain ⟨rfl,rfl,rfl⟩:=h
   exact wpIn_exit ⟨rfl,F.ice _ hf⟩
  case ret =>
   simp only [exec,Option.some.injEq,Prod.mk.injEq] at h
   obtain ⟨rfl,rfl,rfl⟩:=h
   exact wpIn_ret ⟨rfl,hf⟩
  case label l =>
   simp only [exec,Option.some.injEq,Prod.mk.injEq] at h
   obtain ⟨rfl,rfl,rfl⟩:=h
   exact wpIn_label ⟨rfl,hf⟩
  case scope b =>
   simp only [exec] at h
   exact zPR (fun l a w hx=>by cases x<;>cases hx.1) (yA (one hr) hc hD yK hf h)
  case rangeFunc f ps ca cb =>
   cases f with
   | tmp t =>
    have h0:=h
    simp only [exec] at h
    cases lg with
    | none =>
     simp only at h
     obtain ⟨r,_,h2⟩:=Option.map_eq_some_iff.1 h
     cases h2
     rcases hr with hr | hr
     ·cases hr
     exact hr m (by omega) t ps ca cb a w e _ _ (by simp only [zCC,Bool.and_eq_true];exact hc) hf h0
    | some l=>cases h
   | const v=>simp only [exec] at h;cases h
   | global g=>simp only [exec] at h;cases h
   | func f=>simp only [exec] at h;cases h
end
end Go.Eng
namespace Go.Eng
open Go
structure Rel (w0:World) (U Φ0:Nat→Prop) (w1:World) (U1 Φ1:Nat→Prop):Prop where
 size:w0.heap.size≤w1.heap.size
 kept:∀ b,b<w0.heap.size→¬ U b→w1.heap[b]? = w0.heap[b]?
 own:∀ b,U1 b→U b∨w0.heap.size≤b
 frz:∀ b,Φ1 b→Φ0 b∨U b∨w0.heap.size≤b
 frz0:∀ b,Φ0 b→Φ1 b
 os:w1.os=w0.os
 tape:w1.tape=w0.tape
 output:w1.output=w0.output
section
variable {w0 w w' w1 w2:World} {U Φ0 Φ U1 Φ1 U2 Φ2:Nat→Prop} {nt:Nat} {hv:Hid} {a:Act} {e e':Env} {rv:Nat→Value} {E:Nat→PV} {L:Nat→List Nat}
theorem Rel.refl:Rel w U Φ w U Φ:=⟨Nat.le_refl _,fun _ _ _=>rfl,fun _ h => .inl h,fun _ h => .inl h,fun _ h=>h,rfl,rfl,rfl⟩
theorem Rel.trans (h:Rel w0 U Φ0 w1 U1 Φ1) (k:Rel w1 U1 Φ1 w2 U2 Φ2):Rel w0 U Φ0 w2 U2 Φ2:=by
 have hU:∀ b,b<w0.heap.size→¬ U b→¬ U1 b:=fun b hb hu h1=>by rcases h.own b h1 with h2 | h2<;>first | exact hu h2 | omega
 refine ⟨Nat.le_trans h.size k.size,fun b hb hu=>(k.kept b (Nat.lt_of_lt_of_le hb h.size) (hU b hb hu)).trans (h.kept b hb hu),fun b hb=>?_,fun b hb=>?_,fun b hb=>k.frz0 b (h.frz0 b hb),k.os.trans h.os,k.tape.trans h.tape,k.output.trans h.output⟩
 ·rcases k.own b hb with h1 | h1
  ·exact h.own b h1
  ·exact .inr (Nat.le_trans h.size h1)
 ·rcases k.frz b hb with h1 | h1 | h1
  ·exact h.frz b h1
  ·rcases h.own b h1 with h2 | h2
   ·exact .inr (.inl h2)
   ·exact .inr (.inr h2)
  ·exact .inr (.inr (Nat.le_trans h.size h1))
theorem Conf.rel (C:Conf w0 U Φ0 w Φ rv E L):Rel w0 U Φ0 w (fun b=>∃ s,b∈L s) Φ :=
 ⟨C.size,C.kept,fun b ⟨s,hs⟩=>(C.own s b hs).2.2,fun b hb=>(C.frz b hb).2,C.frz0,C.os,C.tape,C.output⟩
theorem Conf.rebase (h:Rel w0 U Φ0 w1 U1 Φ1) (C:Conf w1 U1 Φ1 w Φ rv E L):Conf w0 U Φ0 w Φ rv E L:=by
 have r:=h.trans C.rel
 exact ⟨C.rep,C.nodup,C.disj,fun s b hb=>⟨(C.own s b hb).1,(C.own s b hb).2.1,r.own b ⟨s,hb⟩⟩,fun b hb=>⟨(C.frz b hb).1,r.frz b hb⟩,r.frz0,r.size,r.kept,r.os,r.tape,r.output⟩
theorem Conf.fresh (C:Conf w0 U Φ0 w Φ rv E L):Conf w (fun b=>∃ s,b∈L s) Φ w Φ rv E L :=
 ⟨C.rep,C.nodup,C.disj,fun s b hb=>⟨(C.own s b hb).1,(C.own s b hb).2.1,.inl ⟨s,hb⟩⟩,fun b hb=>⟨(C.frz b hb).1,.inl hb⟩,fun _ h=>h,Nat.le_refl _,fun _ _ _=>rfl,rfl,rfl,rfl⟩
theorem Conf.moved (C:Conf w0 U Φ0 w Φ rv E L) (hs:w.heap.size≤w'.heap.size) (hL:∀ s,∀ b∈L s,w'.heap[b]? = w.heap[b]?) (hΦ:∀ b,Φ b→w'.heap[b]? = w.heap[b]?) (hk:∀ b,b<w0.heap.size→¬ U b→w'.heap[b]? = w.heap[b]?)
  (ho:w'.os=w.os∧w'.tape=w.tape∧w'.output=w.output):Conf w0 U Φ0 w' Φ rv E L:=by
 refine ⟨fun s=>?_,C.nodup,C.disj,fun s b hb=>⟨Nat.lt_of_lt_of_le (C.own s b hb).1 hs,(C.own s b hb).2⟩,fun b hb=>⟨Nat.lt_of_lt_of_le (C.frz b hb).1 hs,(C.frz b hb).2⟩,C.frz0,Nat.le_trans C.size hs,fun b hb hu=>(hk b hb hu).trans (C.kept b hb hu),
  ho.1.trans C.os,ho.2.1.trans C.tape,ho.2.2.trans C.output⟩
 have:=Rep.map (f:=fun p=>p) (w':=w') (Φ':=Φ) (A':=zA2 w' rv E) (fun _=>rfl) (fun b hb=>⟨hb,hΦ b hb⟩) (fun b v hw ha=>zCW hw (zCF C zCg ha (zBe _).symm rfl (hL _))) (E s) (rv s) (L s) (hL s) (C.rep s)
 rwa [zBe] at this
theorem Conf.arrive (C:Conf w0 U Φ0 w Φ rv E L) (hs:w.heap.size≤w'.heap.size) (hL:∀ s,∀ b∈L s,w'.heap[b]? = w.heap[b]?) (hΦ:∀ b,Φ b→w'.heap[b]? = w.heap[b]?):Conf w' (fun b=>∃ s,b∈L s) Φ w' Φ rv E L:=by
 refine ⟨fun s=>?_,C.nodup,C.disj,fun s b hb=>⟨Nat.lt_of_lt_of_le (C.own s b hb).1 hs,(C.own s b hb).2.1,.inl ⟨s,hb⟩⟩,fun b hb=>⟨Nat.lt_of_lt_of_le (C.frz b hb).1 hs,.inl hb⟩,fun _ h=>h,Nat.le_refl _,fun _ _ _=>rfl,rfl,rfl,rfl⟩
 have:=Rep.map (f:=fun p=>p) (w':=w') (Φ':=Φ) (A':=zA2 w' rv E) (fun _=>rfl) (fun b hb=>⟨hb,hΦ b hb⟩) (fun b v hw ha=>zCW hw (zCF C zCg ha (zBe _).symm rfl (hL _))) (E s) (rv s) (L s) (hL s) (C.rep s)
 rwa [zBe] at this
theorem St.with (S:St w0 U Φ0 nt hv a w e Φ rv E L) (C:Conf w1 U1 Φ1 w' Φ2 rv E L):St w1 U1 Φ1 nt hv a w' e Φ2 rv E L :=
 ⟨C,S.env,S.size,S.small,S.tmps,S.parts,S.hid,S.dfr⟩
def zKt:PV→Value
 | .int k n => .int k n
 | .bool b => .bool b
 | _=>undef
def zCH:PV→Value
 | .agg cs => .agg (cs.map zKt).toArray
 | p=>zKt p
theorem zVA {A:Al} {p:PV} {v:Value} {Lp:List Nat} (h:Rep w Φ A p v Lp) (hn:p.num=true):v=zKt p:=by
 cases p<;>first | (cases hn;done) | exact h.1
theorem zOa {A:Al}:∀ {ps:List PV} {vs:List Value} {Lp:List Nat},zAX w Φ A ps vs Lp→ps.all PV.num=true→vs=ps.map zKt
 | [],vs,_,h,_=>h.1
 | p::ps,vs,_,⟨v,vs',L1,L2,h1,_,h3,h4⟩,hn=>by
  simp only [List.all_cons,Bool.and_eq_true] at hn
  rw [h1,zVA h3 hn.1,zOa h4 hn.2];rfl
theorem zS5 {A:Al} {p:PV} {v:Value} {Lp:List Nat} (h:Rep w Φ A p v Lp) (hn:p.flat=true):v=zCH p:=by
 cases p<;>first | (cases hn;done) | exact h.1 | skip
 obtain ⟨vs,rfl,h2⟩:=h
 have:=zOa h2 hn
 simp only [zCH,← this]
theorem zTb (S:St w0 U Φ0 nt hv a w e Φ rv E L) {x:Operand} (hx:zAO nt x=true):Rep w Φ (zA2 w rv E) (zPW e x) (a.eval x) []:=by
 cases x with
 | tmp t =>
  have ht:t<nt:=zB1 hx
  have hg:t<zAb:=Nat.lt_of_lt_of_le ht (Nat.le_trans S.small (by decide))
  have:=S.conf.view hg
  rw [S.env t hg,← S.tmps t ht] at this
  exact this
 | const v=>exact zIF v
 | global g=>exact (rfl:([]:List Nat)=[])
 | func f=>exact (rfl:([]:List Nat)=[])
theorem zTO {ops:Array Oper} {P:Program} (yv:zN5 P nt ops=true) (S:St w0 U Φ0 nt hv a w e Φ rv E L) {o:Oper} {b:Bool} (h:zLn ops e o=some b):Region.wanted o (yielded ops a.tmps)=b:=by
 have yY:∀ (j:Nat) (x:Oper),ops[j]? = some x→zSv P nt x=true:=fun j x hx=>List.all_eq_true.1 yv x (by
  rw [← Array.getElem?_toList] at hx;exact List.mem_of_getElem? hx)
 simp only [zLn] at h
 cases hg:o.guard with
 | none=>rw [hg] at h;simp only [Option.some.injEq] at h;subst h;simp [Region.wanted,hg]
 | some x =>
  obtain ⟨j,want⟩:=x
  rw [hg] at h
  simp only at h
  cases hj:(ops[j]?).bind (·.dst) with
  | none=>rw [hj] at h;cases h
  | some t =>
   rw [hj] at h
   simp only at h
   have uK:t<nt:=by
    cases gU:ops[j]? with
    | none=>rw [gU] at hj;cases hj
    | some oj=>rw [gU] at hj;exact zIv (yY j oj gU) t hj
   have yf:t<zAb:=Nat.lt_of_lt_of_le uK (Nat.le_trans S.small (by decide))
   have hX:=S.conf.rep t
   rw [S.env t yf] at hX
   have htm:a.tmps[t]? = some (rv t):=by
    have h1:=S.tmps t uK
    have h2:t<a.tmps.size:=by rw [S.size];exact uK
    rw [Array.getElem?_eq_getElem h2]
    simp only [Array.getD,h2,dite_true] at h1
    rw [← h1];rfl
   have jz:yielded ops a.tmps j=match rv t with | .bool b=>some b | _=>none:=by
    simp only [yielded,hj,Option.bind_some,htm]
    cases rv t<;>rfl
   revert h
   cases hp:e.get t<;>intro h<;>try (cases h;done)
   case bool c =>
    simp only [Option.some.injEq] at h
    have yE:rv t = .bool c:=by rw [hp] at hX;exact hX.1
    rw [yE] at jz
    simp only at jz
    rw [← h]
    simp only [Region.wanted,hg,jz]
    rfl
   case und =>
    simp only [Option.some.injEq] at h
    have yE:rv t=undef:=by rw [hp] at hX;exact hX.1
    rw [yE] at jz
    rw [← h]
    simp only [Region.wanted,hg,jz]
    rfl
end
theorem zMT {P:Program} {w:World} {fn:Func} {a:Act} (h:fn.results.isEmpty=true):(results fn a.tmps).run P w = .ok (.tuple #[]) w:=by
 have h0:fn.results=#[]:=by simpa using h
 simp only [results,h0]
 simp [Sem.run_bind,Sem.run_pure]
structure Apart (w w':World) (B Ψ:Nat→Prop):Prop where
 size:w.heap.size≤w'.heap.size
 os:w'.os=w.os
 tape:w'.tape=w.tape
 output:w'.output=w.output
 kept:∀ b,b<w.heap.size→¬ B b→w'.heap[b]? = w.heap[b]?
 seen:∀ b,Ψ b→w'.heap[b]? = w.heap[b]?
structure Client (P:Program) (l:Nat) (plan:List (List PV)) (k0:Int) (Ψ:Nat→Prop) (J:List (List PV)→World→(Nat→Prop)→Prop) (Jx:World→Prop):Prop where
 abide:∀ {xs:List (List PV)} {w w':World} {B:Nat→Prop},J xs w B→w.heap.size≤w'.heap.size→(∀ b,B b→w'.heap[b]? = w.heap[b]?)→w'.os=w.os∧w'.tape=w.tape∧w'.output=w.output→J xs w' B
 small:∀ {xs:List (List PV)} {w:World} {B:Nat→Prop},J xs w B→∀ b,B b→b<w.heap.size
 round:∀ {xs:List (List PV)} {x:List PV} {w:World} {B:Nat→Prop},J xs w B→xs++[x] <+: plan→k0-xs.length≠1→x.all PV.flat=true→YieldAt (FF none) 0 P l (x.map zCH).toArray w fun en w'=>en = .returned (.bool true)∧Apart w w' B Ψ ∧
  ∃ B',J (xs++[x]) w' B'∧∀ b,B' b→B b∨w.heap.size≤b
 last:∀ {xs:List (List PV)} {x:List PV} {w:World} {B:Nat→Prop},J xs w B→xs++[x] <+: plan→k0-xs.length=1→x.all PV.flat=true→YieldAt (FF none) 0 P l (x.map zCH).toArray w fun en w'=>en = .returned (.bool false)∧Jx w'
 abideX:∀ {w w':World},Jx w→w.heap.size≤w'.heap.size→(∀ b,b<w.heap.size→w'.heap[b]? = w.heap[b]?)→w'.os=w.os∧w'.tape=w.tape∧w'.output=w.output→Jx w'
section
variable {P:Program} {H:zBb} {orc:zAD} {yo:zCL} {al:All} {nt:Nat} {val:Nat→Value} {l:Nat} {plan:List (List PV)} {k0:Int} {Ψ:Nat→Prop} {J:List (List PV)→World→(Nat→Prop)→Prop} {Jx:World→Prop}
def GJ (nt:Nat) (val:Nat→Value) (l:Nat) (k0:Int) (Ψ:Nat→Prop) (J:List (List PV)→World→(Nat→Prop)→Prop) (Jx:World→Prop) (a:Act) (w:World) (e:Env) (lg:Option Log):Prop :=
 ∃ g,lg=some g∧g.at_=l∧g.k=k0-g.xs.length∧∃ w1 U1 Φ1,Fr w1 U1 Φ1 nt ⟨val,[]⟩ a w e ∧
  ((g.k≠0∧∃ B,J g.xs w1 B∧(∀ b,B b→¬ U1 b)∧∀ b,Φ1 b→Ψ b∨¬ B b)∨(g.k=0∧Jx w1∧∀ b,¬ U1 b))
def zZf (plan:List (List PV)) (lg:Option Log):Prop:=∃ g,lg=some g∧g.xs <+: plan
theorem zHD {fz tk nl:Bool} {ops:Array Oper} {o:Oper} {e e':Env} {g:Log} {lg':Option Log} (h:zCK P H orc fz tk nl ops o e (some g)=some (e',lg')):∃ g',lg'=some g'∧g.xs <+: g'.xs:=by
 have mp:∀ {x:Option Env} {q:Log},x.map (fun e'=>(e',some q))=some (e',lg')→lg'=some q:=by
  intro x q h
  obtain ⟨y,_,h2⟩:=Option.map_eq_some_iff.1 h
  cases h2;rfl
 simp only [zCK] at h
 split at h
 ·simp only [zBQ] at h
  split at h
  ·rcases zBg h with ⟨_,h⟩ | ⟨_,h⟩
   ·exact ⟨_,mp h,List.prefix_append _ _⟩
   ·cases h
  ·exact ⟨_,mp h,List.prefix_refl _⟩
  ·cases h
 ·exact ⟨_,mp h,List.prefix_refl _⟩
theorem zWE (jE : zGb P orc) (hnm:zEJ P) (hC:Client P l plan k0 Ψ J Jx):Frame P H orc nt none 0 (fun _=>True) (zZf plan) (GJ nt val l k0 Ψ J Jx):=by
 refine ⟨?_,?_,?_,?_,?_,?_,?_⟩
 ·intro ops o fz tk nl e e' lg lg' h hf
  obtain ⟨g',rfl,hp⟩:=hf
  cases lg with
  | none=>simp only [zCK] at h;obtain ⟨y,_,h2⟩:=Option.map_eq_some_iff.1 h;cases h2
  | some g =>
   obtain ⟨g2,h2,h3⟩:=zHD h
   cases h2
   exact ⟨g,rfl,h3.trans hp⟩
 ·intro ops i o fz tk nl a w e e' lg lg' Q yv hi _ yK hG h
  obtain ⟨g,rfl,kD,hk,w1,U1,Φ1,hf,ji⟩:=hG
  have yY:zSv P nt o=true:=List.all_eq_true.1 yv o (by
   rw [← Array.getElem?_toList] at hi;exact List.mem_of_getElem? hi)
  simp only [zCK] at h
  cases hy:zB9 e o with
  | none =>
   rw [hy] at h;simp only at h
   obtain ⟨e1,h1,h2⟩:=Option.map_eq_some_iff.1 h
   cases h2
   exact zDK (zLg jE hnm yv hf hi h1) fun a' w' yk=>⟨g,rfl,kD,hk,w1,U1,Φ1,yk,ji⟩
  | some yL =>
   obtain ⟨h0,args⟩:=yL
   rw [hy] at h;simp only at h
   obtain ⟨Φ,rv,E,L,S,hb⟩:=hf
   have ju:=zIv yY
   simp only [zB9] at hy
   split at hy
   ·rename_i c hc
    split at hy
    ·rename_i tc yu
     split at hy
     ·rename_i h0' jz
      simp only [Option.some.injEq,Prod.mk.injEq] at hy
      obtain ⟨rfl,rfl⟩:=hy
      have yI:zAO nt (.tmp tc)=true∧∀ x∈c.args.toList,zAO nt x=true:=by
       have h1:=yY
       simp only [zSv,hc,Bool.and_eq_true,yu] at h1
       obtain ⟨_,h2,h3⟩:=h1
       exact ⟨by simpa using h3,List.all_eq_true.1 (by simpa using h2)⟩
      have htc:tc<nt:=zB1 yI.1
      have yf:tc<zAb:=Nat.lt_of_lt_of_le htc (Nat.le_trans S.small (by decide))
      have hcv:a.eval (.tmp tc) = .func (.yield h0') #[] #[]:=by
       have:=S.conf.rep tc
       rw [S.env tc yf,jz] at this
       show a.tmps.getD tc undef=_
       rw [S.tmps tc htc];exact this.2
      simp only [zBQ] at h
      cases hw:zLn ops e o with
      | none=>rw [hw] at h;cases h
      | some b =>
       have hwant:=zTO yv S hw
       simp only [wpOpIn,hi,hwant]
       cases b with
       | false =>
        rw [hw] at h;simp only at h
        obtain ⟨e1,h1,h2⟩:=Option.map_eq_some_iff.1 h
        cases h2
        exact ⟨fun _ _=>trivial,g,rfl,kD,hk,w1,U1,Φ1,zAu S hb ju h1 (p := .und) ⟨rfl,rfl⟩,ji⟩
       | true =>
        rw [hw] at h;simp only at h
        rcases zBg h with ⟨jY,h⟩ | ⟨_,h⟩
        ·simp only [Bool.and_eq_true] at jY
         obtain ⟨⟨jj,hkn⟩,vM⟩:=jY
         have vM:=Nat.eq_of_beq_eq_true vM
         rw [kD] at vM;subst vM
         have hkn:g.k≠0:=by simpa using hkn
         obtain ⟨e1,h1,h2⟩:=Option.map_eq_some_iff.1 h
         cases h2
         rcases ji with ⟨_,B,hJ,hBU,hBΦ⟩ | ⟨h0,_⟩
         ·
          have hvals:c.args.map a.eval=((c.args.toList.map (zPW e)).map zCH).toArray:=by
           have key:∀ l:List Operand,(∀ x∈l,zAO nt x=true)→(l.map (zPW e)).all PV.flat=true→l.map a.eval=(l.map (zPW e)).map zCH:=by
            intro l
            induction l with
            | nil=>intro _ _;rfl
            | cons x l ih =>
             intro h1 h2
             simp only [List.map_cons,List.all_cons,Bool.and_eq_true] at h2
             simp only [List.map_cons]
             rw [zS5 (zTb S (h1 x (by simp))) h2.1,ih (fun y hy=>h1 y (by simp [hy])) h2.2]
           have:=key c.args.toList yI.2 jj
           rw [← this]
           apply Array.toList_inj.1
           simp
          have hJw:J g.xs w B:=by
           refine hC.abide hJ S.conf.size (fun b hb=>S.conf.kept b (hC.small hJ b hb) (hBU b hb)) ⟨S.conf.os,S.conf.tape,S.conf.output⟩
          have hLB:∀ s,∀ b∈L s,¬ B b:=by
           intro s b jJ w7
           rcases (S.conf.own s b jJ).2.2 with h3 | h3
           ·exact hBU b w7 h3
           ·have:=hC.small hJ b w7;omega
          have hΦB:∀ b,Φ b→Ψ b∨¬ B b:=by
           intro b hbΦ
           rcases (S.conf.frz b hbΦ).2 with h3 | h3 | h3
           ·exact hBΦ b h3
           ·exact .inr fun w7=>hBU b w7 h3
           ·exact .inr fun w7=>by have:=hC.small hJ b w7;omega
          have qe:g.xs++[c.args.toList.map (zPW e)] <+: plan:=by
           obtain ⟨g2,qJ,hp⟩:=yK
           cases qJ;exact hp
          have hexec:(execOp a.eval o).run P w=(Instr.yield h0' (c.args.map a.eval)).run P w:=by
           simp only [execOp,hc,Go.resolve,yu,hcv,Deferred.ofValue,Sem.run_bind,Sem.run_pure,Result.andThen_ok,invoke]
           simp
          have kR:∀ {R:Ending→World→Prop},YieldAt (FF none) 0 P h0' ((c.args.toList.map (zPW e)).map zCH).toArray w R→(∀ en w',R en w'→∃ v,en = .returned v∧GJ nt val h0' k0 Ψ J Jx (a.put o.dst v) w' e' (some ⟨g.xs++[c.args.toList.map (zPW e)],g.k-1,g.at_⟩)) →
            o.wpIn (FF none) 0 P a w (fun a' w'=>GJ nt val h0' k0 Ψ J Jx a' w' e' (some ⟨g.xs++[c.args.toList.map (zPW e)],g.k-1,g.at_⟩)) Q:=by
           intro R ⟨fn,tmps,ca,cb,yA,yR⟩ hR
           refine ⟨fun _ _=>trivial,?_⟩
           rw [Oper.semAt_eq (FF none).round a.eval o (fun c' hc'=>by rw [hc] at hc';cases hc'),hexec,hvals,yA]
           refine ⟨fun h=>(by cases h),yR.mono fun en w' ut=>?_⟩
           obtain ⟨v,rfl,hv⟩:=hR en w' ut
           exact hv
          have hZ:g.k-1=k0-((g.xs++[c.args.toList.map (zPW e)]).length:Int):=by rw [hk];simp;omega
          rcases zBg h1 with ⟨jP,h1⟩ | ⟨jP,h1⟩
          ·
           have jP:g.k=1:=by simpa using jP
           refine kR (hC.last hJw qe (by rw [← hk];exact jP) jj) fun en w' ⟨ut,hx⟩=>⟨_,ut,?_⟩
           refine ⟨_,rfl,kD,hZ,w',fun _=>False,fun _=>False,?_,.inr ⟨by rw [jP];rfl,hx,fun _ h=>h⟩⟩
           have C':Conf w' (fun _=>False) (fun _=>False) w' (fun _=>False) rv (fun s=>if (E s).num then E s else .bad) (fun _=>[]):=by
            refine ⟨fun s=>?_,fun _=>List.nodup_nil,fun _ _ _ b hb=>(by cases hb),fun s b hb=>(by cases hb),fun b hb=>hb.elim,fun b hb=>hb,Nat.le_refl _,fun _ _ _=>rfl,rfl,rfl,rfl⟩
            have:=S.conf.rep s
            split
            ·rename_i hn
             revert this hn
             cases E s<;>intro this hn<;>first | (cases hn;done) | exact ⟨this.1,rfl⟩
            ·rfl
           have S':St w' (fun _=>False) (fun _=>False) nt ⟨val,[]⟩ a w' (e.forget zAb) (fun _=>False) rv (fun s=>if (E s).num then E s else .bad) (fun _=>[]):=by
            refine ⟨C',fun s hs=>?_,S.size,S.small,S.tmps,fun d ps j hd hp hj=>?_,S.hid,S.dfr⟩
            ·rw [zEH,S.env s hs]
             have:s≠zAb:=by omega
             simp [this]
            ·split at hp
             ·rename_i hn;rw [hp] at hn;cases hn
             ·cases hp
           exact zAu S' (fun s hs=>by show (if (E s).num then E s else PV.bad) = .bad;rw [hb s hs];rfl) ju h1 (p := .bool false) ⟨rfl,rfl⟩
          ·
           have jP:g.k≠1:=by simpa using jP
           refine kR (hC.round hJw qe (by rw [← hk];exact jP) jj) fun en w' ⟨ut,hap,B',hJ',hB'⟩=>⟨_,ut,?_⟩
           have gu:∀ s,∀ b∈L s,w'.heap[b]? = w.heap[b]?:=fun s b hb=>hap.kept b (S.conf.own s b hb).1 (hLB s b hb)
           have hΦk:∀ b,Φ b→w'.heap[b]? = w.heap[b]?:=fun b hb=>(hΦB b hb).elim (fun h=>hap.seen b h) (fun h=>hap.kept b (S.conf.frz b hb).1 h)
           have C1:=S.conf.arrive (w':=w') hap.size gu hΦk
           have S':=S.with C1
           refine ⟨_,rfl,kD,hZ,w',_,_,zAu S' hb ju h1 (p := .bool true) ⟨rfl,rfl⟩,.inl ⟨by simp only;omega,B',hJ',fun b w7 ⟨s,jJ⟩=>?_,fun b hbΦ=>?_⟩⟩
           ·rcases hB' b w7 with h3 | h3
            ·exact hLB s b jJ h3
            ·have:=(S.conf.own s b jJ).1;omega
           ·rcases hΦB b hbΦ with h3 | h3
            ·exact .inl h3
            ·refine .inr fun w7=>?_
             rcases hB' b w7 with h4 | h4
             ·exact h3 h4
             ·have:=(S.conf.frz b hbΦ).1;omega
         ·exact absurd h0 hkn
        ·cases h
     ·cases hy
    ·cases hy
   ·cases hy
 ·intro a w e e' lg ⟨g,h1,h2,h3,w1,U1,Φ1,hf,hc⟩ hg
  exact ⟨g,h1,h2,h3,w1,U1,Φ1,hf.get' hg,hc⟩
 ·intro a w e lg d ⟨g,h1,h2,h3,w1,U1,Φ1,hf,hc⟩
  exact ⟨g,h1,h2,h3,w1,U1,Φ1,hf.tick d,hc⟩
 ·intro a w e lg l ⟨g,h1,h2,h3,w1,U1,Φ1,hf,hc⟩
  exact ⟨g,h1,h2,h3,w1,U1,Φ1,hf.drop l,hc⟩
 ·intro a w e lg l ⟨g,h1,h2,h3,w1,U1,Φ1,hf,hc⟩
  exact ⟨g,h1,h2,h3,w1,U1,Φ1,hf.ice,hc⟩
 ·intro a w e lg t b ⟨g,h1,h2,h3,w1,U1,Φ1,⟨Φ,rv,E,L,S,hb⟩,hc⟩ ht he
  have yf:t<zAb:=Nat.lt_of_lt_of_le ht (Nat.le_trans S.small (by decide))
  have:=S.conf.rep t
  rw [S.env t yf,he] at this
  rw [S.tmps t ht];exact this.1
theorem zVc (zE1:P.follows .mixedOrders=true) (jE:zGb P orc) (hnm:zEJ P) (hC:Client P l plan k0 Ψ J Jx) {m:Nat} {f:FuncId} {fn:Func} {body:Code} {args:List PV} (hf:P.funcs[f]? = some fn) (yT:fn.body=some body) (jH:zCC P fn.ntmps body=true)
  (u3:fn.ntmps≤2000000) (yL:args.length≤fn.ntmps) (u7:args.all (fun p => !p.isTup)=true) (y9:fn.results.isEmpty=true) {x:X} {e1:Env} {g:Log}
  (hx:exec P H orc yo al fn.ntmps (H f) m body (zA5 args []) (some ⟨[],k0,l⟩)=some (x,e1,some g)) (gY:x = .norm∨x = .ret) (hg:g.xs=plan) (hk:k0≠0)
  {w:World} {Φ:Nat→Prop} {rv:Nat→Value} {E:Nat→PV} {L:Nat→List Nat} {vs:Array Value} (hE:∀ s,s<zAb→E s=(zA5 args []).get s) (kO:∀ s,zAb≤s→E s = .bad) (C:Conf w (fun b=>∃ s,b∈L s) Φ w Φ rv E L)
  (yF:vs.size=args.length) (yg:∀ i,i<args.length→vs[i]? = some (rv i)) (j0:∀ s,args.length≤s→s<zAm→rv s=undef) {B:Nat→Prop} (hJ:J [] w B) (hBL:∀ b,B b→∀ s,b∉L s) (hBΦ:∀ b,Φ b→Ψ b∨¬ B b) :
  CallsIn (FF none) 0 P f vs w fun en w'=>(∃ v,en = .returned v)∧((k0-plan.length≠0∧∃ B',J plan w' B')∨(k0-plan.length=0∧Jx w')):=by
 have ho:zAv=60000000:=rfl
 have hh:zAm=50000000:=rfl
 have w5:zAb=1000000000:=rfl
 refine callsIn_of_wp hf yT trivial ?_
 have S:St w (fun b=>∃ s,b∈L s) Φ fn.ntmps ⟨rv,[]⟩ {tmps:=vs++Array.replicate (fn.ntmps-vs.size) undef,defers:=[]} w (zA5 args []) Φ rv E L:=by
  refine ⟨C,hE,by simp;omega,u3,fun t ht=>?_,fun d ps i hd hp hi=>?_,fun _ _ _=>rfl,rfl⟩
  ·simp only [Array.getD_eq_getD_getElem?,Array.getElem?_append]
   by_cases h1:t<vs.size
   ·rw [if_pos h1,yg t (by omega)];rfl
   ·rw [if_neg h1,Array.getElem?_replicate,if_pos (by omega),j0 t (by omega) (by omega)];rfl
  ·rw [hE d (by omega),zDg (by omega)] at hp
   split at hp
   ·rename_i v8
    have:(args.getD d .bad)∈args:=by
     simp only [List.getD,List.getElem?_eq_getElem v8,Option.getD_some];exact List.getElem_mem v8
    have:=List.all_eq_true.1 u7 _ this
    rw [hp] at this;cases this
   ·split at hp
    ·rename_i h2;simp at h2;omega
    ·cases hp
 have yK:zZf plan (some g):=⟨g,rfl,by rw [hg];exact List.prefix_refl _⟩
 have hw:=zHC (zWE (val:=rv) jE hnm hC) zE1 m body (.inr fun m' _ t ps ca cb a w e x e' _ hG _=>by obtain ⟨g,h,_⟩:=hG;cases h) jH (fun _ _=>trivial) yK
  (⟨_,rfl,rfl,by simp,w,_,_,⟨Φ,rv,E,L,S,kO⟩,.inl ⟨hk,B,hJ,fun b hb ⟨s,hs⟩=>hBL b hb s hs,hBΦ⟩⟩:GJ fn.ntmps rv l k0 Ψ J Jx _ w (zA5 args []) (some ⟨[],k0,l⟩)) hx
 refine wpIn_mono hw fun ex a' w' ⟨gZ,g',hg',_,vY,w1,U1,Φ1,vR,ji⟩=>?_
 cases hg'
 rw [hg] at vY;rw [vY] at ji
 obtain ⟨Φ2,rv2,E2,L2,S2,jX⟩:=vR
 have yA:=zMT (P:=P) (w:=w') (fn:=fn) (a:=a') y9
 have wD:bodyPost P fn (fun en w'=>(∃ v,en = .returned v)∧((k0-plan.length≠0∧∃ B',J plan w' B')∨(k0-plan.length=0∧Jx w'))) .normal a' w':=by
  refine ⟨S2.dfr,_,yA,⟨_,rfl⟩,?_⟩
  rcases ji with ⟨h1,B1,hJ1,hBU,_⟩ | ⟨h1,j7,hU⟩
  ·rw [hg] at hJ1
   exact .inl ⟨h1,B1,hC.abide hJ1 S2.conf.size (fun b hb=>S2.conf.kept b (hC.small hJ1 b hb) (hBU b hb)) ⟨S2.conf.os,S2.conf.tape,S2.conf.output⟩⟩
  ·exact .inr ⟨h1,hC.abideX j7 S2.conf.size (fun b hb=>S2.conf.kept b hb (hU b)) ⟨S2.conf.os,S2.conf.tape,S2.conf.output⟩⟩
 subst gZ
 rcases gY with rfl | rfl<;>exact wD
end
end Go.Eng
namespace Go.Eng
open Go
section
variable {w0 w w' w1 w2:World} {U Φ0 Φ U1 Φ1 U2 Φ2:Nat→Prop} {nt:Nat} {hv:Hid} {a:Act} {e e':Env} {rv rv':Nat→Value} {E E':Nat→PV} {L L':Nat→List Nat}
theorem zOl {f:Nat→PV→PV}:∀ (e:Env) (s:Nat),f s .bad = .bad→Env.get (e.map fun x=>(x.1,f x.1 x.2)) s=f s (e.get s)
 | [],s,h=>h.symm
 | (k,v)::e,s,h=>by
  simp only [List.map_cons,Env.get]
  cases hb:Nat.beq k s with
  | true=>rw [Nat.eq_of_beq_eq_true hb];rfl
  | false=>exact zOl e s h
def zDa (nt:Nat) (R ds:List Nat) (e:Env) (s:Nat) (p:PV):PV :=
 bif R.contains s || !p.heavy&&p.ways.all (fun w=>R.contains w.1) then p else bif !(Nat.blt s nt && !ds.contains s||Nat.ble zAm s&&Nat.blt s zAv) then .bad else bif (R.isEmpty||(e.get s).free) && !(e.get s).isTup then e.get s else .bad
theorem zSh (nt:Nat) (R ds:List Nat) (e0 e:Env) (s:Nat):(after nt R ds e0 e).get s=zDa nt R ds e s (e0.get s) :=
 zOl (f:=fun s p=>zDa nt R ds e s p) e0 s (by simp [zDa,PV.heavy,PV.ways])
theorem zLv (nt:Nat) (R ds:List Nat) (e:Env) (s:Nat) (p:PV) :
  (zDa nt R ds e s p=p∧s∈R)∨(zDa nt R ds e s p=p∧p.heavy=false∧∀ x∈p.ways,x.1∈R)∨zDa nt R ds e s p = .bad ∨
  (zDa nt R ds e s p=e.get s∧s∉R∧((s<nt∧s∉ds)∨(zAm≤s∧s<zAv))∧(R=[]∨(e.get s).free=true)∧(e.get s).isTup=false):=by
 simp only [zDa]
 cases h1:(R.contains s || !p.heavy&&p.ways.all (fun w=>R.contains w.1)) with
 | true =>
  simp only [Bool.or_eq_true,Bool.and_eq_true,Bool.not_eq_true',List.contains_iff_mem,List.all_eq_true] at h1
  rcases h1 with h1 | ⟨h1,h2⟩
  ·exact .inl ⟨rfl,h1⟩
  ·exact .inr (.inl ⟨rfl,h1,h2⟩)
 | false =>
  simp only [cond_false]
  have hs:s∉R:=by
   simp only [Bool.or_eq_false_iff] at h1
   intro hm
   rw [List.contains_iff_mem.2 hm] at h1;cases h1.1
  cases h2:(!(Nat.blt s nt && !ds.contains s||Nat.ble zAm s&&Nat.blt s zAv)) with
  | true=>exact .inr (.inr (.inl rfl))
  | false =>
   simp only [cond_false]
   cases h3:((R.isEmpty||(e.get s).free) && !(e.get s).isTup) with
   | false=>exact .inr (.inr (.inl rfl))
   | true =>
    simp only [Bool.not_eq_false',Bool.or_eq_true,Bool.and_eq_true,Bool.not_eq_true'] at h2 h3
    refine .inr (.inr (.inr ⟨rfl,hs,?_,?_,h3.2⟩))
    ·rcases h2 with ⟨h4,h5⟩ | ⟨h4,h5⟩
     ·refine .inl ⟨zB1 h4,fun hm=>?_⟩
      rw [List.contains_iff_mem.2 hm] at h5;cases h5
     ·exact .inr ⟨Nat.le_of_ble_eq_true h4,zB1 h5⟩
    ·rcases h3.1 with h4 | h4
     ·exact .inl (by simpa using h4)
     ·exact .inr h4
theorem zPp {p:PV} (h:p.flat=true):p.isTup=false∧p.heavy=false:=by
 cases p<;>first | (cases h;done) | exact ⟨rfl,rfl⟩ | skip
 rename_i cs
 refine ⟨rfl,?_⟩
 have key:∀ cs:List PV,cs.all PV.num=true→zC0 cs=false:=by
  intro cs
  induction cs with
  | nil=>intro _;rfl
  | cons c cs ih =>
   intro h
   simp only [List.all_cons,Bool.and_eq_true] at h
   simp only [zC0,ih h.2,Bool.or_false]
   cases c<;>first | (cases h.1;done) | rfl
 exact key cs h
theorem zVW {A:Al} {p:PV} (h:p.num=true):Rep w Φ A p (zKt p) []:=by
 cases p<;>first | (cases h;done) | exact ⟨rfl,rfl⟩
theorem zOw {A:Al}:∀ (ps:List PV),ps.all PV.num=true→zAX w Φ A ps (ps.map zKt) []
 | [],_=>⟨rfl,rfl⟩
 | p::ps,h=>by
  simp only [List.all_cons,Bool.and_eq_true] at h
  exact ⟨_,_,[],[],rfl,rfl,zVW h.1,zOw ps h.2⟩
theorem zTQ {A:Al} {p:PV} (h:p.flat=true):Rep w Φ A p (zCH p) []:=by
 cases p<;>first | (cases h;done) | exact ⟨rfl,rfl⟩ | skip
 exact ⟨_,rfl,by simpa using zOw _ h⟩
theorem zH0:∀ (ps:List Tmp) (x:List PV) {a:Act} {e e1:Env},Fr w0 U Φ0 nt hv a w e→(∀ t∈ps,t<nt)→x.all PV.flat=true→zCp ps x e=some e1 →
  ps.length=x.length∧Fr w0 U Φ0 nt hv {a with tmps:=(ps.zip (x.map zCH)).foldl (fun t (p,v)=>t.setIfInBounds p v) a.tmps} w e1 ∧
  ∀ t,t∉ps→((ps.zip (x.map zCH)).foldl (fun t (p,v)=>t.setIfInBounds p v) a.tmps).getD t undef=a.tmps.getD t undef
 | [],[],a,e,e1,hf,_,_,h=>by
  simp only [zCp,Option.some.injEq] at h;subst h
  exact ⟨rfl,hf,fun _ _=>rfl⟩
 | [],_::_,a,e,e1,hf,_,_,h=>by cases h
 | _::_,[],a,e,e1,hf,_,_,h=>by cases h
 | t :: ts,v::vs,a,e,e1,hf,ht,hx,h=>by
  simp only [zCp] at h
  split at h
  ·cases h
  ·simp only [List.all_cons,Bool.and_eq_true] at hx
   obtain ⟨Φ,rv,E,L,S,hb⟩:=hf
   have hl:=zPp hx.1
   have yA:(put (some t) v).run (fun _ _ _=>none) e=some (e.set t v):=by
    simp only [put,hl.1,cond_false,lay,hl.2,PM.run]
   have hf1:=zAu (d:=some t) S hb (fun y hy=>by cases hy;exact ht t (by simp)) yA (zTQ hx.1)
   obtain ⟨h1,h2,h3⟩:=zH0 ts vs hf1 (fun y hy=>ht y (by simp [hy])) hx.2 h
   refine ⟨by simp [h1],h2,fun y hy=>?_⟩
   simp only [List.mem_cons,not_or] at hy
   have:=h3 y hy.2
   simp only [List.map_cons,List.zip_cons_cons,List.foldl_cons]
   refine Eq.trans this ?_
   show (a.tmps.setIfInBounds t (zCH v)).getD y undef=_
   simp only [Array.getD_eq_getD_getElem?,Array.getElem?_setIfInBounds]
   rw [if_neg (fun e=>hy.1 e.symm)]
end
theorem zNz {F:Fence} {n:Nat} {P:Program} {ops:Array Oper} {Q:Exit→Act→World→Prop} {i:Nat} {K:Act→World→Prop} {T:Act→Prop} {a:Act} {w:World} {o:Oper} (hi:ops[i]? = some o) (hT:∀ v ds,T ({a with defers:=ds}.put o.dst v))
  (h:wpOpIn F n P ops Q i K a w):wpOpIn F n P ops Q i (fun a' w'=>K a' w'∧T a') a w:=by
 have hT0:∀ v,T (a.put o.dst v):=fun v=>hT v a.defers
 simp only [wpOpIn,hi] at h ⊢
 split
 ·rename_i hw
  rw [if_pos hw] at h
  refine ⟨h.1,?_⟩
  have h:=h.2
  revert h
  generalize (o.semAt F.round a.eval).run P w=r
  intro h
  cases r with
  | ok x w' =>
   cases x<;>simp only [Oper.uponIn] at h ⊢ <;> first
    | exact ⟨h,hT0 _⟩
    | exact ⟨h,hT _ _⟩
    | exact ⟨h.1,h.2.mono fun e w'' he=>by cases e<;>first | exact ⟨he,hT0 _⟩ | exact he⟩
    | exact ⟨h.1,h.2.mono fun v w'' he=>⟨he,hT0 _⟩⟩
    | exact h
  | halt x w'=>cases x<;>simp only [Oper.uponIn] at h ⊢ <;> exact h
 ·rename_i hw
  rw [if_neg hw] at h
  exact ⟨h.1,h.2,hT0 _⟩
def GR (wb:World) (Ub Φb:Nat→Prop) (nt:Nat) (val:Nat→Value) (ds:List Nat) (tm:Array Value) (a:Act) (w:World) (e:Env) (lg:Option Log):Prop :=
 lg=none∧Fr wb Ub Φb nt ⟨val,[]⟩ a w e∧∀ t,t∉ds→a.tmps.getD t undef=tm.getD t undef
theorem zUB {P:Program} {H:zBb} {orc:zAD} {nt l:Nat} {wb:World} {Ub Φb:Nat→Prop} {val:Nat→Value} {ds:List Nat} {tm:Array Value} (jE:zGb P orc) (hnm:zEJ P) :
  Frame P H orc nt (some l) 0 (fun d=>d∈ds) (fun lg=>lg=none) (GR wb Ub Φb nt val ds tm):=by
 refine ⟨?_,?_,?_,?_,?_,?_,?_⟩
 ·intro ops o fz tk nl e e' lg lg' h hf
  cases lg with
  | none=>rfl
  | some g=>obtain ⟨g',h2,_⟩:=zHD h;rw [h2] at hf;cases hf
 ·intro ops i o fz tk nl a w e e' lg lg' Q yv hi hd yK ⟨w8,hf,ht⟩ h
  subst w8
  simp only [zCK] at h
  obtain ⟨e1,h1,h2⟩:=Option.map_eq_some_iff.1 h
  cases h2
  refine zDK (zNz (T:=fun a'=>∀ t,t∉ds→a'.tmps.getD t undef=tm.getD t undef) hi (fun v ds' t uj=>?_) (zLg jE hnm yv hf hi h1)) fun a' w' ⟨yk,gr⟩=>⟨rfl,yk,gr⟩
  rw [← ht t uj]
  cases ju:o.dst with
  | none=>rfl
  | some d =>
   have hI:t≠d:=by rintro rfl;exact uj (hd t ju)
   simp only [Act.put,Array.getD_eq_getD_getElem?,Array.getElem?_setIfInBounds]
   rw [if_neg (fun e=>hI e.symm)]
 ·intro a w e e' lg ⟨h1,hf,ht⟩ hg
  exact ⟨h1,hf.get' hg,ht⟩
 ·intro a w e lg d ⟨h1,hf,ht⟩
  exact ⟨h1,hf.tick d,ht⟩
 ·intro a w e lg l ⟨h1,hf,ht⟩
  exact ⟨h1,hf.drop l,ht⟩
 ·intro a w e lg l ⟨h1,hf,ht⟩
  exact ⟨h1,hf.ice,ht⟩
 ·intro a w e lg t b ⟨_,⟨Φ,rv,E,L,S,hb⟩,_⟩ ht he
  have yf:t<zAb:=Nat.lt_of_lt_of_le ht (Nat.le_trans S.small (by decide))
  have:=S.conf.rep t
  rw [S.env t yf,he] at this
  rw [S.tmps t ht];exact this.1
def X.isNorm:X→Bool
 | .norm=>true
 | _=>false
def zIr:X→Code
 | .ret => .ret
 | .ex id => .exit id
 | .norm => .skip
def zIC (run:Code→Env→Option (X×Env)) (ps:List Tmp) (ca cb:Code) (x:List PV) (e:Env):Option (X×Env) :=
 match zCp ps x e with
 | some e1=>match run ca e1 with
  | some (.norm,e2)=>run cb e2
  | _=>none
 | none=>none
section
variable {w0 w w' w1 w2:World} {U Φ0 Φ U1 Φ1 U2 Φ2:Nat→Prop} {nt:Nat} {hv:Hid} {a:Act} {e e':Env} {rv rv':Nat→Value} {E E':Nat→PV} {L L':Nat→List Nat}
theorem zMw {p:PV} (h:p.heavy=false):p.unlock=p:=by cases p<;>first | rfl | cases h
open Classical in
theorem Conf.behind {wb w4:World} {Ub Φb Φ3:Nat→Prop} {rv3:Nat→Value} {E3:Nat→PV} {L3:Nat→List Nat} {e3:Env} {R ds:List Nat} (C:Conf w0 U Φ0 w Φ rv E L) (hE:∀ s,s<zAb→E s=e.get s) (kO:zBo E)
  (C3:Conf wb Ub Φb w4 Φ3 rv3 E3 L3) (hE3:∀ s,s<zAb→E3 s=e3.get s) (yO:∀ r∈R,∀ x∈(E r).ways,x.1∈R)
  (jZ:∀ s,(s<nt∧s∉ds)∨(zAm≤s∧s<zAv)→rv3 s=rv s)
  (hs:w.heap.size≤w4.heap.size) (hk:∀ b,b<w.heap.size→(Φ b∨(∃ r∈R,b∈L r)∨b<w0.heap.size∧¬ U b)→w4.heap[b]? = w.heap[b]?)
  (hΦ3:∀ b,Φ b→Φ3 b) (hΦb:∀ b,Φ3 b→Φ b∨(∃ s,b∈L s)∨w.heap.size≤b) (hΦR:∀ r∈R,∀ b∈L r,Φ3 b) (hL3:∀ s,∀ b∈L3 s,(∃ t,b∈L t)∨w.heap.size≤b) (ho:w4.os=w.os∧w4.tape=w.tape∧w4.output=w.output) :
  ∃ E' L',(∀ s,s<zAb→E' s=zDa nt R ds e3 s (e.get s))∧zBo E'∧Conf w0 U Φ0 w4 (fun b=>Φ3 b∧∀ r∈R,b∉L r) rv E' L'∧(∀ r∈R,L' r=L r)∧(∀ s,∀ b∈L' s,(∃ r∈R,b∈L r)∨∃ t,b∈L3 t) ∧
   ∀ d ps,d<zAb→E' d = .tup ps→E d = .tup ps:=by
 let Tk:Nat→Prop:=fun s=>s<zAb∧zDa nt R ds e3 s (e.get s)=e3.get s∧((s<nt∧s∉ds)∨(zAm≤s∧s<zAv))∧(R=[]∨(e3.get s).free=true)∧(e3.get s).isTup=false
 let E':Nat→PV:=fun s=>if s<zAb then zDa nt R ds e3 s (e.get s) else .bad
 let L':Nat→List Nat:=fun s=>if s∈R then L s else if Tk s then L3 s else []
 have hE':∀ s,s<zAb→E' s=zDa nt R ds e3 s (e.get s):=fun s hs=>if_pos hs
 have hEb':zBo E':=fun g hg=>if_neg (by omega)
 have qf:∀ s,s∈R→L' s=L s:=fun s hs=>if_pos hs
 have ga:∀ s,s∉R→Tk s→L' s=L3 s:=fun s hs ht=>by show (if s∈R then L s else if Tk s then L3 s else [])=_;rw [if_neg hs,if_pos ht]
 have qg:∀ s,s∉R→¬ Tk s→L' s=[]:=fun s hs ht=>by show (if s∈R then L s else if Tk s then L3 s else [])=_;rw [if_neg hs,if_neg ht]
 have fate:∀ s,(s∈R∧E' s=E s)∨(s∉R∧Tk s∧E' s=E3 s)∨(s∉R∧¬ Tk s∧E' s=E s∧(E s).heavy=false∧∀ x∈(E s).ways,x.1∈R)∨(s∉R∧¬ Tk s∧E' s = .bad):=by
  intro s
  by_cases yc:s<zAb
  ·rw [hE' s yc,hE s yc]
   by_cases jA:s∈R
   ·have:zDa nt R ds e3 s (e.get s)=e.get s:=by
     simp only [zDa,List.contains_iff_mem.2 jA,Bool.true_or,cond_true]
    exact .inl ⟨jA,this⟩
   ·by_cases ht:Tk s
    ·exact .inr (.inl ⟨jA,ht,by rw [hE3 s yc];exact ht.2.1⟩)
    ·rcases zLv nt R ds e3 s (e.get s) with ⟨_,h2⟩ | ⟨h1,h2,h3⟩ | h1 | ⟨h1,h2,h3,h4,h5⟩
     ·exact absurd h2 jA
     ·exact .inr (.inr (.inl ⟨jA,ht,h1,h2,h3⟩))
     ·exact .inr (.inr (.inr ⟨jA,ht,h1⟩))
     ·exact absurd ⟨yc,h1,h3,h4,h5⟩ ht
  ·have hb:E' s = .bad:=hEb' s (by omega)
   have ht:¬ Tk s:=fun ht=>yc ht.1
   by_cases jA:s∈R
   ·exact .inl ⟨jA,by rw [hb,kO s (by omega)]⟩
   ·exact .inr (.inr (.inr ⟨jA,ht,hb⟩))
 have hΦ:zDm w w4 Φ (fun b=>Φ3 b∧∀ r∈R,b∉L r):=fun b hb=>⟨⟨hΦ3 b hb,fun r _ wS=>(C.own r b wS).2.1 hb⟩,hk b (C.frz b hb).1 (.inl hb)⟩
 have gu:∀ r∈R,∀ b∈L r,w4.heap[b]? = w.heap[b]?:=fun r hr b hb=>hk b (C.own r b hb).1 (.inr (.inl ⟨r,hr,hb⟩))
 have hA:∀ b v,b.isWay=true→(zA2 w rv E b v∧∀ x∈b.ways,x.1∈R)→zA2 w4 rv E' b v:=by
  intro b v hw ⟨ha,hR⟩
  have hr:(zA3 b).1∈R:=by
   have:=hR (zA3 b)
   cases b<;>first | (cases hw;done) | (exact ha.elim) | skip
   all_goals exact this (by simp [PV.ways,zA3])
  have hg:=zCU ha
  rcases fate (zA3 b).1 with ⟨_,h1⟩ | ⟨h1,_⟩ | ⟨h1,_⟩ | ⟨h1,_⟩
  ·exact zCF C zCg ha (by rw [h1,zBe]) rfl (gu _ hr)
  all_goals exact absurd hr h1
 have keepRep:∀ s,(∀ x∈(E s).ways,x.1∈R)→(∀ b∈L s,w4.heap[b]? = w.heap[b]?)→Rep w4 (fun b=>Φ3 b∧∀ r∈R,b∉L r) (zA2 w4 rv E') (E s) (rv s) (L s):=by
  intro s hx hL
  have h1:=Rep.ways (A':=fun b v=>zA2 w rv E b v∧∀ x∈b.ways,x.1∈R) (E s) (rv s) (L s) (fun b v _ qv ha=>⟨ha,fun x hxb=>hx x (qv x hxb)⟩) (C.rep s)
  exact h1.mono (Φ':=fun b=>Φ3 b∧∀ r∈R,b∉L r) hΦ hA hL
 refine ⟨E',L',hE',hEb',⟨fun s=>?_,fun s=>?_,fun s s' hI b hb yH=>?_,fun s b hb=>?_,fun b ⟨hb,_⟩=>?_,fun b hb=>⟨hΦ3 b (C.frz0 b hb),fun r _ wS=>(C.own r b wS).2.1 (C.frz0 b hb)⟩,Nat.le_trans C.size hs,
  fun b hb hu=>(hk b (Nat.lt_of_lt_of_le hb C.size) (.inr (.inr ⟨hb,hu⟩))).trans (C.kept b hb hu),ho.1.trans C.os,ho.2.1.trans C.tape,ho.2.2.trans C.output⟩,qf,fun s b hb=>?_,fun d ps hd hp=>?_⟩
 ·rcases fate s with ⟨h1,h2⟩ | ⟨h1,h2,h3⟩ | ⟨h1,h2,h3,h4,h5⟩ | ⟨h1,h2,h3⟩
  ·rw [h2,qf s h1];exact keepRep s (yO s h1) (gu s h1)
  ·rw [h3,ga s h1 h2]
   have jO:=jZ s h2.2.2.1
   rw [← jO]
   rcases h2.2.2.2.1 with hR | wI
   ·subst hR
    refine (C3.rep s).mono (Φ':=fun b=>Φ3 b∧∀ r∈([]:List Nat),b∉L r) (fun b hb=>⟨⟨hb,fun r hr=>by cases hr⟩,rfl⟩) (fun b v hw ha=>?_) (fun _ _=>rfl)
    have hg:=zCU ha
    rcases fate (zA3 b).1 with ⟨h1,_⟩ | ⟨_,h4,h5⟩ | ⟨_,_,h5,h6,_⟩ | ⟨_,_,h5⟩
    ·cases h1
    ·exact zCF C3 zCg ha (by rw [h5,zBe]) (jZ _ h4.2.2.1).symm (fun _ _=>rfl)
    ·exact zKT ha (by rw [h5,zMw h6];exact h6)
    ·exact zKT ha (by rw [h5];rfl)
   ·exact Rep.free _ _ _ (by rw [hE3 s h2.1];exact wI) (C3.rep s)
  ·rw [h3,qg s h1 h2]
   have qC:=zDj _ _ _ h4 (C.rep s)
   have:=keepRep s h5 (by rw [qC];simp)
   rwa [qC] at this
  ·rw [h3,qg s h1 h2];rfl
 ·by_cases h1:s∈R
  ·rw [qf s h1];exact C.nodup s
  ·by_cases h2:Tk s
   ·rw [ga s h1 h2];exact C3.nodup s
   ·rw [qg s h1 h2];exact List.nodup_nil
 ·by_cases h1:s∈R
  ·rw [qf s h1] at hb
   by_cases j1:s'∈R
   ·rw [qf s' j1] at yH;exact C.disj s s' hI b hb yH
   ·by_cases jc:Tk s'
    ·rw [ga s' j1 jc] at yH;exact (C3.own s' b yH).2.1 (hΦR s h1 b hb)
    ·rw [qg s' j1 jc] at yH;cases yH
  ·by_cases h2:Tk s
   ·rw [ga s h1 h2] at hb
    by_cases j1:s'∈R
    ·rw [qf s' j1] at yH;exact (C3.own s b hb).2.1 (hΦR s' j1 b yH)
    ·by_cases jc:Tk s'
     ·rw [ga s' j1 jc] at yH;exact C3.disj s s' hI b hb yH
     ·rw [qg s' j1 jc] at yH;cases yH
   ·rw [qg s h1 h2] at hb;cases hb
 ·by_cases h1:s∈R
  ·rw [qf s h1] at hb
   have:=C.own s b hb
   exact ⟨Nat.lt_of_lt_of_le this.1 hs,fun ⟨_,h2⟩=>h2 s h1 hb,this.2.2⟩
  ·by_cases h2:Tk s
   ·rw [ga s h1 h2] at hb
    have:=C3.own s b hb
    refine ⟨this.1,fun ⟨h3,_⟩=>this.2.1 h3,?_⟩
    rcases hL3 s b hb with ⟨t,h3⟩ | h3
    ·exact (C.own t b h3).2.2
    ·exact .inr (Nat.le_trans C.size h3)
   ·rw [qg s h1 h2] at hb;cases hb
 ·refine ⟨(C3.frz b hb).1,?_⟩
  rcases hΦb b hb with h3 | ⟨t,h3⟩ | h3
  ·exact (C.frz b h3).2
  ·exact .inr (C.own t b h3).2.2
  ·exact .inr (.inr (Nat.le_trans C.size h3))
 ·by_cases h1:s∈R
  ·rw [qf s h1] at hb;exact .inl ⟨s,h1,hb⟩
  ·by_cases h2:Tk s
   ·rw [ga s h1 h2] at hb;exact .inr ⟨s,hb⟩
   ·rw [qg s h1 h2] at hb;cases hb
 ·rcases fate d with ⟨h1,h2⟩ | ⟨h1,h2,h3⟩ | ⟨h1,h2,h3,_⟩ | ⟨h1,h2,h3⟩
  ·rw [← h2];exact hp
  ·rw [h3,hE3 d hd] at hp
   have:=h2.2.2.2.2
   rw [hp] at this;cases this
  ·rw [← h3];exact hp
  ·rw [h3] at hp;cases hp
end
section
variable {P:Program} {H:zBb} {orc:zAD} {yo:zCL} {al:All} {w0 w:World} {U Φ0 Φ:Nat→Prop} {nt:Nat} {hv:Hid} {aM:Act} {e ef e3:Env} {rv:Nat→Value} {E:Nat→PV} {L:Nat→List Nat} {hh:FHint} {m:Nat}
def zJ9 (P:Program) (H:zBb) (orc:zAD) (yo:zCL) (al:All) (nt:Nat) (hh:FHint) (m:Nat) (c:Code) (e:Env):Option (X×Env) :=
 match exec P H orc yo al nt hh m c e none with
 | some (x,e',none)=>some (x,e')
 | _=>none
theorem zKH {c:Code} {e e':Env} {x:X} (h:zJ9 P H orc yo al nt hh m c e=some (x,e')):exec P H orc yo al nt hh m c e none=some (x,e',none):=by
 simp only [zJ9] at h
 split at h
 ·rename_i hx;cases h;exact hx
 ·cases h
theorem zKJ:∀ (R:List Nat) {e ef:Env},zEn R e=some ef→∀ r∈R,r<zAb
 | [],_,_,_,r,hr=>by cases hr
 | t :: R,e,ef,h,r,hr=>by
  simp only [zEn] at h
  rcases zBg h with ⟨h1,h⟩ | ⟨_,h⟩
  ·split at h
   ·rcases List.mem_cons.1 hr with rfl | hr
    ·exact zB1 h1
    ·exact zKJ R h r hr
   ·cases h
  ·cases h
theorem zOT (zE1:P.follows .mixedOrders=true) (jE:zGb P orc) (hnm:zEJ P) {ps:Array Tmp} {ca cb:Code} {ds:List Nat} {x:List PV} {r:X} (y7:∀ t∈ps.toList,t<nt) (LG:zCC P nt ca=true) (LH:zCC P nt cb=true) (LI:zCT ca=true) (LJ:zCT cb=true)
  (hdp:∀ t∈ps.toList,t∈ds) (v8:∀ d∈zBN ca,d∈ds) (hdb:∀ d∈zBN cb,d∈ds) (hx:x.all PV.flat=true) (S:St w0 U Φ0 nt hv aM w e Φ rv E L) (hb:zBo E)
  {l:Nat} {rc:Go.Loop} (uU:rc.params=ps) (uP:rc.assign=ca) (hrb:rc.body=cb) (w9:rc.tmps=aM.tmps) (jO:rc.state = .ready) (hl:w.heap[l]? = some (.loop rc)) (hlL:∀ s,l∉L s) (hlΦ:¬ Φ l) (vw:w0.heap.size≤l)
  {R:List Nat} (hR:(R=[]∧ef=e)∨(zF5 e R=true∧zEn R e=some ef)) (yR:zIC (zJ9 P H orc yo al nt hh m) ps.toList ca cb x ef=some (r,e3)) :
  YieldAt (FF none) 0 P l (x.map zCH).toArray w fun en w4=>en = .returned (.bool r.isNorm)∧w.heap.size≤w4.heap.size∧(w4.os=w.os∧w4.tape=w.tape∧w4.output=w.output) ∧
   w4.heap[l]? = some (.loop {rc with state:=bif r.isNorm then .ready else .done,pending:=bif r.isNorm then none else some (zIr r)})∧(∀ b,b<w.heap.size→b≠l→(∀ s,s∉R→b∉L s)→w4.heap[b]? = w.heap[b]?) ∧
   ∃ Φ4 E4 L4,St w0 U Φ0 nt hv aM w4 (after nt R ds e e3) Φ4 rv E4 L4∧zBo E4∧(∀ b,Φ b→Φ4 b)∧(∀ b,Φ4 b→Φ b∨(∃ s,b∈L s)∨w.heap.size≤b)∧(∀ r∈R,L4 r=L r)∧∀ s,∀ b∈L4 s,(∃ t,b∈L t)∨w.heap.size≤b:=by
 subst uP;subst hrb
 have w5:zAb=1000000000:=rfl
 have jv:=S.small
 have hlw:l<w.heap.size:=(Array.getElem?_eq_some_iff.1 hl).1
 obtain ⟨Φr,Er,Lr,Sr,wS,f1,f2,f3,f4⟩:∃ Φr Er Lr,St w (fun b=>∃ s,b∈L s) Φ nt hv aM w ef Φr rv Er Lr∧zBo Er∧(∀ b,Φ b→Φr b)∧(∀ b,Φr b→Φ b∨∃ r∈R,b∈L r)∧(∀ r∈R,∀ b∈L r,Φr b)∧∀ s,∀ b∈Lr s,b∈L s:=by
  rcases hR with ⟨rfl,rfl⟩ | ⟨_,hf⟩
  ·exact ⟨Φ,E,L,S.with S.conf.fresh,hb,fun _ h=>h,fun _ h => .inl h,fun _ h=>(by cases h),fun _ _ h=>h⟩
  ·exact zJP R (S.with S.conf.fresh) hb hf
 have yO:∀ r∈R,∀ x∈(E r).ways,x.1∈R:=by
  rcases hR with ⟨rfl,_⟩ | ⟨hc,hf⟩
  ·intro r hr;cases hr
  ·intro r hr x hx
   have:=List.all_eq_true.1 hc r hr
   rw [S.env r (zKJ R hf r hr)] at hx
   exact List.contains_iff_mem.1 (List.all_eq_true.1 this x hx)
 have hlr:∀ s,l∉Lr s:=fun s hs=>hlL s (f4 s l hs)
 have hlΦr:¬ Φr l:=fun h=>(f2 l h).elim hlΦ fun ⟨t,_,ht⟩=>hlL t ht
 simp only [zIC] at yR
 cases jb:zCp ps.toList x ef with
 | none=>rw [jb] at yR;cases yR
 | some e1 =>
  rw [jb] at yR;simp only at yR
  split at yR
  ·rename_i e2 hra1
   have j7:=zKH hra1
   have jU:=zKH yR
   have S0:St w (fun b=>∃ s,b∈Lr s) Φr nt ⟨hv.val,[]⟩ {tmps:=aM.tmps,defers:=[]} w ef Φr rv Er Lr :=
    ⟨Sr.conf.fresh,Sr.env,Sr.size,Sr.small,Sr.tmps,Sr.parts,Sr.hid,rfl⟩
   obtain ⟨g1,g2,g3⟩:=zH0 ps.toList x ⟨_,_,_,_,S0,wS⟩ y7 hx jb
   have kR:=run_yield (P:=P) (args:=(x.map zCH).toArray) hl (by rw [uU];simpa using g1.symm)
   have hfold:(rc.params.zip (x.map zCH).toArray).foldl (fun tmps (t,a)=>tmps.setIfInBounds t a) rc.tmps=(ps.toList.zip (x.map zCH)).foldl (fun t (p,v)=>t.setIfInBounds p v) aM.tmps:=by
    rw [uU,w9,← Array.foldl_toList]
    simp
   refine ⟨_,_,_,_,kR,roundIn_of_wpIn trivial ?_⟩
   rw [hfold]
   refine wpIn_mono (zHC (zUB (l:=l) (tm:=aM.tmps) jE hnm) zE1 m rc.assign (.inl LI) LG v8 rfl ⟨rfl,g2,fun t ht=>g3 t (fun h=>ht (hdp t h))⟩ j7) fun ex a1 w1 ⟨gZ,_,hf1,ht1⟩=>?_
   subst gZ
   obtain ⟨Φa,rva,Ea,La,Sa,hba⟩:=hf1
   have vA:w1.heap[l]? = some (.loop rc):=(Sa.conf.kept l hlw (fun ⟨s,hs⟩=>hlr s hs)).trans hl
   have hla:∀ s,l∉La s:=fun s hs=>by rcases (Sa.conf.own s l hs).2.2 with ⟨t,ht⟩ | h2<;>first | exact hlr t ht | omega
   have hlΦa:¬ Φa l:=fun h=>by rcases (Sa.conf.frz l h).2 with h2 | ⟨t,ht⟩ | h2<;>first | exact hlΦr h2 | exact hlr t ht | omega
   refine ⟨_,run_beginRound vA jO,?_⟩
   obtain ⟨w2,vb⟩:∃ w2,w1.putObj l (.loop {rc with state := .busy})=w2:=⟨_,rfl⟩
   rw [vb]
   have hlw1:l<w1.heap.size:=(Array.getElem?_eq_some_iff.1 vA).1
   have qh:∀ b,b≠l→w2.heap[b]? = w1.heap[b]?:=fun b hb=>by rw [← vb];exact World.putObj_heap_other hb
   have h2l:w2.heap[l]? = some (.loop {rc with state := .busy}):=by rw [← vb];exact World.putObj_heap_same hlw1
   have h2s:w1.heap.size≤w2.heap.size:=by rw [← vb];simp
   have wJ:w2.os=w1.os∧w2.tape=w1.tape∧w2.output=w1.output:=by rw [← vb];exact ⟨rfl,rfl,rfl⟩
   have C2:=Sa.conf.arrive h2s (fun s b hb=>qh b fun e=>hla s (e▸hb)) (fun b hb=>qh b fun e=>hlΦa (e▸hb))
   refine wpIn_mono (zHC (zUB (l:=l) (tm:=aM.tmps) jE hnm) zE1 m rc.body (.inl LJ) LH hdb rfl ⟨rfl,⟨_,_,_,_,Sa.with C2,hba⟩,ht1⟩ jU) fun ex a3 w3 ⟨gZ,_,hf3,ht3⟩=>?_
   obtain ⟨Φ3,rv3,E3,L3,S3,qb⟩:=hf3
   have hlw2:l<w2.heap.size:=by omega
   have gb:w3.heap[l]? = some (.loop {rc with state := .busy}):=(S3.conf.kept l hlw2 (fun ⟨s,hs⟩=>hla s hs)).trans h2l
   have hl3L:∀ s,l∉L3 s:=fun s hs=>by rcases (S3.conf.own s l hs).2.2 with ⟨t,ht⟩ | h2<;>first | exact hla t ht | omega
   have hl3Φ:¬ Φ3 l:=fun h=>by rcases (S3.conf.frz l h).2 with h2 | ⟨t,ht⟩ | h2<;>first | exact hlΦa h2 | exact hla t ht | omega
   have hlw3:l<w3.heap.size:=(Array.getElem?_eq_some_iff.1 gb).1
   have hws:w.heap.size≤w1.heap.size:=Sa.conf.size
   have hws3:w2.heap.size≤w3.heap.size:=S3.conf.size
   have hLa:∀ s,∀ b∈La s,(∃ t,b∈L t)∨w.heap.size≤b:=fun s b hb=>(Sa.conf.own s b hb).2.2.imp (fun ⟨t,ht⟩=>⟨t,f4 t b ht⟩) id
   have hL3:∀ s,∀ b∈L3 s,(∃ t,b∈L t)∨w.heap.size≤b:=fun s b hb=>by
    rcases (S3.conf.own s b hb).2.2 with ⟨t,ht⟩ | h2
    ·exact hLa t b ht
    ·exact .inr (by omega)
   have hΦ3:∀ b,Φr b→Φ3 b:=fun b hb=>S3.conf.frz0 b (Sa.conf.frz0 b hb)
   have hΦb:∀ b,Φ3 b→Φ b∨(∃ s,b∈L s)∨w.heap.size≤b:=fun b hb=>by
    rcases (S3.conf.frz b hb).2 with h2 | ⟨t,ht⟩ | h2
    ·rcases (Sa.conf.frz b h2).2 with h4 | ⟨t,ht⟩ | h4
     ·rcases f2 b h4 with h5 | ⟨t,_,ht⟩
      ·exact .inl h5
      ·exact .inr (.inl ⟨t,ht⟩)
     ·exact .inr (.inl ⟨t,f4 t b ht⟩)
     ·exact .inr (.inr h4)
    ·exact .inr (hLa t b ht)
    ·exact .inr (.inr (by omega))
   have hkept:∀ b,b<w.heap.size→b≠l→(∀ s,b∉Lr s)→w3.heap[b]? = w.heap[b]?:=by
    intro b gV hbl jJ
    have e1:=Sa.conf.kept b gV (fun ⟨s,hs⟩=>jJ s hs)
    have e3:=S3.conf.kept b (by omega) (fun ⟨s,hs⟩=>by
     rcases (Sa.conf.own s b hs).2.2 with ⟨t,ht⟩ | h2
     ·exact jJ t ht
     ·omega)
    rw [e3,qh b hbl,e1]
   have hRr:∀ t∈R,∀ b∈L t,∀ s,b∉Lr s:=fun t ht b kT s hs=>(Sr.conf.own s b hs).2.1 (f3 t ht b kT)
   have fin:∀ (w4:World),(∀ b,b≠l→w4.heap[b]? = w3.heap[b]?)→w4.heap.size=w3.heap.size→(w4.os=w3.os∧w4.tape=w3.tape∧w4.output=w3.output)→w4.heap[l]? = some (.loop {rc with state:=bif r.isNorm then .ready else .done,pending:=bif r.isNorm then none else some (zIr r)}) →
     w.heap.size≤w4.heap.size∧(w4.os=w.os∧w4.tape=w.tape∧w4.output=w.output) ∧
     w4.heap[l]? = some (.loop {rc with state:=bif r.isNorm then .ready else .done,pending:=bif r.isNorm then none else some (zIr r)})∧(∀ b,b<w.heap.size→b≠l→(∀ s,s∉R→b∉L s)→w4.heap[b]? = w.heap[b]?) ∧
     ∃ Φ4 E4 L4,St w0 U Φ0 nt hv aM w4 (after nt R ds e e3) Φ4 rv E4 L4∧zBo E4∧(∀ b,Φ b→Φ4 b)∧(∀ b,Φ4 b→Φ b∨(∃ s,b∈L s)∨w.heap.size≤b)∧(∀ r∈R,L4 r=L r)∧∀ s,∀ b∈L4 s,(∃ t,b∈L t)∨w.heap.size≤b:=by
    intro w4 qi h4s wK h4l
    have uE:w4.os=w.os∧w4.tape=w.tape∧w4.output=w.output:=⟨wK.1.trans (S3.conf.os.trans (wJ.1.trans Sa.conf.os)),wK.2.1.trans (S3.conf.tape.trans (wJ.2.1.trans Sa.conf.tape)),wK.2.2.trans (S3.conf.output.trans (wJ.2.2.trans Sa.conf.output))⟩
    have C4:=S3.conf.arrive (w':=w4) (by omega) (fun s b hb=>qi b fun e=>hl3L s (e▸hb)) (fun b hb=>qi b fun e=>hl3Φ (e▸hb))
    have hk4:∀ b,b<w.heap.size→b≠l→(∀ s,b∉Lr s)→w4.heap[b]? = w.heap[b]?:=fun b h1 h2 h3=>(qi b h2).trans (hkept b h1 h2 h3)
    obtain ⟨E',L',q1,q2,q3,q4,q5,q6⟩:=S.conf.behind (nt:=nt) (R:=R) (ds:=ds) (e3:=e3) S.env hb C4 S3.env yO (fun s hs=>by
      rcases hs with ⟨h1,h2⟩ | ⟨h1,h2⟩
      ·rw [← S3.tmps s h1,ht3 s h2,S.tmps s h1]
      ·exact (S3.hid s h1 h2).trans (S.hid s h1 h2).symm) (by omega) (fun b gV hc=>hk4 b gV (fun e=>by
       subst e
       rcases hc with h1 | ⟨t,_,h1⟩ | ⟨h1,_⟩
       ·exact hlΦ h1
       ·exact hlL t h1
       ·omega) (fun s hs=>by
       rcases hc with h1 | ⟨t,ht,h1⟩ | ⟨h1,h2⟩
       ·exact (S.conf.own s b (f4 s b hs)).2.1 h1
       ·exact hRr t ht b h1 s hs
       ·rcases (S.conf.own s b (f4 s b hs)).2.2 with h3 | h3
        ·exact h2 h3
        ·omega)) (fun b hb=>hΦ3 b (f1 b hb)) hΦb (fun t ht b kT=>hΦ3 b (f3 t ht b kT)) hL3 uE
    refine ⟨by omega,uE,h4l,fun b h1 h2 h3=>hk4 b h1 h2 fun s hs=>?_,_,E',L',⟨q3,fun s hs=>by rw [q1 s hs,zSh],S.size,S.small,S.tmps,fun d ps i hd hp hi=>?_,S.hid,S.dfr⟩,q2,fun b hb=>⟨hΦ3 b (f1 b hb),fun t _ ht=>(S.conf.own t b ht).2.1 hb⟩,fun b hb=>hΦb b hb.1,q4,fun s b hb=>?_⟩
    ·by_cases jA:s∈R
     ·exact hRr s jA b (f4 s b hs) s hs
     ·exact h3 s jA (f4 s b hs)
    ·exact S.parts d ps i hd (q6 d ps (by omega) hp) hi
    ·rcases q5 s b hb with ⟨t,_,ht⟩ | ⟨t,ht⟩
     ·exact .inl ⟨t,ht⟩
     ·exact hL3 t b ht
   have put_o:∀ o:Obj,(∀ b,b≠l→(w3.putObj l o).heap[b]? = w3.heap[b]?)∧(w3.putObj l o).heap.size=w3.heap.size∧((w3.putObj l o).os=w3.os∧(w3.putObj l o).tape=w3.tape∧(w3.putObj l o).output=w3.output)∧(w3.putObj l o).heap[l]? = some o :=
    fun o=>⟨fun b hb=>World.putObj_heap_other hb,by simp,⟨rfl,rfl,rfl⟩,World.putObj_heap_same hlw3⟩
   subst gZ
   cases r with
   | norm =>
    have he:(Instr.endRound l none).run P w3 = .ok (.bool true) (w3.putObj l (.loop {rc with state := .ready,pending:=none})):=by rw [run_endRound none gb];rfl
    refine ⟨_,_,he,?_⟩
    obtain ⟨p1,p2,p3,p4⟩:=put_o (.loop {rc with state := .ready,pending:=none})
    exact ⟨rfl,fin _ p1 p2 p3 p4⟩
   | ret =>
    have he:(Instr.endRound l (some .ret)).run P w3 = .ok (.bool false) (w3.putObj l (.loop {rc with state := .done,pending:=some .ret})):=by rw [run_endRound (some .ret) gb];rfl
    refine ⟨_,_,he,?_⟩
    obtain ⟨p1,p2,p3,p4⟩:=put_o (.loop {rc with state := .done,pending:=some .ret})
    exact ⟨rfl,fin _ p1 p2 p3 p4⟩
   | ex id =>
    have he:(Instr.endRound l (some (.exit id))).run P w3 = .ok (.bool false) (w3.putObj l (.loop {rc with state := .done,pending:=some (.exit id)})):=by rw [run_endRound (some (.exit id)) gb];rfl
    refine ⟨_,_,he,?_⟩
    obtain ⟨p1,p2,p3,p4⟩:=put_o (.loop {rc with state := .done,pending:=some (.exit id)})
    exact ⟨rfl,fin _ p1 p2 p3 p4⟩
  ·cases yR
end
end Go.Eng
namespace Go.Eng
open Go
section
variable {P:Program} {H:zBb} {orc:zAD} {yo:zCL} {al:All} {w0 w w':World} {U Φ0 Φ:Nat→Prop} {nt:Nat} {hv:Hid} {aM a:Act} {e e' ef e3:Env} {rv:Nat→Value} {E:Nat→PV} {L:Nat→List Nat} {hh:FHint} {m:Nat}
structure Side (w0:World) (U Φ0:Nat→Prop) (nt:Nat) (hv:Hid) (aM:Act) (rv:Nat→Value) (l D size2:Nat) (rc:Go.Loop) (Φs:Nat→Prop) (Ls:Nat→List Nat) (R:List Nat) (w:World) (e:Env) (Φ:Nat→Prop) (E:Nat→PV) (L:Nat→List Nat) (B:Nat→Prop):Prop where
 st:St w0 U Φ0 nt hv aM w e Φ rv E L
 emp:zBo E
 recd:w.heap[l]? = some (.loop rc)
 mark:w.heap[D]? = some (.deferred (some []))
 lL:∀ s,l∉L s
 dL:∀ s,D∉L s
 lΦ:¬ Φ l
 dΦ:¬ Φ D
 BL:∀ s,∀ b∈L s,B b
 BΦ:∀ b,Φ b→B b
 old:∀ b,b<size2→B b
 small:∀ b,B b→b<w.heap.size
 see:∀ b,Φs b→Φ b
 Rs:∀ r∈R,L r=Ls r
structure Left (w0:World) (U Φ0:Nat→Prop) (nt:Nat) (hv:Hid) (aM:Act) (rv:Nat→Value) (l D:Nat) (rc:Go.Loop) (r:X) (w:World) (e:Env) (Φ:Nat→Prop) (E:Nat→PV) (L:Nat→List Nat):Prop where
 st:St w0 U Φ0 nt hv aM w e Φ rv E L
 emp:zBo E
 recd:w.heap[l]? = some (.loop {rc with state := .done,pending:=some (zIr r)})
 mark:w.heap[D]? = some (.deferred (some []))
 lL:∀ s,l∉L s
 dL:∀ s,D∉L s
 lΦ:¬ Φ l
 dΦ:¬ Φ D
theorem zI9 {run:Code→Env→Option (X×Env)} {ps:List Tmp} {ca cb:Code} {R ds:List Nat} {x:List PV} {xs:List (List PV)} {j:Nat} :
  zC6 nt run ps ca cb R ds (x::xs) e j=match zIC run ps ca cb x e with
   | some (.norm,e3)=>(match R with
    | []=>zC6 nt run ps ca cb R ds xs (after nt [] ds e e3) (j+1)
    | r :: R=>match (bif zF5 e (zCQ e (r::R)) then zEn (zCQ e (r::R)) e else none) with
     | some e1=>match zIC run ps ca cb x e1 with
      | some (.norm,e3)=>zC6 nt run ps ca cb (r::R) ds xs (after nt (zCQ e (r::R)) ds e e3) (j+1)
      | _=>none
     | none=>none)
   | some (r,e3)=>some (some (j+1,r),after nt [] ds e e3)
   | none=>none:=rfl
theorem zTL {rc:Go.Loop} (h1:rc.state = .ready) (h2:rc.pending=none):{rc with state := .ready,pending:=none}=rc:=by
 cases rc;simp only at h1 h2;subst h1;subst h2;rfl
theorem zRO (zE1:P.follows .mixedOrders=true) (jE:zGb P orc) (hnm:zEJ P) {ps:Array Tmp} {ca cb:Code} {ds:List Nat} (y7:∀ t∈ps.toList,t<nt) (LG:zCC P nt ca=true) (LH:zCC P nt cb=true) (LI:zCT ca=true) (LJ:zCT cb=true)
  (hdp:∀ t∈ps.toList,t∈ds) (v8:∀ d∈zBN ca,d∈ds) (hdb:∀ d∈zBN cb,d∈ds) {l D size2:Nat} {rc:Go.Loop} (uU:rc.params=ps) (uP:rc.assign=ca) (hrb:rc.body=cb) (w9:rc.tmps=aM.tmps) (jO:rc.state = .ready) (hrn:rc.pending=none)
  (vw:w0.heap.size≤l) (wL:l<size2) (hd2:D<size2) (h02:w0.heap.size≤size2) (hld:l≠D) {Φs:Nat→Prop} {Ls:Nat→List Nat} {R:List Nat} {plan:List (List PV)} {k0:Int} {res:Option (Nat×X)×Env}
  (y9:(res.1=none∧k0 = -1)∨∃ r,res.1=some (plan.length,r)∧k0=plan.length) :
  Client P l plan k0 (fun b=>Φs b∨∃ r∈R,b∈Ls r)
   (fun xs w B=>∃ rest e Φ E L,plan=xs++rest∧zC6 nt (zJ9 P H orc yo al nt hh m) ps.toList ca cb R ds rest e xs.length=some res∧Side w0 U Φ0 nt hv aM rv l D size2 rc Φs Ls R w e Φ E L B)
   (fun w=>∃ r Φ E L,(∃ j,res.1=some (j,r))∧r.isNorm=false∧Left w0 U Φ0 nt hv aM rv l D rc r w res.2 Φ E L):=by
 refine ⟨?_,?_,?_,?_,?_⟩
 ·rintro xs w w' B ⟨rest,e,Φ,E,L,h1,h2,S⟩ hs hB ho
  refine ⟨rest,e,Φ,E,L,h1,h2,⟨S.st.with (S.st.conf.moved hs (fun s b hb=>hB b (S.BL s b hb)) (fun b hb=>hB b (S.BΦ b hb)) (fun b hb _=>hB b (S.old b (by omega))) ho),S.emp,(hB l (S.old l wL)).trans S.recd,(hB D (S.old D hd2)).trans S.mark,
   S.lL,S.dL,S.lΦ,S.dΦ,S.BL,S.BΦ,S.old,fun b hb=>Nat.lt_of_lt_of_le (S.small b hb) hs,S.see,S.Rs⟩⟩
 ·rintro xs w B ⟨rest,e,Φ,E,L,h1,h2,S⟩
  exact S.small
 ·rintro xs x w B ⟨rest,e,Φ,E,L,h1,h2,S⟩ u9 hk jj
  have hlw:l<w.heap.size:=S.small l (S.old l wL)
  have hdw:D<w.heap.size:=S.small D (S.old D hd2)
  obtain ⟨rest',rfl⟩:∃ rest',rest=x::rest':=by
   obtain ⟨t,ht⟩:=u9
   rw [h1,List.append_assoc] at ht
   exact ⟨t,(List.append_cancel_left ht).symm⟩
  rw [zI9] at h2
  have go:∀ (R':List Nat) (ef e3:Env),(∀ r∈R,r∈R')→((R'=[]∧ef=e)∨(zF5 e R'=true∧zEn R' e=some ef))→zIC (zJ9 P H orc yo al nt hh m) ps.toList ca cb x ef=some (.norm,e3) →
    zC6 nt (zJ9 P H orc yo al nt hh m) ps.toList ca cb R ds rest' (after nt R' ds e e3) (xs.length+1)=some res →
    YieldAt (FF none) 0 P l (x.map zCH).toArray w fun en w'=>en = .returned (.bool true)∧Apart w w' B (fun b=>Φs b∨∃ r∈R,b∈Ls r) ∧
     ∃ B',(∃ rest e Φ E L,plan=(xs++[x])++rest∧zC6 nt (zJ9 P H orc yo al nt hh m) ps.toList ca cb R ds rest e (xs++[x]).length=some res∧Side w0 U Φ0 nt hv aM rv l D size2 rc Φs Ls R w' e Φ E L B')∧∀ b,B' b→B b∨w.heap.size≤b:=by
   intro R' ef e3 hRR hR' uh yd
   obtain ⟨fn,tm,c1,c2,hy,yR⟩:=zOT zE1 jE hnm y7 LG LH LI LJ hdp v8 hdb jj S.st S.emp uU uP hrb w9 jO S.recd S.lL S.lΦ vw hR' uh
   refine ⟨fn,tm,c1,c2,hy,yR.mono fun en w4 ⟨ut,g1,g2,g3,g4,Φ4,E4,L4,S4,hb4,g5,g6,g7,g8⟩=>?_⟩
   have keepL:∀ b,b<w.heap.size→b≠l→(∀ s,b∉L s)→w4.heap[b]? = w.heap[b]?:=fun b h1 h2 h3=>g4 b h1 h2 fun s _=>h3 s
   refine ⟨ut,⟨g1,g2.1,g2.2.1,g2.2.2,fun b hb hnB=>keepL b hb (fun e=>hnB (e▸S.old l wL)) (fun s hs=>hnB (S.BL s b hs)),fun b hb=>?_⟩,fun b=>B b∨(w.heap.size≤b∧b<w4.heap.size),⟨rest',_,Φ4,E4,L4,by rw [h1];simp,by simpa using yd,?_⟩,fun b hb=>hb.imp id (fun h=>h.1)⟩
   ·rcases hb with hb | ⟨r,hr,hb⟩
    ·have hΦ:=S.see b hb
     exact keepL b (S.st.conf.frz b hΦ).1 (fun e=>S.lΦ (e▸hΦ)) (fun s hs=>(S.st.conf.own s b hs).2.1 hΦ)
    ·rw [← S.Rs r hr] at hb
     exact g4 b (S.st.conf.own r b hb).1 (fun e=>S.lL r (e▸hb)) (fun s hs kX=>S.st.conf.disj s r (fun e=>hs (e▸hRR r hr)) b kX hb)
   ·refine ⟨S4,hb4,?_,(keepL D hdw (Ne.symm hld) S.dL).trans S.mark,fun s hs=>?_,fun s hs=>?_,fun h=>?_,fun h=>?_,fun s b hs=>?_,fun b hb=>?_,fun b hb => .inl (S.old b hb),fun b hb=>?_,fun b hb=>g5 b (S.see b hb),fun r hr=>(g7 r (hRR r hr)).trans (S.Rs r hr)⟩
    ·rw [g3];simp only [X.isNorm,cond_true];rw [zTL jO hrn]
    ·rcases g8 s l hs with ⟨t,ht⟩ | h<;>first | exact S.lL t ht | omega
    ·rcases g8 s D hs with ⟨t,ht⟩ | h<;>first | exact S.dL t ht | omega
    ·rcases g6 l h with h | ⟨t,ht⟩ | h<;>first | exact S.lΦ h | exact S.lL t ht | omega
    ·rcases g6 D h with h | ⟨t,ht⟩ | h<;>first | exact S.dΦ h | exact S.dL t ht | omega
    ·rcases g8 s b hs with ⟨t,ht⟩ | h
     ·exact .inl (S.BL t b ht)
     ·exact .inr ⟨h,(S4.conf.own s b hs).1⟩
    ·rcases g6 b hb with h | ⟨t,ht⟩ | h
     ·exact .inl (S.BΦ b h)
     ·exact .inl (S.BL t b ht)
     ·exact .inr ⟨h,(S4.conf.frz b hb).1⟩
    ·rcases hb with h | h
     ·exact Nat.lt_of_lt_of_le (S.small b h) g1
     ·exact h.2
  split at h2
  ·rename_i e3 uh
   cases R with
   | nil=>exact go [] e e3 (fun r hr=>hr) (.inl ⟨rfl,rfl⟩) uh h2
   | cons r R =>
    simp only at h2
    split at h2
    ·rename_i e1 hf
     rcases zBg hf with ⟨hc,hf⟩ | ⟨_,hf⟩
     ·split at h2
      ·rename_i e4 hro2
       exact go _ e1 e4 (fun t ht=>List.mem_append_left _ ht) (.inr ⟨hc,hf⟩) hro2 h2
      ·cases h2
     ·cases hf
    ·cases h2
  ·rename_i r e3 hI uh
   simp only [Option.some.injEq] at h2
   subst h2
   rcases y9 with ⟨hr,_⟩ | ⟨r',hr,vK⟩
   ·cases hr
   ·simp only [Option.some.injEq,Prod.mk.injEq] at hr
    exfalso;apply hk;omega
  ·cases h2
 ·rintro xs x w B ⟨rest,e,Φ,E,L,h1,h2,S⟩ u9 hk jj
  have hlw:l<w.heap.size:=S.small l (S.old l wL)
  have hdw:D<w.heap.size:=S.small D (S.old D hd2)
  obtain ⟨rest',rfl⟩:∃ rest',rest=x::rest':=by
   obtain ⟨t,ht⟩:=u9
   rw [h1,List.append_assoc] at ht
   exact ⟨t,(List.append_cancel_left ht).symm⟩
  have qC:rest'=[]∧res.1≠none:=by
   rcases y9 with ⟨_,vK⟩ | ⟨r,hr,vK⟩
   ·omega
   ·rw [h1] at vK
    simp at vK
    exact ⟨List.eq_nil_of_length_eq_zero (by omega),by rw [hr];simp⟩
  obtain ⟨rfl,wV⟩:=qC
  rw [zI9] at h2
  have none_:∀ {f:Env} {j:Nat} {R':List Nat},zC6 nt (zJ9 P H orc yo al nt hh m) ps.toList ca cb R' ds [] f j=some res→False:=by
   intro f j R' h
   simp only [zC6,Option.some.injEq] at h
   rw [← h] at wV;exact wV rfl
  split at h2
  ·cases R with
   | nil=>exact (none_ h2).elim
   | cons r R =>
    simp only at h2
    split at h2
    ·split at h2
     ·exact (none_ h2).elim
     ·cases h2
    ·cases h2
  ·rename_i r e3 hI uh
   simp only [Option.some.injEq] at h2
   have hrn':r.isNorm=false:=by cases r<;>first | rfl | exact (hI rfl).elim
   obtain ⟨fn,tm,c1,c2,hy,yR⟩:=zOT (R:=[]) zE1 jE hnm y7 LG LH LI LJ hdp v8 hdb jj S.st S.emp uU uP hrb w9 jO S.recd S.lL S.lΦ vw (.inl ⟨rfl,rfl⟩) uh
   refine ⟨fn,tm,c1,c2,hy,yR.mono fun en w4 ⟨ut,g1,g2,g3,g4,Φ4,E4,L4,S4,hb4,g5,g6,g7,g8⟩=>?_⟩
   rw [hrn'] at ut g3
   have keepL:∀ b,b<w.heap.size→b≠l→(∀ s,b∉L s)→w4.heap[b]? = w.heap[b]?:=fun b h1 h2 h3=>g4 b h1 h2 fun s _=>h3 s
   refine ⟨ut,r,Φ4,E4,L4,⟨xs.length+1,by rw [← h2]⟩,hrn',by rw [← h2];exact S4,hb4,g3,(keepL D hdw (Ne.symm hld) S.dL).trans S.mark,fun s hs=>?_,fun s hs=>?_,fun h=>?_,fun h=>?_⟩
   ·rcases g8 s l hs with ⟨t,ht⟩ | h<;>first | exact S.lL t ht | omega
   ·rcases g8 s D hs with ⟨t,ht⟩ | h<;>first | exact S.dL t ht | omega
   ·rcases g6 l h with h | ⟨t,ht⟩ | h<;>first | exact S.lΦ h | exact S.lL t ht | omega
   ·rcases g6 D h with h | ⟨t,ht⟩ | h<;>first | exact S.dΦ h | exact S.dL t ht | omega
  ·cases h2
 ·rintro w w' ⟨r,Φ,E,L,h1,h2,S⟩ hs hk ho
  have hlw:l<w.heap.size:=(Array.getElem?_eq_some_iff.1 S.recd).1
  have hdw:D<w.heap.size:=(Array.getElem?_eq_some_iff.1 S.mark).1
  exact ⟨r,Φ,E,L,h1,h2,S.st.with (S.st.conf.moved hs (fun s b hb=>hk b (S.st.conf.own s b hb).1) (fun b hb=>hk b (S.st.conf.frz b hb).1) (fun b hb _=>hk b (Nat.lt_of_lt_of_le hb S.st.conf.size)) ho),S.emp,(hk l hlw).trans S.recd,(hk D hdw).trans S.mark,
   S.lL,S.dL,S.lΦ,S.dΦ⟩
structure Marks (z:Nat) (w1:World) (U1 Φ1:Nat→Prop) (ds:List Deferred):Prop where
 each:∀ d∈ds,∃ D,d.target = .collected D∧z≤D∧D<w1.heap.size∧w1.heap[D]? = some (.deferred (some []))∧¬ U1 D∧¬ Φ1 D
 apart:ds.Pairwise fun d d'=>∀ D D',d.target = .collected D→d'.target = .collected D'→D≠D'
def FrB (w0:World) (U Φ0:Nat→Prop) (nt:Nat) (val:Nat→Value) (a:Act) (w:World) (e:Env):Prop :=
 ∃ w1 U1 Φ1 ds,Rel w0 U Φ0 w1 U1 Φ1∧Marks w0.heap.size w1 U1 Φ1 ds∧Fr w1 U1 Φ1 nt ⟨val,ds⟩ a w e
def GB (w0:World) (U Φ0:Nat→Prop) (nt:Nat) (val:Nat→Value) (a:Act) (w:World) (e:Env) (lg:Option Log):Prop:=lg=none∧FrB w0 U Φ0 nt val a w e
theorem zW6 {val:Nat→Value} (jE:zGb P orc) (hnm:zEJ P):Frame P H orc nt none 0 (fun _=>True) (fun lg=>lg=none) (GB w0 U Φ0 nt val):=by
 refine ⟨?_,?_,?_,?_,?_,?_,?_⟩
 ·intro ops o fz tk nl e e' lg lg' h hf
  cases lg with
  | none=>rfl
  | some g=>obtain ⟨g',h2,_⟩:=zHD h;rw [h2] at hf;cases hf
 ·intro ops i o fz tk nl a w e e' lg lg' Q yv hi hd yK ⟨w8,w1,U1,Φ1,ds,h1,h2,hf⟩ h
  subst w8
  simp only [zCK] at h
  obtain ⟨e1,h3,h4⟩:=Option.map_eq_some_iff.1 h
  cases h4
  exact zDK (zLg jE hnm yv hf hi h3) fun a' w' yk=>⟨rfl,w1,U1,Φ1,ds,h1,h2,yk⟩
 ·intro a w e e' lg ⟨h1,w1,U1,Φ1,ds,h2,h3,hf⟩ hg
  exact ⟨h1,w1,U1,Φ1,ds,h2,h3,hf.get' hg⟩
 ·intro a w e lg d ⟨h1,w1,U1,Φ1,ds,h2,h3,hf⟩
  exact ⟨h1,w1,U1,Φ1,ds,h2,h3,hf.tick d⟩
 ·intro a w e lg l ⟨h1,w1,U1,Φ1,ds,h2,h3,hf⟩
  exact ⟨h1,w1,U1,Φ1,ds,h2,h3,hf.drop l⟩
 ·intro a w e lg l ⟨h1,w1,U1,Φ1,ds,h2,h3,hf⟩
  exact ⟨h1,w1,U1,Φ1,ds,h2,h3,hf.ice⟩
 ·intro a w e lg t b ⟨_,_,_,_,_,_,_,⟨Φ,rv,E,L,S,hb⟩⟩ ht he
  have yf:t<zAb:=Nat.lt_of_lt_of_le ht (Nat.le_trans S.small (by decide))
  have:=S.conf.rep t
  rw [S.env t yf,he] at this
  rw [S.tmps t ht];exact this.1
def zMB (P:Program) (yo:zCL):Prop:=∀ g first i caps k plan,yo g first i caps k=some plan→Callable P g∧(first++PV.yld i::caps).length≤zAm ∧
 ∀ (J:List (List PV)→World→(Nat→Prop)→Prop) (Jx:World→Prop) (Ψ:Nat→Prop),Client P i plan k Ψ J Jx→∀ (w:World) (Φ:Nat→Prop) (rv:Nat→Value) (E:Nat→PV) (L:Nat→List Nat) (vs:Array Value) (B:Nat→Prop),
  (∀ s,s<zAb→E s=(zA5 (first++PV.yld i::caps) []).get s)→(∀ s,zAb≤s→E s = .bad)→Conf w (fun b=>∃ s,b∈L s) Φ w Φ rv E L→vs.size=(first++PV.yld i::caps).length→(∀ j,j<(first++PV.yld i::caps).length→vs[j]? = some (rv j)) →
  (∀ s,(first++PV.yld i::caps).length≤s→s<zAm→rv s=undef)→J [] w B→(∀ b,B b→∀ s,b∉L s)→(∀ b,Φ b→Ψ b∨¬ B b) →
  CallsIn (FF none) 0 P g vs w fun en w'=>(∃ v,en = .returned v)∧((k-plan.length≠0∧∃ B',J plan w' B')∨(k-plan.length=0∧Jx w'))
theorem zJz {x:Nat→Option (List (List PV))} {r:List (List PV)} (h:zB5 x=some r) (i:Nat):x i=some r:=by
 simp only [zB5] at h
 split at h
 ·rename_i hx
  have:=Classical.choose_spec hx i
  simp only [Option.some.injEq] at h
  rw [h] at this;exact this
 ·cases h
theorem zPI (S:St w0 U Φ0 nt hv a w e Φ rv E L) {t g:Nat} (ht:t<nt) {first caps:List PV} {R:List Nat} (h:zDF e t=some (g,first,caps,R)) {Ψ:Nat→Prop} (h1:∀ b,Φ b→Ψ b) (h2:∀ r∈R,∀ b∈L r,Ψ b) :
  ∃ fs cs:Array Value,rv t = .func (.func g) fs cs∧zAX w Ψ zCb first fs.toList []∧zAX w Ψ zCb caps cs.toList []:=by
 have yf:t<zAb:=Nat.lt_of_lt_of_le ht (Nat.le_trans S.small (by decide))
 have hX:=S.conf.view yf
 rw [S.env t yf] at hX
 simp only [zDF] at h
 split at h
 ·rename_i e' wM
  obtain ⟨q,l,h3,h4,h5⟩:=zO0 S hX wM
  simp only [PM.run,Option.some.injEq] at h3
  subst h3
  have g0:(((e.set 0 (.tup [q])).set 1 (.tup (l.map fun x=>PV.int .i64 x.1))).get 0) = .tup [q]:=by rw [Env.get_set,if_neg (by decide),Env.get_set,if_pos rfl]
  have g1:(((e.set 0 (.tup [q])).set 1 (.tup (l.map fun x=>PV.int .i64 x.1))).get 1) = .tup (l.map fun x=>PV.int .i64 x.1):=by rw [Env.get_set,if_pos rfl]
  rw [g0,g1] at h
  split at h
  ·rename_i g' f' c' l' hq hl
   simp only [PV.tup.injEq,List.cons.injEq,and_true] at hq hl
   subst hq;subst hl
   simp only [Option.some.injEq,Prod.mk.injEq] at h
   obtain ⟨rfl,rfl,rfl,rfl⟩:=h
   have jq:∀ x∈l,Cov w Φ rv E Ψ x:=by
    intro x hx nv q Li A hf hr b hb
    refine h2 x.1 ?_ b ?_
    ·refine List.mem_eraseDups.2 (List.mem_filterMap.2 ⟨_,List.mem_map.2 ⟨x,hx,rfl⟩,?_⟩)
     simp
    ·obtain ⟨nv',Li',h6,h7,h8⟩:=zBL (zB3 (S.conf.rep x.1)) (zEx hf)
     rw [hf] at h6;cases h6
     have:=Rep.uniq _ _ _ _ hr h8
     subst this;exact h7 b hb
   obtain ⟨_,fs,cs,h6,h7,h8⟩:=h5 Ψ h1 jq (by simp)
   exact ⟨fs,cs,h6,h7,h8⟩
  ·cases h
 ·cases h
theorem zLk {A:Al}:∀ {ps:List PV} {vs:List Value},zAX w Φ A ps vs []→vs.length=ps.length∧∀ (i:Nat) (p:PV),ps[i]? = some p→∃ v,vs[i]? = some v∧Rep w Φ A p v []
 | [],vs,h=>by rw [h.1];exact ⟨rfl,fun i p hp=>by simp at hp⟩
 | p::ps,vs,⟨v,vs',L1,L2,h1,h2,h3,h4⟩=>by
  obtain ⟨rfl,rfl⟩:L1=[]∧L2=[]:=by simpa using h2.symm
  obtain ⟨g1,g2⟩:=zLk h4
  subst h1
  refine ⟨by simp [g1],fun i q hq=>?_⟩
  cases i with
  | zero=>simp only [List.getElem?_cons_zero,Option.some.injEq] at hq;subst hq;exact ⟨v,rfl,h3⟩
  | succ i=>simp only [List.getElem?_cons_succ] at hq;exact g2 i q hq
theorem zJQ (w:World) (o:Obj) {k:Nat} (h:k<w.heap.size):(w.alloc o).heap[k]? = w.heap[k]?:=by
 simp only [World.alloc]
 rw [Array.getElem?_push,if_neg (by omega)]
theorem zSn {val:Nat→Value} (zE1:P.follows .mixedOrders=true) (jE:zGb P orc) (hnm:zEJ P) (qj:zMB P yo) {t:Nat} {ps:Array Tmp} {ca cb:Code} {x:X} (jH:zCC P nt (.rangeFunc (.tmp t) ps ca cb)=true) (hG:FrB w0 U Φ0 nt val a w e)
    (h:zGN nt yo zB5 (zJ9 P H orc yo zB5 nt hh m) t ps.toList ca cb e=some (x,e')):(Code.rangeFunc (.tmp t) ps ca cb).wpIn (FF none) 0 P (fun ex a' w'=>ex=x.exit∧GB w0 U Φ0 nt val a' w' e' none) a w:=by
  have w5:zAb=1000000000:=rfl
  have hhh:zAm=50000000:=rfl
  simp only [zCC,Bool.and_eq_true] at jH
  obtain ⟨⟨⟨⟨⟨gv,y7⟩,LG⟩,LH⟩,LI⟩,LJ⟩:=jH
  have gv:t<nt:=zB1 gv
  have y7:∀ t∈ps.toList,t<nt:=fun t ht=>zB1 (List.all_eq_true.1 y7 t ht)
  obtain ⟨w1,U1,Φ1,ds,qD,vX,Φ,rv,E,L,S,hb⟩:=hG
  have jv:=S.small
  simp only [zGN] at h
  cases yO:zDF e t with
  | none=>rw [yO] at h;cases h
  | some cl =>
    obtain ⟨gf,first,caps,R⟩:=cl
    rw [yO] at h;simp only at h
    obtain ⟨plan,k0,res,hplan,qE,y9,hx⟩:∃ (plan:List (List PV)) (k0:Int) (res:Option (Nat×X)×Env),(∀ i,yo gf first i caps k0=some plan)∧zC6 nt (zJ9 P H orc yo zB5 nt hh m) ps.toList ca cb R (ps.toList++zBN ca++zBN cb) plan e 0=some res ∧
        ((res.1=none∧k0 = -1)∨∃ r,res.1=some (plan.length,r)∧k0=plan.length)∧((res.1=none∧x = .norm)∨∃ j,res.1=some (j,x))∧e'=res.2:=by
      cases uT:zB5 fun i=>yo gf first i caps (-1) with
      | none=>rw [uT] at h;cases h
      | some xs =>
        rw [uT] at h;simp only at h
        split at h
        · rename_i e1 hr
          cases h
          exact ⟨xs,-1,_,zJz uT,hr,.inl ⟨rfl,rfl⟩,.inl ⟨rfl,rfl⟩,rfl⟩
        · rename_i j x1 e1 hr
          cases gc:zB5 fun i=>yo gf first i caps j with
          | none=>rw [gc] at h;cases h
          | some ys =>
            rw [gc] at h;simp only at h
            split at h
            · rename_i j' r e2 vc
              split at h
              · rename_i hj
                cases h
                exact ⟨ys,j,_,zJz gc,vc,.inr ⟨x,by rw [hj.1,hj.2],by rw [hj.2]⟩,.inr ⟨j',rfl⟩,rfl⟩
              · cases h
            · cases h
        · cases h
    obtain ⟨hx,rfl⟩:=hx
    refine wpIn_rangeFunc ?_
    intro fn _
    obtain ⟨rc,kC⟩:∃ rc:Go.Loop,rc={state := .ready,pending:=none,fn,tmps:=a.tmps,params:=ps,assign:=ca,body:=cb,defers:=w.heap.size}:=⟨_,rfl⟩
    obtain ⟨w2,vb⟩:∃ w2,(w.alloc (.deferred (some []))).alloc (.loop rc)=w2:=⟨_,rfl⟩
    have hsz2:w2.heap.size=w.heap.size+2:=by rw [← vb];simp
    have qh:∀ b,b<w.heap.size→w2.heap[b]? = w.heap[b]?:=fun b hb=>by
      rw [← vb];exact (zJQ _ _ (by simp;omega)).trans (zJQ _ _ hb)
    have h2D:w2.heap[w.heap.size]? = some (.deferred (some [])):=by
      rw [← vb];exact (zJQ _ _ (by simp)).trans (World.alloc_heap_new w _)
    have h2l:w2.heap[w.heap.size+1]? = some (.loop rc):=by
      rw [← vb];have:=World.alloc_heap_new (w.alloc (.deferred (some []))) (.loop rc);rwa [World.size_alloc] at this
    have wJ:w2.os=w.os∧w2.tape=w.tape∧w2.output=w.output:=by rw [← vb];exact ⟨rfl,rfl,rfl⟩
    obtain ⟨kJ,uT,wN⟩:=qj gf first (w.heap.size+1) caps k0 plan (hplan _)
    obtain ⟨fn',kP,yT⟩:=kJ
    have hΨs:∀ b,(Φ b∨∃ r∈R,b∈L r)→b<w.heap.size:=fun b hb=>hb.elim (fun h=>(S.conf.frz b h).1) (fun ⟨r,_,h⟩=>(S.conf.own r b h).1)
    obtain ⟨fs,cs,hv,vk,j3⟩:=zPI S gv yO (Ψ:=fun b=>Φ b∨∃ r∈R,b∈L r) (fun b hb => .inl hb) (fun r hr b hb => .inr ⟨r,hr,hb⟩)
    have uG:a.eval (.tmp t) = .func (.func gf) fs cs:=by
      show a.tmps.getD t undef=_
      rw [S.tmps t gv,hv]
    refine ⟨w.heap.size+1,[{target := .collected w.heap.size,args:=#[]}],w2,{target := .fn (.func gf) cs,args:=fs++#[.func (.yield (w.heap.size+1)) #[] #[]]},w2,gf,(fs++#[.func (.yield (w.heap.size+1)) #[] #[]])++cs,w2,?_,?_,?_,?_,fun h=>(by cases h),?_⟩
    · rw [← vb,kC];exact run_enterLoop_outer _ _ _ _ _
    · simp only [Go.resolve,uG,Deferred.ofValue]
      simp [Sem.run_pure,Act.eval]
    · intro f' _;trivial
    · have hn:=hnm gf fn' kP
      have wW:¬ fn'.body=none:=by intro hb;rw [hb] at yT;cases yT
      have vp : ¬ fn'.name = "runtime.NumGoroutine" := by simpa using hn
      simp [invoke,callFunc,kP,wW,vp]
    ·
      have yL:zAX w2 (fun b=>Φ b∨∃ r∈R,b∈L r) zCb (first++PV.yld (w.heap.size+1)::caps) (fs.toList ++ .func (.yield (w.heap.size+1)) #[] #[]::cs.toList) []:=by
        have hs:zDm w w2 (fun b=>Φ b∨∃ r∈R,b∈L r) (fun b=>Φ b∨∃ r∈R,b∈L r):=fun b hb=>⟨hb,qh b (hΨs b hb)⟩
        have h1:=vk.mono hs (fun _ _ _ h=>h) (by simp)
        have h2:=j3.mono hs (fun _ _ _ h=>h) (by simp)
        have h3:zAX w2 (fun b=>Φ b∨∃ r∈R,b∈L r) zCb (PV.yld (w.heap.size+1)::caps) (.func (.yield (w.heap.size+1)) #[] #[]::cs.toList) []:=⟨_,_,[],[],rfl,rfl,⟨rfl,rfl⟩,h2⟩
        have:=h1.append h3
        simpa using this
      obtain ⟨hZ,kD⟩:=zLk yL
      obtain ⟨vs,yg⟩:∃ vs:Array Value,vs=(fs++#[.func (.yield (w.heap.size+1)) #[] #[]])++cs:=⟨_,rfl⟩
      have jr:vs.toList=fs.toList ++ .func (.yield (w.heap.size+1)) #[] #[]::cs.toList:=by rw [yg];simp
      obtain ⟨args,hargs_⟩:∃ args,first++PV.yld (w.heap.size+1)::caps=args:=⟨_,rfl⟩
      rw [hargs_] at kD hZ wN uT
      rw [← jr] at kD hZ
      have hvz:vs.size=args.length:=by rw [← hZ];simp
      have hdp:∀ t∈ps.toList,t∈ps.toList++zBN ca++zBN cb:=fun t ht=>by simp [ht]
      have v8:∀ d∈zBN ca,d∈ps.toList++zBN ca++zBN cb:=fun t ht=>by simp [ht]
      have hdb:∀ d∈zBN cb,d∈ps.toList++zBN ca++zBN cb:=fun t ht=>by simp [ht]
      have hw1:=S.conf.size
      have qF:=zRO (hv:=⟨val,{target := .collected w.heap.size,args:=#[]}::ds⟩) (aM:={a with defers:=[{target := .collected w.heap.size,args:=#[]}]++a.defers}) (w0:=w1) (U:=U1) (Φ0:=Φ1) (rv:=rv) (yo:=yo) (al:=zB5) (hh:=hh) (m:=m) (H:=H) zE1 jE hnm y7 LG LH LI LJ hdp v8 hdb
        (l:=w.heap.size+1) (D:=w.heap.size) (size2:=w2.heap.size) (rc:=rc) (by rw [kC]) (by rw [kC]) (by rw [kC]) (by rw [kC]) (by rw [kC]) (by rw [kC]) (by omega) (by omega) (by omega) (by omega) (by omega) (Φs:=Φ) (Ls:=L) (R:=R) (plan:=plan) (k0:=k0) (res:=res) y9
      have p1:∀ s,zAb≤s→(zA5 args []).get s = .bad:=fun s hs=>by
        rw [zDg (by omega),if_neg (by omega),if_neg (by simp only [List.length_nil];omega)]
      have p2:Conf w2 (fun b=>∃ s,b∈((fun _=>[]):Nat→List Nat) s) (fun b=>Φ b∨∃ r∈R,b∈L r) w2 (fun b=>Φ b∨∃ r∈R,b∈L r) (fun s=>(vs[s]?).getD undef) (fun s=>(zA5 args []).get s) (fun _=>[]):=by
        refine ⟨fun s=>?_,fun _=>List.nodup_nil,fun _ _ _ _ h=>(by cases h),fun _ _ h=>(by cases h),fun b hb=>⟨by have:=hΨs b hb;omega,.inl hb⟩,fun _ h=>h,Nat.le_refl _,fun _ _ _=>rfl,rfl,rfl,rfl⟩
        show Rep _ _ _ ((zA5 args []).get s) _ _
        rw [zDg (by omega)]
        by_cases h1:s<args.length
        · rw [if_pos h1]
          obtain ⟨v,uI,ka⟩:=kD s args[s] (List.getElem?_eq_getElem h1)
          have:vs[s]? = some v:=by rw [← Array.getElem?_toList];exact uI
          rw [this]
          simp only [List.getD,List.getElem?_eq_getElem h1,Option.getD_some]
          exact ka.mono (fun b hb=>⟨hb,rfl⟩) (fun _ _ _ h=>h.elim) (by simp)
        · rw [if_neg h1,if_neg (by simp only [List.length_nil];omega)]
          rfl
      have p3:∀ j,j<args.length→vs[j]? = some ((vs[j]?).getD undef):=fun j hj=>by rw [Array.getElem?_eq_getElem (by omega)];rfl
      have p4:∀ s,args.length≤s→s<zAm→(vs[s]?).getD undef=undef:=fun s hs _=>by rw [Array.getElem?_eq_none (by omega)];rfl
      have ke:∀ s,∀ b∈L s,b<w.heap.size:=fun s b hb=>(S.conf.own s b hb).1
      have hΦo:∀ b,Φ b→b<w.heap.size:=fun b hb=>(S.conf.frz b hb).1
      have hC2:Conf w1 U1 Φ1 w2 Φ rv E L:=S.conf.moved (by omega) (fun s b hb=>qh b (ke s b hb)) (fun b hb=>qh b (hΦo b hb)) (fun b hb _=>qh b (by omega)) wJ
      have hSide:Side w1 U1 Φ1 nt ⟨val,{target := .collected w.heap.size,args:=#[]}::ds⟩ {a with defers:=[{target := .collected w.heap.size,args:=#[]}]++a.defers} rv (w.heap.size+1) w.heap.size w2.heap.size rc Φ L R w2 e Φ E L (fun b=>b<w2.heap.size):=by
        refine ⟨⟨hC2,S.env,S.size,S.small,S.tmps,S.parts,S.hid,by simp [S.dfr]⟩,hb,h2l,h2D,fun s h=>?_,fun s h=>?_,fun h=>?_,fun h=>?_,fun s b hb=>?_,fun b hb=>?_,fun b hb=>hb,fun b hb=>hb,fun b hb=>hb,fun r _=>rfl⟩
        · have:=ke s _ h;omega
        · have:=ke s _ h;omega
        · have:=hΦo _ h;omega
        · have:=hΦo _ h;omega
        · have:=ke s b hb;show b<w2.heap.size;omega
        · have:=hΦo b hb;show b<w2.heap.size;omega
      have kQ:=wN _ _ _ qF w2 (fun b=>Φ b∨∃ r∈R,b∈L r) (fun s=>(vs[s]?).getD undef) (fun s=>(zA5 args []).get s) (fun _=>[]) vs (fun b=>b<w2.heap.size) (fun _ _=>rfl) p1 p2 hvz p3 p4
        ⟨plan,e,Φ,E,L,rfl,qE,hSide⟩ (fun _ _ _=>by simp) (fun b hb => .inl hb)
      rw [yg] at kQ
      refine kQ.mono fun en w3 ⟨⟨v,ut⟩,hend⟩=>?_
      subst ut
      have behind:∀ (rc3:Go.Loop) (e3:Env) (Φ3:Nat→Prop) (E3:Nat→PV) (L3:Nat→List Nat),w3.heap[w.heap.size+1]? = some (.loop rc3)→rc3.state ≠ .busy→w3.heap[w.heap.size]? = some (.deferred (some []))→(∀ s,w.heap.size+1∉L3 s)→(∀ s,w.heap.size∉L3 s)→¬ Φ3 (w.heap.size+1)→¬ Φ3 w.heap.size →
          St w1 U1 Φ1 nt ⟨val,{target := .collected w.heap.size,args:=#[]}::ds⟩ {a with defers:=[{target := .collected w.heap.size,args:=#[]}]++a.defers} w3 e3 Φ3 rv E3 L3→zBo E3 →
          ∃ w4,(Instr.endLoop (w.heap.size+1)).run P w3 = .ok rc3.pending w4∧GB w0 U Φ0 nt val {a with defers:=[{target := .collected w.heap.size,args:=#[]}]++a.defers} w4 e3 none:=by
        intro rc3 e3 Φ3 E3 L3 vM yJ qk hlL hdL hlΦ hdΦ S3 qb
        obtain ⟨w4,hw4⟩:∃ w4,w3.putObj (w.heap.size+1) (.loop {rc3 with state := .exhausted})=w4:=⟨_,rfl⟩
        have qi:∀ b,b≠w.heap.size+1→w4.heap[b]? = w3.heap[b]?:=fun b hb=>by rw [← hw4];exact World.putObj_heap_other hb
        have h4s:w4.heap.size=w3.heap.size:=by rw [← hw4];simp
        have wK:w4.os=w3.os∧w4.tape=w3.tape∧w4.output=w3.output:=by rw [← hw4];exact ⟨rfl,rfl,rfl⟩
        have hC4:Conf w1 U1 Φ1 w4 Φ3 rv E3 L3:=S3.conf.moved (by omega) (fun s b hb=>qi b fun h=>hlL s (h▸hb)) (fun b hb=>qi b fun h=>hlΦ (h▸hb)) (fun b hb _=>qi b (by omega)) wK
        have hdw:w.heap.size<w3.heap.size:=(Array.getElem?_eq_some_iff.1 qk).1
        have hsz4:=hC4.size
        refine ⟨w4,by rw [← hw4];exact run_endLoop vM yJ,rfl,w4,_,Φ3,{target := .collected w.heap.size,args:=#[]}::ds,qD.trans hC4.rel,⟨fun d hd=>?_,?_⟩,Φ3,rv,E3,L3,S3.with hC4.fresh,qb⟩
        · rcases List.mem_cons.1 hd with rfl | hd
          · exact ⟨_,rfl,by have:=qD.size;omega,by omega,(qi _ (by omega)).trans qk,fun ⟨s,hs⟩=>hdL s hs,hdΦ⟩
          · obtain ⟨D,q1,q0,q2,q3,q4,q5⟩:=vX.each d hd
            refine ⟨D,q1,q0,by omega,(hC4.kept D q2 q4).trans q3,fun ⟨s,hs⟩=>?_,fun h=>?_⟩
            · rcases (hC4.own s D hs).2.2 with h | h
              · exact q4 h
              · omega
            · rcases (hC4.frz D h).2 with h | h | h
              · exact q5 h
              · exact q4 h
              · omega
        · refine List.pairwise_cons.2 ⟨fun d hd D D' h1 h2=>?_,vX.apart⟩
          obtain ⟨D2,q1,_,q2,_⟩:=vX.each d hd
          rw [h2] at q1;cases q1;cases h1
          omega
      rcases hend with ⟨hk,B',rest,e3,Φ3,E3,L3,r1,r2,S3⟩ | ⟨hk,r,Φ3,E3,L3,⟨j,r1⟩,r2,S3⟩
      · have:rest=[]:=by simpa using r1
        subst this
        simp only [zC6,Option.some.injEq] at r2
        subst r2
        have gY:x = .norm:=by
          rcases hx with ⟨_,h⟩ | ⟨j,h⟩
          · exact h
          · cases h
        subst gY
        obtain ⟨w4,g1,g2⟩:=behind rc e3 Φ3 E3 L3 S3.recd (by rw [kC];simp) S3.mark S3.lL S3.dL S3.lΦ S3.dΦ S3.st S3.emp
        rw [show rc.pending=none by rw [kC]] at g1
        exact ⟨none,w4,g1,rfl,g2⟩
      · have vh:x=r:=by
          rcases hx with ⟨h,_⟩ | ⟨j',h⟩
          · rw [h] at r1;cases r1
          · rw [h] at r1;cases r1;rfl
        subst vh
        obtain ⟨w4,g1,g2⟩:=behind _ _ Φ3 E3 L3 S3.recd (by simp) S3.mark S3.lL S3.dL S3.lΦ S3.dΦ S3.st S3.emp
        refine ⟨_,w4,g1,?_⟩
        cases x with
        | norm=>cases r2
        | ret=>exact wpIn_ret ⟨rfl,g2⟩
        | ex id=>exact wpIn_exit ⟨rfl,g2⟩
theorem zWS {val:Nat→Value} (zE1:P.follows .mixedOrders=true) (jE:zGb P orc) (hnm:zEJ P) (qj:zMB P yo):zEb P H orc yo zB5 nt hh none 0 (GB w0 U Φ0 nt val) m:=by
 intro m' _ t ps ca cb a w e x e' jH hG h
 simp only [exec] at h
 obtain ⟨⟨x1,e1⟩,h1,h2⟩:=Option.map_eq_some_iff.1 h
 simp only [Option.some.injEq,Prod.mk.injEq,and_true] at h2
 obtain ⟨rfl,rfl⟩:=h2
 exact zSn zE1 jE hnm qj jH hG.2 h1
end
end Go.Eng
