/- No cry at a stand that is offered mends two of the gaps that are apart, so that there are never more of them than further cries are needed; each other gap is mended by a cry that mends one of them; a gap is stuck just if none of these stands is jM near enough to its jN; and with all stands none is; for every list of numbers, evening and stands. -/
import Derived.Test.YtppbomajegnkeaaGreatPb
import Derived.MapKept
import Derived.OrdersIn
import Derived.LoopNIn
import Derived.RangeFuncRecord
import Derived.RangeFuncLeaves
import Derived.RangeFuncSeq
set_option linter.unusedVariables false
set_option linter.unusedSimpArgs false
set_option linter.unusedSectionVars false
open Nat (beq ble blt)
open List (map replicate take drop range length filter)
open Go.Eng.PV (own agg addr func sl bor tup omap bad bool int)
namespace Go.Eng
open Go
section
variable {P:Program} {w0 w:World} {U Φ0 Φ:Nat->Prop} {nt:Nat} {hv:Hid} {a:Act} {e e':Env} {rv:Nat->Value} {E:Nat->PV} {L:Nat->LN} {o:zAK} {A:Al}
theorem zQp {empty:Bool} {n:Nat} {ok:TypeId->PV->Bool} {p:PV} {xs:Array Value} (hp:Rep w Φ A p (.agg xs) [])
    (hd:∀ t p x,ok t p=true->Rep w Φ A p x []->(Instr.checkKey empty n t x).run P w = .ok () w) :
    ∀ (fs:List Field),zU1 ok (shT P) p fs=true->((forIn fs () fun f _=>do
      if f.name ≠ "_" then
        Instr.checkKey empty n f.type (<- part f.type xs f.offset)
        pure (.yield ())
      else pure (.yield ()):Sem Unit)).run P w = .ok () w
  |[],_=>by simp
  | f :: fs,h=>by
    simp only [zU1,bb] at h;have ih:=zQp hp hd fs h.2;simp only [iH,bo];by_cases hn : f.name = "_"
    · simp only[hn,ne_eq,not_true_eq_false,if_false,bA,bh];exact ih
    · have h1:=h.1;rw[if_neg hn] at h1;rw[if_pos hn]
      cases hs:shT P f.type with
      |none=>rw[hs] at h1;cases h1
      | some sh =>
        rw[hs] at h1;simp only at h1
        cases yX:sub p f.offset sh with
        |none=>rw[yX] at h1;cases h1
        | some q =>
          rw[yX] at h1;simp only at h1;obtain⟨u,h3,h4⟩:=zFL hs hp yX;simp only[bo,h3,bh,hd _ _ _ h1 h4,bA];exact ih
theorem zPz{empty:Bool}{n:Nat}{ok:PV->Bool}{el:TypeId}{sh:ON}{i:TypeInfo}(hs:shT P el=some sh)(hi:P.info? el=some i){p:PV}{xs:Array Value}(hp:Rep w Φ A p (.agg xs) [])
  (hd:∀ p x,ok p=true->Rep w Φ A p x []->(Instr.checkKey empty n el x).run P w = .ok () w) :
  ∀ (m k:Nat),zVN ok sh i.size p k m=true->((forIn (List.range' k m 1) () fun j _=>do
   Instr.checkKey empty n el (<- part el xs (j*(<- sizeOf el)))
   pure (.yield ()):Sem Unit)).run P w = .ok () w
 |0,k,_=>by simp
 | m + 1,k,h=>by
  simp only[zVN,bb] at h;have ih:=zPz (empty:=empty) hs hi hp hd m (k+1) h.2;have h1:=h.1;simp only[fk,iH,bo]
  cases yX:sub p (k*i.size) sh with
  |none=>rw[yX] at h1;cases h1|some q=>
   rw[yX] at h1;simp only at h1;obtain⟨u,h3,h4⟩:=zFL hs hp yX;simp only[zA7 hi,bh,h3,hd _ _ h1 h4,bA];exact ih
theorem zJy{empty:Bool}:∀ (n d:Nat) (t:TypeId) (p:PV) (x:Value),n<=d->zPQ P n t p=true->Rep w Φ A p x []->(Instr.checkKey empty d t x).run P w = .ok () w
 |0,d,t,p,x,_,h,_=>by cases h|n+1,0,t,p,x,hd,h,_=>by omega
 | n + 1,d+1,t,p,x,hd,h,hp=>by
  have yS:n<=d:=by omega
  simp only[zPQ] at h;split at h
  ·rename_i ht;rw[hp.1];simp[Instr.checkKey,run_underlying ht]
  ·rename_i ht;rw[hp.1];simp[Instr.checkKey,run_underlying ht]
  ·rename_i fs xs ht;obtain⟨vs,rfl,jp⟩:=hp;have:=zQp (empty:=empty) (n:=d) (p := .agg xs) ⟨vs,rfl,jp⟩ (fun t p x h1 h2=>zJy n d t p x yS h1 h2) fs.toList h;simp only[Instr.checkKey,bo,run_underlying ht,bh];simp only[ne_eq,ite_not] at this ⊢;simp at this ⊢;rw[this];rfl
  ·rename_i len el xs ht;split at h
   ·rename_i sz sh yI jg;obtain⟨vs,rfl,jp⟩:=hp;obtain⟨i,hi,_⟩:=zFe (w:=w) jg;have gb:i.size=sz:=by simp only[szT,hi,bv,ba] at yI;exact yI
    subst gb;have:=zPz (empty:=empty) (n:=d) (p := .agg xs) jg hi ⟨vs,rfl,jp⟩ (fun p x h1 h2=>zJy n d el p x yS h1 h2) len 0 h;simp only[Instr.checkKey,bo,run_underlying ht,bh,fw,Std.Legacy.Range.size,dw,dP,Nat.div_one];simp at this ⊢;rw[this];rfl
   ·cases h
  ·cases h
theorem zLa{kt:TypeId}{d:TypeDesc}{kv:Value}(hd:P.underlying kt=some d):∀ {ms:List MapEntry} {i:Nat},(∀ x y,Instr.sameNow d x y=none)->Instr.findNow d kv ms i=none\/ms=[]
 |[],_,_=>.inr rfl|m::ms,i,h=>.inl (by simp only[Instr.findNow,h])
theorem zDD{kt:TypeId}{key:PV}{kv:Value}(hk:Rep w Φ A key kv []):∀ (es:List (PV×PV)) (ms:List MapEntry) (i:Nat) (r:ON),zCh P kt key es i=some r->zD5 w Φ es ms i ->
  (Instr.findAsking kt kv ms i).run P w = .ok (r.bind fun j=>(ms[j-i]?).map fun m=>(j,m.val)) w/\∀ j,r=some j->i<=j/\j-i<ms.length/\∃ k v m,es[j-i]? = some (k,v)/\ms[j-i]? = some m/\zEn key.cells k.cells=some true/\Rep w Φ zCm k m.key []/\Rep w Φ zCm v m.val []/\m.born=j
 |[],ms,i,r,h,hm=>by
  simp only[zCh,ba] at h;subst h;simp only[zD5] at hm;subst hm;exact⟨rfl,fun j hj=>by cases hj⟩
 | (k, p)::es,ms,i,r,h,hm=>by
  obtain⟨m,ms',rfl,hb,h1,h2,h3⟩:=hm;have jd:Rep w Φ A k m.key []:=h1.mono zDq.refl (fun _ _ _ h=>h.elim) (by simp);simp only[zCh] at h;split at h
  ·rename_i he;split at h
   ·rename_i hc;simp only[ba] at h;subst h;have:=zLn 20 kt key k true kv m.key Op.maxDepth (by decide) he hk jd;refine⟨?_,fun j hj=>?_⟩
    ·simp[Instr.findAsking,Op.equal,this]
    ·cases hj;exact⟨bf _,by simp,k,p,m,by simp,by simp,hc,h1,h2,hb⟩
   ·cases h
  ·rename_i he;have:=zLn 20 kt key k false kv m.key Op.maxDepth (by decide) he hk jd;obtain⟨g1,g2⟩:=zDD hk es ms' (i+1) r h h3;refine⟨?_,fun j hj=>?_⟩
   ·simp only[Instr.findAsking,Op.equal,bo,this,bh,bp,if_false,g1]
    cases r with
    |none=>rfl|some j=>
     obtain⟨k1,k2,_⟩:=g2 j rfl;simp only[bc];rw[show j-i=(j-(i+1))+1 by omega];simp
   ·obtain⟨k1,k2,k',v',m',k3,k4,k5⟩:=g2 j hj;have vI:j-i=(j-(i+1))+1:=by omega
    refine⟨by omega,by rw[vI];simp;omega,k',v',m',by rw[vI];simpa using k3,by rw[vI];simpa using k4,k5⟩
  ·cases h
theorem zJo{kt:TypeId}{k:IntKind}{n:Int}{key:PV}{kv:Value}(hd:∃ k0,P.underlying kt=some (.int k0))(qa:kv = .int k n)(y1:key = .int k n):∀ (es:List (PV×PV)) (ms:List MapEntry) (i:Nat) (r:ON),zCh P kt key es i=some r->zD5 w Φ es ms i ->
  ∀ k0,Instr.findNow (.int k0) kv ms i=some (r.bind fun j=>(ms[j-i]?).map fun m=>(j,m.val))
 |[],ms,i,r,h,hm,_=>by
  simp only[zCh,ba] at h;subst h;simp only[zD5] at hm;subst hm;rfl
 | (q, p)::es,ms,i,r,h,hm,k0=>by
  obtain⟨k1,hd⟩:=hd;obtain⟨m,ms',rfl,hb,h1,h2,h3⟩:=hm;simp only[zCh] at h;have hq:∀ b,eqT P 20 kt key q=some b->∃ n',q = .int k n'/\b=(n==n'):=by
   intro b he;rw[y1] at he;simp only[eqT,hd] at he;cases q<;>simp only at he<;>try (cases he;done)
   split at he
   ·rename_i wx;subst wx;cases he;exact⟨_,rfl,rfl⟩
   ·cases he
  split at h
  ·rename_i he;obtain⟨n',rfl,hn⟩:=hq _ he;split at h
   ·simp only[ba] at h;subst h;simp only[Instr.findNow,h1.1,qa,Instr.sameNow,if_true,<- hn];simp
   ·cases h
  ·rename_i he;obtain⟨n',rfl,hn⟩:=hq _ he;have g1:=zJo ⟨k1,hd⟩ qa y1 es ms' (i+1) r h h3 k0;simp only[Instr.findNow,h1.1,qa,Instr.sameNow,if_true,<- hn];rw[qa] at g1;rw[g1]
   cases r with
   |none=>rfl|some j=>
    obtain⟨k1,_⟩:=(zDD (P:=P) (A:=zCm) (key:=key) (kv := .int k n) (by rw[y1];exact⟨rfl,rfl⟩) es ms' (i+1) (some j) h h3).2 j rfl;simp only[bc];rw[show j-i=(j-(i+1))+1 by omega];simp
  ·cases h
theorem zId{kt:TypeId}{n:Bool}{key:PV}{kv:Value}(hd:P.underlying kt=some .bool)(qa:kv = .bool n)(y1:key = .bool n):∀ (es:List (PV×PV)) (ms:List MapEntry) (i:Nat) (r:ON),zCh P kt key es i=some r->zD5 w Φ es ms i ->
  Instr.findNow .bool kv ms i=some (r.bind fun j=>(ms[j-i]?).map fun m=>(j,m.val))
 |[],ms,i,r,h,hm=>by
  simp only[zCh,ba] at h;subst h;simp only[zD5] at hm;subst hm;rfl
 | (q, p)::es,ms,i,r,h,hm=>by
  obtain⟨m,ms',rfl,hb,h1,h2,h3⟩:=hm;simp only[zCh] at h;have hq:∀ b,eqT P 20 kt key q=some b->∃ n',q = .bool n'/\b=(n==n'):=by
   intro b he;rw[y1] at he;simp only[eqT,hd] at he;cases q<;>simp only at he<;>try (cases he;done)
   cases he;exact⟨_,rfl,rfl⟩
  split at h
  ·rename_i he;obtain⟨n',rfl,hn⟩:=hq _ he;split at h
   ·simp only[ba] at h;subst h;simp only[Instr.findNow,h1.1,qa,Instr.sameNow,<- hn];simp
   ·cases h
  ·rename_i he;obtain⟨n',rfl,hn⟩:=hq _ he;have g1:=zId hd qa y1 es ms' (i+1) r h h3;simp only[Instr.findNow,h1.1,qa,Instr.sameNow,<- hn];rw[qa] at g1;rw[g1]
   cases r with
   |none=>rfl|some j=>
    obtain⟨k1,_⟩:=(zDD (P:=P) (A:=zCm) (key:=key) (kv := .bool n) (by rw[y1];exact⟨rfl,rfl⟩) es ms' (i+1) (some j) h h3).2 j rfl;simp only[bc];rw[show j-i=(j-(i+1))+1 by omega];simp
  ·cases h
theorem zH6{kt:TypeId}{key:PV}{kv:Value}(ht:zPQ P 20 kt key=true)(hk:Rep w Φ A key kv []){es:List (PV×PV)}{ms:List MapEntry}{r:ON}(h:zCh P kt key es 0=some r)(hm:zD5 w Φ es ms 0) :
  (Instr.findKey kt kv ms).run P w = .ok (r.bind fun j=>(ms[j]?).map fun m=>(j,m.val)) w:=by
 have h1:=(zDD hk es ms 0 r h hm).1;simp only[dw] at h1;simp only[zPQ] at ht;split at ht
 ·rename_i k0 k n hd;have h2:=zJo (key := .int k n) ⟨_,hd⟩ hk.1 rfl es ms 0 r h hm k0;simp only[dw] at h2;simp only[Instr.findKey,bo,run_underlying hd,bh,h2,bA]
 ·rename_i b hd;have h2:=zId (key := .bool b) hd hk.1 rfl es ms 0 r h hm;simp only[dw] at h2;simp only[Instr.findKey,bo,run_underlying hd,bh,h2,bA]
 ·rename_i fs xs hd;simp only[Instr.findKey,bo,run_underlying hd,bh];rcases zLa (kv:=kv) hd (ms:=ms) (i:=0) (fun x y=>by simp[Instr.sameNow]) with h2|rfl
  ·rw[h2];exact h1
  ·simp only[Instr.findNow,bA];rw[<- h1];rfl
 ·rename_i len el xs hd;simp only[Instr.findKey,bo,run_underlying hd,bh];rcases zLa (kv:=kv) hd (ms:=ms) (i:=0) (fun x y=>by simp[Instr.sameNow]) with h2|rfl
  ·rw[h2];exact h1
  ·simp only[Instr.findNow,bA];rw[<- h1];rfl
 ·cases ht
theorem zN0{p:PV}{v:Value}(h:Rep w Φ A p v []):Rep w Φ A (zJ0 p) v []:=by
 unfold zJ0;split
 ·rcases h with⟨_,_,rfl⟩|⟨a,n,c,us,L',h,_⟩
  ·exact⟨rfl,.inl ⟨rfl,none,0,rfl,fun _=>rfl⟩⟩
  ·cases h
 ·exact h
theorem zMZ{p:PV}{v:Value}{M:LN}(hp:p.lone0=true)(h:Rep w Φ A p v M):M=[]/\Rep w Φ zCm p v []:=by
 cases p<;>first|(cases hp;done)|skip
 case int=>exact⟨h.2,h.1,rfl⟩
 case bool=>exact⟨h.2,h.1,rfl⟩
 case nilp=>exact⟨h.2,h.1,rfl⟩
 case nilf=>exact⟨h.2,h.1,rfl⟩
 case nilm=>exact⟨h.2,h.1,rfl⟩
 case nn=>exact⟨h.1,rfl,h.2⟩
 case nils=>exact⟨h.2,h.1,rfl⟩
 case sl=>exact⟨h.1,rfl,h.2⟩
 case map=>exact⟨h.1,rfl,h.2⟩
theorem zK1:∀ {ps:List PV} {vs:List Value} {M:LN},ps.all PV.lone0=true->zA8 w Φ A ps vs M->M=[]/\zA8 w Φ zCm ps vs []
 |[],vs,M,_,h=>⟨h.2,h.1,rfl⟩|p::ps,vs,M,hp,h=>by
  simp only[cF,bb] at hp;obtain⟨v,vs',L1,L2,rfl,rfl,h1,h2⟩:=h;obtain⟨rfl,h3⟩:=zMZ hp.1 h1;obtain⟨rfl,h4⟩:=zK1 hp.2 h2;exact⟨rfl,v,vs',[],[],rfl,rfl,h3,h4⟩
theorem zHj{p:PV}{v:Value}{M:LN}(hp:p.lone=true)(h:Rep w Φ A p v M):M=[]/\Rep w Φ zCm p v []:=by
 cases p<;>first|exact zMZ hp h|skip
 obtain⟨vs,rfl,h⟩:=h;obtain⟨rfl,h2⟩:=zK1 hp h;exact⟨rfl,vs,rfl,h2⟩
theorem zKV(S:St w0 U Φ0 nt hv a w e Φ rv E L)(hb:zBs E){d:ON}(hd:∀ x,d=some x->x<nt){p:PV}{v:Value}{b:Bool}(hp:Rep w Φ zCm p v [])(kR:p.lone=true)(h:(zDv d (.tup [p,.bool b])).run o e=some e') :
  Fr w0 U Φ0 nt hv (a.put d (.tuple #[v,.bool b])) w e':=by
 have jl:=S.small
 cases d with
 |none=>
  simp only[zDv] at h;exact zAC S hb hd h ⟨#[v,.bool b],rfl,v,[.bool b],[],[],rfl,rfl,hp.mono zDq.refl (fun _ _ _ h=>h.elim) (by simp),.bool b,[],[],[],rfl,rfl,⟨rfl,rfl⟩,rfl,rfl⟩
 | some d =>
  have uC:=hd d rfl;simp only[zDv] at h;obtain⟨kB,h⟩:=zAP h;simp only[PM.run] at h;simp only[bb] at kB;obtain⟨L1,S1⟩:=S.empty uC;have S2:=S1.hold (g:=zAa) (bf _) (hp.mono (A':=zBa w rv (upd E d .bad)) zDq.refl (fun _ _ _ h=>h.elim) (by simp));have S3:=S2.hold (g:=zAa+1) (by omega) (p := .bool b) (v := .bool b) ⟨rfl,rfl⟩;refine zFr uC (vs:=#[v,.bool b]) [p,.bool b] 0 S3 (fun ps hp=>?_) (by simp) (by simp) (fun j q hq=>?_) (fun g hg hI=>?_) (fun x hx=>?_) (fun j hj=>by omega) h
  ·rw[zAe (by simp only[zAa];omega),zAe (by simp only[zAa];omega),zAi] at hp;cases hp
  ·match j,hq with
   |0,hq=>
    simp at hq;subst hq;rw[show zAa+0+0=zAa from rfl];refine⟨by rw[zAe (by omega),zAi],?_⟩;rw[zAe (by omega),zAi];rfl
   |1,hq=>
    simp at hq;subst hq;rw[show zAa+0+1=zAa+1 from rfl];refine⟨by rw[zAi],?_⟩;rw[zAi];rfl
  ·have h0:=hI 0 (by simp);have h1:=hI 1 (by simp);rw[zAe (by omega),zAe (by omega)];by_cases gK:g=d
   ·subst gK;rw[zAi]
   ·rw[zAe gK];exact hb g hg
  ·simpa using bi.1 kB.2 x hx
theorem zLK(S:St w0 U Φ0 nt hv a w e Φ rv E L)(hb:zBs E){d:ON}(hd:∀ x,d=some x->x<nt){t kt el:TypeId}{z key:PV}{kv zv:Value}{ok:Bool}{es:List (PV×PV)}{ms:Array MapEntry}{mv:Value}(ht:P.underlying t=some (.map kt el))(vw:zPQ P 20 kt key=true)(hk:Rep w Φ (zBa w rv E) key kv [])
  (hz:(zeroValue el).run P w = .ok zv w) (qb:Rep w Φ zCm z zv []) (hzp:z.lone=true) (hm:zD5 w Φ es ms.toList 0) (vz:mv = .map none/\ms=#[]\/∃ b n,mv = .map (some b)/\w.heap[b]? = some (.map ms n))
  (h:(zKh P d kt z key ok es).run o e=some e'):∃ v,(Instr.lookup t mv kv ok).run P w = .ok v w/\Fr w0 U Φ0 nt hv (a.put d v) w e':=by
 simp only[zKh] at h
 cases hf:zCh P kt key es 0 with
 |none=>rw[hf] at h;cases h
 | some r =>
  rw[hf] at h;have y1:=zH6 vw hk hf hm;have wA:=zJy (empty:=ms.isEmpty) 20 10000 kt key kv (by decide) vw hk
  have yC:∀ v ok',(match(r.bind fun j=>(ms.toList[j]?).map fun m=>(j,m.val)) with
    |some (_,v)=>(v,true)|none=>(zv,false))=(v,ok')->(Instr.lookup t mv kv ok).run P w = .ok (if ok then .tuple #[v,.bool ok'] else v) w:=by
   intro v ok' he;revert he y1;generalize (r.bind fun j=>(ms.toList[j]?).map fun m=>(j,m.val))=q;intro y1 he;rcases vz with⟨rfl,rfl⟩|⟨b,n,rfl,yL⟩
   ·cases q with
    |none=>cases he;simp only[Instr.lookup,bo,run_underlying ht,bh,bA,wA,y1,hz]|some x=>cases he;simp only[Instr.lookup,bo,run_underlying ht,bh,bA,wA,y1]
   ·cases q with
    |none=>cases he;simp only[Instr.lookup,bo,run_underlying ht,bh,bA,dg yL,wA,y1,hz]|some x=>cases he;simp only[Instr.lookup,bo,run_underlying ht,bh,bA,dg yL,wA,y1]
  cases r with
  | none =>
   have:=yC zv false rfl;refine⟨_,this,?_⟩;simp only at h
   cases ok with
   |true=>exact zKV S hb hd qb hzp (by simpa using h)
   | false =>
    simp only[bp,if_false] at h ⊢;have h':(put d z).run o e=some e':=by
     revert h;cases d<;>simp only[zDv]<;>cases z<;>first|exact fun h=>h|(cases hzp;done)
    exact zAC S hb hd h' (qb.mono zDq.refl (fun _ _ _ h=>h.elim) (by simp))
  | some i =>
   obtain⟨_,_,k,v,m,h3,h4,_,_,h5,_⟩:=(zDD hk es ms.toList 0 (some i) hf hm).2 i rfl;simp only[dw] at h3 h4;have:=yC m.val true (by simp only[bc,h4,bv]);refine⟨_,this,?_⟩;simp only[h3] at h;obtain⟨hvp,h⟩:=zAP h
   cases ok with
   |true=>exact zKV S hb hd h5 hvp (by simpa using h)
   | false =>
    simp only[bp,if_false] at h ⊢;have h':(put d v).run o e=some e':=by
     revert h;cases d<;>simp only[zDv]<;>cases v<;>first|exact fun h=>h|(cases hvp;done)
    exact zAC S hb hd h' (h5.mono zDq.refl (fun _ _ _ h=>h.elim) (by simp))
theorem zL0(S:St w0 U Φ0 nt hv a w e Φ rv E L){r:Nat}{pre:zA4}{mv:Value}(hm:Rep w Φ (zBa w rv E) (.bmap r pre) mv []){es:List (PV×PV)}(hq:zAH (e.get r).unlock pre=some (.omap es)) :
  r<zAa/\∃ b ms,mv = .map (some b)/\w.heap[b]? = some (.map ms es.length)/\zD5 w Φ es ms.toList 0:=by
 obtain⟨_,hr,_,hn⟩:=hm;rw[<- S.env r hr] at hq;obtain⟨nv,La,Li,Lb,h1,_,h2,_⟩:=Rep.zip pre (zB9 (S.conf.rep r)) hq;obtain⟨b,ms,_,h3,h4,h5⟩:=h2;have:=hn nv _ h1 es rfl;exact⟨hr,b,ms,this.trans h3,h4,h5⟩
theorem zTZ(S:St w0 U Φ0 nt hv a w e Φ rv E L)(hb:zBs E){d:ON}(hd:∀ x,d=some x->x<nt){t:TypeId}{m x:Operand}{ok:Bool}(hm:zAZ nt m=true)(hx:zAZ nt x=true)(h:(zI3 P d t m x ok).run o e=some e') :
  ∃ v,(Instr.lookup t (a.eval m) (a.eval x) ok).run P w = .ok v w/\Fr w0 U Φ0 nt hv (a.put d v) w e':=by
 obtain⟨p,h1,hp⟩:=zBw S hm h;obtain⟨key,h2,hk⟩:=zBw S hx h1;split at h2
 ·rename_i kt el ht;obtain⟨vw,h3⟩:=zAP h2;obtain⟨z,hz,h4⟩:=zBJ h3;obtain⟨kj,h5⟩:=zAP h4;obtain⟨i,zv,_,_,uU,kd⟩:=zDN hz;have qb:=zN0 (zCq (w:=w) (Φ:=Φ) (A:=zCm) kd).1;cases p<;>simp only[zUz] at h5<;>try (cases h5;done)
  case nilm=>exact zLK S hb hd (ms:=#[]) (es:=[]) ht vw hk (uU w) qb kj (by simp[zD5]) (.inl ⟨hp.1,rfl⟩) h5
  case map es=>
   obtain⟨_,b,ms,q1,_,q2,q3⟩:=hp;exact zLK S hb hd ht vw hk (uU w) qb kj q3 (.inr ⟨b,_,q1,q2⟩) h5
  case bmap r pre=>
   obtain⟨q,hq,h6⟩:=zBP h5;cases q<;>simp only at h6<;>try (cases h6;done)
   rename_i es;obtain⟨_,b,ms,q1,q2,q3⟩:=zL0 S hp hq;exact zLK S hb hd ht vw hk (uU w) qb kj q3 (.inr ⟨b,_,q1,q2⟩) h6
 ·cases h2
theorem zHa:∀ {ps qs:List PV} {us vs:List Value} {A A':Al},ps.all PV.num=true->zEn ps qs=some true->zA8 w Φ A ps us []->zA8 w Φ A' qs vs []->us=vs/\∀ u∈us,∀ n,Instr.sameBits n u u=true
 |[],[],us,vs,A,A',_,_,h1,h2=>by rw[h1.1,h2.1];exact⟨rfl,by simp⟩|[],_::_,us,vs,A,A',_,h,_,_=>by cases h|p::ps,[],us,vs,A,A',_,h,_,_=>by cases h
 | p :: ps,q::qs,us,vs,A,A',hp,h,h1,h2=>by
  simp only[cF,bb] at hp;obtain⟨u,us',L1,L2,rfl,hL,h3,h4⟩:=h1;obtain⟨v,vs',M1,M2,rfl,hM,h5,h6⟩:=h2;obtain⟨rfl,rfl⟩:=dx.1 hL.symm;obtain⟨rfl,rfl⟩:=dx.1 hM.symm;simp only[zEn] at h
  cases wB:zZw p q with
  |none=>rw[wB] at h;cases h
  | some b1 =>
   rw[wB] at h
   cases yg:zEn ps qs with
   |none=>rw[yg] at h;cases h
   | some b2 =>
    rw[yg] at h;simp only[ba,bb] at h;obtain⟨rfl,rfl⟩:=h;obtain⟨ih1,ih2⟩:=zHa hp.2 yg h4 h6;have huv:u=v/\∀ n,Instr.sameBits n u u=true:=by
     cases p<;>first|(cases hp.1;done)|skip
     case int k n=>
      cases q<;>simp only[zZw] at wB<;>try (cases wB;done)
      split at wB
      ·rename_i hk;subst hk;simp only[ba,beq_iff_eq] at wB;subst wB;refine⟨h3.1.trans h5.1.symm,fun n=>?_⟩;rw[h3.1];cases n<;>simp[Instr.sameBits]
      ·cases wB
     case bool b=>
      cases q<;>simp only[zZw] at wB<;>try (cases wB;done)
      simp only[ba,beq_iff_eq] at wB;subst wB;refine⟨h3.1.trans h5.1.symm,fun n=>?_⟩;rw[h3.1];cases n<;>simp[Instr.sameBits]
    refine⟨by rw[huv.1,ih1],fun x hx n=>?_⟩;rcases bx.1 hx with rfl|hx
    ·exact huv.2 n
    ·exact ih2 x hx n
theorem zQt{p q:PV}{x y:Value}{A A':Al}(hp:p.flat=true)(h:zEn p.cells q.cells=some true)(h1:Rep w Φ A p x [])(h2:Rep w Φ A' q y [])(ha:q.isAgg=p.isAgg):x=y/\Instr.sameBits 10000 x x=true:=by
 cases p<;>first|(cases hp;done)|skip
 case agg cs=>
  cases q<;>first|(cases ha;done)|skip
  rename_i ds;obtain⟨us,rfl,h3⟩:=h1;obtain⟨vs,rfl,h4⟩:=h2;obtain⟨k1,k2⟩:=zHa (A:=A) (A':=A') hp h h3 h4;refine⟨by rw[Array.toList_inj.1 k1],?_⟩;simp only[Instr.sameBits,BEq.rfl,cy,bi];intro z hz;obtain⟨j,hj⟩:=cC hz;obtain⟨g1,g2⟩:=fA.1 hj;rw[g1] at g2;simp only[ba] at g2;rw[<- g2];exact k2 _ (bH g1) _
 case int k n=>
  cases q<;>first|(cases ha;done)|skip
  all_goals
   obtain⟨k1,k2⟩:=zHa (A:=A) (A':=A') (ps:=[.int k n]) rfl h ⟨_,[],[],[],rfl,rfl,h1,rfl,rfl⟩ ⟨_,[],[],[],rfl,rfl,h2,rfl,rfl⟩;exact⟨by simpa using k1,k2 _ (by simp) _⟩
 case bool b=>
  cases q<;>first|(cases ha;done)|skip
  all_goals
   obtain⟨k1,k2⟩:=zHa (A:=A) (A':=A') (ps:=[.bool b]) rfl h ⟨_,[],[],[],rfl,rfl,h1,rfl,rfl⟩ ⟨_,[],[],[],rfl,rfl,h2,rfl,rfl⟩;exact⟨by simpa using k1,k2 _ (by simp) _⟩
theorem zX3{n:Nat}{t:TypeId}{p q:PV}{b:Bool}(h:eqT P n t p q=some b):q.isAgg=p.isAgg:=by
 cases n with
 |zero=>cases h|succ n=>
  simp only[eqT] at h;split at h<;>first|rfl|(cases h;done)
theorem zJU{kt:TypeId}{key:PV}:∀ {es:List (PV×PV)} {i j:Nat},zCh P kt key es i=some (some j)->i<=j/\∃ k v,es[j-i]? = some (k,v)/\k.isAgg=key.isAgg
 |[],i,j,h=>by cases h
 | (k, v)::es,i,j,h=>by
  simp only[zCh] at h;split at h
  ·rename_i he;split at h
   ·simp only[ba] at h;subst h;exact⟨bf _,k,v,by simp,zX3 he⟩
   ·cases h
  ·obtain⟨h1,k',v',h2,h3⟩:=zJU h;exact⟨by omega,k',v',by rw[show j-i=(j-(i+1))+1 by omega];simpa using h2,h3⟩
  ·cases h
theorem zOs(S:St w0 U Φ0 nt hv a w e Φ rv E L){r b:Nat}{pre:zA4}{mv:Value}{es es':List (PV×PV)}{ms ms':Array MapEntry}{root:PV}(hm:Rep w Φ (zBa w rv E) (.bmap r pre) mv [])(hq:zAH (e.get r).unlock pre=some (.omap es))(vz:mv = .map (some b))
  (j7:w.heap[b]? = some (.map ms es.length)) (yJ:(e.get r).isLock=false) (yZ:zAz (fun _=>some (.omap es')) (e.get r) pre=some root) (hR:∀ w':World,(∀ c,Φ c->w'.heap[c]? = w.heap[c]?)->zD5 w' Φ es' ms'.toList 0) :
  ∃ rv' E' L',St w0 U Φ0 nt hv a {w with heap:=w.heap.setIfInBounds b (.map ms' es'.length)} (e.set r root) Φ rv' E' L'/\zBs E'/\∀ c,Φ c->({w with heap:=w.heap.setIfInBounds b (.map ms' es'.length)}:World).heap[c]? = w.heap[c]?:=by
 obtain⟨_,hr,_,hn⟩:=hm;rw[<- S.env r hr] at hq yJ yZ;have jG:(E r).unlock=E r:=by cases hE:E r<;>first|rfl|(rw[hE] at yJ;cases yJ)
 rw[jG] at hq;obtain⟨kr,kt⟩:=zBU (q' := .omap es') rfl rfl yZ;obtain⟨nv,Li,vU,hZ,gi,vE,wQ⟩:=S.conf.mod hr (f:=fun x=>x) (fun _=>.inl rfl) (pre:=pre) (q := .omap es) (by rw[zBl];exact jG) (by rw[zBl];exact hq);rw[zBl] at vU;obtain⟨b',ents,rfl,rfl,hh',_⟩:=hZ;have hbb:b'=b:=by
  have:=hn _ _ (by rw[jG];exact vU) es rfl;rw[vz] at this;cases this;rfl
 subst hbb;have jS:b'∈L r:=vE b' (by simp);have hnΦ:¬ Φ b':=(S.conf.own r b' jS).2.1;obtain⟨s1,s2⟩:=MapKept.heap_set (o' := .map ms' es'.length) j7;have hG:∀ s,decide (zAa<=s)=true↔zAa<=s:=fun s=>decide_eq_true_iff
 obtain⟨L',wI,hc⟩:=wQ (fun s=>decide (zAa<=s)) {w with heap:=w.heap.setIfInBounds b' (.map ms' es'.length)} (.omap es') root [b'] (fun s hs=>(hG s).1 hs) (fun _=>rfl) (by rw[zBl];exact yZ) kr
  (fun A hA=>⟨b',ms',rfl,rfl,s1,hR _ fun c hc=>s2 c fun h=>hnΦ (h▸hc)⟩) (by simp) (fun c hc=>.inl hc) (by simp)
  (fun c hc hci _=>s2 c (by simpa using hci)) (fun rest nv2 np2 hf hh=>by
   cases rest with
   |nil=>
    simp only[zA1,ba,bz] at hf;obtain⟨rfl,rfl⟩:=hf;exact .inr ⟨_,rfl,trivial⟩
   |cons ic rest=>obtain⟨i,c⟩:=ic;rw[zBb] at hf;cases hf) ⟨rfl,rfl,rfl⟩
 have hdec:∀ s,s<zAa->decide (zAa<=s)=false:=fun s hs=>decide_eq_false (by omega);refine⟨_,_,_,S.turn (e':=e.set r root) hc (fun s hs=>?_) (fun s hs=>rfl) (fun d ps hd hp=>?_),fun g hg=>?_,fun c hc=>s2 c fun h=>hnΦ (h▸hc)⟩
 ·rw[Env.get_set];by_cases yT:s=r
  ·subst yT;rw[if_pos rfl,if_pos rfl]
  ·rw[if_neg yT,if_neg yT,hdec s hs];simp only[bp,if_false,zBl];exact S.env s hs
 ·by_cases kP:d=r
  ·subst kP;rw[if_pos rfl] at hp;rw[hp] at kt;cases kt
  ·rw[if_neg kP,hdec d (by simp only[zAa];omega)] at hp;simp only[bp,if_false,zBl] at hp;exact⟨ps,hp,rfl⟩
 ·show(if g=r then root else if decide (zAa<=g)=true then bad else PV.mapW (fun x=>x) (E g))=bad
  rw[if_neg (by omega),(hG g).2 hg];rfl
theorem zKm(S:St w0 U Φ0 nt hv a w e Φ rv E L){r b:Nat}{pre:zA4}{mv:Value}{es es':List (PV×PV)}{ms ms':Array MapEntry}{root:PV}(hm:Rep w Φ (zBa w rv E) (.bmap r pre) mv [])(hq:zAH (e.get r).unlock pre=some (.omap es))(vz:mv = .map (some b))
  (j7:w.heap[b]? = some (.map ms es.length)) (yJ:(e.get r).isLock=false) (yZ:zAz (fun _=>some (.omap es')) (e.get r) pre=some root) (hR:∀ w':World,(∀ c,Φ c->w'.heap[c]? = w.heap[c]?)->zD5 w' Φ es' ms'.toList 0) :
  Fr w0 U Φ0 nt hv a {w with heap:=w.heap.setIfInBounds b (.map ms' es'.length)} (e.set r root):=by
 obtain⟨rv',E',L',h1,h2,_⟩:=zOs S hm hq vz j7 yJ yZ hR;exact⟨Φ,rv',E',L',h1,h2⟩
theorem zD5.modify'{w':World}(hΦ:∀ c,Φ c->w'.heap[c]? = w.heap[c]?){key v:PV}{kv vv:Value}(hk:Rep w Φ zCm key kv [])(hv:Rep w Φ zCm v vv []):∀ (es:List (PV×PV)) (ms:List MapEntry) (i j:Nat),zD5 w Φ es ms i->zD5 w' Φ (es.modify j fun _=>(key,v)) (ms.modify j fun m=>{m with key:=kv,val:=vv}) i
 |[],ms,i,j,h=>by simp only[zD5] at h;subst h;cases j<;>simp[zD5]
 |(k,p)::es,ms,i,0,h=>by
  obtain⟨m,ms',rfl,hb,h1,h2,h3⟩:=h;simp only[List.modify_zero_cons];exact⟨_,_,rfl,hb,hk.mono (fun c hc=>⟨hc,hΦ c hc⟩) (fun _ _ _ h=>h) (by simp),hv.mono (fun c hc=>⟨hc,hΦ c hc⟩) (fun _ _ _ h=>h) (by simp),zD5.same (fun c hc=>⟨hc,hΦ c hc⟩) _ _ _ h3⟩
 |(k,p)::es,ms,i,j+1,h=>by
  obtain⟨m,ms',rfl,hb,h1,h2,h3⟩:=h;simp only[List.modify_succ_cons];exact⟨_,_,rfl,hb,h1.mono (fun c hc=>⟨hc,hΦ c hc⟩) (fun _ _ _ h=>h) (by simp),h2.mono (fun c hc=>⟨hc,hΦ c hc⟩) (fun _ _ _ h=>h) (by simp),zD5.modify' hΦ hk hv es ms' (i+1) j h3⟩
theorem zD5.push'{w':World}(hΦ:∀ c,Φ c->w'.heap[c]? = w.heap[c]?){key v:PV}{kv vv:Value}(hk:Rep w Φ zCm key kv [])(hv:Rep w Φ zCm v vv []):∀ (es:List (PV×PV)) (ms:List MapEntry) (i:Nat),zD5 w Φ es ms i->zD5 w' Φ (es++[(key,v)]) (ms++[{key:=kv,val:=vv,born:=i+es.length}]) i
 |[],ms,i,h=>by
  simp only[zD5] at h;subst h;exact⟨_,_,rfl,rfl,hk.mono (fun c hc=>⟨hc,hΦ c hc⟩) (fun _ _ _ h=>h) (by simp),hv.mono (fun c hc=>⟨hc,hΦ c hc⟩) (fun _ _ _ h=>h) (by simp),by simp[zD5]⟩
 |(k,p)::es,ms,i,h=>by
  obtain⟨m,ms',rfl,hb,h1,h2,h3⟩:=h;have ih:=zD5.push' hΦ hk hv es ms' (i+1) h3;rw[show i+1+es.length=i+(es.length+1) by omega] at ih;exact⟨m,_,rfl,hb,h1.mono (fun c hc=>⟨hc,hΦ c hc⟩) (fun _ _ _ h=>h) (by simp),h2.mono (fun c hc=>⟨hc,hΦ c hc⟩) (fun _ _ _ h=>h) (by simp),ih⟩
theorem zJO{p:PV}(h:p.flat=true):p.lone=true:=by
 cases p<;>first|(cases h;done)|rfl|skip
 rename_i cs;simp only[PV.flat,PV.lone,bi] at h ⊢;intro q hq;have:=h q hq;cases q<;>first|(cases this;done)|rfl
theorem zTx(S:St w0 U Φ0 nt hv a w e Φ rv E L){t kt el:TypeId}{key v m:PV}{mv kv vv:Value}(ht:P.underlying t=some (.map kt el))(vw:zPQ P 20 kt key=true)(hkf:key.flat=true)(hEv:E zAa=v)(hEm:E (zAa+1)=m)(hEk:E (zAa+2)=key)(jb:rv zAa=vv)(hrm:rv (zAa+1)=mv)(hrk:rv (zAa+2)=kv)
  (h:(zNP P kt key v m).run o e=some e'):∃ w',(Instr.mapUpdate t mv kv vv).run P w = .ok () w'/\Fr w0 U Φ0 nt hv a w' e':=by
 have h0:=S.conf.rep zAa;have h1:=S.conf.rep (zAa+1);have h2:=S.conf.rep (zAa+2);rw[hEv,jb] at h0;rw[hEm,hrm] at h1;rw[hEk,hrk] at h2;cases m<;>simp only[zNP] at h<;>try (cases h;done)
 rename_i r pre;obtain⟨kH,h⟩:=zAP h;obtain⟨_,vJ⟩:=zHj kH h0;obtain⟨jY,vh⟩:=zHj (zJO hkf) h2;rw[jY] at h2;have hL1:L (zAa+1)=[]:=h1.1;rw[hL1] at h1;obtain⟨q,hq,h⟩:=zBP h;cases q<;>simp only at h<;>try (cases h;done)
 rename_i es;obtain⟨_,b,ms,rfl,j7,hM⟩:=zL0 S h1 hq
 cases hf:zCh P kt key es 0 with
 |none=>rw[hf] at h;cases h
 | some x =>
  rw[hf] at h;have y1:=zH6 vw h2 hf hM;have wA:=zJy (empty:=false) 20 10000 kt key kv (by decide) vw h2
  cases x with
  | none =>
   obtain⟨root,yJ,yZ,h⟩:=zB3 h;simp only[PM.run,ba] at h;subst h;have:=zKm S (ms':=ms.push {key:=kv,val:=vv,born:=es.length}) h1 hq rfl j7 yJ yZ (fun w' hw=>by
    have:=zD5.push' hw vh vJ es ms.toList 0 hM;simpa using this)
   refine⟨_,?_,this⟩;simp only[dJ] at y1;simp[Instr.mapUpdate,run_underlying ht,dg j7,wA,y1,dN _ j7]
  | some i =>
   obtain⟨root,yJ,yZ,h⟩:=zB3 h;simp only[PM.run,ba] at h;subst h;obtain⟨_,hi,k,v',m,h3,h4,h5,h6,h7,h8⟩:=(zDD h2 es ms.toList 0 (some i) hf hM).2 i rfl;simp only[dw] at h3 h4 hi;obtain⟨_,k',v'',h9,jZ⟩:=zJU hf;simp only[dw] at h9;rw[h3] at h9;cases h9;obtain⟨wx,hsb⟩:=zQt hkf h5 h2 h6 jZ;have:=zKm S (ms':=ms.modify i fun m=>{m with key:=kv,val:=vv}) h1 hq rfl j7 yJ yZ (fun w' hw=>by
    have:=zD5.modify' hw vh vJ es ms.toList 0 i hM;simpa using this)
   refine⟨_,?_,this⟩;have gZ:ms[i]? = some m:=by rw[<- bS];exact h4
   simp only[bc,h4,bv] at y1;rw[wx] at hsb wA y1 ⊢;simp[Instr.mapUpdate,run_underlying ht,dg j7,wA,y1,gZ,Instr.keyThatStays,hsb,dN _ j7]
theorem zKP(S:St w0 U Φ0 nt hv a w e Φ rv E L)(hb:zBs E){t:TypeId}{m x y:Operand}(hm:zAZ nt m=true)(hx:zAZ nt x=true)(hy:zAZ nt y=true)(h:(zFz P t m x y).run o e=some e') :
  ∃ w',(Instr.mapUpdate t (a.eval m) (a.eval x) (a.eval y)).run P w = .ok () w'/\Fr w0 U Φ0 nt hv a w' e':=by
 obtain⟨p,h1,hp⟩:=zBw S hm h;obtain⟨key,h2,hk⟩:=zBw S hx h1;split at h2
 ·rename_i kt el ht;obtain⟨hc,h3⟩:=zAP h2;simp only[bb] at hc;have vd:=(zHj (zJO hc.2) hk).2;have S1:=S.hold (g:=zAa+1) (by omega) hp;have S2:=S1.hold (g:=zAa+2) (by omega) (vd.mono (A':=zBa w (upd rv (zAa+1) (a.eval m)) (upd E (zAa+1) p)) zDq.refl (fun _ _ _ h=>h.elim) (by simp));obtain⟨e1,rv1,E1,L1,h4,S3,h5,h6⟩:=zFY S2 hy (g:=zAa) (bf _) h3;obtain⟨e2,rv2,E2,h7,W⟩:=zPp S3 (g:=zAa) (bf _) h4;obtain⟨Φ2,L2,S4⟩:=W.st;obtain⟨Φ3,L3,S5⟩:=S4.iced (g:=zAa) (bf _);obtain⟨a1,a2,_⟩:=h6 (zAa+1) (by omega) (by omega);obtain⟨b1,b2,_⟩:=h6 (zAa+2) (by omega) (by omega);obtain⟨c1,c2⟩:=W.rest (zAa+1) (by omega) (by omega);obtain⟨d1,d2⟩:=W.rest (zAa+2) (by omega) (by omega);refine zTx S5 (vv:=a.eval y) (mv:=a.eval m) (kv:=a.eval x) ht hc.1 hc.2 zAi ?_ ?_ ?_ ?_ ?_ h7
  ·rw[zAe (by omega),c1,a1,zAe (by omega),zAi]
  ·rw[zAe (by omega),d1,b1,zAi]
  ·rw[W.val,h5]
  ·rw[c2,a2,zAe (by omega),zAi]
  ·rw[d2,b2,zAi]
 ·cases h2
end
end Go.Eng
namespace Go.Eng
open Go
section
variable {P:Program} {w0 w:World} {U Φ0 Φ:Nat->Prop} {nt:Nat} {hv:Hid} {a:Act} {e e':Env} {rv:Nat->Value} {E:Nat->PV} {L:Nat->LN} {o:zAK} {A:Al}
theorem zKf(S:St w0 U Φ0 nt hv a w e Φ rv E L)(hb:zBs E){d:ON}(hd:∀ x,d=some x->x<nt){p:PV}{v:Value}{n:Int}(hp:Rep w Φ zCm p v [])(kR:p.lone=true)(h:(zDv d (.tup [p,.int .i64 n])).run o e=some e') :
  Fr w0 U Φ0 nt hv (a.put d (.tuple #[v,.int .i64 n])) w e':=by
 have jl:=S.small
 cases d with
 |none=>
  simp only[zDv] at h;exact zAC S hb hd h ⟨#[v,.int .i64 n],rfl,v,[.int .i64 n],[],[],rfl,rfl,hp.mono zDq.refl (fun _ _ _ h=>h.elim) (by simp),.int .i64 n,[],[],[],rfl,rfl,⟨rfl,rfl⟩,rfl,rfl⟩
 | some d =>
  have uC:=hd d rfl;simp only[zDv] at h;obtain⟨kB,h⟩:=zAP h;simp only[PM.run] at h;simp only[bb] at kB;obtain⟨L1,S1⟩:=S.empty uC;have S2:=S1.hold (g:=zAa) (bf _) (hp.mono (A':=zBa w rv (upd E d .bad)) zDq.refl (fun _ _ _ h=>h.elim) (by simp));have S3:=S2.hold (g:=zAa+1) (by omega) (p := .int .i64 n) (v := .int .i64 n) ⟨rfl,rfl⟩;refine zFr uC (vs:=#[v,.int .i64 n]) [p,.int .i64 n] 0 S3 (fun ps hp=>?_) (by simp) (by simp) (fun j q hq=>?_) (fun g hg hI=>?_) (fun x hx=>?_) (fun j hj=>by omega) h
  ·rw[zAe (by simp only[zAa];omega),zAe (by simp only[zAa];omega),zAi] at hp;cases hp
  ·match j,hq with
   |0,hq=>
    simp at hq;subst hq;rw[show zAa+0+0=zAa from rfl];refine⟨by rw[zAe (by omega),zAi],?_⟩;rw[zAe (by omega),zAi];rfl
   |1,hq=>
    simp at hq;subst hq;rw[show zAa+0+1=zAa+1 from rfl];refine⟨by rw[zAi],?_⟩;rw[zAi];rfl
  ·have h0:=hI 0 (by simp);have h1:=hI 1 (by simp);rw[zAe (by omega),zAe (by omega)];by_cases gK:g=d
   ·subst gK;rw[zAi]
   ·rw[zAe gK];exact hb g hg
  ·simpa using bi.1 kB.2 x hx
theorem zO8{ms:Array MapEntry}{i:Nat}{m:MapEntry}{kv:Value}(h:ms[i]? = some m):ms.modify i (fun e=>{e with key:=kv})=ms.modify i (fun e=>{e with key:=kv,val:=m.val}):=by
 apply ib;intro j;rw[dS,dS];by_cases hj:i=j
 ·subst hj;simp[h]
 ·simp[hj]
theorem zLI(S:St w0 U Φ0 nt hv a w e Φ rv E L)(hb:zBs E){d:ON}(hd:∀ x,d=some x->x<nt){t:TypeId}{m x:Operand}(hm:zAZ nt m=true)(hx:zAZ nt x=true)(h:(zGh P d t m x).run o e=some e') :
  ∃ v w',(Instr.mapEntry t (a.eval m) (a.eval x)).run P w = .ok v w'/\Fr w0 U Φ0 nt hv (a.put d v) w' e':=by
 obtain⟨p,h1,hp⟩:=zBw S hm h;obtain⟨key,h2,hk⟩:=zBw S hx h1;split at h2
 ·rename_i kt el ht;obtain⟨hc,h3⟩:=zAP h2;simp only[bb] at hc;obtain⟨vw,hkf⟩:=hc;obtain⟨z,hz,h4⟩:=zBJ h3;obtain⟨kj,h5⟩:=zAP h4;obtain⟨_,zv,_,_,uU,kd⟩:=zDN hz;have qb:=zN0 (zCq (w:=w) (Φ:=Φ) (A:=zCm) kd).1;generalize zJ0 z=z at *;have vh:=(zHj (zJO hkf) hk).2;cases p<;>simp only[zO9] at h5<;>try (cases h5;done)
  rename_i r pre;obtain⟨q,hq,h6⟩:=zBP h5;cases q<;>simp only at h6<;>try (cases h6;done)
  rename_i es;obtain⟨_,b,ms,vz,j7,hM⟩:=zL0 S hp hq
  cases hf:zCh P kt key es 0 with
  |none=>rw[hf] at h6;cases h6
  | some y =>
   rw[hf] at h6;have y1:=zH6 vw hk hf hM;have wA:=zJy (empty:=false) 20 10000 kt key (a.eval x) (by decide) vw hk;rw[vz]
   cases y with
   | none =>
    simp only at h6;obtain⟨root,yJ,yZ,h7⟩:=zB3 h6;obtain⟨rv',E',L',S',yL,jK⟩:=zOs S (ms':=ms.push {key:=a.eval x,val:=zv,born:=es.length}) hp hq vz j7 yJ yZ (fun w' hw=>by
     have:=zD5.push' hw vh qb es ms.toList 0 hM;simpa using this)
    have hzr':=qb.mono (w':={w with heap:=w.heap.setIfInBounds b (.map (ms.push {key:=a.eval x,val:=zv,born:=es.length}) (es++[(key,z)]).length)}) (fun c hc=>⟨hc,jK c hc⟩) (fun _ _ _ h=>h) (by simp);refine⟨_,_,?_,zKf S' yL hd hzr' kj h7⟩;simp only[dJ] at y1;simp[Instr.mapEntry,run_underlying ht,dg j7,wA,y1,uU,dN _ j7,goInt]
   | some i =>
    obtain⟨_,hi,k,v',m',g3,g4,g5,g6,g7,g8⟩:=(zDD hk es ms.toList 0 (some i) hf hM).2 i rfl;simp only[dw] at g3 g4 hi;simp only[g3] at h6;obtain⟨kH,h6⟩:=zAP h6;obtain⟨root,yJ,yZ,h7⟩:=zB3 h6;obtain⟨_,k',v'',g9,g10⟩:=zJU hf;simp only[dw] at g9;rw[g3] at g9;cases g9;obtain⟨wx,hsb⟩:=zQt hkf g5 hk g6 g10;have g4':ms[i]? = some m':=by rw[<- bS];exact g4
    obtain⟨rv',E',L',S',yL,jK⟩:=zOs S (ms':=ms.modify i fun e=>{e with key:=a.eval x,val:=m'.val}) hp hq vz j7 yJ yZ (fun w' hw=>by
     have:=zD5.modify' hw vh g7 es ms.toList 0 i hM;simpa using this)
    have hvr':=g7.mono (w':={w with heap:=w.heap.setIfInBounds b (.map (ms.modify i fun e=>{e with key:=a.eval x,val:=m'.val}) (es.modify i fun _=>(key,v')).length)}) (fun c hc=>⟨hc,jK c hc⟩) (fun _ _ _ h=>h) (by simp);refine⟨_,_,?_,zKf S' yL hd hvr' kH h7⟩;simp only[bc,g4,bv] at y1;have qM:=zO8 (kv:=m'.key) g4';rw[wx] at hsb wA y1 ⊢;simp[Instr.mapEntry,run_underlying ht,dg j7,wA,y1,g4',Instr.keyThatStays,hsb,dN _ j7,goInt,qM,g8]
 ·cases h2
theorem zTW:∀ {es:List (PV×PV)} {ms:List MapEntry} {i j:Nat},zD5 w Φ es ms j->i<ms.length->ms.findIdx? (fun e=>(e.born:Int)==((i+j:Nat):Int))=some i
 |[],ms,i,j,h,hi=>by simp only[zD5] at h;subst h;simp at hi|(k,p)::es,ms,0,j,h,hi=>by
  obtain⟨m,ms',rfl,hb,_⟩:=h;rw[fd,hb];simp
 |(k,p)::es,ms,i+1,j,h,hi=>by
  obtain⟨m,ms',rfl,hb,_,_,h3⟩:=h;have:=zTW (i:=i) h3 (by simpa using hi);rw[fd,hb];have hI:((j:Int)==((i+1+j:Nat):Int))=false:=by simp;omega
  rw[hI];simp only[bp,if_false];rw[show i+1+j=i+(j+1) by omega,this];rfl
theorem zTg:∀ {es:List (PV×PV)} {ms:List MapEntry} {i j:Nat} {k x:PV},zD5 w Φ es ms j->es[i]? = some (k,x)->∃ m,ms[i]? = some m/\Rep w Φ zCm k m.key []
 |[],_,_,_,_,_,_,h=>by cases h|(k',p)::es,ms,0,j,k,x,h,hi=>by
  obtain⟨m,ms',rfl,_,h1,_⟩:=h;cases hi;exact⟨m,rfl,h1⟩
 |(k',p)::es,ms,i+1,j,k,x,h,hi=>by
  obtain⟨m,ms',rfl,_,_,_,h3⟩:=h;exact zTg (i:=i) h3 (by simpa using hi)
theorem zNa{ms:Array MapEntry}{i:Nat}{m:MapEntry}{vv:Value}(h:ms[i]? = some m):ms.modify i (fun e=>{e with val:=vv})=ms.modify i (fun e=>{e with key:=m.key,val:=vv}):=by
 apply ib;intro j;rw[dS,dS];by_cases hj:i=j
 ·subst hj;simp[h]
 ·simp[hj]
theorem zJa(S:St w0 U Φ0 nt hv a w e Φ rv E L)(hb:zBs E){t:TypeId}{m s y:Operand}(hm:zAZ nt m=true)(hs:zAZ nt s=true)(hy:zAZ nt y=true)(h:(zEF m s y).run o e=some e') :
  ∃ w',(Instr.entryStore t (a.eval m) (a.eval s) (a.eval y)).run P w = .ok () w'/\Fr w0 U Φ0 nt hv a w' e':=by
 obtain⟨p,h1,hp⟩:=zBw S hm h;obtain⟨q,h2,hq⟩:=zBw S hs h1;obtain⟨ik,n,rfl,hn,h3⟩:=zEj h2;have hq0:a.eval s = .int ik n:=hq.1;have S1:=S.hold (g:=zAa+1) (by omega) hp;obtain⟨e1,rv1,E1,L1,h4,S3,h5,h6⟩:=zFY S1 hy (g:=zAa) (bf _) h3;obtain⟨e2,rv2,E2,h7,W⟩:=zPp S3 (g:=zAa) (bf _) h4;obtain⟨Φ2,L2,S4⟩:=W.st;obtain⟨Φ3,L3,S5⟩:=S4.iced (g:=zAa) (bf _);obtain⟨a1,a2,_⟩:=h6 (zAa+1) (by omega) (by omega);obtain⟨c1,c2⟩:=W.rest (zAa+1) (by omega) (by omega);have hEm:(upd E2 zAa (zA0 (E2 zAa))) (zAa+1)=p:=by rw[zAe (by omega),c1,a1,zAi]
 have hrm:rv2 (zAa+1)=a.eval m:=by rw[c2,a2,zAi]
 have jb:rv2 zAa=a.eval y:=by rw[W.val,h5]
 have h0:=S5.conf.rep zAa;have wC:=S5.conf.rep (zAa+1);rw[zAi,jb] at h0;rw[hEm,hrm] at wC;generalize yK:zA0 (E2 zAa)=v at *;cases p<;>simp only[zIU] at h7<;>try (cases h7;done)
 rename_i r pre;obtain⟨kH,h7⟩:=zAP h7;obtain⟨_,vJ⟩:=zHj kH h0;have hL1:L3 (zAa+1)=[]:=wC.1;rw[hL1] at wC;obtain⟨q,hq,h8⟩:=zBP h7;cases q<;>simp only at h8<;>try (cases h8;done)
 rename_i es;obtain⟨_,b,ms,vz,j7,hM⟩:=zL0 S5 wC hq
 cases hes:es[n.toNat]? with
 |none=>rw[hes] at h8;cases h8
 | some kx =>
  obtain⟨k,x⟩:=kx;rw[hes] at h8;simp only at h8;obtain⟨root,yJ,yZ,h9⟩:=zB3 h8;simp only[PM.run,ba] at h9;subst h9;obtain⟨m',g4,g5⟩:=zTg hM hes;have g4':ms[n.toNat]? = some m':=by rw[<- bS];exact g4
  have yG:n.toNat<ms.toList.length:=(bg.1 g4).1;have kV:=zTW hM yG;rw[bQ,d9 hn] at kV;have:=zKm S5 (ms':=ms.modify n.toNat fun e=>{e with key:=m'.key,val:=a.eval y}) wC hq vz j7 yJ yZ (fun w' hw=>by
   have:=zD5.modify' hw g5 vJ es ms.toList 0 n.toNat hM;simpa using this)
  refine⟨_,?_,this⟩;have yy:a.eval s = .int ik n:=hq0;rw[vz,yy];have hf:ms.findIdx? (fun e=>(e.born:Int)==n)=some n.toNat:=by first|(rw[<- Array.findIdx?_toList];exact kV)|(rw[Array.findIdx?_toList] at kV;exact kV)|(rw[<- kV];exact(Array.findIdx?_toList ..).symm)|(rw[<- kV];exact(List.findIdx?_toArray ..))
  simp[Instr.entryStore,dg j7,asInt,asIntOf,hf,dN _ j7,zNa g4']
end
end Go.Eng
namespace Go.Eng
open Go
section
variable {w:World} {Φ:Nat->Prop} {rv:Nat->Value} {E:Nat->PV}
mutual
theorem zHe:∀ (p:PV) (v:Value) (L:LN),Rep w Φ (zBa w rv E) p v L->∀ x∈p.ways,x.1<zAa
 |.agg cs,v,L,h,x,hx=>by obtain⟨vs,_,h⟩:=h;exact zF2 cs _ L h x hx
 |.tup cs,v,L,h,x,hx=>by obtain⟨vs,_,h⟩:=h;exact zF2 cs _ L h x hx
 |.ref q,v,L,h,x,hx=>by obtain⟨_,a,c,u,_,_,_,_,_,_,h7⟩:=h;exact zHe q u [] h7 x hx
 |.box q,v,L,h,x,hx=>by obtain⟨a,c,u,L',_,_,_,_,_,_,h7⟩:=h;exact zHe q u L' h7 x hx
 |.lock q,v,L,h,x,hx=>zHe q v L h x hx|.func g a b,v,L,h,x,hx=>by
  obtain⟨_,fs,cs,_,h2,h3⟩:=h;simp only[PV.ways,bj] at hx;rcases hx with hx|hx
  ·exact zF2 a _ [] h2 x hx
  ·exact zF2 b _ [] h3 x hx
 |.addr ..,v,L,h,x,hx=>by simp only[PV.ways,bk] at hx;subst hx;exact h.2.1|.bor ..,v,L,h,x,hx=>by simp only[PV.ways,bk] at hx;subst hx;exact h.2.1|.bsl ..,v,L,h,x,hx=>by simp only[PV.ways,bk] at hx;subst hx;exact h.2.1|.bmap ..,v,L,h,x,hx=>by simp only[PV.ways,bk] at hx;subst hx;exact h.2.1|.yld _,v,L,h,x,hx=>by cases hx|.log ..,v,L,h,x,hx=>h.2.elim|.bad,_,_,_,x,hx=>by cases hx|.und,_,_,_,x,hx=>by cases hx|.int ..,_,_,_,x,hx=>by cases hx|.bool _,_,_,_,x,hx=>by cases hx|.nilp,_,_,_,x,hx=>by cases hx|.nilf,_,_,_,x,hx=>by cases hx|.nilm,_,_,_,x,hx=>by cases hx|.nn,_,_,_,x,hx=>by cases hx|.nils _,_,_,_,x,hx=>by cases hx|.sl _,_,_,_,x,hx=>by cases hx|.own ..,_,_,_,x,hx=>by cases hx|.map _,_,_,_,x,hx=>by cases hx|.omap _,_,_,_,x,hx=>by cases hx
theorem zF2:∀ (ps:List PV) (vs:List Value) (L:LN),zA8 w Φ (zBa w rv E) ps vs L->∀ x∈zBx ps,x.1<zAa
 |[],_,_,_,x,hx=>by cases hx|p::ps,vs,L,h,x,hx=>by
  obtain⟨v,vs',L1,L2,_,_,h1,h2⟩:=h;simp only[zBx,bj] at hx;rcases hx with hx|hx
  ·exact zHe p v L1 h1 x hx
  ·exact zF2 ps vs' L2 h2 x hx
end
theorem zYS{w:World}{rv rv':Nat->Value}{E E':Nat->PV}(h:∀ s,s<zAa->E' s=E s/\rv' s=rv s){a:PV}{v:Value}(ha:zBa w rv E a v):zBa w rv' E' a v:=by
 obtain⟨h1,h2⟩:=h _ (zC7 ha);exact ha.mono fun nv np hn hh=>⟨np,by rw[h1,h2] at hn;exact hn,zCr.refl hh⟩
end
section
variable {P:Program} {w0 w:World} {U Φ0 Φ:Nat->Prop} {nt:Nat} {hv:Hid} {a:Act} {e e':Env} {rv:Nat->Value} {E:Nat->PV} {L:Nat->LN} {o:zAK}
theorem zL8:∀ (ps:List PV) (vs:List Value) (i:Nat) {rv:Nat->Value} {E:Nat->PV} {L:Nat->LN},St w0 U Φ0 nt hv a w e Φ rv E L->zA8 w Φ (zBa w rv E) ps vs [] ->
  ∃ rv1 E1 L1,St w0 U Φ0 nt hv a w e Φ rv1 E1 L1/\(∀ s,s<zAa->E1 s=E s/\rv1 s=rv s)/\(∀ (j:Nat) (p:PV) (v:Value),ps[j]? = some p->vs[j]? = some v->E1 (zAa+i+j)=p/\rv1 (zAa+i+j)=v/\L1 (zAa+i+j)=[]) /\
   ∀ s,zAa<=s->(s<zAa+i\/zAa+i+ps.length<=s)->E1 s=E s/\rv1 s=rv s/\L1 s=L s
 |[],vs,i,rv,E,L,S,h=>⟨rv,E,L,S,fun _ _=>⟨rfl,rfl⟩,by simp,fun _ _ _=>⟨rfl,rfl,rfl⟩⟩
 | p :: ps,vs,i,rv,E,L,S,h=>by
  obtain⟨v,vs',L1,L2,rfl,hL,h1,h2⟩:=h;obtain⟨rfl,rfl⟩:L1=[]/\L2=[]:=by simpa using hL.symm
  have S1:=S.hold (g:=zAa+i) (by omega) h1;have jB:∀ s,s<zAa->upd E (zAa+i) p s=E s/\upd rv (zAa+i) v s=rv s:=fun s hs=>⟨zAe (by omega),zAe (by omega)⟩;obtain⟨rv1,E1,L1,S2,h3,h4,h5⟩:=zL8 ps vs' (i+1) S1 (h2.mono zDq.refl (fun _ _ _ ha=>zYS jB ha) (fun _ _=>rfl));refine⟨rv1,E1,L1,S2,fun s hs=>⟨(h3 s hs).1.trans (jB s hs).1,(h3 s hs).2.trans (jB s hs).2⟩,fun j q u hq hu=>?_,fun s hs kC=>?_⟩
  ·cases j with
   |zero=>
    simp at hq hu;subst hq;subst hu;obtain⟨k1,k2,k3⟩:=h5 (zAa+i) (by omega) (.inl (by omega));simp only[bQ];rw[k1,k2,k3,zAi,zAi,zAi];exact⟨rfl,rfl,rfl⟩
   |succ j=>
    have:=h4 j q u (by simpa using hq) (by simpa using hu);rwa[show zAa+i+(j+1)=zAa+(i+1)+j by omega]
  ·obtain⟨k1,k2,k3⟩:=h5 s hs (by simp at kC;omega);have hI:s≠zAa+i:=by simp at kC;omega
   rw[k1,k2,k3,zAe hI,zAe hI,zAe hI];exact⟨rfl,rfl,rfl⟩
structure Handed (rv1:Nat->Value) (E1:Nat->PV) (L1:Nat->LN) (i:Nat) (bs:List (Bool×PV)):Prop where
 at_:∀ (j:Nat) (b:Bool×PV),bs[j]? = some b->E1 (zAa+i+j)=b.2/\(b.1=true->b.2.ways=[])/\(b.1=false->L1 (zAa+i+j)=[])
theorem zGR:∀ (ps:List PV) (ms:LN) (i:Nat) {k:List (Bool×PV)->PM} {e:Env} {Φ:Nat->Prop} {rv:Nat->Value} {E:Nat->PV} {L:Nat->LN},St w0 U Φ0 nt hv a w e Φ rv E L ->
  (∀ (j:Nat) (p:PV),ps[j]? = some p->E (zAa+i+j)=p/\L (zAa+i+j)=[])->(zEd ms ps k).run o e=some e' ->
  ∃ e1 rv1 E1 L1 bs,(k bs).run o e1=some e'/\St w0 U Φ0 nt hv a w e1 Φ rv1 E1 L1/\bs.length=ps.length/\Handed rv1 E1 L1 i bs/\(∀ s,rv1 s=rv s)/\(∀ s,zAa<=s->(s<zAa+i\/zAa+i+ps.length<=s)->E1 s=E s/\L1 s=L s)
 |[],ms,i,k,e,Φ,rv,E,L,S,hp,h=>⟨e,rv,E,L,[],by simpa[zEd] using h,S,rfl,⟨by simp⟩,fun _=>rfl,fun _ _ _=>⟨rfl,rfl⟩⟩
 | p :: ps,ms,i,k,e,Φ,rv,E,L,S,hp,h=>by
  obtain⟨hE,hL⟩:=hp 0 p rfl;simp only[bQ] at hE hL
  have plain:(zEd ms.tail ps fun as=>k ((false,p)::as)).run o e=some e'->∃ e1 rv1 E1 L1 bs,(k bs).run o e1=some e'/\St w0 U Φ0 nt hv a w e1 Φ rv1 E1 L1/\bs.length=(p::ps).length/\Handed rv1 E1 L1 i bs/\(∀ s,rv1 s=rv s) /\
    (∀ s,zAa<=s->(s<zAa+i\/zAa+i+(p::ps).length<=s)->E1 s=E s/\L1 s=L s):=by
   intro h;obtain⟨e1,rv1,E1,L1,bs,h1,S1,h2,h3,h4,h5⟩:=zGR ps ms.tail (i+1) S (fun j q hq=>by
    rw[show zAa+(i+1)+j=zAa+i+(j+1) by omega];exact hp (j+1) q (by simpa using hq)) h
   refine⟨e1,rv1,E1,L1,(false,p)::bs,h1,S1,by simp[h2],⟨fun j b hb=>?_⟩,h4,fun s hs kC=>h5 s hs (by simp at kC;omega)⟩
   cases j with
   |zero=>
    simp at hb;subst hb;obtain⟨k1,k2⟩:=h5 (zAa+i) (by omega) (.inl (by omega));simp only[bQ];exact⟨k1.trans hE,by simp,fun _=>k2.trans hL⟩
   |succ j=>
    have:=h3.at_ j b (by simpa using hb);rwa[show zAa+(i+1)+j=zAa+i+(j+1) by omega] at this
  simp only[zEd] at h;split at h
  ·rename_i r pre z n _;obtain⟨q,hq,h1⟩:=zBP h;split at h1
   ·rename_i sz xs;obtain⟨yS,h2⟩:=zAP h1;have yS:=br yS;obtain⟨root,hl,hm,h3⟩:=zB3 h2;have hZ:=S.conf.rep (zAa+i);rw[hE] at hZ;obtain⟨_,hr,_,hn⟩:=hZ;have yJ:=zBH hl;rw[yJ,<- S.env r hr] at hq;rw[<- S.env r hr] at yJ hm;obtain⟨kk1,kk2⟩:=zBU (q' := .bad) rfl rfl hm;obtain⟨nv,Li,g1,g2,g3,g4,g5⟩:=S.taken (g:=zAa+i) (by omega) hr yJ hq rfl hm kk1 kk2;have jP:zBX (rv (zAa+i)) nv sz 0 n:=by
     obtain⟨s2,xs2,q1,q2,q3⟩:=hn nv _ (by rw[yJ];exact g1) rfl;cases q1;subst q2;exact q3
    obtain⟨Lg,p1,p2,p3⟩:=zIQ g2 (by omega) jP;obtain⟨L',S1,wI⟩:=g5 _ (rv (zAa+i)) Lg p1 (p3 g3) (fun b hb=>.inl (p2 b hb));have jb:∀ s,upd rv (zAa+i) (rv (zAa+i)) s=rv s:=fun s=>by
     by_cases hs:s=zAa+i
     ·subst hs;rw[zAi]
     ·rw[zAe hs]
    have vT:∀ s,zAa<=s->s≠zAa+i->upd (upd E r root) (zAa+i) (own sz ((xs.drop 0).take n)) s=E s/\L' s=L s:=fun s hs hI=>⟨by rw[zAe hI,zAe (by omega)],wI s hs hI⟩;obtain⟨e1,rv1,E1,L1,bs,h4,S2,h5,h6,h7,h8⟩:=zGR ps ms.tail (i+1) S1 (fun j q hq=>by
     obtain⟨k1,k2⟩:=vT (zAa+(i+1)+j) (by omega) (by omega);rw[k1,k2,show zAa+(i+1)+j=zAa+i+(j+1) by omega];exact hp (j+1) q (by simpa using hq)) h3
    refine⟨e1,rv1,E1,L1,_::bs,h4,S2,by simp[h5],⟨fun j b hb=>?_⟩,fun s=>(h7 s).trans (jb s),fun s hs kC=>?_⟩
    ·cases j with
     |zero=>
      simp only[bJ,ba] at hb;subst hb;obtain⟨k1,k2⟩:=h8 (zAa+i) (by omega) (.inl (by omega));simp only[bQ];exact⟨by rw[k1,zAi],fun _=>rfl,fun h=>by cases h⟩
     |succ j=>
      have:=h6.at_ j b (by simpa using hb);rwa[show zAa+(i+1)+j=zAa+i+(j+1) by omega] at this
    ·obtain⟨k1,k2⟩:=h8 s hs (by simp at kC;omega);obtain⟨k3,k4⟩:=vT s hs (by simp at kC;omega);exact⟨k1.trans k3,k2.trans k4⟩
   ·cases h1
  ·exact plain h
theorem zIq(S:St w0 U Φ0 nt hv a w e Φ rv E L):∀ (bs:List (Bool×PV)) (ms:LN) (i:Nat) {k:List Arg->PM},Handed rv E L i bs->(zCA ms bs k).run o e=some e' ->
  ∃ as,(k as).run o e=some e'/\as.length=bs.length/\∀ (j:Nat) (x:Arg),as[j]? = some x->zOS w Φ rv E (i+j) x
 |[],ms,i,k,hb,h=>⟨[],by simpa[zCA] using h,rfl,by simp⟩
 | (m, p)::bs,ms,i,k,hb,h=>by
  obtain⟨h1,h2,h3⟩:=hb.at_ 0 (m,p) rfl;simp only[bQ] at h1 h2 h3;have uV:Handed rv E L (i+1) bs:=⟨fun j b hj=>by
   rw[show zAa+(i+1)+j=zAa+i+(j+1) by omega];exact hb.at_ (j+1) b (by simpa using hj)⟩
  have fin:∀ x,zOS w Φ rv E i x->(zCA ms.tail bs fun as=>k (x::as)).run o e=some e'->∃ as,(k as).run o e=some e'/\as.length=((m,p)::bs).length/\∀ (j:Nat) (x:Arg),as[j]? = some x->zOS w Φ rv E (i+j) x:=by
   intro x hx h;obtain⟨as,g1,g2,g3⟩:=zIq S bs ms.tail (i+1) uV h;refine⟨x::as,g1,by simp[g2],fun j y hy=>?_⟩
   cases j with
   |zero=>simp at hy;subst hy;exact hx|succ j=>rw[show i+(j+1)=i+1+j by omega];exact g3 j y (by simpa using hy)
  cases m with
  |true=>exact fin _ ⟨by simp,.inr (.inl ⟨rfl,h1.symm,by rw[h1];exact h2 rfl⟩)⟩ h
  | false =>
   simp only[zCA] at h;revert h
   cases beq (ms.headD 0) 1 with
   |true=>exact fun h=>fin _ ⟨by simp,.inl ⟨rfl,h1.symm⟩⟩ h
   |false=>
    intro h;simp only[cond_false] at h;have hZ:=S.conf.rep (zAa+i);rw[h1,h3 rfl] at hZ;obtain⟨q,l,g1,g2,g3⟩:=zPE S hZ h;exact fin _ ⟨g2,.inr (.inr ⟨rfl,fun Φ1 k1 k2=>g3 Φ1 k1 k2 (by simp)⟩)⟩ g1
theorem zLv:∀ (bs:List (Bool×PV)) (ms:LN) (i:Nat) {k:List Arg->PM} {e:Env} {Φ:Nat->Prop} {E:Nat->PV} {L:Nat->LN},St w0 U Φ0 nt hv a w e Φ rv E L->Handed rv E L i bs->(zEw ms bs k).run o e=some e' ->
  ∃ as e1 Φ1 E1 L1,(k as).run o e1=some e'/\St w0 U Φ0 nt hv a w e1 Φ1 rv E1 L1/\as.length=bs.length/\(∀ (j:Nat) (x:Arg),as[j]? = some x->zOS w Φ1 rv E1 (i+j) x)/\∀ s,zAa<=s->s<zAa+i->E1 s=E s
 |[],ms,i,k,e,Φ,E,L,S,hb,h=>⟨[],e,Φ,E,L,by simpa[zEw] using h,S,rfl,by simp,fun _ _ _=>rfl⟩
 | (m, p)::bs,ms,i,k,e,Φ,E,L,S,hb,h=>by
  obtain⟨h1,h2,h3⟩:=hb.at_ 0 (m,p) rfl;simp only[bQ] at h1 h2 h3;have uV:Handed rv E L (i+1) bs:=⟨fun j b hj=>by
   rw[show zAa+(i+1)+j=zAa+i+(j+1) by omega];exact hb.at_ (j+1) b (by simpa using hj)⟩
  have fin:∀ {e:Env} {Φ:Nat->Prop} {E2:Nat->PV} {L2:Nat->LN} (x:Arg),St w0 U Φ0 nt hv a w e Φ rv E2 L2->Handed rv E2 L2 (i+1) bs->(∀ s,zAa<=s->s<zAa+i->E2 s=E s)->(∀ (Φ1:Nat->Prop) (E1:Nat->PV),E1 (zAa+i)=E2 (zAa+i)->zOS w Φ1 rv E1 i x) ->
    (zEw ms.tail bs fun as=>k (x::as)).run o e=some e'->∃ as e1 Φ1 E1 L1,(k as).run o e1=some e'/\St w0 U Φ0 nt hv a w e1 Φ1 rv E1 L1/\as.length=((m,p)::bs).length/\(∀ (j:Nat) (x:Arg),as[j]? = some x->zOS w Φ1 rv E1 (i+j) x)/\∀ s,zAa<=s->s<zAa+i->E1 s=E s:=by
   intro e Φ E2 L2 x S hh hE hx h;obtain⟨as,e1,Φ1,E1,L1,g1,S1,g2,g3,g4⟩:=zLv bs ms.tail (i+1) S hh h;refine⟨x::as,e1,Φ1,E1,L1,g1,S1,by simp[g2],fun j y hy=>?_,fun s hs yG=>(g4 s hs (by omega)).trans (hE s hs yG)⟩
   cases j with
   |zero=>simp at hy;subst hy;exact hx Φ1 E1 (g4 _ (by omega) (by omega))|succ j=>rw[show i+(j+1)=i+1+j by omega];exact g3 j y (by simpa using hy)
  cases m with
  |true=>exact fin _ S uV (fun _ _ _=>rfl) (fun Φ1 E1 he=>⟨by simp,.inr (.inl ⟨rfl,by rw[he,h1],by rw[he,h1];exact h2 rfl⟩)⟩) h
  | false =>
   simp only[zEw] at h;revert h
   cases beq (ms.headD 0) 1 with
   |true=>exact fun h=>fin _ S uV (fun _ _ _=>rfl) (fun Φ1 E1 he=>⟨by simp,.inl ⟨rfl,by rw[he,h1]⟩⟩) h
   | false =>
    intro h;simp only[cond_false] at h;rw[<- h1] at h;obtain⟨e1,Φ1,E1,L1,g1,S1,g2,g3,g4,g5,_,_⟩:=zHY (g:=zAa+i) (by omega) (bf _) zDi S h;have hw:(E1 (zAa+i)).ways=[]:=by
     have jB:=zHe _ _ _ (S1.conf.rep (zAa+i))
     cases hw:(E1 (zAa+i)).ways with
     |nil=>rfl|cons x xs=>
      have k1:=jB x (by rw[hw];simp);have k2:=g5 x (by rw[hw];simp);omega
    refine fin _ S1 ⟨fun j b hj=>?_⟩ (fun s hs yG=>g3 s hs (by omega)) (fun Φ1 E1' he=>⟨by simp,.inr (.inl ⟨rfl,he.symm,by rw[he];exact hw⟩)⟩) g1;rw[g3 _ (by omega) (by omega),g4 _ (by omega)];exact uV.at_ j b hj
variable {H:zBg}
theorem zVP(jD:zGx P o)(S:St w0 U Φ0 nt hv a w e Φ rv E L){d:ON}(hd:∀ x,d=some x->x<nt){f:FuncId}{ps:List PV}{vs:Array Value}(hr:zA8 w Φ (zBa w rv E) ps vs.toList [])
  (h:(zOt H d f ps).run o e=some e'):Callable P f/\Calls P f vs w fun en w''=>∃ u,en = .returned u/\Fr w0 U Φ0 nt hv (a.put d u) w'' e':=by
 have yA:=hr.length;obtain⟨rv1,E1,L1,S1,_,h2,_⟩:=zL8 ps vs.toList 0 S hr;have hpv:∀ (j:Nat) (p:PV),ps[j]? = some p->∃ v,vs.toList[j]? = some v:=fun j p hj=>by
  have:j<ps.length:=(bg.1 hj).1;exact⟨_,bl (by omega)⟩
 simp only[zOt] at h;obtain⟨e2,rv2,E2,L2,bs,h3,S2,h4,h5,h6,_⟩:=zGR ps (H f).mode 0 S1 (fun j p hj=>by
  obtain⟨v,yK⟩:=hpv j p hj;have:=h2 j p v hj yK;exact⟨this.1,this.2.2⟩) h
 have yn:∀ i,i<bs.length->vs[i]? = some (rv2 (zAa+i)):=by
  intro i hi;obtain⟨p,hp⟩:∃ p,ps[i]? = some p:=⟨_,bl (by omega)⟩;obtain⟨v,yK⟩:=hpv i p hp;have:=h2 i p v hp yK;simp only[bQ] at this;rw[h6,this.2.1];simpa using yK
 have hvsz:vs.size=bs.length:=by rw[h4,<- yA];simp
 obtain⟨as,g1,g2,g3⟩:=zIq S2 bs (H f).mode 0 h5 h3;rcases zP2 jD S2 hd (vs:=vs) (by rw[hvsz,g2]) (fun i hi=>yn i (by omega)) (fun i x hx=>by simpa using g3 i x hx) g1 with h7|h7
 ·obtain⟨as',e3,Φ3,E3,L3,k1,S3,k2,k3,_⟩:=zLv bs (H f).mode 0 S2 h5 h7;rcases zP2 jD S3 hd (vs:=vs) (by rw[hvsz,k2]) (fun i hi=>yn i (by omega)) (fun i x hx=>by simpa using k3 i x hx) k1 with h8|h8
  ·cases h8
  ·exact h8
 ·exact h7
end
end Go.Eng
namespace Go.Eng
open Go
def zUj(P:Program)(o:Oper)(a:Act)(w:World)(K:Act->World->Prop):Prop :=
 match(execOp a.eval o).run P w with
 |.ok (.value v) w'=>K (a.put o.dst v) w'|.ok .skip w'=>K (a.put o.dst undef) w'|.ok (.enter f args) w'=>Calls P f args w' fun en w''=>∃ u,en = .returned u/\K (a.put o.dst u) w''
 |_=>False
def zT8:Op->Bool
 |.defer _=>true|_=>false
theorem zW4{P:Program}{o:Oper}{a:Act}{w:World}{K:Act->World->Prop}{n:Nat}{ro:ON}{Q:Exit->Act->World->Prop}(hd:zT8 o.op=false)(h:zUj P o a w K):o.wpIn {Fence.wide with round:=ro} n P a w K Q:=by
 refine⟨fun _ _=>trivial,?_⟩;rw[Oper.semAt_eq ro a.eval o (fun c hc=>by rw[hc] at hd;cases hd)];simp only[zUj] at h;split at h
 ·rename_i v w' hr;rw[hr];exact h
 ·rename_i w' hr;rw[hr];exact h
 ·rename_i f args w' hr;rw[hr];refine⟨fun h=>(by cases h),?_⟩;have h1:CallsIn Fence.wide (n-1) P f args w' _:=callsIn_wide.2 h;refine CallsIn.mono (F:={Fence.wide with round:=ro}) ?_ (R:=fun en w''=>∃ u,en = .returned u/\K (a.put o.dst u) w'') (fun en w'' vO=>?_)
  ·exact h1
  ·obtain⟨u,rfl,hk⟩:=vO;exact hk
 ·exact h.elim
def zT0(P:Program)(nt:Nat):Oper->Bool:=fun o=>
 (match o.dst with|some d=>blt d nt|none=>true) &&
 match o.op with
 |.move x|.assign x|.nilCheck x|.unOp _ _ x|.box _ x|.load _ x|.fieldAddr _ x _|.field _ x _=>zAZ nt x|.pick c a b=>zAZ nt c&&zAZ nt a&&zAZ nt b|.alloc _=>true|.build _ ps|.buildSlice _ _ ps=>ps.toList.all fun x=>zAZ nt x.2
 |.store _ a x=>o.dst.isNone&&zAZ nt a&&zAZ nt x|.binOp _ _ x y _=>zAZ nt x&&zAZ nt y|.convert s _ x=>(P.underlying s).isSome&&zAZ nt x|.makeFunc _ fs cs=>fs.toList.all (zAZ nt)&&cs.toList.all (zAZ nt)|.makeMap _ _=>true|.makeSlice _ l c=>zAZ nt l&&zAZ nt c|.slice _ x lo hi mx=>zAZ nt x&&(match lo with|some y=>zAZ nt y|none=>true)&&(match hi with|some y=>zAZ nt y|none=>true)&&(match mx with|some y=>zAZ nt y|none=>true)
 |.indexAddr _ x i|.index _ x i=>zAZ nt x&&zAZ nt i|.lookup _ m x _=>zAZ nt m&&zAZ nt x|.mapUpdate _ m x y=>o.dst.isNone&&zAZ nt m&&zAZ nt x&&zAZ nt y|.mapEntry _ m x=>zAZ nt m&&zAZ nt x|.entryStore _ m s x=>o.dst.isNone&&zAZ nt m&&zAZ nt s&&zAZ nt x|.panic _|.makeInterface .. => true|.extract (.tmp s) _=>blt s nt
 | .call c=>c.args.toList.all (zAZ nt)&&(match c.callee with
  |.builtin b=>match b with
   |.append|.copy=>beq c.argTypes.size 2|.len|.max|.min=>true|.clear=>blt 0 c.argTypes.size|_=>false
  |.value f=>zAZ nt f|_=>false)
 |_=>false
def zET (P : Program) : Prop := ∀ (f : FuncId) (fn : Func), P.funcs[f]? = some fn -> (fn.name == "runtime.NumGoroutine") = false
section
variable {P:Program} {H:zBg} {w0 w:World} {U Φ0 Φ:Nat->Prop} {nt:Nat} {hv:Hid} {a:Act} {e e':Env} {rv:Nat->Value} {E:Nat->PV} {L:Nat->LN} {orc:zAK}
theorem zAS{o:Oper}{K:Act->World->Prop}{v:Value}{w':World}(h:(execOp a.eval o).run P w = .ok (.value v) w')(hk:K (a.put o.dst v) w'):zUj P o a w K:=by
 simp only[zUj,h];exact hk
theorem zYI (jD:zGx P orc) (hnm:zET P) (S:St w0 U Φ0 nt hv a w e Φ rv E L) (hb:zBs E) {o:Oper} (yE:zT0 P nt o=true) {fz tk nl:Bool} (h:(opM P H fz tk nl o).run orc e=some e') :
    zUj P o a w fun a' w'=>Fr w0 U Φ0 nt hv a' w' e':=by
  obtain⟨dst,op,type,pos,after,guard⟩:=o;simp only[zT0,bb] at yE;obtain⟨vi,yE⟩:=yE;have hd:∀ x,dst=some x->x<nt:=by
    intro x hx;subst hx;exact zCe vi
  have all:∀ {xs:List Operand},xs.all (zAZ nt)=true->∀ x∈xs,zAZ nt x=true:=fun h=>bi.1 h;cases op<;>simp only[opM] at h<;>try (cases h;done)
  case move x=>exact zAS (by simp[execOp]) (zWE S hb hd yE h)
  case assign x=>
    cases hft:fz&&tk with
    | true =>
      rw[hft] at h;exact zAS (by simp[execOp]) (zTu S hb hd yE h)
    | false =>
      rw[hft] at h;exact zAS (by simp[execOp]) (zSU S hb hd yE h)
  case pick c x y=>
    simp only[bb] at yE;obtain⟨t,h1,h2⟩:=zXu S hb hd yE.1.1 yE.1.2 yE.2 h;exact zAS (by simp[execOp,asBool,h1]) h2
  case alloc t=>
    obtain⟨v,w',h1,h2⟩:=zUI S hb hd h;exact zAS (by simp[execOp,h1]) h2
  case box t x=>
    obtain⟨v,w',h1,h2⟩:=zYK S hb hd yE h;exact zAS (by simp[execOp,h1]) h2
  case build t ps=>
    obtain⟨v,h1,h2⟩:=zU6 S hb hd (bi.1 yE) h;exact zAS (by simp only[execOp,bo,h1,bh,bA]) h2
  case buildSlice t n ps=>
    obtain⟨v,w',h1,h2⟩:=zMt S hb hd (bi.1 yE) h;exact zAS (by simp only[execOp,bo,h1,bh,bA]) h2
  case load t x=>
    obtain⟨v,h1,h2⟩:=zRB S hb hd yE h;exact zAS (by simp[execOp,h1]) h2
  case store t x y=>
    simp only[bb,dE] at yE;obtain⟨⟨rfl,hx⟩,hy⟩:=yE;obtain⟨w',h1,h2⟩:=zVY S hb hx hy h;simp only[zUj,execOp,bo,h1,bh,bA,Act.put];exact h2
  case nilCheck x=>
    obtain⟨h1,h2⟩:=zYD S hb hd yE h;refine zAS (v:=a.eval x) (w':=w) ?_ h2;simp only[execOp];revert h1;generalize a.eval x=v;intro h1;split<;>first|(exact h1.elim)|rfl
  case binOp op t x y ty=>
    simp only[bb] at yE;obtain⟨v,h1,h2⟩:=zZn S hb hd yE.1 yE.2 h;exact zAS (by simp only[execOp,bo] at h1 ⊢;simp only[h1];rfl) h2
  case unOp op t x=>
    obtain⟨v,h1,h2⟩:=zZP (P:=P) S hb hd yE h;exact zAS (by simp[execOp,h1]) h2
  case convert s t x=>
    simp only[bb] at yE;obtain⟨v,h1,h2⟩:=zWS S hb hd yE.1 yE.2 h;exact zAS (by simp[execOp,h1]) h2
  case makeFunc f fs cs=>
    simp only[bb] at yE;cases f<;>try (cases h;done)
    exact zAS (by simp[execOp,Instr.makeFunc]) (zXY S hb hd (all yE.1) (all yE.2) h)
  case makeMap t r=>
    cases r with
    |some r=>cases h
    | none =>
      obtain⟨v,w',h1,h2⟩:=zQZ (P:=P) (t:=t) S hb hd h;exact zAS (by simp[execOp,h1]) h2
  case makeSlice t l c=>
    simp only[bb] at yE;obtain⟨v,w',h1,h2⟩:=zNx S hb hd yE.1 yE.2 h;exact zAS (by simp[execOp,h1]) h2
  case slice t x lo hi mx=>
    simp only[bb] at yE;obtain⟨v,h1,h2⟩:=zVb S hb hd yE.1.1.1 (fun y hy=>by subst hy;exact yE.1.1.2) (fun y hy=>by subst hy;exact yE.1.2) (fun y hy=>by subst hy;exact yE.2) h;exact zAS (by simp[execOp,h1]) h2
  case fieldAddr t x i=>
    obtain⟨v,h1,h2⟩:=zN3 S hb hd yE h;exact zAS (by simp[execOp,h1]) h2
  case field t x i=>
    obtain⟨v,h1,h2⟩:=zUN S hb hd yE h;exact zAS (by simp[execOp,h1]) h2
  case indexAddr t x i=>
    simp only[bb] at yE;obtain⟨v,h1,h2⟩:=zNY S hb hd yE.1 yE.2 h;exact zAS (by simp[execOp,h1]) h2
  case index t x i=>
    simp only[bb] at yE;obtain⟨v,h1,h2⟩:=zV0 S hb hd yE.1 yE.2 h;exact zAS (by simp[execOp,h1]) h2
  case lookup t m x ok=>
    simp only[bb] at yE;obtain⟨v,h1,h2⟩:=zTZ S hb hd yE.1 yE.2 h;exact zAS (by simp[execOp,h1]) h2
  case mapUpdate t m x y=>
    simp only[bb,dE] at yE;obtain⟨⟨⟨rfl,hm⟩,hx⟩,hy⟩:=yE;obtain⟨w',h1,h2⟩:=zKP S hb hm hx hy h;simp only[zUj,execOp,bo,h1,bh,bA,Act.put];exact h2
  case mapEntry t m x=>
    simp only[bb] at yE;obtain⟨v,w',h1,h2⟩:=zLI S hb hd yE.1 yE.2 h;simp only[zUj,execOp,bo,h1,bh,bA];exact h2
  case entryStore t m s x=>
    simp only[bb,dE] at yE;obtain⟨⟨⟨rfl,hm⟩,hs⟩,hx⟩:=yE;obtain⟨w',h1,h2⟩:=zJa (P:=P) (t:=t) S hb hm hs hx h;simp only[zUj,execOp,bo,Act.put];rw[h1];exact h2
  case extract x i=>
    cases x<;>try (cases h;done)
    obtain⟨v,h1,h2⟩:=zRe (P:=P) S hb hd (zCe yE) h;exact zAS (by simp[execOp,h1]) h2
  case call c=>
    simp only[bb] at yE;obtain⟨yP,ye⟩:=yE;obtain⟨callee,args,argTypes⟩:=c;replace yP:∀ x∈args.toList,zAZ nt x=true:=bi.1 yP;simp only[zK2] at h
    cases callee with
    |invoke r m=>cases h
    | value f =>
      simp only at h ye yP;obtain⟨g,h1,hg⟩:=zBw S ye h;cases g<;>simp only[zUW] at h1<;>try (cases h1;done)
      case func g fs cs=>
        obtain⟨ps,h2,yg⟩:=zHW S yP h1;obtain⟨_,us,vs,hgv,wT,yn⟩:=hg;have hr:zA8 w Φ (zBa w rv E) (fs++ps++cs) (us++args.map a.eval++vs).toList []:=by
          have:=(wT.append yg).append yn;simpa using this
        obtain⟨⟨fn,jk,y4⟩,kq⟩:=zVP jD S hd hr h2;have yC:(execOp a.eval ⟨dst,.call ⟨.value f,args,argTypes⟩,type,pos,after,guard⟩).run P w = .ok (.enter g (us++args.map a.eval++vs)) w:=by
          have hn:=hnm g fn jk;have wv:¬ fn.body=none:=by intro hb;rw[hb] at y4;cases y4
          have vt : ¬ fn.name = "runtime.NumGoroutine" := by simpa using hn
          simp[execOp,Go.resolve,hgv,Deferred.ofValue,invoke,callFunc,jk,wv,vt]
        simp only[zUj,yC];exact kq
    | builtin b =>
      simp only at h ye yP;have yC:∀ v w',(builtin b argTypes type (args.map fun|.const _=>true|_=>false) (args.map a.eval)).run P w = .ok (.value v) w'->(execOp a.eval ⟨dst,.call ⟨.builtin b,args,argTypes⟩,type,pos,after,guard⟩).run P w = .ok (.value v) w':=by
        intro v w' hr;simp only[execOp,Go.resolve,bo,bA,bh,invoke];exact hr
      cases b<;>simp only at ye<;>try (cases ye;done)
      case len=>
        obtain⟨v,h1,h2⟩:=zY0 (ty:=type) S hb hd yP h;exact zAS (yC v w (by simp[builtin,h1])) h2
      case max=>
        obtain⟨v,h1,h2⟩:=zYp (ty:=type) S hb hd yP h;exact zAS (yC v w (by simp[builtin,h1])) h2
      case min=>
        obtain⟨v,h1,h2⟩:=zY5 (ty:=type) S hb hd yP h;exact zAS (yC v w (by simp[builtin,h1])) h2
      case append=>
        have yI:=bd ye;obtain⟨t,t2,rfl⟩:∃ t t2,argTypes=#[t,t2]:=by
          match argTypes,yI with
          |⟨[t,t2]⟩,_=>exact⟨t,t2,rfl⟩
        have hax:∃ x y,args=#[x,y]:=by
          obtain⟨l⟩:=args;simp only[zBB] at h
          match l,h with
          |[x,y],_=>exact⟨x,y,rfl⟩|[],h=>cases h|[_],h=>cases h|_::_::_::_,h=>cases h
        obtain⟨x,y,rfl⟩:=hax;obtain⟨v,w',h1,h2⟩:=zTT (ty:=type) S hb hd (yP x (by simp)) (yP y (by simp)) h;exact zAS (yC v w' (by simp only[builtin,bo,fm,bL,dZ,h1,bh,bA])) h2
      case clear=>
        obtain⟨t,ts,rfl⟩:∃ t ts,argTypes=(t::ts).toArray:=by
          match argTypes,ye with
          |⟨t::ts⟩,_=>exact⟨t,ts,rfl⟩
        obtain⟨x,rfl⟩:∃ x,args=#[x]:=by
          obtain⟨l⟩:=args
          match l,h with
          |[x],_=>exact⟨x,rfl⟩|[],h=>simp only[zBB] at h;cases h|_::_::_,h=>simp only[zBB] at h;cases h
        obtain⟨w',h1,h2⟩:=zU9 (ty:=type) S hb hd (yP x (by simp)) h;exact zAS (yC _ w' (by simp only[builtin,bo,fm,bL,dZ,h1,bh,bA])) h2
      case copy=>
        have yI:=bd ye;obtain⟨t,t2,rfl⟩:∃ t t2,argTypes=#[t,t2]:=by
          match argTypes,yI with
          |⟨[t,t2]⟩,_=>exact⟨t,t2,rfl⟩
        have hax:∃ x y,args=#[x,y]:=by
          obtain⟨l⟩:=args;simp only[zBB] at h
          match l,h with
          |[x,y],_=>exact⟨x,y,rfl⟩|[],h=>cases h|[_],h=>cases h|_::_::_::_,h=>cases h
        obtain⟨x,y,rfl⟩:=hax;obtain⟨v,w',h1,h2⟩:=zXQ (ty:=type) S hb hd (yP x (by simp)) (yP y (by simp)) h;exact zAS (yC v w' (by simp only[builtin,bo,fm,bL,dZ,h1,bh,bA])) h2
  all_goals first|(cases yE;done)|skip
end
end Go.Eng
namespace Go.Eng
open Go
def FF(ro:ON):Fence:={Fence.wide with round:=ro}
def zOO(P:Program)(nt:Nat)(ops:Array Oper):Bool:=ops.toList.all (zT0 P nt)
def zDa:Code->Bool
 |.seq a b=>zDa a&&zDa b|.cond _ a b=>zDa a&&zDa b|.block _ b=>zDa b|.loop b=>zDa b|.scope b=>zDa b|.rangeFunc .. => false|_=>true
def zCP(P:Program)(nt:Nat):Code->Bool
 |.skip=>true|.region _ ops _=>zOO P nt ops|.seq a b=>zCP P nt a&&zCP P nt b|.cond c a b=>zAZ nt c&&zCP P nt a&&zCP P nt b|.block _ b=>zCP P nt b|.loop b=>zCP P nt b|.exit _=>true|.ret=>true|.label _=>true|.scope b=>zCP P nt b|.rangeFunc f ps a b=>zAZ nt f&&ps.toList.all (fun t=>blt t nt)&&zCP P nt a&&zCP P nt b&&zDa a&&zDa b
 |_=>false
def X.exit:X->Exit
 |.norm=>.normal|.ex id=>.exit id|.ret=>.ret
section
variable {P:Program} {H:zBg} {w0 w:World} {U Φ0 Φ:Nat->Prop} {nt:Nat} {hv:Hid} {a:Act} {e e':Env} {rv:Nat->Value} {E:Nat->PV} {L:Nat->LN} {orc:zAK} {ro:ON} {n:Nat} {Q:Exit->Act->World->Prop}
theorem zMJ{o:Oper}(h:zT0 P nt o=true):zT8 o.op=false:=by
 obtain⟨dst,op,type,pos,after,guard⟩:=o;simp only[zT0,bb] at h;cases op<;>first|rfl|(cases h.2;done)
theorem zIW{o:Oper}(h:zT0 P nt o=true):∀ x,o.dst=some x->x<nt:=by
 intro x hx;simp only[zT0,bb] at h;rw[hx] at h;exact zCe h.1
theorem zDT{ops:Array Oper}{i:Nat}{F:Fence}{K K':Act->World->Prop}(h:wpOpIn F n P ops Q i K a w)(hk:∀ a w,K a w->K' a w):wpOpIn F n P ops Q i K' a w:=wpOpIn_mono hk h
theorem zLG(jD:zGx P orc)(hnm:zET P){ops:Array Oper}(jE:zOO P nt ops=true)(hf:Fr w0 U Φ0 nt hv a w e){i:Nat}{o:Oper}(hi:ops[i]? = some o){fz tk nl:Bool}(h:(zFW P H ops fz tk nl o).run orc e=some e') :
  wpOpIn (FF ro) n P ops Q i (fun a' w'=>Fr w0 U Φ0 nt hv a' w' e') a w:=by
 obtain⟨Φ,rv,E,L,S,hb⟩:=hf;have y8:∀ (j:Nat) (x:Oper),ops[j]? = some x->zT0 P nt x=true:=fun j x hx=>bi.1 jE x (by
  rw[<- bS] at hx;exact bH hx)
 have yE:=y8 i o hi;have kL:=zIW yE;simp only[wpOpIn,hi];simp only[zFW] at h
 have done:Region.wanted o (yielded ops a.tmps)=true->(opM P H fz tk nl o).run orc e=some e' ->
   (if Region.wanted o (yielded ops a.tmps) then o.wpIn (FF ro) n P a w (fun a' w'=>Fr w0 U Φ0 nt hv a' w' e') Q else(∀ f,o.about P w a.eval=some f->(FF ro).fn f)/\(fun a' w'=>Fr w0 U Φ0 nt hv a' w' e') (a.put o.dst undef) w):=by
  intro hw h;rw[if_pos hw];exact zW4 (zMJ yE) (zYI jD hnm S hb yE h)
 have skip:Region.wanted o (yielded ops a.tmps)=false->(put o.dst .und).run orc e=some e' ->
   (if Region.wanted o (yielded ops a.tmps) then o.wpIn (FF ro) n P a w (fun a' w'=>Fr w0 U Φ0 nt hv a' w' e') Q else(∀ f,o.about P w a.eval=some f->(FF ro).fn f)/\(fun a' w'=>Fr w0 U Φ0 nt hv a' w' e') (a.put o.dst undef) w):=by
  intro hw h;rw[hw];exact⟨fun _ _=>trivial,zAC S hb kL h (p := .und) ⟨rfl,rfl⟩⟩
 cases hg:o.guard with
 |none=>
  rw[hg] at h;exact done (by simp[Region.wanted,hg]) h
 | some x =>
  obtain⟨j,want⟩:=x;rw[hg] at h;simp only at h
  cases hj:(ops[j]?).bind (·.dst) with
  |none=>rw[hj] at h;cases h
  | some t =>
   rw[hj] at h;simp only[PM.run] at h;have uW:t<nt:=by
    cases LE:ops[j]? with
    |none=>rw[LE] at hj;cases hj|some oj=>rw[LE] at hj;exact zIW (y8 j oj LE) t hj
   have yr:t<zAa:=bI uW (bB S.small (by decide));have hZ:=S.conf.rep t;rw[S.env t yr] at hZ;have htm:a.tmps[t]? = some (rv t):=by
    have h1:=S.tmps t uW;have h2:t<a.tmps.size:=by rw[S.size];exact uW
    rw[cQ h2];simp only[Array.getD,h2,dite_true] at h1;rw[<- h1];rfl
   have kS:yielded ops a.tmps j=match rv t with|.bool b=>some b|_=>none:=by
    simp only[yielded,hj,bc,htm];cases rv t<;>rfl
   revert h;cases hp:e.get t<;>intro h<;>try (cases h;done)
   case bool b=>
    simp only at h;have yK:rv t = .bool b:=by rw[hp] at hZ;exact hZ.1
    rw[yK] at kS;simp only at kS;split at h
    ·rename_i LF;subst LF;exact done (by simp[Region.wanted,hg,kS]) h
    ·rename_i LF;exact skip (by simp[Region.wanted,hg,kS,LF]) h
   case und=>
    have yK:rv t=undef:=by rw[hp] at hZ;exact hZ.1
    rw[yK] at kS;exact skip (by simp only[Region.wanted,hg,kS];rfl) h
theorem Fr.drop(hf:Fr w0 U Φ0 nt hv a w e)(l:LN):Fr w0 U Φ0 nt hv a w (e.drop l):=by
 obtain⟨Φ,rv,E,L,S,hb⟩:=hf;have hc:=S.conf.drop (fun s=>decide (s<zAa)&&zNz l s);refine⟨Φ,rv,_,_,S.turn hc (fun s hs=>?_) (fun _ _=>rfl) (fun d ps hd hp=>?_),fun g hg=>?_⟩
 ·rw[Env.get_drop,S.env s hs];simp[hs]
 ·by_cases h:(decide (d<zAa)&&zNz l d)=true
  ·simp only[h,if_true] at hp;cases hp
  ·simp only[h] at hp;exact⟨ps,hp,rfl⟩
 ·have:¬ g<zAa:=by omega
  simp[this,hb g hg]
end
end Go.Eng
namespace Go.Eng
open Go
section
variable {w0 w w' w1 w2:World} {U Φ0 Φ U1 Φ1 U2 Φ2:Nat->Prop} {nt:Nat} {hv:Hid} {a:Act} {e e':Env} {rv rv':Nat->Value} {E E':Nat->PV} {L L':Nat->LN}
theorem zBn{α:Type}{b:Bool}{x y:Option α}{r:α}(h:(bif b then x else y)=some r):(b=true/\x=some r)\/(b=false/\y=some r):=by
 cases b with
 |true=>exact .inl ⟨rfl,h⟩|false=>exact .inr ⟨rfl,h⟩
theorem zIB:∀ (p:PV),(zA0 p).heavy=false:=by
 intro p;induction p using PV.rec (motive_2:=fun ps=>zDf (zAt ps)=false) (motive_3:=fun _=>True) (motive_4:=fun _=>True)<;>first|trivial|rfl|skip
 all_goals simp_all[zA0,zAt,PV.heavy,zDf]
mutual
theorem zKW{f:PV->PV}(hf:∀ a,a.isWay=true->(f a).heavy=false):∀ (p:PV),p.heavy=false->(p.mapW f).heavy=false
 |.agg cs,h=>zGN hf cs h|.tup cs,h=>zGN hf cs h|.addr ..,_=>hf _ rfl|.bor ..,_=>hf _ rfl|.bsl ..,_=>hf _ rfl|.bmap ..,_=>hf _ rfl|.log ..,_=>hf _ rfl|.own ..,h=>h|.box _,h=>by cases h|.omap _,h=>h|.lock _,h=>by cases h|.bad,h=>h|.und,h=>h|.int ..,h=>h|.bool _,h=>h|.nilp,h=>h|.nilf,h=>h|.nilm,h=>h|.nn,h=>h|.nils _,h=>h|.sl _,h=>h|.ref _,h=>rfl|.map _,h=>h|.func ..,h=>rfl|.yld _,h=>h
theorem zGN{f:PV->PV}(hf:∀ a,a.isWay=true->(f a).heavy=false):∀ (ps:List PV),zDf ps=false->zDf (zCX f ps)=false
 |[],h=>h|p::ps,h=>by
  simp only[zDf,cI] at h;simp only[zCX,zDf,zKW hf p h.1,zGN hf ps h.2,Bool.or_self]
end
theorem zSj(r:Nat)(pre:zA4)(q0:PV):∀ a:PV,a.isWay=true->(inl r pre q0 a).heavy=false:=by
 have at_:∀ {q:Option PV} {g:PV->PV},(∀ x,(g x).heavy=false)->(zGH q g).heavy=false:=by
  intro q g h;cases q<;>first|rfl|exact h _
 have h1:∀ i c sh x,(zDI i c sh x).heavy=false:=by
  intro i c sh x;simp only[zDI]
  repeat' split
  all_goals first|rfl|(cases (_:Bool)<;>rfl)|skip
  all_goals (rename_i h;revert h;intro _)
  all_goals first|(generalize (ble _ _&&_)=b;cases b<;>rfl)|(generalize PV.oneCell _=b;cases b<;>rfl)
 have h2:∀ lo n x,(zCH lo n x).heavy=false:=by
  intro lo n x;simp only[zCH];split
  ·generalize ble _ _=b;cases b<;>rfl
  ·rfl
 have h3:∀ i c sz ag m x,(zCD i c sz ag m x).heavy=false:=by
  intro i c sz ag m x;simp only[zCD]
  repeat' split
  all_goals first|rfl|skip
  generalize (zCt _ _ _ _&&_)=b;cases b<;>rfl
 have h4:∀ x,(zES x).heavy=false:=by intro x;cases x<;>rfl
 intro a ha;cases a<;>first|(cases ha;done)|skip
 case addr=>simp only[inl];generalize zAU _ _ _ _=b;cases b<;>first|rfl|exact at_ (h1 _ _ _)
 case bor=>simp only[inl];generalize zAU _ _ _ _=b;cases b<;>first|rfl|exact at_ (h2 _ _)
 case bsl=>simp only[inl];generalize zAU _ _ _ _=b;cases b<;>first|rfl|exact at_ (h3 _ _ _ _ _)
 case bmap=>simp only[inl];generalize zAU _ _ _ _=b;cases b<;>first|rfl|exact at_ h4
 case log=>rfl
theorem zJD:∀ (R:LN) {e ef:Env} {Φ:Nat->Prop} {E:Nat->PV} {L:Nat->LN},St w0 U Φ0 nt hv a w e Φ rv E L->zBs E->zEE R e=some ef ->
  ∃ Φ' E' L',St w0 U Φ0 nt hv a w ef Φ' rv E' L'/\zBs E'/\(∀ b,Φ b->Φ' b)/\(∀ b,Φ' b->Φ b\/∃ r∈R,b∈L r)/\(∀ r∈R,∀ b∈L r,Φ' b)/\∀ s,∀ b∈L' s,b∈L s
 |[],e,ef,Φ,E,L,S,hb,h=>by
  simp only[zEE,ba] at h;subst h;exact⟨Φ,E,L,S,hb,fun _ h=>h,fun _ h=>.inl h,fun _ h=>(by cases h),fun _ _ h=>h⟩
 | r :: R, e,ef,Φ,E,L,S,hb,h=>by
  simp only[zEE] at h;rcases zBn h with⟨hr,h⟩|⟨_,h⟩
  ·have hr:=zCe hr
   cases hf:e.frz r [] with
   |none=>rw[hf] at h;cases h
   | some e1 =>
    rw[hf] at h;simp only at h;obtain⟨q0,root,hl,hn,hm,y8⟩:=Env.frz_eq hf;have yJ:=zBH hl;have hE:=S.env r hr;obtain⟨k1,k2⟩:=zBU (zFq q0).1 (zFq q0).2 hm;obtain⟨nv,Li,L1,h1,h2,h3,h4⟩:=S.conf.ice (fun _=>false) hr (pre:=[]) (q:=q0) (root':=root) (by rw[hE];exact yJ) (by rw[hE];exact hn) (by rw[hE];exact hm) k1;have hq:q0=E r:=by simp only[zAH,ba] at hn;rw[hE,hn]
    have uL:root=zA0 q0:=by simp only[zAz,ba] at hm;exact hm.symm
    have uc:Li=L r:=by
     simp only[zA1,ba,bz] at h1;rw[<- h1.1,hq] at h2;exact Rep.uniq _ _ _ _ h2 (by rw[show E r=(E r).unlock from(by rw[hE];exact yJ.symm)];exact zB9 (S.conf.rep r))
    have hL1r:L1 r=[]:=by
     have:=h4.rep r;simp only[hr,true_or,if_true] at this;refine zDt _ _ _ ?_ this;rw[uL];have hh:=zIB q0;exact zKW (zSj r [] q0) _ hh
    have S1:St w0 U Φ0 nt hv a w e1 (fun b=>Φ b\/b∈Li) rv (fun s=>if s<zAa\/False then(if s=r then root else E s).mapW (inl r [] q0) else E s) L1:=by
     refine S.turn (by simpa using h4) (fun s hs=>?_) (fun _ _=>rfl) (fun d ps hd hp=>?_)
     ·simp only[hs,true_or,if_true];rw[y8 s];by_cases yT:s=r
      ·subst yT;simp
      ·rw[if_neg yT,if_neg yT,S.env s hs]
     ·have uy:d<zAa:=by simp only[zAa];omega
      simp only[uy,true_or,if_true] at hp;obtain⟨ps',h5,h6⟩:=zEh (zSg r [] q0) hp;by_cases kP:d=r
      ·rw[if_pos kP] at h5;rw[h5] at k2;cases k2
      ·rw[if_neg kP] at h5;exact⟨ps',h5,h6⟩
    have ya:zBs fun s=>if s<zAa\/False then(if s=r then root else E s).mapW (inl r [] q0) else E s:=by
     intro g hg;have:¬ g<zAa:=by omega
     simp[this,hb g hg]
    obtain⟨Φ',E',L',g1,g2,g3,g4,g5,g6⟩:=zJD R S1 ya h;have yX:∀ s,∀ b∈L1 s,b∈L s:=by
     intro s b uE;by_cases yT:s=r
     ·subst yT;rw[hL1r] at uE;cases uE
     ·rw[h3 s yT] at uE;exact uE
    refine⟨Φ',E',L',g1,g2,fun b hb=>g3 b (.inl hb),fun b hb=>?_,fun t ht b j5=>?_,fun s b uE=>yX s b (g6 s b uE)⟩
    ·rcases g4 b hb with(h5|h5)|⟨t,ht,h5⟩
     ·exact .inl h5
     ·exact .inr ⟨r,by simp,by rw[<- uc];exact h5⟩
     ·exact .inr ⟨t,by simp[ht],yX t b h5⟩
    ·by_cases htr:t=r
     ·subst htr;exact g3 b (.inr (by rw[uc];exact j5))
     ·rcases bx.1 ht with h5|h5
      ·exact absurd h5 htr
      ·exact g5 t h5 b (by rw[h3 t htr];exact j5)
  ·cases h
theorem Fr.ice{R:LN}(hf:Fr w0 U Φ0 nt hv a w e):Fr w0 U Φ0 nt hv a w (zWN R e):=by
 simp only[zWN]
 cases h:zEE R e with
 |none=>exact hf|some ef=>
  obtain⟨Φ,rv,E,L,S,hb⟩:=hf;obtain⟨Φ',E',L',S',yL,_⟩:=zJD R S hb h;exact⟨Φ',rv,E',L',S',yL⟩
end
end Go.Eng
namespace Go.Eng
open Go
theorem zEe{r:Nat}{pre:zA4}{p:PV}(h:∀ x∈p.ways,zAU r pre x.1 x.2=false):p.mapW (lose r pre)=p:=by
 refine zDU p (fun a ha hw hn=>?_) (fun _ _=>rfl);have hx:∀ x,a.ways=[x]->zAU r pre x.1 x.2=false:=fun x hx=>h x (hw x (by rw[hx];simp));cases a<;>first|(cases ha;done)|(exact absurd rfl (hn _ _))|skip
 case addr r' q i c sh=>have:=hx _ rfl;simp only[zAU] at this;simp only[lose,this];rfl
 case bor r' q z lo n=>have:=hx _ rfl;simp only[zAU] at this;simp only[lose,this];rfl
 case bsl r' q i c sz ag n=>have:=hx _ rfl;simp only[zAU] at this;simp only[lose,this];rfl
 case bmap r' q=>have:=hx _ rfl;simp only[zAU] at this;simp only[lose,this];rfl
theorem zCK{r:Nat}{keep:List zA4}{p:PV}(h:∀ x∈p.ways,(beq x.1 r && !x.2.isEmpty)=false):p.mapW (zBV r keep)=p:=by
 refine zDU p (fun a ha hw hn=>?_) (fun _ _=>rfl);have hx:∀ x,a.ways=[x]->(beq x.1 r && !x.2.isEmpty)=false:=fun x hx=>h x (hw x (by rw[hx];simp));have key:∀ r' (q:zA4),(beq r' r && !q.isEmpty)=false->(beq r' r && !(q.isEmpty||keep.any q.isPrefixOf))=false:=by
  intro r' q h
  cases hb:beq r' r with
  |false=>rfl|true=>rw[hb] at h;simp only[cy,bE] at h ⊢;rw[h];rfl
 cases a<;>first|(cases ha;done)|(exact absurd rfl (hn _ _))|skip
 case addr r' q i c sh=>simp only[zBV,key _ _ (hx _ rfl)];rfl
 case bor r' q z lo n=>simp only[zBV,key _ _ (hx _ rfl)];rfl
 case bsl r' q i c sz ag n=>simp only[zBV,key _ _ (hx _ rfl)];rfl
 case bmap r' q=>simp only[zBV,key _ _ (hx _ rfl)];rfl
theorem zFV{r:Nat}{pre:zA4}{q0 p:PV}(h:∀ x∈p.ways,zAU r pre x.1 x.2=false):p.mapW (inl r pre q0)=p:=by
 refine zDU p (fun a ha hw hn=>?_) (fun _ _=>rfl);have hx:∀ x,a.ways=[x]->zAU r pre x.1 x.2=false:=fun x hx=>h x (hw x (by rw[hx];simp));cases a<;>first|(cases ha;done)|(exact absurd rfl (hn _ _))|rfl|skip
 case addr r' q i c sh=>have:=hx _ rfl;simp only[inl,this];rfl
 case bor r' q z lo n=>have:=hx _ rfl;simp only[inl,this];rfl
 case bsl r' q i c sz ag n=>have:=hx _ rfl;simp only[inl,this];rfl
 case bmap r' q=>have:=hx _ rfl;simp only[inl,this];rfl
theorem zHV{x q q':PV}{c:Nat}(hq:x.cells[c]? = some q)(hg:q'.isAgg=q.isAgg\/q'.isAgg=false):(zAG x c [q']).cells=x.cells.set c q':=by
 rcases hg with hg|hg
 ·exact zNT hq hg
 ·cases hx:x.isAgg with
  |true=>
   cases x<;>simp[PV.isAgg] at hx;rename_i cs;have hc:c<cs.length:=(bg.1 hq).1;show cs.take c++[q']++cs.drop (c+1)=cs.set c q'
   rw[cm,if_pos hc];simp
  |false=>
   have jO:x.cells=[x]:=by cases x<;>first|rfl|simp[PV.isAgg] at hx
   rw[jO] at hq ⊢;have hc:c=0:=by have:=(bg.1 hq).1;simp at this;exact this
   subst hc;have he:zAG x 0 [q']=q':=by cases x<;>first|rfl|simp[PV.isAgg] at hx
   rw[he];cases q'<;>first|rfl|simp[PV.isAgg] at hg
theorem zHq{p q q' p':PV}{i c:Nat}(hc:Eng.child p i c=some q)(hp:zB6 p i c q'=some p') :
  ∃ xs x,zA9 p=some xs/\xs[i]? = some x/\x.cells[c]? = some q/\zA9 p'=some (xs.set i (zAG x c [q']))/\((∃ sz,p = .own sz xs/\p' = .own sz (xs.set i (zAG x c [q'])))\/(∃ y,p = .box y/\i=0/\x=y/\p' = .box (zAG y c [q']))\/∃ cs,p = .agg cs/\i=0/\x = .agg cs/\p' = .agg (cs.take c++[q']++cs.drop (c+1))):=by
 simp only[Eng.child] at hc;simp only[zB6] at hp
 cases hh:zA9 p with
 |none=>rw[hh] at hc;cases hc
 | some xs =>
  rw[hh] at hc hp;simp only[bc] at hc hp
  cases hx:xs[i]? with
  |none=>rw[hx] at hc;cases hc
  | some x =>
   rw[hx] at hc hp;simp only[bc] at hc hp;have hi:i<xs.length:=(bg.1 hx).1;refine⟨xs,x,rfl,hx,hc,?_⟩;cases p<;>simp only[zA9] at hh<;>try cases hh
   ·rename_i cs;have j8:i=0:=by simpa using hi
    subst j8;simp only[bJ,ba] at hx;subst hx;simp only[zAG,cK,zAJ,ba] at hp ⊢;subst hp;refine⟨?_,.inr (.inr ⟨cs,?_⟩)⟩<;>first|(simp[zA9];done)|rfl|exact⟨rfl,rfl⟩|exact⟨rfl,rfl,rfl,rfl⟩
   ·rename_i sz;simp only[zAJ,ba] at hp;subst hp;refine⟨?_,.inl ⟨sz,?_⟩⟩<;>first|(simp[zA9];done)|rfl|exact⟨rfl,rfl⟩|exact⟨rfl,rfl,rfl,rfl⟩
   ·rename_i q0;have j8:i=0:=by simpa using hi
    subst j8;simp only[bJ,ba] at hx;subst hx;simp only[cK,zAJ,ba] at hp ⊢;subst hp;refine⟨?_,.inr (.inl ⟨q0,?_⟩)⟩<;>first|(simp[zA9];done)|rfl|exact⟨rfl,rfl⟩|exact⟨rfl,rfl,rfl,rfl⟩
theorem zQS{p q q' p':PV}{i c:Nat}(hc:Eng.child p i c=some q)(hg:q'.isAgg=q.isAgg\/q'.isAgg=false)(hp:zB6 p i c q'=some p') :
  Eng.child p' i c=some q'/\∀ i2 c2,(i2,c2)≠(i,c)->Eng.child p' i2 c2=Eng.child p i2 c2:=by
 obtain⟨xs,x,hh,hx,hcx,qG,_⟩:=zHq hc hp;have yt:=zHV hcx hg;have hi:i<xs.length:=(bg.1 hx).1;have yN:c<x.cells.length:=(bg.1 hcx).1;refine⟨?_,fun i2 c2 hI=>?_⟩
 ·simp only[Eng.child,qG,bc,cn hi,yt,cn yN]
 ·simp only[Eng.child,qG,hh,bc];by_cases kz:i2=i
  ·subst kz;rw[cn hi,hx];simp only[bc,yt];rw[dc (by intro e;exact hI (by rw[e]))]
  ·rw[dc (by omega)]
theorem zN5(r:Nat)(pre:zA4)(a:PV):zHM r pre (.box a) = .addr r pre 0 0 (if a.isAgg then some a.cells.length else none):=by
 cases a<;>rfl
theorem zEP{p q:PV}(h:zCG p q=true)(r:Nat)(pre:zA4):zHM r pre p=zHM r pre q:=by
 cases p<;>cases q<;>simp only[zCG] at h<;>try (cases h;done)
 ·simp only[bb] at h;have h1:=bd h.1;have h2:=bd h.2;subst h1;simp only[zHM,h2]
 ·rename_i a b;simp only[bb,beq_iff_eq] at h;have h2:=bd h.2;have h3:=h.1;rw[zN5,zN5,h3,h2]
 ·rfl
theorem zVh {v:PV} (hv:v.isAgg=false):∀ (P:zA4) (x q':PV),P≠[]->zAz (fun _=>some v) x P=some q'->x.isAgg=false->zCG x q'=true
 |[],_,_,hn,_,_=>absurd rfl hn
 | (i, c) :: P,x,q',_,h,hx=>by
  rw[zBu] at h
  cases hc:Eng.child x i c with
  |none=>rw[hc] at h;cases h
  | some y =>
   rw[hc] at h;simp only[bc] at h
   cases hm:zAz (fun _=>some v) y P with
   |none=>rw[hm] at h;cases h
   | some y' =>
    rw[hm] at h;simp only[bc] at h;obtain⟨xs,z,_,hz,kW,_,⟨sz,rfl,rfl⟩|⟨w,rfl,rfl,rfl,rfl⟩|⟨cs,rfl,_⟩⟩:=zHq hc h
    ·simp[zCG]
    ·have wp:y'.isAgg=y.isAgg\/y'.isAgg=false:=by
      cases P with
      |nil=>simp only[zAz,ba] at hm;subst hm;exact .inr hv
      | cons a P =>
       rw[zBu] at hm
       cases jF:Eng.child y a.1 a.2 with
       |none=>rw[jF] at hm;cases hm|some y2=>
        rw[jF] at hm;simp only[bc] at hm
        cases vo:zAz (fun _=>some v) y2 P with
        |none=>rw[vo] at hm;cases hm|some y3=>rw[vo] at hm;simp only[bc] at hm;exact .inl (zEg hm)
     have yt:=zHV kW wp;simp only[zCG,yt,dF,cN,fb,beq_iff_eq]
     cases kK:z.isAgg with
     |true=>cases z<;>first|(cases kK;done)|rfl
     |false=>
      have jO:z.cells=[z]:=by cases z<;>first|rfl|simp[PV.isAgg] at kK
      rw[jO] at kW;have vq:c=0:=by have:=(bg.1 kW).1;simp at this;exact this
      subst vq;simp at kW;subst kW;have he:zAG z 0 [y']=y':=by cases z<;>first|rfl|simp[PV.isAgg] at kK
      rw[he];rcases wp with h|h
      ·rw[h,kK]
      ·rw[h]
    ·cases hx
theorem zEu{r i:Nat}{pre:zA4}:∀ (l1 l2:List PV) (k:Nat),(∀ (j:Nat) (nm:zA4),(l1[j]?).map (zHM r nm)=(l2[j]?).map (zHM r nm))->zBI r pre i k l1=zBI r pre i k l2
 |[],[],_,_=>rfl|[],y::ys,_,h=>by have:=h 0 [];simp at this|x::xs,[],_,h=>by have:=h 0 [];simp at this|x::xs,y::ys,k,h=>by
  have h0:=h 0 (pre++[(i,k)]);simp only[bJ,bv,ba] at h0;simp only[zBI,h0];rw[zEu xs ys (k+1) fun j nm=>by have:=h (j+1) nm;simpa using this]
theorem zSP{s:Nat}{p q:PV}(h:zCG p q=true):view s p=view s q:=by
 have:=zEP h s [];cases p<;>cases q<;>simp only[zCG] at h<;>first|(cases h;done)|exact this
theorem zWI{v:PV}(hv:v.isAgg=false):∀ (P:zA4) (x x':PV),zAz (fun _=>some v) x P=some x'->x'.isAgg=x.isAgg\/x'.isAgg=false
 |[],x,x',h=>by simp only[zAz,ba] at h;subst h;exact .inr hv
 | (i,c)::P,x,x',h=>by
  rw[zBu] at h
  cases jF:Eng.child x i c with
  |none=>rw[jF] at h;cases h|some y2=>
   rw[jF] at h;simp only[bc] at h
   cases vo:zAz (fun _=>some v) y2 P with
   |none=>rw[vo] at h;cases h|some y3=>rw[vo] at h;simp only[bc] at h;exact .inl (zEg h)
theorem zHx{s:Nat}{F:PV->Option PV}{P:zA4}{p q:PV}(h:zAz F p P=some q)(hk:zAI p q P=true):view s p=view s q:=by
 by_cases ha:(∃ cs,p = .agg cs)/\(∃ ds,q = .agg ds)/\P≠[]
 ·obtain⟨⟨cs,rfl⟩,⟨ds,rfl⟩,hP⟩:=ha
  match P,hP with
  | (i, c)::rest,_ =>
   rw[zBu] at h
   cases hc:Eng.child (.agg cs) i c with
   |none=>rw[hc] at h;cases h
   | some x =>
    rw[hc] at h;simp only[bc] at h
    cases hm:zAz F x rest with
    |none=>rw[hm] at h;cases h
    | some x' =>
     rw[hm] at h;simp only[bc] at h;obtain⟨xs,z,hh,hz,kW,qG,⟨sz,h1,_⟩|⟨w,h1,_⟩|⟨cs',h1,rfl,rfl,h2⟩⟩:=zHq hc h
     ·cases h1
     ·cases h1
     ·cases h1;have kW:cs[c]? = some x:=kW;have yN:c<cs.length:=(bg.1 kW).1;have yt:cs.take c++[x']++cs.drop (c+1)=cs.set c x':=by rw[cm,if_pos yN];simp
      simp only[PV.agg.injEq] at h2;rw[yt] at h2;subst h2;simp only[zAI,kW,cn yN] at hk;show agg _=agg _
      congr 1;refine zEu _ _ _ fun j nm=>?_;by_cases hj:c=j
      ·subst hj;rw[cn yN,kW];simp only[bv];rw[zEP hk]
      ·rw[dc hj]
 ·have:zAI p q P=zCG p q:=by
   cases p<;>cases q<;>first|rfl|skip
   cases P with
   |nil=>rfl|cons a P=>exact absurd ⟨⟨_,rfl⟩,⟨_,rfl⟩,by simp⟩ ha
  rw[this] at hk;exact zSP hk
def zRx(r:Nat)(nm:zA4)(p:PV)(Q:zA4)(i c n:Nat):Option (Bool×List PV) :=
 match zAH p Q with
 | some q=>match zBi q with
  |some xs=>match xs[i]? with
   |some x=>bif ble (c+n) x.cells.length then some (x.isAgg,zBI r nm i c ((x.cells.drop c).take n)) else none|none=>none
  |none=>none
 |none=>none
theorem zIm {v:PV} (hv:v.isAgg=false) {r:Nat} {nm:zA4} {i c n:Nat}:∀ (P Q:zA4) (p p':PV),zAz (fun _=>some v) p P=some p' ->
  ((P.isPrefixOf Q=false/\∀ x,zAH p P=some x->zCG x v=true)\/(P≠[]/\P.dropLast.isPrefixOf Q=false))->zRx r nm p' Q i c n=zRx r nm p Q i c n
 |[],Q,p,p',h,hc=>by
  rcases hc with hc|hc
  ·simp at hc
  ·exact absurd rfl hc.1
 | (i0, c0) :: P,Q,p,p',h,vP=>by
  rw[zBu] at h
  cases hc:Eng.child p i0 c0 with
  |none=>rw[hc] at h;cases h
  | some x =>
   rw[hc] at h;simp only[bc] at h
   cases hm:zAz (fun _=>some v) x P with
   |none=>rw[hm] at h;cases h
   | some x' =>
    rw[hm] at h;simp only[bc] at h;have hg:=zWI hv P x x' hm;obtain⟨yc,vT⟩:=zQS hc hg h
    cases Q with
    | cons y Q =>
     obtain⟨j,d⟩:=y;simp only[zRx,zCg];by_cases hjd:(j,d)=(i0,c0)
     ·cases hjd;rw[yc,hc];simp only[bc];refine zIm hv P Q x x' hm ?_;rcases vP with⟨h1,h2⟩|⟨_,h2⟩
      ·refine .inl ⟨by simpa using h1,fun y hy=>h2 y (by rw[zCg,hc];exact hy)⟩
      ·cases P with
       |nil=>simp at h2|cons a P=>exact .inr ⟨by simp,by simpa using h2⟩
     ·rw[vT j d hjd]
    | nil =>
     have hview:∀ nm,zHM r nm x'=zHM r nm x:=by
      intro nm;have yY:zCG x x'=true->zHM r nm x'=zHM r nm x:=fun h=>(zEP h r nm).symm
      cases P with
      |nil=>
       simp only[zAz,ba] at hm;subst hm;rcases vP with⟨_,h2⟩|⟨_,h2⟩
       ·exact yY (h2 x (by rw[zCg,hc];rfl))
       ·simp at h2
      | cons a P =>
       cases hx:x.isAgg with
       |false=>exact yY (zVh hv _ x x' (by simp) hm hx)
       | true =>
        have u9:x'.isAgg=true:=by
         rw[zBu] at hm
         cases jF:Eng.child x a.1 a.2 with
         |none=>rw[jF] at hm;cases hm|some y2=>
          rw[jF] at hm;simp only[bc] at hm
          cases vo:zAz (fun _=>some v) y2 P with
          |none=>rw[vo] at hm;cases hm|some y3=>rw[vo] at hm;simp only[bc] at hm;rw[zEg hm,hx]
        cases x<;>first|(cases hx;done)|skip
        cases x'<;>first|(cases u9;done)|rfl
     obtain⟨xs,z,hh,hz,kW,qG,hform⟩:=zHq hc h;have yt:=zHV kW hg;have yN:c0<z.cells.length:=(bg.1 kW).1;have kd:(zAG z c0 [x']).isAgg=z.isAgg:=by
      cases kK:z.isAgg with
      |true=>cases z<;>first|(cases kK;done)|rfl
      |false=>
       have jO:z.cells=[z]:=by cases z<;>first|rfl|simp[PV.isAgg] at kK
       rw[jO] at kW;have vq:c0=0:=by have:=(bg.1 kW).1;simp at this;exact this
       subst vq;simp at kW;subst kW;have he:zAG z 0 [x']=x':=by cases z<;>first|rfl|simp[PV.isAgg] at kK
       rw[he];rcases hg with h|h
       ·rw[h,kK]
       ·exact h
     have hvc:zBI r nm i c (((zAG z c0 [x']).cells.drop c).take n)=zBI r nm i c ((z.cells.drop c).take n):=by
      rw[yt];refine zEu _ _ _ fun j nm=>?_;simp only[cu,ck];split
      ·by_cases hj:c0=c+j
       ·subst hj;rw[cn yN,kW];simp only[bv,hview]
       ·rw[dc hj]
      ·rfl
     have elem:(match(xs.set i0 (zAG z c0 [x']))[i]? with|some x=>bif ble (c+n) x.cells.length then some (x.isAgg,zBI r nm i c ((x.cells.drop c).take n)) else none|none=>none) =
       (match xs[i]? with|some x=>bif ble (c+n) x.cells.length then some (x.isAgg,zBI r nm i c ((x.cells.drop c).take n)) else none|none=>none):=by
      have hi:i0<xs.length:=(bg.1 hz).1;by_cases kz:i0=i
      ·subst kz;rw[cn hi,hz];simp only;rw[hvc,kd,yt,dF]
      ·rw[dc kz]
     simp only[zRx,zAH];rcases hform with⟨sz,rfl,rfl⟩|⟨w,rfl,rfl,rfl,rfl⟩|⟨cs,rfl,rfl,rfl,rfl⟩
     ·simp only[zBi];exact elem
     ·simp only[zA9,ba] at hh;subst hh;simp only[zBi];simpa using elem
     ·simp only[zBi]
abbrev zCW:=Nat->PV
def PM.does(o:zAK):PM->zCW->Tok->zCW->Prop
 |.ok,g,t,g'=>t={}/\g'=g|.fail,_,_,_=>False|.view s k,g,t,g'=>∃ t',t=Tok.join {look:=[s]} t'/\(k (Eng.view s (g s))).does o g t' g'|.get s k,g,t,g'=>(g s).isLock=false/\∃ t',t=Tok.join {rd:=[s]} t'/\(k (g s)).does o g t' g'|.set s p k,g,t,g'=>∃ t',t=Tok.join (zFF s (g s) p) t'/\k.does o (upd g s p) t' g'|.cells r pre i c n k,g,t,g'=>∃ a qs t',zAq r (g r) pre i c n=some (a,qs)/\t=Tok.join {cel:=[(r,pre)]} t'/\(k a qs).does o g t' g'|.deep r pre k,g,t,g'=>∃ q t',zAH (g r).unlock pre=some q/\t=Tok.join {rd:=[r]} t'/\(k q).does o g t' g'|.wcells r pre i c qs k,g,t,g'=>∃ root t',zBv (g r) pre i c qs=some root/\t=Tok.join (zBj r [] (zAI (g r) root pre) (g r) root) t'/\k.does o (upd g r root) t' g'
 | .wnode r pre q k,g,t,g'=>(g r).isLock=false/\∃ root t',zAz (fun _=>some q) (g r) pre=some root /\
   t=Tok.join (zBj r pre.dropLast (zAI (g r) root pre&&(pre.isEmpty || !q.isAgg)) (g r) root) t'/\k.does o (upd g r root) t' g'
 |.kill r pre k,g,t,g'=>∃ D t',(∀ s,s∉D->∀ x∈(g s).ways,zAU r pre x.1 x.2=false)/\t=Tok.join (zAV D g (fun s=>(g s).mapW (lose r pre)) [r] []) t'/\k.does o (fun s=>(g s).mapW (lose r pre)) t' g'
 | .frz r pre k,g,t,g'=>(g r).isLock=false/\∃ D t' q root,(∀ s,s∉D->∀ x∈(g s).ways,zAU r pre x.1 x.2=false)/\r∈D/\zAH (g r) pre=some q/\zAz (fun _=>some (zA0 q)) (g r) pre=some root /\
   t=Tok.join (zAV D g (fun s=>(upd g r root s).mapW (inl r pre q)) [r] []) t'/\k.does o (fun s=>(upd g r root s).mapW (inl r pre q)) t' g'
 |.killEx r keep k,g,t,g'=>∃ D t',(∀ s,s∉D->∀ x∈(g s).ways,(beq x.1 r && !x.2.isEmpty)=false)/\t=Tok.join (zAV D g (fun s=>(g s).mapW (zBV r keep)) [] [r]) t'/\k.does o (fun s=>(g s).mapW (zBV r keep)) t' g'
 |.forget _ _,_,t,_=>t.all=true|.call f args hid k,g,t,g'=>∃ v hX,o f args hid=some (v,hX)/\(k v hX).does o g t g'
theorem zXw{a b:LN}{x:Nat}(ha:x∈a)(hb:x∈b):zSz a b=true:=bX.2 ⟨x,ha,bX.2 ⟨x,hb,cN x⟩⟩
theorem zEb{a b:LN}(h:zSz a b=false){x:Nat}(ha:x∈a):x∉b:=fun hb=>by rw[zXw ha hb] at h;cases h
structure Off (a b:Tok):Prop where
 all:a.all=false
 look:∀ s∈a.wr,s∉b.look
 rd:∀ s∈a.wr,s∉b.rd
 cel:∀ s∈a.wr,∀ c∈b.cel,c.1≠s
 wr:∀ s∈a.wr,s∉b.wr
 inn:∀ s∈a.wr,∀ c∈b.inn,c.1≠s
 ird:∀ w∈a.inn,w.1∉b.rd
 iinn:∀ w∈a.inn,∀ c∈b.inn,c.1≠w.1
 icel:∀ w∈a.inn,∀ c∈b.cel,c.1=w.1->w.2.isPrefixOf c.2=false
 ways:∀ s∈a.kills,∀ x∈b.ways,x.1≠s
 waysIn:∀ s∈a.killsIn,∀ x∈b.ways,x.1=s->x.2.isEmpty=true
theorem zEt{l:List (Nat×zA4)}{x:Nat×zA4}(h:x∈l):x.1∈zNE l:=b4.2 ⟨x,h,rfl⟩
theorem zLj{a b:Tok}(h:zPg a b=false):Off a b:=by
 simp only[zPg,cI] at h;obtain⟨⟨⟨⟨⟨⟨⟨⟨⟨⟨h1,h2⟩,h3⟩,h4⟩,h5⟩,h6⟩,h7⟩,h8⟩,h9⟩,jZ⟩,vX⟩:=h;refine⟨h1,fun s hs=>zEb h2 hs,fun s hs=>zEb h3 hs,fun s hs c hc e=>?_,fun s hs=>zEb h5 hs,fun s hs c hc e=>?_,fun w hw=>zEb h7 (zEt hw),fun w hw c hc e=>?_,fun w hw c hc e=>?_,fun s hs x hx e=>?_,fun s hs x hx e=>?_⟩
 ·subst e;exact zEb h4 hs (zEt hc)
 ·subst e;exact zEb h6 hs (zEt hc)
 ·exact zEb h8 (zEt hw) (by rw[<- e];exact zEt hc)
 ·have:=dG.1 h9 w hw;have:=(dG (p:=fun c:Nat×zA4=>beq w.1 c.1&&w.2.isPrefixOf c.2)).1 (by simpa using this) c hc;simp only[e,cN,cy,cA] at this;exact this
 ·subst e;exact zEb jZ hs (zEt hx)
 ·cases he:x.2.isEmpty with
  |true=>rfl|false=>exact absurd (by rw[<- e];exact zEt (bO.2 ⟨hx,by rw[he];rfl⟩)) (zEb vX hs)
theorem Off.left{a a' b:Tok}(h:Off (Tok.join a a') b):Off a b:=by
 have ha:=h.all;simp only[Tok.join,cI] at ha
 exact⟨ha.1,fun s hs=>h.look s (bt _ hs),fun s hs=>h.rd s (bt _ hs),fun s hs=>h.cel s (bt _ hs),fun s hs=>h.wr s (bt _ hs),fun s hs=>h.inn s (bt _ hs),
  fun s hs=>h.ird s (bt _ hs),fun s hs=>h.iinn s (bt _ hs),fun s hs=>h.icel s (bt _ hs),fun s hs=>h.ways s (bt _ hs),fun s hs=>h.waysIn s (bt _ hs)⟩
theorem Off.left'{a a' b:Tok}(h:Off (Tok.join a a') b):Off a' b:=by
 have ha:=h.all;simp only[Tok.join,cI] at ha
 exact⟨ha.2,fun s hs=>h.look s (bn _ hs),fun s hs=>h.rd s (bn _ hs),fun s hs=>h.cel s (bn _ hs),fun s hs=>h.wr s (bn _ hs),fun s hs=>h.inn s (bn _ hs),
  fun s hs=>h.ird s (bn _ hs),fun s hs=>h.iinn s (bn _ hs),fun s hs=>h.icel s (bn _ hs),fun s hs=>h.ways s (bn _ hs),fun s hs=>h.waysIn s (bn _ hs)⟩
theorem Off.right{a b b':Tok}(h:Off a (Tok.join b b')):Off a b :=
 ⟨h.all,fun s hs hm=>h.look s hs (bt _ hm),fun s hs hm=>h.rd s hs (bt _ hm),fun s hs c hm=>h.cel s hs c (bt _ hm),fun s hs hm=>h.wr s hs (bt _ hm),fun s hs c hm=>h.inn s hs c (bt _ hm),
  fun s hs hm=>h.ird s hs (bt _ hm),fun s hs c hm=>h.iinn s hs c (bt _ hm),fun s hs c hm=>h.icel s hs c (bt _ hm),fun s hs x hm=>h.ways s hs x (bt _ hm),fun s hs x hm=>h.waysIn s hs x (bt _ hm)⟩
theorem Off.right'{a b b':Tok}(h:Off a (Tok.join b b')):Off a b' :=
 ⟨h.all,fun s hs hm=>h.look s hs (bn _ hm),fun s hs hm=>h.rd s hs (bn _ hm),fun s hs c hm=>h.cel s hs c (bn _ hm),fun s hs hm=>h.wr s hs (bn _ hm),fun s hs c hm=>h.inn s hs c (bn _ hm),
  fun s hs hm=>h.ird s hs (bn _ hm),fun s hs c hm=>h.iinn s hs c (bn _ hm),fun s hs c hm=>h.icel s hs c (bn _ hm),fun s hs x hm=>h.ways s hs x (bn _ hm),fun s hs x hm=>h.waysIn s hs x (bn _ hm)⟩
section
variable {o:zAK} {g g' g1 g2:zCW} {t:Tok} {s r:Nat}
theorem zDK:∀ {q:PM} {g g':zCW} {t:Tok},q.does o g t g'->t.all=false->s∉t.wr->(∀ c∈t.inn,c.1≠s)->g' s=g s:=by
 intro q
 induction q with
 |ok=>intro g g' t h _ _ _;rw[h.2]|fail=>intro g g' t h;cases h|view s0 k ih=>intro g g' t ⟨t',e,h⟩ ha hw hi;subst e;exact ih _ h ha hw hi|get s0 k ih=>intro g g' t ⟨_,t',e,h⟩ ha hw hi;subst e;exact ih _ h ha hw hi|set s0 p k ih=>
  intro g g' t ⟨t',e,h⟩ ha hw hi;subst e;simp only[Tok.join,zFF,bj,not_or,bk,ci,dn] at ha hw hi;rw[ih h ha hw.2 hi,zAe hw.1]
 |cells r0 pre i c n k ih=>intro g g' t ⟨a,qs,t',_,e,h⟩ ha hw hi;subst e;exact ih _ _ h ha hw hi|deep r0 pre k ih=>intro g g' t ⟨q,t',_,e,h⟩ ha hw hi;subst e;exact ih _ h ha hw hi
 | wcells r0 pre i c qs k ih =>
  intro g g' t ⟨root,t',_,e,h⟩ ha hw hi;subst e;have hI:s≠r0:=by
   rintro rfl
   cases hk:zAI (g s) root pre with
   |true=>exact hi (s,[]) (by simp[Tok.join,zBj,hk]) rfl|false=>exact hw (by simp[Tok.join,zBj,hk])
  rw[ih h (by simpa[Tok.join,zBj] using ha) (fun hm=>hw (bn _ hm)) (fun c hm=>hi c (bn _ hm)),zAe hI]
 | wnode r0 pre q k ih =>
  intro g g' t ⟨_,root,t',_,e,h⟩ ha hw hi;subst e;have hI:s≠r0:=by
   rintro rfl
   cases hk:(zAI (g s) root pre&&(pre.isEmpty || !q.isAgg)) with
   |true=>exact hi (s,pre.dropLast) (by simp only[Tok.join,zBj,hk];simp) rfl|false=>exact hw (by simp only[Tok.join,zBj,hk];simp)
  rw[ih h (by simpa[Tok.join,zBj] using ha) (fun hm=>hw (bn _ hm)) (fun c hm=>hi c (bn _ hm)),zAe hI]
 |kill r0 pre k ih=>
  intro g g' t ⟨D,t',hD,e,h⟩ ha hw hi;subst e;simp only[Tok.join,zAV,bj,not_or,ci,dn] at ha hw hi;rw[ih h ha hw.2 hi,zEe (hD s hw.1)]
 |frz r0 pre k ih=>
  intro g g' t ⟨_,D,t',q,root,hD,hr,_,_,e,h⟩ ha hw hi;subst e;simp only[Tok.join,zAV,bj,not_or,ci,dn] at ha hw hi;rw[ih h ha hw.2 hi,zAe (by rintro rfl;exact hw.1 hr),zFV (hD s hw.1)]
 |killEx r0 pre k ih=>
  intro g g' t ⟨D,t',hD,e,h⟩ ha hw hi;subst e;simp only[Tok.join,zAV,bj,not_or,ci,dn] at ha hw hi;rw[ih h ha hw.2 hi,zCK (hD s hw.1)]
 |forget r0 k ih=>intro g g' t h ha;rw[show t.all=true from h] at ha;cases ha|call f args hid k ih=>intro g g' t ⟨v,hX,_,h⟩ ha hw hi;exact ih _ _ h ha hw hi
theorem zSm:∀ {q:PM} {g g':zCW} {t:Tok},q.does o g t g'->t.all=false->s∉t.wr->view s (g' s)=view s (g s):=by
 intro q
 induction q with
 |ok=>intro g g' t h _ _;rw[h.2]|fail=>intro g g' t h;cases h|view s0 k ih=>intro g g' t ⟨t',e,h⟩ ha hw;subst e;exact ih _ h ha hw|get s0 k ih=>intro g g' t ⟨_,t',e,h⟩ ha hw;subst e;exact ih _ h ha hw|set s0 p k ih=>
  intro g g' t ⟨t',e,h⟩ ha hw;subst e;simp only[Tok.join,zFF,bj,not_or,bk,ci] at ha hw;rw[ih h ha hw.2,zAe hw.1]
 |cells r0 pre i c n k ih=>intro g g' t ⟨a,qs,t',_,e,h⟩ ha hw;subst e;exact ih _ _ h ha hw|deep r0 pre k ih=>intro g g' t ⟨q,t',_,e,h⟩ ha hw;subst e;exact ih _ h ha hw
 | wcells r0 pre i c qs k ih =>
  intro g g' t ⟨root,t',hr,e,h⟩ ha hw;subst e;rw[ih h (by simpa[Tok.join,zBj] using ha) (fun hm=>hw (bn _ hm))];by_cases hI:s=r0
  ·subst hI;rw[zAi]
   cases hk:zAI (g s) root pre with
   |false=>exact absurd (by simp[Tok.join,zBj,hk]) hw|true=>
    simp only[zBv] at hr;revert hr
    cases (zDH (g s) pre && !(zBx qs).isEmpty) with
    |true=>intro hr;cases hr|false=>intro hr;exact(zHx hr hk).symm
  ·rw[zAe hI]
 | wnode r0 pre q k ih =>
  intro g g' t ⟨_,root,t',hr,e,h⟩ ha hw;subst e;rw[ih h (by simpa[Tok.join,zBj] using ha) (fun hm=>hw (bn _ hm))];by_cases hI:s=r0
  ·subst hI;rw[zAi]
   cases hk:(zAI (g s) root pre&&(pre.isEmpty || !q.isAgg)) with
   |false=>exact absurd (by simp only[Tok.join,zBj,hk];simp) hw|true=>
    rw[bb] at hk;exact(zHx hr hk.1).symm
  ·rw[zAe hI]
 |kill r0 pre k ih=>
  intro g g' t ⟨D,t',hD,e,h⟩ ha hw;subst e;simp only[Tok.join,zAV,bj,not_or,ci] at ha hw;rw[ih h ha hw.2,zEe (hD s hw.1)]
 |frz r0 pre k ih=>
  intro g g' t ⟨_,D,t',q,root,hD,hr,_,_,e,h⟩ ha hw;subst e;simp only[Tok.join,zAV,bj,not_or,ci] at ha hw;rw[ih h ha hw.2,zAe (by rintro rfl;exact hw.1 hr),zFV (hD s hw.1)]
 |killEx r0 pre k ih=>
  intro g g' t ⟨D,t',hD,e,h⟩ ha hw;subst e;simp only[Tok.join,zAV,bj,not_or,ci] at ha hw;rw[ih h ha hw.2,zCK (hD s hw.1)]
 |forget r0 k ih=>intro g g' t h ha;rw[show t.all=true from h] at ha;cases ha|call f args hid k ih=>intro g g' t ⟨v,hX,_,h⟩ ha hw;exact ih _ _ h ha hw
theorem zNf{p:PV}(h:p.isLock=false):p.unlock=p:=by cases p<;>first|rfl|cases h
theorem zJM{r:Nat}{p:PV}{pre:zA4}{i c n:Nat}:zAq r p pre i c n=zRx r pre p.unlock pre i c n:=rfl
theorem zKO{F:PV->Option PV}{p q:PV}{x:Nat×zA4}{pre:zA4}{i c:Nat}(h:zAz F p ((i,c)::pre)=some q):q.isLock=false:=by
 rw[zBu] at h
 cases hc:Eng.child p i c with
 |none=>rw[hc] at h;cases h
 | some y =>
  rw[hc] at h;simp only[bc] at h
  cases hm:zAz F y pre with
  |none=>rw[hm] at h;cases h|some y'=>
   rw[hm] at h;simp only[bc] at h;obtain⟨xs,z,_,hz,kW,_,⟨sz,rfl,rfl⟩|⟨w,rfl,rfl,rfl,rfl⟩|⟨cs,rfl,_,_,rfl⟩⟩:=zHq hc h<;>rfl
theorem zJG{r:Nat}{q root p:PV}{pre Q:zA4}(hl:p.isLock=false)(hr:zAz (fun _=>some q) p pre=some root)(hk:(zAI p root pre&&(pre.isEmpty || !q.isAgg))=true)(hp:pre.dropLast.isPrefixOf Q=false)(i c n:Nat) :
  zAq r root Q i c n=zAq r p Q i c n:=by
 rw[zJM,zJM,zNf hl]
 cases pre with
 |nil=>simp at hp
 | cons x pre =>
  have hq:q.isAgg=false:=by
   rw[bb] at hk;have:=hk.2;simpa using this
  rw[zNf (zKO (x:=(0,[])) hr)];exact zIm hq _ _ _ _ hr (.inr ⟨by simp,hp⟩)
theorem zRa{Q:zA4}{i c n:Nat}:∀ {q:PM} {g g':zCW} {t:Tok},q.does o g t g'->t.all=false->s∉t.wr->(∀ w∈t.inn,s=w.1->w.2.isPrefixOf Q=false)->zAq s (g' s) Q i c n=zAq s (g s) Q i c n:=by
 intro q
 induction q with
 |ok=>intro g g' t h _ _ _;rw[h.2]|fail=>intro g g' t h;cases h|view s0 k ih=>intro g g' t ⟨t',e,h⟩ ha hw hi;subst e;exact ih _ h ha hw hi|get s0 k ih=>intro g g' t ⟨_,t',e,h⟩ ha hw hi;subst e;exact ih _ h ha hw hi|set s0 p k ih=>
  intro g g' t ⟨t',e,h⟩ ha hw hi;subst e;simp only[Tok.join,zFF,bj,not_or,bk,ci,dn] at ha hw hi;rw[ih h ha hw.2 hi,zAe hw.1]
 |cells r0 pre i c n k ih=>intro g g' t ⟨a,qs,t',_,e,h⟩ ha hw hi;subst e;exact ih _ _ h ha hw hi|deep r0 pre k ih=>intro g g' t ⟨q,t',_,e,h⟩ ha hw hi;subst e;exact ih _ h ha hw hi
 | wcells r0 pre i c qs k ih =>
  intro g g' t ⟨root,t',_,e,h⟩ ha hw hi;subst e;have hI:s≠r0:=by
   rintro rfl
   cases hk:zAI (g s) root pre with
   |true=>have:=hi (s,[]) (by simp[Tok.join,zBj,hk]) rfl;simp at this|false=>exact hw (by simp[Tok.join,zBj,hk])
  rw[ih h (by simpa[Tok.join,zBj] using ha) (fun hm=>hw (bn _ hm)) (fun c hm=>hi c (bn _ hm)),zAe hI]
 | wnode r0 pre q k ih =>
  intro g g' t ⟨hl,root,t',hr,e,h⟩ ha hw hi;subst e;rw[ih h (by simpa[Tok.join,zBj] using ha) (fun hm=>hw (bn _ hm)) (fun c hm=>hi c (bn _ hm))];by_cases hI:s=r0
  ·subst hI;rw[zAi]
   cases hk:(zAI (g s) root pre&&(pre.isEmpty || !q.isAgg)) with
   |true=>exact zJG hl hr hk (hi (s,pre.dropLast) (by simp only[Tok.join,zBj,hk];simp) rfl) _ _ _|false=>exact absurd (by simp only[Tok.join,zBj,hk];simp) hw
  ·rw[zAe hI]
 |kill r0 pre k ih=>
  intro g g' t ⟨D,t',hD,e,h⟩ ha hw hi;subst e;simp only[Tok.join,zAV,bj,not_or,ci,dn] at ha hw hi;rw[ih h ha hw.2 hi,zEe (hD s hw.1)]
 |frz r0 pre k ih=>
  intro g g' t ⟨_,D,t',q,root,hD,hr,_,_,e,h⟩ ha hw hi;subst e;simp only[Tok.join,zAV,bj,not_or,ci,dn] at ha hw hi;rw[ih h ha hw.2 hi,zAe (by rintro rfl;exact hw.1 hr),zFV (hD s hw.1)]
 |killEx r0 pre k ih=>
  intro g g' t ⟨D,t',hD,e,h⟩ ha hw hi;subst e;simp only[Tok.join,zAV,bj,not_or,ci,dn] at ha hw hi;rw[ih h ha hw.2 hi,zCK (hD s hw.1)]
 |forget r0 k ih=>intro g g' t h ha;rw[show t.all=true from h] at ha;cases ha|call f args hid k ih=>intro g g' t ⟨v,hX,_,h⟩ ha hw hi;exact ih _ _ h ha hw hi
theorem zKp{D:LN}{ok:Nat×zA4->Prop}:∀ {q:PM} {g g':zCW} {t:Tok},q.does o g t g'->t.all=false->(∀ x∈t.ways,ok x)->(∀ s,s∉D->∀ x∈(g s).ways,ok x)->∀ s,s∉D->∀ x∈(g' s).ways,ok x:=by
 have put:∀ {g:zCW} {s0:Nat} {p:PV},(∀ x∈p.ways,ok x)->(∀ s,s∉D->∀ x∈(g s).ways,ok x)->∀ s,s∉D->∀ x∈(upd g s0 p s).ways,ok x:=by
  intro g s0 p hp hg s hs x hx;by_cases h:s=s0
  ·subst h;rw[zAi] at hx;exact hp x hx
  ·rw[zAe h] at hx;exact hg s hs x hx
 have turn:∀ {g g1:zCW} {D0:LN} {t:Tok} {ks ki:LN},(∀ x∈(Tok.join (zAV D0 g g1 ks ki) t).ways,ok x)->(∀ s,s∉D0->g1 s=g s)->(∀ s,s∉D->∀ x∈(g s).ways,ok x)->∀ s,s∉D->∀ x∈(g1 s).ways,ok x:=by
  intro g g1 D0 t ks ki hw h1 hg s hs x hx;by_cases h:s∈D0
  ·exact hw x (bt _ (cG.2 ⟨s,h,bn _ hx⟩))
  ·rw[h1 s h] at hx;exact hg s hs x hx
 intro q
 induction q with
 |ok=>intro g g' t h _ _ hg;rw[h.2];exact hg|fail=>intro g g' t h;cases h|view s0 k ih=>intro g g' t ⟨t',e,h⟩ ha hw hi;subst e;exact ih _ h ha hw hi|get s0 k ih=>intro g g' t ⟨_,t',e,h⟩ ha hw hi;subst e;exact ih _ h ha hw hi|set s0 p k ih=>
  intro g g' t ⟨t',e,h⟩ ha hw hi;subst e;exact ih h (by simpa[Tok.join,zFF] using ha) (fun x hx=>hw x (bn _ hx)) (put (fun x hx=>hw x (bt _ (bn _ hx))) hi)
 |cells r pre i c n k ih=>intro g g' t ⟨a,qs,t',_,e,h⟩ ha hw hi;subst e;exact ih _ _ h ha hw hi|deep r pre k ih=>intro g g' t ⟨q,t',_,e,h⟩ ha hw hi;subst e;exact ih _ h ha hw hi|wcells r pre i c qs k ih=>
  intro g g' t ⟨root,t',_,e,h⟩ ha hw hi;subst e;exact ih h (by simpa[Tok.join,zBj] using ha) (fun x hx=>hw x (bn _ hx)) (put (fun x hx=>hw x (bt _ (bn _ hx))) hi)
 |wnode r pre q k ih=>
  intro g g' t ⟨_,root,t',_,e,h⟩ ha hw hi;subst e;exact ih h (by simpa[Tok.join,zBj] using ha) (fun x hx=>hw x (bn _ hx)) (put (fun x hx=>hw x (bt _ (bn _ hx))) hi)
 |kill r pre k ih=>
  intro g g' t ⟨D0,t',hD,e,h⟩ ha hw hi;subst e;exact ih h (by simpa[Tok.join,zAV] using ha) (fun x hx=>hw x (bn _ hx)) (turn hw (fun s hs=>zEe (hD s hs)) hi)
 |frz r pre k ih=>
  intro g g' t ⟨_,D0,t',q,root,hD,hr,_,_,e,h⟩ ha hw hi;subst e;exact ih h (by simpa[Tok.join,zAV] using ha) (fun x hx=>hw x (bn _ hx)) (turn hw (fun s hs=>by rw[zAe (by rintro rfl;exact hs hr),zFV (hD s hs)]) hi)
 |killEx r pre k ih=>
  intro g g' t ⟨D0,t',hD,e,h⟩ ha hw hi;subst e;exact ih h (by simpa[Tok.join,zAV] using ha) (fun x hx=>hw x (bn _ hx)) (turn hw (fun s hs=>zCK (hD s hs)) hi)
 |forget r k ih=>intro g g' t h ha;rw[show t.all=true from h] at ha;cases ha|call f args hid k ih=>intro g g' t ⟨v,hX,_,h⟩ ha hw hi;exact ih _ _ h ha hw hi
theorem zO6{α:Type}{f:Nat->α}{s:Nat}{x y:α}:upd (upd f s x) s y=upd f s y:=by funext t;simp only[upd];split<;>rfl
theorem zLX{α:Type}{f:Nat->α}{s:Nat}:upd f s (f s)=f:=by
 funext u;simp only[upd];split
 ·rename_i e;rw[e]
 ·rfl
def mix(D:LN)(v g:zCW):zCW:=fun s=>if s∈D then v s else g s
theorem zBz{D:LN}{v g:zCW}{s:Nat}(h:s∈D):mix D v g s=v s:=if_pos h
theorem zAW{D:LN}{v g:zCW}{s:Nat}(h:s∉D):mix D v g s=g s:=if_neg h
theorem zJ1{D:LN}{v g:zCW}{s:Nat}{p:PV}(h:s∉D):upd (mix D v g) s p=mix D v (upd g s p):=by
 funext u;by_cases hu:u=s
 ·subst hu;rw[zAi,zAW h,zAi]
 ·rw[zAe hu];by_cases hd:u∈D
  ·rw[zBz hd,zBz hd]
  ·rw[zAW hd,zAW hd,zAe hu]
theorem zOA{g:zCW}{s:Nat}{p:PV}:upd g s p=mix [s] (fun _=>p) g:=by
 funext u;simp only[upd,mix,bk]
theorem zCM{D:LN}{g g' h h':zCW}{ks ki:LN}(h1:∀ s∈D,g s=h s)(h2:∀ s∈D,g' s=h' s):zAV D g g' ks ki=zAV D h h' ks ki:=by
 simp only[zAV];congr 1
 induction D with
 |nil=>rfl|cons d D ih=>
  simp only[dU];rw[h1 d (by simp),h2 d (by simp),ih (fun s hs=>h1 s (by simp[hs])) (fun s hs=>h2 s (by simp[hs]))]
structure Unseen (D:LN) (v g:zCW) (t:Tok):Prop where
 rd:∀ s∈D,s∉t.rd
 wr:∀ s∈D,s∉t.wr
 inn:∀ s∈D,∀ c∈t.inn,c.1≠s
 look:∀ s∈D,s∈t.look->view s (v s)=view s (g s)
 cel:∀ s∈D,∀ c∈t.cel,c.1=s->∀ i c' n,zAq s (v s) c.2 i c' n=zAq s (g s) c.2 i c' n
 kills:∀ s∈D,∀ k∈t.kills,∀ x∈(g s).ways,x.1≠k
 killsIn:∀ s∈D,∀ k∈t.killsIn,∀ x∈(g s).ways,x.1=k->x.2.isEmpty=true
theorem Unseen.rest{D:LN}{v g g':zCW}{a t:Tok}(h:Unseen D v g (Tok.join a t))(hg:∀ s∈D,g' s=g s):Unseen D v g' t :=
 ⟨fun s hs hm=>h.rd s hs (bn _ hm),fun s hs hm=>h.wr s hs (bn _ hm),fun s hs c hm=>h.inn s hs c (bn _ hm),fun s hs hm=>by rw[hg s hs];exact h.look s hs (bn _ hm),
  fun s hs c hm=>by rw[hg s hs];exact h.cel s hs c (bn _ hm),fun s hs k hm=>by rw[hg s hs];exact h.kills s hs k (bn _ hm),fun s hs k hm=>by rw[hg s hs];exact h.killsIn s hs k (bn _ hm)⟩
theorem zG7{r:Nat}{pre:zA4}{x:Nat×zA4}(h:x.1≠r):zAU r pre x.1 x.2=false:=by
 simp only[zAU]
 cases hb:beq x.1 r with
 |true=>exact absurd (bd hb) h|false=>rfl
theorem zWi{r:Nat}{x:Nat×zA4}(h:x.1=r->x.2.isEmpty=true):(beq x.1 r && !x.2.isEmpty)=false:=by
 cases hb:beq x.1 r with
 |true=>rw[h (bd hb)];rfl|false=>rfl
theorem zGi{D:LN}{v:zCW}:∀ {q:PM} {g g':zCW} {t:Tok},q.does o (mix D v g) t g'->t.all=false->Unseen D v g t->q.does o g t (mix D g g'):=by
 intro q
 induction q with
 |ok=>
  intro g g' t h _ _;refine⟨h.1,?_⟩;rw[h.2];funext s;by_cases hs:s∈D
  ·rw[zBz hs]
  ·rw[zAW hs,zAW hs]
 |fail=>intro g g' t h;cases h
 | view s0 k ih =>
  intro g g' t ⟨t',e,h⟩ ha hu;subst e;have hv:view s0 (mix D v g s0)=view s0 (g s0):=by
   by_cases hs:s0∈D
   ·rw[zBz hs];exact hu.look s0 hs (by simp[Tok.join])
   ·rw[zAW hs]
  rw[hv] at h;exact⟨t',rfl,ih _ h ha (hu.rest fun _ _=>rfl)⟩
 |get s0 k ih=>
  intro g g' t ⟨yJ,t',e,h⟩ ha hu;subst e;have hs:s0∉D:=fun hs=>hu.rd s0 hs (by simp[Tok.join]);rw[zAW hs] at h yJ;exact⟨yJ,t',rfl,ih _ h ha (hu.rest fun _ _=>rfl)⟩
 | set s0 p k ih =>
  intro g g' t ⟨t',e,h⟩ ha hu;subst e;have hs:s0∉D:=fun hs=>hu.wr s0 hs (by simp[Tok.join,zFF]);rw[zAW hs] at hu ⊢;rw[zJ1 hs] at h;have hg:∀ s∈D,upd g s0 p s=g s:=fun s hd=>zAe (by rintro rfl;exact hs hd);have:=ih h (by simpa[Tok.join,zFF] using ha) (hu.rest hg);refine⟨t',rfl,?_⟩;have he:mix D (upd g s0 p) g'=mix D g g':=by
   funext s;by_cases hd:s∈D
   ·rw[zBz hd,zBz hd,hg s hd]
   ·rw[zAW hd,zAW hd]
  rw[<- he];exact this
 | cells r0 pre i c n k ih =>
  intro g g' t ⟨a,qs,t',kX,e,h⟩ ha hu;subst e;have hv:zAq r0 (g r0) pre i c n=some (a,qs):=by
   by_cases hs:r0∈D
   ·rw[zBz hs] at kX;rw[<- hu.cel r0 hs (r0,pre) (by simp[Tok.join]) rfl];exact kX
   ·rw[zAW hs] at kX;exact kX
  exact⟨a,qs,t',hv,rfl,ih _ _ h ha (hu.rest fun _ _=>rfl)⟩
 |deep r0 pre k ih=>
  intro g g' t ⟨q,t',hn,e,h⟩ ha hu;subst e;have hs:r0∉D:=fun hs=>hu.rd r0 hs (by simp[Tok.join]);rw[zAW hs] at hn;exact⟨q,t',hn,rfl,ih _ h ha (hu.rest fun _ _=>rfl)⟩
 | wcells r0 pre i c qs k ih =>
  intro g g' t ⟨root,t',hn,e,h⟩ ha hu;subst e;have hs:r0∉D:=by
   intro hs
   cases um:zAI (mix D v g r0) root pre with
   |true=>exact hu.inn r0 hs (r0,[]) (by simp[Tok.join,zBj,um]) rfl|false=>exact hu.wr r0 hs (by simp[Tok.join,zBj,um])
  rw[zAW hs] at hn hu ha ⊢;rw[zJ1 hs] at h;have hg:∀ s∈D,upd g r0 root s=g s:=fun s hd=>zAe (by rintro rfl;exact hs hd);have:=ih h (by simpa[Tok.join,zBj] using ha) (hu.rest hg);refine⟨root,t',hn,rfl,?_⟩;have he:mix D (upd g r0 root) g'=mix D g g':=by
   funext s;by_cases hd:s∈D
   ·rw[zBz hd,zBz hd,hg s hd]
   ·rw[zAW hd,zAW hd]
  rw[<- he];exact this
 | wnode r0 pre q k ih =>
  intro g g' t ⟨yJ,root,t',hn,e,h⟩ ha hu;subst e;have hs:r0∉D:=by
   intro hs
   cases um:(zAI (mix D v g r0) root pre&&(pre.isEmpty || !q.isAgg)) with
   |true=>exact hu.inn r0 hs (r0,pre.dropLast) (by simp only[Tok.join,zBj,um];simp) rfl|false=>exact hu.wr r0 hs (by simp only[Tok.join,zBj,um];simp)
  rw[zAW hs] at hn yJ hu ha ⊢;rw[zJ1 hs] at h;have hg:∀ s∈D,upd g r0 root s=g s:=fun s hd=>zAe (by rintro rfl;exact hs hd);have:=ih h (by simpa[Tok.join,zBj] using ha) (hu.rest hg);refine⟨yJ,root,t',hn,rfl,?_⟩;have he:mix D (upd g r0 root) g'=mix D g g':=by
   funext s;by_cases hd:s∈D
   ·rw[zBz hd,zBz hd,hg s hd]
   ·rw[zAW hd,zAW hd]
  rw[<- he];exact this
 | kill r0 pre k ih =>
  intro g g' t ⟨D0,t',hD,e,h⟩ ha hu;subst e;have yq:∀ s∈D0,s∉D:=fun s h0 hd=>hu.wr s hd (by simp[Tok.join,zAV,h0]);have hq:∀ s∈D,∀ x∈(g s).ways,zAU r0 pre x.1 x.2=false:=fun s hd x hx=>zG7 (hu.kills s hd r0 (by simp[Tok.join,zAV]) x hx);have hg:∀ s∈D,(fun s=>(g s).mapW (lose r0 pre)) s=g s:=fun s hd=>zEe (hq s hd);have hm:(fun s=>(mix D v g s).mapW (lose r0 pre))=mix D v (fun s=>(g s).mapW (lose r0 pre)):=by
   funext s;by_cases hd:s∈D
   ·have:=hD s (fun h0=>yq s h0 hd);rw[zBz hd] at this;rw[zBz hd,zBz hd,zEe this]
   ·rw[zAW hd,zAW hd]
  have ht:=zCM (D:=D0) (g:=mix D v g) (g':=fun s=>(mix D v g s).mapW (lose r0 pre)) (h:=g) (h':=fun s=>(g s).mapW (lose r0 pre)) (ks:=[r0]) (ki:=[]) (fun s h0=>zAW (yq s h0)) (fun s h0=>by simp only[zAW (yq s h0)]);rw[hm] at h;rw[ht] at hu ha ⊢;have:=ih h (by simpa[Tok.join,zAV] using ha) (hu.rest hg);refine⟨D0,t',fun s h0 x hx=>?_,rfl,?_⟩
  ·by_cases hd:s∈D
   ·exact hq s hd x hx
   ·exact hD s h0 x (by rw[zAW hd];exact hx)
  ·have he:mix D (fun s=>(g s).mapW (lose r0 pre)) g'=mix D g g':=by
    funext s;by_cases hd:s∈D
    ·rw[zBz hd,zBz hd];exact hg s hd
    ·rw[zAW hd,zAW hd]
   rw[<- he];exact this
 | frz r0 pre k ih =>
  intro g g' t ⟨yJ,D0,t',q,root,hD,hr,hn,hmn,e,h⟩ ha hu;subst e;have yq:∀ s∈D0,s∉D:=fun s h0 hd=>hu.wr s hd (by simp[Tok.join,zAV,h0]);have vu:=yq r0 hr;have hq:∀ s∈D,∀ x∈(g s).ways,zAU r0 pre x.1 x.2=false:=fun s hd x hx=>zG7 (hu.kills s hd r0 (by simp[Tok.join,zAV]) x hx);have hg:∀ s∈D,(fun s=>(upd g r0 root s).mapW (inl r0 pre q)) s=g s:=fun s hd=>by
   simp only;rw[zAe (by rintro rfl;exact vu hd),zFV (hq s hd)]
  have hm:(fun s=>(upd (mix D v g) r0 root s).mapW (inl r0 pre q))=mix D v (fun s=>(upd g r0 root s).mapW (inl r0 pre q)):=by
   rw[zJ1 vu];funext s;by_cases hd:s∈D
   ·have:=hD s (fun h0=>yq s h0 hd);rw[zBz hd] at this;rw[zBz hd,zBz hd,zFV this]
   ·rw[zAW hd,zAW hd]
  have ht:=zCM (D:=D0) (g:=mix D v g) (g':=fun s=>(upd (mix D v g) r0 root s).mapW (inl r0 pre q)) (h:=g) (h':=fun s=>(upd g r0 root s).mapW (inl r0 pre q)) (ks:=[r0]) (ki:=[]) (fun s h0=>zAW (yq s h0)) (fun s h0=>by simp only[zJ1 vu,zAW (yq s h0)]);rw[hm] at h;rw[ht] at hu ha ⊢;rw[zAW vu] at yJ hn hmn;have:=ih h (by simpa[Tok.join,zAV] using ha) (hu.rest hg);refine⟨yJ,D0,t',q,root,fun s h0 x hx=>?_,hr,hn,hmn,rfl,?_⟩
  ·by_cases hd:s∈D
   ·exact hq s hd x hx
   ·exact hD s h0 x (by rw[zAW hd];exact hx)
  ·have he:mix D (fun s=>(upd g r0 root s).mapW (inl r0 pre q)) g'=mix D g g':=by
    funext s;by_cases hd:s∈D
    ·rw[zBz hd,zBz hd];exact hg s hd
    ·rw[zAW hd,zAW hd]
   rw[<- he];exact this
 | killEx r0 pre k ih =>
  intro g g' t ⟨D0,t',hD,e,h⟩ ha hu;subst e;have yq:∀ s∈D0,s∉D:=fun s h0 hd=>hu.wr s hd (by simp[Tok.join,zAV,h0]);have hq:∀ s∈D,∀ x∈(g s).ways,(beq x.1 r0 && !x.2.isEmpty)=false:=fun s hd x hx=>zWi (hu.killsIn s hd r0 (by simp[Tok.join,zAV]) x hx);have hg:∀ s∈D,(fun s=>(g s).mapW (zBV r0 pre)) s=g s:=fun s hd=>zCK (hq s hd);have hm:(fun s=>(mix D v g s).mapW (zBV r0 pre))=mix D v (fun s=>(g s).mapW (zBV r0 pre)):=by
   funext s;by_cases hd:s∈D
   ·have:=hD s (fun h0=>yq s h0 hd);rw[zBz hd] at this;rw[zBz hd,zBz hd,zCK this]
   ·rw[zAW hd,zAW hd]
  have ht:=zCM (D:=D0) (g:=mix D v g) (g':=fun s=>(mix D v g s).mapW (zBV r0 pre)) (h:=g) (h':=fun s=>(g s).mapW (zBV r0 pre)) (ks:=[]) (ki:=[r0]) (fun s h0=>zAW (yq s h0)) (fun s h0=>by simp only[zAW (yq s h0)]);rw[hm] at h;rw[ht] at hu ha ⊢;have:=ih h (by simpa[Tok.join,zAV] using ha) (hu.rest hg);refine⟨D0,t',fun s h0 x hx=>?_,rfl,?_⟩
  ·by_cases hd:s∈D
   ·exact hq s hd x hx
   ·exact hD s h0 x (by rw[zAW hd];exact hx)
  ·have he:mix D (fun s=>(g s).mapW (zBV r0 pre)) g'=mix D g g':=by
    funext s;by_cases hd:s∈D
    ·rw[zBz hd,zBz hd];exact hg s hd
    ·rw[zAW hd,zAW hd]
   rw[<- he];exact this
 |forget r0 k ih=>intro g g' t h ha;rw[show t.all=true from h] at ha;cases ha|call f args hid k ih=>intro g g' t ⟨v',hX,ho,h⟩ ha hu;exact⟨v',hX,ho,ih _ _ h ha hu⟩
theorem zE3{D:LN}{v g:zCW}{p q:Tok}(h1:Off p q)(h2:Off q p)(hD:∀ s∈D,s∈p.wr)(hw:∀ s∈D,∀ x∈(g s).ways,x∈p.ways):Unseen D v g q :=
 ⟨fun s hs=>h1.rd s (hD s hs),fun s hs=>h1.wr s (hD s hs),fun s hs=>h1.inn s (hD s hs),fun s hs hl=>absurd hl (h1.look s (hD s hs)),fun s hs c hc e=>absurd e (h1.cel s (hD s hs) c hc),
  fun s hs k hk x hx=>h2.ways k hk x (hw s hs x hx),fun s hs k hk x hx=>h2.waysIn k hk x (hw s hs x hx)⟩
theorem comm{q:PM}:∀ {p:PM} {g g1 g2:zCW} {tp tq:Tok},p.does o g tp g1->q.does o g1 tq g2->Off tp tq->Off tq tp->∃ m,q.does o g tq m/\p.does o m tp g2:=by
 intro p
 induction p with
 |ok=>intro g g1 g2 tp tq h hq _ _;obtain⟨rfl,rfl⟩:=h;exact⟨g2,hq,rfl,rfl⟩
 |fail=>intro g g1 g2 tp tq h;cases h|view s k ih=>
  intro g g1 g2 tp tq ⟨t',e,h⟩ hq h1 h2;subst e;obtain⟨m,hm,hk⟩:=ih _ h hq h1.left' h2.right';refine⟨m,hm,t',rfl,?_⟩;rw[zSm hm h2.all (fun hw=>h2.look s hw (by simp[Tok.join]))];exact hk
 |get s k ih=>
  intro g g1 g2 tp tq ⟨hl,t',e,h⟩ hq h1 h2;subst e;obtain⟨m,hm,hk⟩:=ih _ h hq h1.left' h2.right';have:=zDK hm h2.all (fun hw=>h2.rd s hw (by simp[Tok.join])) (fun c hc e=>h2.ird c hc (by rw[e];simp[Tok.join]));exact⟨m,hm,by rw[this];exact hl,t',rfl,by rw[this];exact hk⟩
 | set s v k ih =>
  intro g g1 g2 tp tq ⟨t',e,h⟩ hq h1 h2;subst e;obtain⟨m,hm,hk⟩:=ih h hq h1.left' h2.right';have hw:s∈(Tok.join (zFF s (g s) v) t').wr:=by simp[Tok.join,zFF]
  have qM:m s=v:=by rw[zDK hm h2.all (h1.wr s hw) (h1.inn s hw),zAi]
  have hu:Unseen [s] (fun _=>v) g tq:=zE3 h1 h2 (fun u hu=>by rw[bk.1 hu];exact hw) (fun u hu x hx=>by
   rw[bk.1 hu] at hx;exact bt _ (bt _ hx))
  rw[zOA] at hm;have hd:=zGi hm h2.all hu;have he:mix [s] g m=upd m s (g s):=by funext u;simp only[upd,mix,bk];split<;>simp_all
  rw[he] at hd;refine⟨_,hd,t',by rw[zAi],?_⟩;rw[zO6,<- qM,zLX];exact hk
 |cells r pre i c n k ih=>
  intro g g1 g2 tp tq ⟨a,qs,t',kX,e,h⟩ hq h1 h2;subst e;obtain⟨m,hm,hk⟩:=ih _ _ h hq h1.left' h2.right';refine⟨m,hm,a,qs,t',?_,rfl,hk⟩;rw[zRa hm h2.all (fun hw=>h2.cel r hw (r,pre) (by simp[Tok.join]) rfl) (fun w hw e=>h2.icel w hw (r,pre) (by simp[Tok.join]) e)];exact kX
 |deep r pre k ih=>
  intro g g1 g2 tp tq ⟨q,t',hn,e,h⟩ hq h1 h2;subst e;obtain⟨m,hm,hk⟩:=ih _ h hq h1.left' h2.right';have:=zDK hm h2.all (fun hw=>h2.rd r hw (by simp[Tok.join])) (fun c hc e=>h2.ird c hc (by rw[e];simp[Tok.join]));exact⟨m,hm,q,t',by rw[this];exact hn,rfl,hk⟩
 | wcells r pre i c qs k ih =>
  intro g g1 g2 tp tq ⟨root,t',hn,e,h⟩ hq h1 h2;subst e;obtain⟨m,hm,hk⟩:=ih h hq h1.left' h2.right';have yz:∀ x∈(g r).ways,x∈(Tok.join (zBj r [] (zAI (g r) root pre) (g r) root) t').ways:=fun x hx=>bt _ (bt _ hx);have fin:m r=root->Unseen [r] (fun _=>root) g tq->∃ m,q.does o g tq m/\(PM.wcells r pre i c qs k).does o m (Tok.join (zBj r [] (zAI (g r) root pre) (g r) root) t') g2:=by
   intro qM hu;rw[zOA] at hm;have hd:=zGi hm h2.all hu;have he:mix [r] g m=upd m r (g r):=by funext u;simp only[upd,mix,bk];split<;>simp_all
   rw[he] at hd;refine⟨_,hd,root,t',by rw[zAi];exact hn,by rw[zAi],?_⟩;rw[zO6,<- qM,zLX];exact hk
  cases um:zAI (g r) root pre with
  | true =>
   rw[um] at h1 h2 fin yz;have hin:(r,([]:zA4))∈(Tok.join (zBj r [] true (g r) root) t').inn:=by simp[Tok.join,zBj]
   have hw:r∉tq.wr:=fun hw=>h2.inn r hw _ hin rfl;have hi:∀ c∈tq.inn,c.1≠r:=h1.iinn _ hin;have hcel:∀ c∈tq.cel,c.1≠r:=fun c hc e=>by have:=h1.icel _ hin c hc e;simp at this
   refine fin (by rw[zDK hm h2.all hw hi,zAi]) ⟨fun s hs=>?_,fun s hs=>?_,fun s hs=>?_,fun s hs _=>?_,fun s hs c hc e=>?_,fun s hs k hk x hx=>?_,fun s hs k hk x hx=>?_⟩<;>rw[bk.1 hs] at *
   ·exact h1.ird _ hin
   ·exact hw
   ·exact hi
   ·simp only[zBv] at hn;revert hn
    cases (zDH (g r) pre && !(zBx qs).isEmpty) with
    |true=>intro hr;cases hr|false=>intro hr;exact(zHx hr um).symm
   ·exact absurd e (hcel c hc)
   ·exact h2.ways k hk x (yz x hx)
   ·exact h2.waysIn k hk x (yz x hx)
  |false=>
   rw[um] at h1 h2 fin yz;have hw:r∈(Tok.join (zBj r [] false (g r) root) t').wr:=by simp[Tok.join,zBj]
   exact fin (by rw[zDK hm h2.all (h1.wr r hw) (h1.inn r hw),zAi]) (zE3 h1 h2 (fun u hu=>by rw[bk.1 hu];exact hw) (fun u hu x hx=>by rw[bk.1 hu] at hx;exact yz x hx))
 | wnode r pre q0 k ih =>
  intro g g1 g2 tp tq ⟨yJ,root,t',hn,e,h⟩ hq h1 h2;subst e;obtain⟨m,hm,hk⟩:=ih h hq h1.left' h2.right';have yz:∀ x∈(g r).ways,x∈(Tok.join (zBj r pre.dropLast (zAI (g r) root pre&&(pre.isEmpty || !q0.isAgg)) (g r) root) t').ways:=fun x hx=>bt _ (bt _ hx);have fin:m r=root->Unseen [r] (fun _=>root) g tq->∃ m,q.does o g tq m/\(PM.wnode r pre q0 k).does o m (Tok.join (zBj r pre.dropLast (zAI (g r) root pre&&(pre.isEmpty || !q0.isAgg)) (g r) root) t') g2:=by
   intro qM hu;rw[zOA] at hm;have hd:=zGi hm h2.all hu;have he:mix [r] g m=upd m r (g r):=by funext u;simp only[upd,mix,bk];split<;>simp_all
   rw[he] at hd;refine⟨_,hd,by rw[zAi];exact yJ,root,t',by rw[zAi];exact hn,by rw[zAi],?_⟩;rw[zO6,<- qM,zLX];exact hk
  cases um:(zAI (g r) root pre&&(pre.isEmpty || !q0.isAgg)) with
  |true=>
   rw[um] at h1 h2 fin yz;have hin:(r,pre.dropLast)∈(Tok.join (zBj r pre.dropLast true (g r) root) t').inn:=by simp[Tok.join,zBj]
   have hw:r∉tq.wr:=fun hw=>h2.inn r hw _ hin rfl;have hi:∀ c∈tq.inn,c.1≠r:=h1.iinn _ hin;refine fin (by rw[zDK hm h2.all hw hi,zAi]) ⟨fun s hs=>?_,fun s hs=>?_,fun s hs=>?_,fun s hs _=>?_,fun s hs c hc e i c' n=>?_,fun s hs k hk x hx=>?_,fun s hs k hk x hx=>?_⟩<;>rw[bk.1 hs] at *
   ·exact h1.ird _ hin
   ·exact hw
   ·exact hi
   ·rw[bb] at um;exact(zHx hn um.1).symm
   ·exact zJG yJ hn um (h1.icel _ hin c hc e) i c' n
   ·exact h2.ways k hk x (yz x hx)
   ·exact h2.waysIn k hk x (yz x hx)
  |false=>
   rw[um] at h1 h2 fin yz;have hw:r∈(Tok.join (zBj r pre.dropLast false (g r) root) t').wr:=by simp[Tok.join,zBj]
   exact fin (by rw[zDK hm h2.all (h1.wr r hw) (h1.inn r hw),zAi]) (zE3 h1 h2 (fun u hu=>by rw[bk.1 hu];exact hw) (fun u hu x hx=>by rw[bk.1 hu] at hx;exact yz x hx))
 | kill r pre k ih =>
  intro g g1 g2 tp tq ⟨D,t',hD,e,h⟩ hq h1 h2;subst e;obtain⟨m,hm,hk⟩:=ih h hq h1.left' h2.right';have hw:∀ s∈D,s∈(Tok.join (zAV D g (fun s=>(g s).mapW (lose r pre)) [r] []) t').wr:=fun s hs=>bt _ hs;have hu:Unseen D (fun s=>(g s).mapW (lose r pre)) g tq:=zE3 h1 h2 hw (fun s hs x hx=>bt _ (cG.2 ⟨s,hs,bt _ hx⟩));have jq:(fun s=>(g s).mapW (lose r pre))=mix D (fun s=>(g s).mapW (lose r pre)) g:=by
   funext s;by_cases hs:s∈D
   ·rw[zBz hs]
   ·rw[zAW hs,zEe (hD s hs)]
  have hmD:∀ s∈D,m s=(g s).mapW (lose r pre):=fun s hs=>zDK hm h2.all (h1.wr s (hw s hs)) (h1.inn s (hw s hs));have jJ:=zKp (D:=D) (ok:=fun x=>zAU r pre x.1 x.2=false) hm h2.all (fun x hx=>zG7 (h1.ways r (by simp[Tok.join,zAV]) x hx)) (fun s hs x hx=>hD s hs x (by rw[zEe (hD s hs)] at hx;exact hx));rw[jq] at hm;have hd:=zGi hm h2.all hu;have yi:(fun s=>(mix D g m s).mapW (lose r pre))=m:=by
   funext s;by_cases hs:s∈D
   ·rw[zBz hs,hmD s hs]
   ·rw[zAW hs,zEe (jJ s hs)]
  refine⟨_,hd,D,t',fun s hs x hx=>jJ s hs x (by rw[zAW hs] at hx;exact hx),?_,by rw[yi];exact hk⟩;rw[zCM (g:=g) (h:=mix D g m) (h':=fun s=>(mix D g m s).mapW (lose r pre)) (fun s hs=>(zBz hs).symm) (fun s hs=>by simp only[zBz hs])]
 | frz r pre k ih =>
  intro g g1 g2 tp tq ⟨yJ,D,t',q0,root,hD,hr,hn,hmn,e,h⟩ hq h1 h2;subst e;obtain⟨m,hm,hk⟩:=ih h hq h1.left' h2.right';have hw:∀ s∈D,s∈(Tok.join (zAV D g (fun s=>(upd g r root s).mapW (inl r pre q0)) [r] []) t').wr:=fun s hs=>bt _ hs;have hu:Unseen D (fun s=>(upd g r root s).mapW (inl r pre q0)) g tq:=zE3 h1 h2 hw (fun s hs x hx=>bt _ (cG.2 ⟨s,hs,bt _ hx⟩));have yq:∀ s,s∉D->(upd g r root s).mapW (inl r pre q0)=g s:=fun s hs=>by rw[zAe (by rintro rfl;exact hs hr),zFV (hD s hs)]
  have jq:(fun s=>(upd g r root s).mapW (inl r pre q0))=mix D (fun s=>(upd g r root s).mapW (inl r pre q0)) g:=by
   funext s;by_cases hs:s∈D
   ·rw[zBz hs]
   ·rw[zAW hs,yq s hs]
  have hmD:∀ s∈D,m s=(upd g r root s).mapW (inl r pre q0):=fun s hs=>zDK hm h2.all (h1.wr s (hw s hs)) (h1.inn s (hw s hs));have jJ:=zKp (D:=D) (ok:=fun x=>zAU r pre x.1 x.2=false) hm h2.all (fun x hx=>zG7 (h1.ways r (by simp[Tok.join,zAV]) x hx)) (fun s hs x hx=>hD s hs x (by rw[yq s hs] at hx;exact hx));rw[jq] at hm;have hd:=zGi hm h2.all hu;have yi:(fun s=>(upd (mix D g m) r root s).mapW (inl r pre q0))=m:=by
   funext s;by_cases hs:s∈D
   ·rw[hmD s hs];by_cases yT:s=r
    ·subst yT;rw[zAi,zAi]
    ·rw[zAe yT,zAe yT,zBz hs]
   ·rw[zAe (by rintro rfl;exact hs hr),zAW hs,zFV (jJ s hs)]
  have hmr:mix D g m r=g r:=zBz hr;refine⟨_,hd,by rw[hmr];exact yJ,D,t',q0,root,fun s hs x hx=>jJ s hs x (by rw[zAW hs] at hx;exact hx),hr,by rw[hmr];exact hn,by rw[hmr];exact hmn,?_,by rw[yi];exact hk⟩;rw[zCM (g:=g) (h:=mix D g m) (fun s hs=>(zBz hs).symm) (fun s hs=>by
   show(upd g r root s).mapW (inl r pre q0)=(upd (mix D g m) r root s).mapW (inl r pre q0)
   by_cases yT:s=r
   ·subst yT;rw[zAi,zAi]
   ·rw[zAe yT,zAe yT,zBz hs])]
 | killEx r pre k ih =>
  intro g g1 g2 tp tq ⟨D,t',hD,e,h⟩ hq h1 h2;subst e;obtain⟨m,hm,hk⟩:=ih h hq h1.left' h2.right';have hw:∀ s∈D,s∈(Tok.join (zAV D g (fun s=>(g s).mapW (zBV r pre)) [] [r]) t').wr:=fun s hs=>bt _ hs;have hu:Unseen D (fun s=>(g s).mapW (zBV r pre)) g tq:=zE3 h1 h2 hw (fun s hs x hx=>bt _ (cG.2 ⟨s,hs,bt _ hx⟩));have jq:(fun s=>(g s).mapW (zBV r pre))=mix D (fun s=>(g s).mapW (zBV r pre)) g:=by
   funext s;by_cases hs:s∈D
   ·rw[zBz hs]
   ·rw[zAW hs,zCK (hD s hs)]
  have hmD:∀ s∈D,m s=(g s).mapW (zBV r pre):=fun s hs=>zDK hm h2.all (h1.wr s (hw s hs)) (h1.inn s (hw s hs));have jJ:=zKp (D:=D) (ok:=fun x=>(beq x.1 r && !x.2.isEmpty)=false) hm h2.all (fun x hx=>zWi (h1.waysIn r (by simp[Tok.join,zAV]) x hx)) (fun s hs x hx=>hD s hs x (by rw[zCK (hD s hs)] at hx;exact hx));rw[jq] at hm;have hd:=zGi hm h2.all hu;have yi:(fun s=>(mix D g m s).mapW (zBV r pre))=m:=by
   funext s;by_cases hs:s∈D
   ·rw[zBz hs,hmD s hs]
   ·rw[zAW hs,zCK (jJ s hs)]
  refine⟨_,hd,D,t',fun s hs x hx=>jJ s hs x (by rw[zAW hs] at hx;exact hx),?_,by rw[yi];exact hk⟩;rw[zCM (g:=g) (h:=mix D g m) (h':=fun s=>(mix D g m s).mapW (zBV r pre)) (fun s hs=>(zBz hs).symm) (fun s hs=>by simp only[zBz hs])]
 |forget r k ih=>intro g g1 g2 tp tq h hq h1 h2;have:=h1.all;rw[show tp.all=true from h] at this;cases this|call f args hid k ih=>
  intro g g1 g2 tp tq ⟨v',hX,ho,h⟩ hq h1 h2;obtain⟨m,hm,hk⟩:=ih _ _ h hq h1 h2;exact⟨m,hm,v',hX,ho,hk⟩
theorem zBm(e:Env)(s:Nat)(p:PV):(e.set s p).get=upd e.get s p:=by
 funext t;rw[Env.get_set];rfl
theorem zFO{e:Env}{h:Nat×zA4->Bool}:∀ s,s∉zDl e h->∀ x∈(e.get s).ways,h x=false:=by
 intro s hs x hx
 cases hh:h x with
 |false=>rfl
 | true =>
  exfalso;refine hs ?_;clear hs
  induction e with
  |nil=>cases hx
  | cons y e ih =>
   obtain⟨k,v⟩:=y;simp only[Env.get] at hx
   cases hb:beq k s with
   |true=>
    rw[hb] at hx;have hk:=bd hb;exact b4.2 ⟨(k,v),bO.2 ⟨by simp,bX.2 ⟨x,hx,hh⟩⟩,hk⟩
   |false=>
    rw[hb] at hx;obtain⟨y,hy,gD⟩:=b4.1 (ih hx);obtain⟨h1,h2⟩:=bO.1 hy;exact b4.2 ⟨y,bO.2 ⟨by simp[h1],h2⟩,gD⟩
theorem zX9{e e':Env}{r:Nat}{pre:zA4}(h:e.frz r pre=some e') :
  (e.get r).isLock=false/\∃ q root,zAH (e.get r) pre=some q/\zAz (fun _=>some (zA0 q)) (e.get r) pre=some root/\e'.get=fun s=>(upd e.get r root s).mapW (inl r pre q):=by
 simp only[Env.frz] at h
 cases hl:(e.get r).isLock with
 |true=>rw[hl] at h;cases h
 | false =>
  rw[hl] at h;simp only[cond_false] at h
  cases hn:zAH (e.get r) pre with
  |none=>rw[hn] at h;cases h
  | some q =>
   rw[hn] at h;simp only at h
   cases hm:zAz (fun _=>some (zA0 q)) (e.get r) pre with
   |none=>rw[hm] at h;cases h|some root=>
    rw[hm] at h;simp only[ba] at h;subst h;refine⟨rfl,q,root,rfl,hm,?_⟩;funext s;rw[Env.get_map (e.set r root) (g:=fun p=>p.mapW (inl r pre q)) rfl s,zBm]
theorem zIe:∀ {p:PM} {e e':Env} {t:Tok},p.runT o e=some (e',t)->t.all=true\/p.does o e.get t e'.get:=by
 intro p
 induction p with
 |ok=>intro e e' t h;simp only[PM.runT,ba,bz] at h;obtain⟨rfl,rfl⟩:=h;exact .inr ⟨rfl,rfl⟩
 |fail=>intro e e' t h;cases h|view s k ih=>
  intro e e' t h;simp only[PM.runT,bm] at h;obtain⟨⟨e1,t1⟩,h,hx⟩:=h;cases hx;rcases ih _ h with ha|hd
  ·exact .inl (by simp[Tok.join,ha])
  ·exact .inr ⟨t1,rfl,hd⟩
 | get s k ih =>
  intro e e' t h;simp only[PM.runT] at h;split at h
  ·cases h
  ·rename_i hnl;simp only[bm] at h;obtain⟨⟨e1,t1⟩,h,hx⟩:=h;cases hx;rcases ih _ h with ha|hd
   ·exact .inl (by simp[Tok.join,ha])
   ·refine .inr ⟨?_,t1,rfl,hd⟩;cases hl:e.get s<;>first|rfl|exact absurd hl (hnl _)
 |set s v k ih=>
  intro e e' t h;simp only[PM.runT,bm] at h;obtain⟨⟨e1,t1⟩,h,hx⟩:=h;cases hx;rcases ih h with ha|hd
  ·exact .inl (by simp[Tok.join,ha])
  ·exact .inr ⟨t1,rfl,by rw[zBm] at hd;exact hd⟩
 | cells r pre i c n k ih =>
  intro e e' t h;simp only[PM.runT] at h;split at h
  ·rename_i a qs kX;simp only[bm] at h;obtain⟨⟨e1,t1⟩,h,hx⟩:=h;cases hx;rcases ih _ _ h with ha|hd
   ·exact .inl (by simp[Tok.join,ha])
   ·exact .inr ⟨a,qs,t1,kX,rfl,hd⟩
  ·cases h
 | deep r pre k ih =>
  intro e e' t h;simp only[PM.runT] at h;split at h
  ·rename_i q hn;simp only[bm] at h;obtain⟨⟨e1,t1⟩,h,hx⟩:=h;cases hx;rcases ih _ h with ha|hd
   ·exact .inl (by simp[Tok.join,ha])
   ·exact .inr ⟨q,t1,hn,rfl,hd⟩
  ·cases h
 | wcells r pre i c qs k ih =>
  intro e e' t h;simp only[PM.runT] at h;split at h
  ·rename_i root hn;simp only[bm] at h;obtain⟨⟨e1,t1⟩,h,hx⟩:=h;cases hx;rcases ih h with ha|hd
   ·exact .inl (by simp[Tok.join,ha])
   ·exact .inr ⟨root,t1,hn,rfl,by rw[zBm] at hd;exact hd⟩
  ·cases h
 | wnode r pre q k ih =>
  intro e e' t h;simp only[PM.runT] at h
  cases hl:(e.get r).isLock with
  |true=>rw[hl] at h;cases h
  | false =>
   rw[hl] at h;simp only[cond_false] at h;split at h
   ·rename_i root hn;simp only[bm] at h;obtain⟨⟨e1,t1⟩,h,hx⟩:=h;cases hx;rcases ih h with ha|hd
    ·exact .inl (by simp[Tok.join,ha])
    ·exact .inr ⟨hl,root,t1,hn,rfl,by rw[zBm] at hd;exact hd⟩
   ·cases h
 | kill r pre k ih =>
  intro e e' t h;simp only[PM.runT,bm] at h;obtain⟨⟨e1,t1⟩,h,hx⟩:=h;cases hx;rcases ih h with hb|hd
  ·exact .inl (by simp[Tok.join,zAV,hb])
  ·have hg:(e.kill r pre).get=fun s=>(e.get s).mapW (lose r pre):=by funext s;rw[Env.get_kill]
   rw[hg] at hd ⊢;exact .inr ⟨_,t1,zFO,rfl,hd⟩
 | frz r pre k ih =>
  intro e e' t h;simp only[PM.runT] at h;split at h
  ·rename_i e2 h2;simp only[bm] at h;obtain⟨⟨e1,t1⟩,h,hx⟩:=h;cases hx;rcases ih h with hb|hd
   ·exact .inl (by simp[Tok.join,zAV,hb])
   ·obtain⟨hl,q,root,hn,hm,hg⟩:=zX9 h2;rw[hg] at hd ⊢;exact .inr ⟨hl,_,t1,q,root,fun s hs=>zFO s (fun hm=>hs (bZ _ hm)),by simp,hn,hm,rfl,hd⟩
  ·cases h
 | killEx r keep k ih =>
  intro e e' t h;simp only[PM.runT,bm] at h;obtain⟨⟨e1,t1⟩,h,hx⟩:=h;cases hx;rcases ih h with hb|hd
  ·exact .inl (by simp[Tok.join,zAV,hb])
  ·have hg:(e.killEx r keep).get=fun s=>(e.get s).mapW (zBV r keep):=by funext s;rw[Env.get_killEx]
   rw[hg] at hd ⊢;exact .inr ⟨_,t1,zFO,rfl,hd⟩
 |forget r k ih=>
  intro e e' t h;simp only[PM.runT,bm] at h;obtain⟨⟨e1,t1⟩,h,hx⟩:=h;cases hx;exact .inl rfl
 | call f args hid k ih =>
  intro e e' t h;simp only[PM.runT] at h;split at h
  ·rename_i v hX ho;rcases ih _ _ h with ha|hd
   ·exact .inl ha
   ·exact .inr ⟨v,hX,ho,hd⟩
  ·cases h
theorem zOi:∀ {p:PM} {e:Env} {g':zCW} {t:Tok},p.does o e.get t g'->t.all=false->∃ e',p.run o e=some e'/\e'.get=g':=by
 intro p
 induction p with
 |ok=>intro e g' t h _;exact⟨e,rfl,h.2.symm⟩|fail=>intro e g' t h;cases h|view s k ih=>
  intro e g' t ⟨t',he,h⟩ ha;subst he;exact ih _ h ha
 |get s k ih=>
  intro e g' t ⟨hl,t',he,h⟩ ha;subst he;obtain⟨e',h1,h2⟩:=ih _ h ha;refine⟨e',?_,h2⟩;simp only[PM.run];split
  ·rename_i p hp;rw[hp] at hl;cases hl
  ·exact h1
 |set s v k ih=>
  intro e g' t ⟨t',he,h⟩ ha;subst he;exact ih (e:=e.set s v) (by rw[zBm];exact h) (by simpa[Tok.join,zFF] using ha)
 |cells r pre i c n k ih=>
  intro e g' t ⟨a,qs,t',kX,he,h⟩ ha;subst he;obtain⟨e',h1,h2⟩:=ih _ _ h ha;exact⟨e',by simp only[PM.run,kX];exact h1,h2⟩
 |deep r pre k ih=>
  intro e g' t ⟨q,t',hn,he,h⟩ ha;subst he;obtain⟨e',h1,h2⟩:=ih _ h ha;exact⟨e',by simp only[PM.run,hn];exact h1,h2⟩
 |wcells r pre i c qs k ih=>
  intro e g' t ⟨root,t',hn,he,h⟩ ha;subst he;obtain⟨e',h1,h2⟩:=ih (e:=e.set r root) (by rw[zBm];exact h) (by simpa[Tok.join,zBj] using ha);exact⟨e',by simp only[PM.run,hn];exact h1,h2⟩
 |wnode r pre q k ih=>
  intro e g' t ⟨hl,root,t',hn,he,h⟩ ha;subst he;obtain⟨e',h1,h2⟩:=ih (e:=e.set r root) (by rw[zBm];exact h) (by simpa[Tok.join,zBj] using ha);exact⟨e',by simp only[PM.run,hl,cond_false,hn];exact h1,h2⟩
 | kill r pre k ih =>
  intro e g' t ⟨D,t',hD,he,h⟩ ha;subst he;exact ih (e:=e.kill r pre) (t:=t') (by
   have:(e.kill r pre).get=fun s=>(e.get s).mapW (lose r pre):=by funext s;rw[Env.get_kill]
   rw[this];exact h) (by simpa[Tok.join,zAV] using ha)
 | frz r pre k ih =>
  intro e g' t ⟨hl,D,t',q,root,hD,hr,hn,hm,he,h⟩ ha;subst he;have hf:e.frz r pre=some ((e.set r root).map fun x=>(x.1,x.2.mapW (inl r pre q))):=by
   simp only[Env.frz,hl,cond_false,hn,hm]
  have hg:Env.get ((e.set r root).map fun x=>(x.1,x.2.mapW (inl r pre q)))=fun s=>(upd e.get r root s).mapW (inl r pre q):=by
   funext s;rw[Env.get_map (e.set r root) (g:=fun p=>p.mapW (inl r pre q)) rfl s,zBm]
  obtain⟨e',h1,h2⟩:=ih (e:=(e.set r root).map fun x=>(x.1,x.2.mapW (inl r pre q))) (t:=t') (by rw[hg];exact h) (by simpa[Tok.join,zAV] using ha);exact⟨e',by simp only[PM.run,hf];exact h1,h2⟩
 | killEx r keep k ih =>
  intro e g' t ⟨D,t',hD,he,h⟩ ha;subst he;exact ih (e:=e.killEx r keep) (t:=t') (by
   have:(e.killEx r keep).get=fun s=>(e.get s).mapW (zBV r keep):=by funext s;rw[Env.get_killEx]
   rw[this];exact h) (by simpa[Tok.join,zAV] using ha)
 |forget r k ih=>intro e g' t h ha;rw[show t.all=true from h] at ha;cases ha|call f args hid k ih=>
  intro e g' t ⟨v,hX,ho,h⟩ ha;obtain⟨e',h1,h2⟩:=ih _ _ h ha;exact⟨e',by simp only[PM.run,ho];exact h1,h2⟩
end
section
variable {o:zAK}
theorem zE1(e:Env)(h s:Nat):(e.forget h).get s=if s=h\/(e.get s).num=true then e.get s else .bad:=by
 induction e with
 |nil=>exact(ite_self (c:=s=h\/PV.bad.num=true) bad).symm
 | cons x e ih =>
  obtain⟨k,v⟩:=x;have ih:Env.get (map (fun x=>bif beq x.1 h||x.2.num then x else(x.1,bad)) e) s=_:=ih;simp only[Env.forget,bL]
  cases hb:beq k s with
  | true =>
   have hk:=bd hb;subst hk;have e1:Env.get ((k,v)::e) k=v:=by simp only[Env.get,hb,cond_true]
   rw[e1]
   cases hc:(beq k h||v.num) with
   |true=>
    rw[cond_true];simp only[Env.get,hb,cond_true];rw[bW] at hc;rw[if_pos (hc.imp (fun h=>bd h) id)]
   |false=>
    rw[cond_false];simp only[Env.get,hb,cond_true];rw[cI] at hc;rw[if_neg];rintro(h1|h1)
    ·subst h1;rw[cN] at hc;cases hc.1
    ·rw[hc.2] at h1;cases h1
  |false=>
   have e1:Env.get ((k,v)::e) s=Env.get e s:=by simp only[Env.get,hb,cond_false]
   rw[e1,<- ih];cases (beq k h||v.num)<;>simp only[cond_true,cond_false,Env.get,hb]
theorem zTB{e f e1:Env}{r:Nat}{pre:zA4}(he:f.get=e.get)(h:e.frz r pre=some e1):∃ f1,f.frz r pre=some f1/\f1.get=e1.get:=by
 simp only[Env.frz] at h ⊢;rw[he]
 cases hl:(e.get r).isLock with
 |true=>rw[hl] at h;cases h
 | false =>
  rw[hl] at h;simp only[cond_false] at h ⊢
  cases hn:zAH (e.get r) pre with
  |none=>rw[hn] at h;cases h
  | some q =>
   rw[hn] at h;simp only at h ⊢
   cases hm:zAz (fun _=>some (zA0 q)) (e.get r) pre with
   |none=>rw[hm] at h;cases h|some root=>
    rw[hm] at h;simp only[ba] at h ⊢;subst h;refine⟨_,rfl,?_⟩;funext s;rw[Env.get_map (f.set r root) (g:=fun p=>p.mapW (inl r pre q)) rfl s,Env.get_map (e.set r root) (g:=fun p=>p.mapW (inl r pre q)) rfl s,zBm,zBm,he]
theorem zHv:∀ {p:PM} {e f e1:Env},f.get=e.get->p.run o e=some e1->∃ f1,p.run o f=some f1/\f1.get=e1.get:=by
 intro p
 induction p with
 |ok=>intro e f e1 he h;simp only[PM.run,ba] at h;subst h;exact⟨f,rfl,he⟩|fail=>intro e f e1 he h;cases h|view s k ih=>intro e f e1 he h;simp only[PM.run] at h ⊢;rw[he];exact ih _ he h|get s k ih=>
  intro e f e1 he h;simp only[PM.run] at h ⊢;rw[he];split at h
  ·cases h
  ·exact ih _ he h
 |set s v k ih=>intro e f e1 he h;exact ih (by rw[zBm,zBm,he]) h|cells r pre i c n k ih=>
  intro e f e1 he h;simp only[PM.run] at h ⊢;rw[he];split at h
  ·exact ih _ _ he h
  ·cases h
 |deep r pre k ih=>
  intro e f e1 he h;simp only[PM.run] at h ⊢;rw[he];split at h
  ·exact ih _ he h
  ·cases h
 |wcells r pre i c qs k ih=>
  intro e f e1 he h;simp only[PM.run] at h ⊢;rw[he];split at h
  ·exact ih (by rw[zBm,zBm,he]) h
  ·cases h
 | wnode r pre q k ih =>
  intro e f e1 he h;simp only[PM.run] at h ⊢;rw[he]
  cases hl:(e.get r).isLock with
  |true=>rw[hl] at h;cases h|false=>
   rw[hl] at h;simp only[cond_false] at h ⊢;split at h
   ·exact ih (by rw[zBm,zBm,he]) h
   ·cases h
 |kill r pre k ih=>intro e f e1 he h;exact ih (by funext s;rw[Env.get_kill,Env.get_kill,he]) h|frz r pre k ih=>
  intro e f e1 he h;simp only[PM.run] at h ⊢;split at h
  ·rename_i e2 h2;obtain⟨f2,kE,hg⟩:=zTB he h2;rw[kE];exact ih hg h
  ·cases h
 |killEx r pre k ih=>intro e f e1 he h;exact ih (by funext s;rw[Env.get_killEx,Env.get_killEx,he]) h|forget r k ih=>intro e f e1 he h;exact ih (by funext s;rw[zE1,zE1,he]) h|call f args hid k ih=>
  intro e f e1 he h;simp only[PM.run] at h ⊢;split at h
  ·exact ih _ _ he h
  ·cases h
theorem zEl:∀ {p:PM} {e e1:Env} {t:Tok},p.runT o e=some (e1,t)->p.run o e=some e1:=by
 have mp:∀ {x:Option (Env×Tok)} {f:Tok->Tok} {e1:Env} {t:Tok},(x.map fun y=>(y.1,f y.2))=some (e1,t)->∃ t',x=some (e1,t'):=by
  intro x f e1 t h
  cases x with
  |none=>cases h|some y=>simp only[bv,ba,bz] at h;exact⟨y.2,by rw[<- h.1]⟩
 intro p
 induction p with
 |ok=>intro e e1 t h;simp only[PM.runT,ba,bz] at h;rw[<- h.1];rfl|fail=>intro e e1 t h;cases h|view s k ih=>intro e e1 t h;obtain⟨t',h'⟩:=mp h;exact ih _ h'
 |get s k ih=>
  intro e e1 t h;simp only[PM.runT,PM.run] at h ⊢;split at h
  ·cases h
  ·obtain⟨t',h'⟩:=mp h;exact ih _ h'
 |set s v k ih=>intro e e1 t h;obtain⟨t',h'⟩:=mp h;exact ih h'
 |cells r pre i c n k ih=>
  intro e e1 t h;simp only[PM.runT,PM.run] at h ⊢;split at h
  ·obtain⟨t',h'⟩:=mp h;exact ih _ _ h'
  ·cases h
 |deep r pre k ih=>
  intro e e1 t h;simp only[PM.runT,PM.run] at h ⊢;split at h
  ·obtain⟨t',h'⟩:=mp h;exact ih _ h'
  ·cases h
 |wcells r pre i c qs k ih=>
  intro e e1 t h;simp only[PM.runT,PM.run] at h ⊢;split at h
  ·obtain⟨t',h'⟩:=mp h;exact ih h'
  ·cases h
 | wnode r pre q k ih =>
  intro e e1 t h;simp only[PM.runT,PM.run] at h ⊢
  cases hl:(e.get r).isLock with
  |true=>rw[hl] at h;cases h|false=>
   rw[hl] at h;simp only[cond_false] at h ⊢;split at h
   ·obtain⟨t',h'⟩:=mp h;exact ih h'
   ·cases h
 |kill r pre k ih=>intro e e1 t h;obtain⟨t',h'⟩:=mp h;exact ih h'
 |frz r pre k ih=>
  intro e e1 t h;simp only[PM.runT,PM.run] at h ⊢;split at h
  ·obtain⟨t',h'⟩:=mp h;exact ih h'
  ·cases h
 |killEx r pre k ih=>intro e e1 t h;obtain⟨t',h'⟩:=mp h;exact ih h'
 |forget r k ih=>intro e e1 t h;obtain⟨t',h'⟩:=mp (f:=fun _=>({all:=true}:Tok)) h;exact ih h'
 |call f args hid k ih=>
  intro e e1 t h;simp only[PM.runT,PM.run] at h ⊢;split at h
  ·exact ih _ _ h
  ·cases h
theorem zF1{e f:Env}{o:Oper}(h:f.get=e.get):zCp f o=zCp e o:=by
 have hv:zQN f=zQN e:=by funext x;cases x<;>simp only[zQN,h]
 simp only[zCp,h,hv]
theorem zOk{e f:Env}{ops:Array Oper}{o:Oper}(h:f.get=e.get):zLM ops f o=zLM ops e o:=by simp only[zLM,h]
theorem zKL{orc:zAK}{ops:Array Oper}{x:Oper}{k:Nat}{args:List PV}{l:Log}{e f e1:Env}{lg:Option Log}(h:f.get=e.get)(hr:zB0 orc ops x k args l e=some (e1,lg)) :
  ∃ f1,zB0 orc ops x k args l f=some (f1,lg)/\f1.get=e1.get:=by
 have mp:∀ {p:PM} {e f:Env} {lg':Option Log},f.get=e.get->(p.run orc e).map (fun e'=>(e',lg'))=some (e1,lg)->∃ f1,(p.run orc f).map (fun e'=>(e',lg'))=some (f1,lg)/\f1.get=e1.get:=by
  intro p e f lg' h hr;obtain⟨e2,h1,h2⟩:=bm.1 hr;cases h2;obtain⟨f2,h3,h4⟩:=zHv h h1;exact⟨f2,by rw[h3];rfl,h4⟩
 have hfg:(f.forget zAa).get=(e.forget zAa).get:=by funext s;rw[zE1,zE1,h]
 simp only[zB0,zOk h] at hr ⊢;split at hr
 ·cases hc:(args.all PV.flat&&l.k != 0&&beq k l.at_) with
  |false=>rw[hc] at hr;cases hr|true=>
   rw[hc] at hr;simp only[cond_true] at hr ⊢
   cases jY:(l.k==1) with
   |true=>rw[jY] at hr;exact mp hfg hr|false=>rw[jY] at hr;exact mp h hr
 ·exact mp h hr
 ·cases hr
section
variable {P:Program} {H:zBg} {o:zAK}
theorem zLL{ops:Array Oper}{x:Oper}{fz tk nl:Bool}{e:Env}{lg:Option Log}{t:Tok}{m:zCW}(h:(zFW P H ops fz tk nl x).does o e.get t m)(ha:t.all=false) :
  ∃ e1,zCV P H o fz tk nl ops x e lg=some (e1,lg)/\e1.get=m:=by
 obtain⟨e1,h1,h2⟩:=zOi h ha
 cases lg with
 |none=>exact⟨e1,by simp only[zCV,h1,bv],h2⟩
 | some l =>
  cases hy:zCp e x with
  |none=>exact⟨e1,by simp only[zCV,hy,h1,bv],h2⟩
  | some kargs =>
   obtain⟨kk,args⟩:=kargs;have jf:(opM P H fz tk nl x).run o e=none:=by
    simp only[zCp] at hy;split at hy
    ·rename_i c hc;split at hy
     ·rename_i tc ye;split at hy
      ·rename_i k hk;simp only[opM,hc,zK2,ye,opd,PM.run,hk];rfl
      ·cases hy
     ·cases hy
    ·cases hy
   simp only[zFW] at h1;simp only[zCV,hy,zB0,zLM]
   cases hg:x.guard with
   |none=>rw[hg] at h1;rw[jf] at h1;cases h1
   | some jw =>
    obtain⟨j,want⟩:=jw;rw[hg] at h1;simp only at h1 ⊢
    cases hj:(ops[j]?).bind (·.dst) with
    |none=>rw[hj] at h1;cases h1
    | some tj =>
     rw[hj] at h1;simp only[PM.run] at h1 ⊢;cases hp:e.get tj<;>rw[hp] at h1<;>simp only at h1<;>try (cases h1;done)
     case bool b=>
      simp only;by_cases hb:b=want
      ·rw[if_pos hb,jf] at h1;cases h1
      ·rw[if_neg hb] at h1;have:(b==want)=false:=by simpa using hb
       rw[this];simp only[h1,bv];exact⟨e1,rfl,h2⟩
     case und=>
      simp only[h1,bv];exact⟨e1,rfl,h2⟩
def zQw(P:Program)(H:zBg)(o:zAK)(fz tk nl:Bool)(ops:Array Oper)(x:Oper)(t:Tok)(g:zCW)(lg:Option Log)(m:zCW)(lg':Option Log):Prop :=
 (t.all=true/\∀ e:Env,e.get=g->∃ e1,zCV P H o fz tk nl ops x e lg=some (e1,lg')/\e1.get=m)\/(t.all=false/\lg'=lg/\(zFW P H ops fz tk nl x).does o g t m)
theorem zQw.run{fz tk nl:Bool}{ops:Array Oper}{x:Oper}{t:Tok}{e:Env}{m:zCW}{lg lg':Option Log}(h:zQw P H o fz tk nl ops x t e.get lg m lg'):∃ e1,zCV P H o fz tk nl ops x e lg=some (e1,lg')/\e1.get=m:=by
 rcases h with⟨_,h⟩|⟨ha,rfl,h⟩
 ·exact h e rfl
 ·exact zLL h ha
theorem zS0{fz tk nl:Bool}{ops:Array Oper}{x:Oper}{t:Tok}{e e1:Env}{lg lg':Option Log}(h:zEz P H o fz tk nl ops x e lg=some (e1,lg',t)):zQw P H o fz tk nl ops x t e.get lg e1.get lg':=by
 cases lg with
 | none =>
  simp only[zEz] at h;obtain⟨⟨e2,t2⟩,h1,h2⟩:=bm.1 h;cases h2
  cases ha:t2.all with
  |true=>
   refine .inl ⟨ha,fun f hf=>?_⟩;obtain⟨f1,h3,h4⟩:=zHv hf (zEl h1);exact⟨f1,by simp only[zCV,h3,bv],h4⟩
  |false=>
   rcases zIe h1 with h3|h3
   ·rw[h3] at ha;cases ha
   ·exact .inr ⟨ha,rfl,h3⟩
 | some l =>
  simp only[zEz] at h
  cases hy:zCp e x with
  | none =>
   rw[hy] at h;simp only at h;obtain⟨⟨e2,t2⟩,h1,h2⟩:=bm.1 h;cases h2
   cases ha:t2.all with
   |true=>
    refine .inl ⟨ha,fun f hf=>?_⟩;obtain⟨f1,h3,h4⟩:=zHv hf (zEl h1);exact⟨f1,by simp only[zCV,zF1 hf,hy,h3,bv],h4⟩
   |false=>
    rcases zIe h1 with h3|h3
    ·rw[h3] at ha;cases ha
    ·exact .inr ⟨ha,rfl,h3⟩
  |some kargs=>
   obtain⟨kk,args⟩:=kargs;rw[hy] at h;simp only at h;obtain⟨⟨e2,lg2⟩,h1,h2⟩:=bm.1 h;cases h2;refine .inl ⟨rfl,fun f hf=>?_⟩;obtain⟨f1,h3,h4⟩:=zKL hf h1;exact⟨f1,by simp only[zCV,zF1 hf,hy,h3],h4⟩
def zOy(P:Program)(H:zBg)(o:zAK)(fzs tks:LN)(nl:Bool)(ops:Array Oper)(tk:Nat->Tok):LN->zCW->Option Log->zCW->Option Log->Prop
 |[],g,lg,g',lg'=>g'=g/\lg'=lg|i::l,g,lg,g',lg'=>∃ x m lm,ops[i]? = some x/\zQw P H o (fzs.contains i) (tks.contains i) nl ops x (tk i) g lg m lm/\zOy P H o fzs tks nl ops tk l m lm g' lg'
theorem zJf{fzs tks:LN}{nl:Bool}{ops:Array Oper}{tk:Nat->Tok}{i:Nat}{l2:LN}:∀ {l1:LN} {g g':zCW} {lg lg':Option Log},zOy P H o fzs tks nl ops tk (l1++i::l2) g lg g' lg'->(∀ j∈l1,zQG (tk j) (tk i)=false)->zOy P H o fzs tks nl ops tk (i::(l1++l2)) g lg g' lg'
 |[],_,_,_,_,h,_=>h
 | j :: l1,g,g',lg,lg',⟨x,m,lm,hx,h1,h2⟩,hc=>by
  obtain⟨y,m2,lm2,hy,h3,h4⟩:=zJf h2 fun k hk=>hc k (by simp[hk]);have yN:=hc j (by simp);simp only[zQG,cI] at yN;have hp:=zLj yN.1;have hq:=zLj yN.2;rcases h1 with⟨ha,_⟩|⟨_,rfl,hd1⟩
  ·have:=hp.all;rw[ha] at this;cases this
  ·rcases h3 with⟨ha,_⟩|⟨_,rfl,gL⟩
   ·have:=hq.all;rw[ha] at this;cases this
   ·obtain⟨n,uB,jX⟩:=comm hd1 gL hp hq;exact⟨y,n,_,hy,.inr ⟨hq.all,rfl,uB⟩,x,m2,_,hx,.inr ⟨hp.all,rfl,jX⟩,h4⟩
end
end
section
variable {P:Program} {H:zBg} {w0 w:World} {U Φ0 Φ:Nat->Prop} {nt:Nat} {hv:Hid} {a:Act} {e e':Env} {rv:Nat->Value} {E:Nat->PV} {L:Nat->LN} {orc:zAK} {ro:ON} {n:Nat} {Q:Exit->Act->World->Prop}
theorem Fr.get'(hf:Fr w0 U Φ0 nt hv a w e)(h:e'.get=e.get):Fr w0 U Φ0 nt hv a w e':=by
 obtain⟨Φ,rv,E,L,S,hb⟩:=hf;exact⟨Φ,rv,E,L,⟨S.conf,fun s hs=>by rw[h];exact S.env s hs,S.size,S.small,S.tmps,S.parts,S.hid,S.dfr⟩,hb⟩
theorem Fr.tick(hf:Fr w0 U Φ0 nt hv a w e)(d:Nat):Fr w0 U Φ0 nt hv a {w with drawn:=d} e:=by
 obtain⟨Φ,rv,E,L,S,hb⟩:=hf;have hc:Conf w0 U Φ0 {w with drawn:=d} Φ rv E L:=by
  refine S.conf.step2 some (fun p=>p) zCs (fun a b t ha hb=>by cases ha;cases hb;rfl) (fun a t ha=>by cases ha;exact⟨(zBl _).symm,rfl,rfl⟩) (fun a ha=>by cases ha) (fun a v hw ha=>?_)
   (fun a ha=>by cases ha) (fun a b ha=>by cases ha) (fun a ha=>by cases ha) (bf _) (fun _ _ _=>rfl) ⟨rfl,rfl,rfl⟩
  exact zC4 hw (zCS S.conf zCs ha (zBl _).symm rfl (fun _ _=>rfl))
 exact⟨Φ,rv,E,L,⟨hc,S.env,S.size,S.small,S.tmps,S.parts,S.hid,S.dfr⟩,hb⟩
structure Drawn (ops:Array Oper) (i:Nat) (Bs:LN) (Ts:List Tok):Prop where
 early:∀ (k:Nat) (x:Oper),i<=k->ops[k]? = some x->∀ ed∈x.after.toList,Region.binds .any ed=true->ed.on<k
 bits:∀ (k:Nat) (x:Oper),i<=k->ops[k]? = some x->∀ j,(Bs.getD k 0).testBit j=true->∃ ed∈x.after.toList,Region.binds .any ed=true/\(ed.on=j\/(Bs.getD ed.on 0).testBit j=true)
 free:∀ (k j:Nat),i<=k->k<ops.size->j<k->(Bs.getD k 0).testBit j=true\/zQG (Ts.getD j {}) (Ts.getD k {})=false
theorem zKi{b:Nat}{t:Tok}:∀ {l:List Tok} {j:Nat},zGo b t j l=true->∀ k,k<l.length->b.testBit (j+k)=true\/zQG (l.getD k {}) t=false
 |[],j,_,k,hk=>by cases hk
 | u :: us,j,h,k,hk=>by
  simp only[zGo,bb,bW,bG] at h
  cases k with
  |zero=>simpa using h.1|succ k=>
   have:=zKi h.2 k (by simpa using hk);rw[show j+(k+1)=j+1+k by omega];simpa using this
theorem zTP{acc:LN}{o:Oper}{j:Nat}(h:(zIc acc o).testBit j=true):∃ ed∈o.after.toList,Region.binds .any ed=true/\(ed.on=j\/(acc.getD ed.on 0).testBit j=true):=by
 have key:∀ (l:List Edge) (s:Nat),(l.foldl (fun s e=>if Region.binds .any e then s ||| 2 ^ e.on ||| acc.getD e.on 0 else s) s).testBit j=true->s.testBit j=true\/∃ ed∈l,Region.binds .any ed=true/\(ed.on=j\/(acc.getD ed.on 0).testBit j=true):=by
  intro l
  induction l with
  |nil=>intro s h;exact .inl h
  | cons x l ih =>
   intro s h;rcases ih _ h with h1|⟨ed,h1,h2⟩
   ·simp only at h1;by_cases hb:Region.binds .any x=true
    ·rw[if_pos hb] at h1;simp only[Nat.testBit_or,bW] at h1;rcases h1 with(h1|h1)|h1
     ·exact .inl h1
     ·refine .inr ⟨x,by simp,hb,.inl ?_⟩;rw[Nat.testBit_two_pow] at h1;simpa using h1
     ·exact .inr ⟨x,by simp,hb,.inr h1⟩
    ·rw[if_neg hb] at h1;exact .inl h1
   ·exact .inr ⟨ed,by simp[h1],h2⟩
 rcases key _ _ h with h1|h1
 ·simp at h1
 ·exact h1
theorem zJT{fzs tks:LN}{nl:Bool}{ops:Array Oper}{lg':Option Log}:∀ (l:List Oper) (i:Nat) (acc:LN) (ts:List Tok) (e:Env) (lg:Option Log),zCC P H orc fzs tks nl ops l i acc ts e lg=some (e',lg')->l=ops.toList.drop i->i+l.length=ops.size->acc.length=i->ts.length=i ->
  ∃ Bs Ts,(∀ k,k<i->Bs.getD k 0=acc.getD k 0/\Ts.getD k {}=ts.getD k {})/\Drawn ops i Bs Ts/\zOy P H orc fzs tks nl ops (fun k=>Ts.getD k {}) (List.range' i l.length) e.get lg e'.get lg'
 |[],i,acc,ts,e,lg,h,hl,hs,ha,ht=>by
  simp only[zCC,ba,bz] at h;obtain⟨rfl,rfl⟩:=h;have yI:ops.size=i:=by simpa using hs.symm
  refine⟨acc,ts,fun k _=>⟨rfl,rfl⟩,⟨fun k x hk hx=>?_,fun k x hk hx=>?_,fun k j hk wm=>by omega⟩,rfl,rfl⟩
  ·have:=(bY.1 hx).1;omega
  ·have:=(bY.1 hx).1;omega
 | o :: l, i,acc,ts,e,lg,h,hl,hs,ha,ht=>by
  simp only[zCC] at h
  cases hr:zEz P H orc (fzs.contains i) (tks.contains i) nl ops o e lg with
  |none=>rw[hr] at h;cases h
  | some r =>
   obtain⟨e1,lg1,t⟩:=r;rw[hr] at h;simp only at h
   cases hb:(o.after.toList.all (fun e=>!Region.binds .any e||blt e.on i)&&zGo (zIc acc o) t 0 ts) with
   |false=>rw[hb] at h;cases h
   | true =>
    rw[hb] at h;simp only[cond_true] at h;rw[bb] at hb;have hi:ops[i]? = some o:=by
     have:=congrArg (·[0]?) hl;simp only[bJ,ck,bQ] at this;rw[<- bS];exact this.symm
    have gc:l=ops.toList.drop (i+1):=by
     have:=congrArg List.tail hl;simpa using this
    obtain⟨Bs,Ts,h1,D,yc⟩:=zJT l (i+1) (acc++[zIc acc o]) (ts++[t]) e1 lg1 h gc (by simp at hs;omega) (by simp[ha]) (by simp[ht]);have hBi:Bs.getD i 0=zIc acc o:=by rw[(h1 i (by omega)).1,<- ha];simp[List.getD]
    have hTi:Ts.getD i {}=t:=by rw[(h1 i (by omega)).2,<- ht];simp[List.getD]
    have hold:∀ k,k<i->Bs.getD k 0=acc.getD k 0/\Ts.getD k {}=ts.getD k {}:=by
     intro k hk;obtain⟨h2,h3⟩:=h1 k (by omega);rw[h2,h3];simp only[List.getD];rw[cx (by omega),cx (by omega)];exact⟨rfl,rfl⟩
    have w6:∀ ed∈o.after.toList,Region.binds .any ed=true->ed.on<i:=by
     intro ed he hbd;have:=bi.1 hb.1 ed he;simp only[hbd,dy,ci] at this;exact zCe this
    refine⟨Bs,Ts,hold,⟨fun k x hk hx=>?_,fun k x hk hx j hj=>?_,fun k j hk hks hj=>?_⟩,?_⟩
    ·by_cases qc:k=i
     ·subst qc;rw[hi] at hx;cases hx;exact w6
     ·exact D.early k x (by omega) hx
    ·by_cases qc:k=i
     ·subst qc;rw[hi] at hx;cases hx;rw[hBi] at hj;obtain⟨ed,h2,h3,h4⟩:=zTP hj;refine⟨ed,h2,h3,h4.imp_right fun h4=>?_⟩;rw[(hold _ (w6 ed h2 h3)).1];exact h4
     ·exact D.bits k x (by omega) hx j hj
    ·by_cases qc:k=i
     ·subst qc;have:=zKi hb.2 j (by omega);rw[hBi,hTi,(hold j hj).2];simpa using this
     ·exact D.free k j (by omega) hks hj
    ·show zOy P H orc fzs tks nl ops _ (List.range' i (l.length+1)) _ _ _ _
     rw[fk];refine⟨o,e1.get,lg1,hi,?_,yc⟩;simp only[hTi];exact zS0 hr
structure Frame (P:Program) (H:zBg) (orc:zAK) (nt:Nat) (ro:ON) (n:Nat) (D:Nat->Prop) (Fin:Option Log->Prop) (G:Act->World->Env->Option Log->Prop):Prop where
 down:∀ {ops:Array Oper} {o:Oper} {fz tk nl:Bool} {e e':Env} {lg lg':Option Log},zCV P H orc fz tk nl ops o e lg=some (e',lg')->Fin lg'->Fin lg
 step:∀ {ops:Array Oper} {i:Nat} {o:Oper} {fz tk nl:Bool} {a:Act} {w:World} {e e':Env} {lg lg':Option Log} {Q:Exit->Act->World->Prop},zOO P nt ops=true->ops[i]? = some o->(∀ d,o.dst=some d->D d)->Fin lg'->G a w e lg->zCV P H orc fz tk nl ops o e lg=some (e',lg') ->
  wpOpIn (FF ro) n P ops Q i (fun a' w'=>G a' w' e' lg') a w
 get:∀ {a:Act} {w:World} {e e':Env} {lg:Option Log},G a w e lg->e'.get=e.get->G a w e' lg
 tick:∀ {a:Act} {w:World} {e:Env} {lg:Option Log} (d:Nat),G a w e lg->G a {w with drawn:=d} e lg
 drop:∀ {a:Act} {w:World} {e:Env} {lg:Option Log} (l:LN),G a w e lg->G a w (e.drop l) lg
 ice:∀ {a:Act} {w:World} {e:Env} {lg:Option Log} (l:LN),G a w e lg->G a w (zWN l e) lg
 cond:∀ {a:Act} {w:World} {e:Env} {lg:Option Log} {t:Nat} {b:Bool},G a w e lg->t<nt->e.get t = .bool b->a.tmps.getD t undef = .bool b
variable {G:Act->World->Env->Option Log->Prop} {Fin:Option Log->Prop} {D:Nat->Prop}
def zQ8(D:Nat->Prop)(ops:Array Oper):Prop:=∀ o∈ops.toList,∀ d,o.dst=some d->D d
theorem zQ8.at{ops:Array Oper}(h:zQ8 D ops){i:Nat}{o:Oper}(hi:ops[i]? = some o):∀ d,o.dst=some d->D d:=h o (by rw[<- bS] at hi;exact bH hi)
theorem zJi(F:Frame P H orc nt ro n D Fin G){fzs tks:LN}{nl:Bool}{ops:Array Oper}{tk:Nat->Tok}:∀ {l:LN} {e:Env} {g':zCW} {lg lg':Option Log},zOy P H orc fzs tks nl ops tk l e.get lg g' lg'->Fin lg'->Fin lg
 |[],_,_,_,_,⟨_,h⟩,hf=>by rw[<- h];exact hf|i::l,e,g',lg,lg',⟨x,m,lm,_,yD,hr⟩,hf=>by
  obtain⟨e1,h1,h2⟩:=yD.run;exact F.down h1 (zJi F (by rw[h2];exact hr) hf)
theorem zZq(F:Frame P H orc nt ro n D Fin G){ops:Array Oper}(jE:zOO P nt ops=true)(hD:zQ8 D ops){fzs tks:LN}{nl:Bool}{Bs:LN}{Ts:List Tok}(Dr:Drawn ops 0 Bs Ts){g':zCW}{lg':Option Log}(yO:Fin lg')
  (hq:∀ a' w' e',e'.get=g'->G a' w' e' lg'->Q .normal a' w'):∀ (rem:LN) (listed:Array Bool) {a:Act} {w:World} {e:Env} {lg:Option Log},listed.size=ops.size->rem.Pairwise (· < ·)->(∀ i,i∈rem↔i<ops.size/\listed.getD i true=false) ->
   (∀ i,i<ops.size->listed.getD i true=true->∀ j,(Bs.getD i 0).testBit j=true->listed.getD j true=true)->zOy P H orc fzs tks nl ops (fun k=>Ts.getD k {}) rem e.get lg g' lg'->G a w e lg ->
   wpAnyIn (FF ro) n P .any ops Q rem.length listed a w:=by
 have ready_mem:∀ (listed:Array Bool) (i:Nat),i∈Region.ready .any ops listed↔i<ops.size/\listed.getD i true=false/\∀ x,ops[i]? = some x->∀ ed∈x.after.toList,Region.binds .any ed=true->listed.getD ed.on false=true:=by
  intro listed i;simp only[Region.ready,bO,bF,bb,bG];refine⟨fun⟨h1,h2,h3⟩=>⟨h1,h2,fun x hx ed he hb=>?_⟩,fun⟨h1,h2,h3⟩=>⟨h1,h2,?_⟩⟩
  ·rw[hx] at h3;simp only[bv,dd,Array.all_eq_true'] at h3;have:=h3 ed (by simpa using he);rw[hb] at this;simpa using this
  ·have hx:ops[i]? = some ops[i]:=cQ h1;rw[hx];simp only[bv,dd,Array.all_eq_true'];intro ed he
   cases hb:Region.binds .any ed with
   |false=>rfl|true=>simpa using h3 _ hx ed (by simpa using he) hb
 have tf:∀ {listed:Array Bool} {k:Nat},k<listed.size->listed.getD k true=listed.getD k false:=by
  intro listed k hk;simp[Array.getD,hk]
 have ft:∀ {listed:Array Bool} {k:Nat},listed.getD k false=true->listed.getD k true=true:=by
  intro listed k hk;by_cases yG:k<listed.size
  ·rw[tf yG];exact hk
  ·simp[Array.getD,yG] at hk
 intro rem
 induction hm:rem.length generalizing rem with
 |zero=>
  intro listed a w e lg yI w7 jC w8 yc hf;have hrem:rem=[]:=bq hm;subst hrem;obtain⟨h1,rfl⟩:=yc;refine⟨?_,hq a w e h1.symm hf⟩;rw[fe];intro i hi;obtain⟨h1,h2,_⟩:=(ready_mem listed i).1 hi;exact absurd ((jC i).2 ⟨h1,h2⟩) (by simp)
 | succ m ih =>
  intro listed a w e lg yI w7 jC w8 yc hf;refine⟨fun hr=>?_,fun i hi=>?_⟩
  ·
   exfalso
   match rem,hm with
   | i :: rest,_ =>
    have kz:=(jC i).1 (by simp);have:i∈Region.ready .any ops listed:=(ready_mem listed i).2 ⟨kz.1,kz.2,fun x hx ed he hb=>by
     have yG:=Dr.early i x (by omega) hx ed he hb;have hed:ed.on<listed.size:=by omega
     rw[<- tf hed]
     cases hl:listed.getD ed.on true with
     |true=>rfl|false=>
      have hin:=(jC ed.on).2 ⟨by omega,hl⟩;rcases bx.1 hin with h|h
      ·omega
      ·have:=io w7 h;omega⟩
    rw[hr] at this;cases this
  ·obtain⟨h1,h2,h3⟩:=(ready_mem listed i).1 hi;obtain⟨l1,l2,LG⟩:=List.append_of_mem ((jC i).2 ⟨h1,h2⟩);subst LG;have hx:ops[i]? = some ops[i]:=cQ h1;have vQ:∀ j,(Bs.getD i 0).testBit j=true->listed.getD j true=true:=by
    intro j hj;obtain⟨ed,he,hb,hc⟩:=Dr.bits i _ (by omega) hx j hj;have hl:=ft (h3 _ hx ed he hb);rcases hc with hc|hc
    ·rw[<- hc];exact hl
    ·have yG:=Dr.early i _ (by omega) hx ed he hb;exact w8 ed.on (by omega) hl j hc
   have w9:∀ j∈l1,zQG (Ts.getD j {}) (Ts.getD i {})=false:=by
    intro j hj;have vI:j<i:=by
     rw[dW] at w7;exact w7.2.2 j hj i (by simp)
    rcases Dr.free i j (by omega) h1 vI with hb|hb
    ·have:=vQ j hb;have hjn:=(jC j).1 (by simp[hj]);rw[hjn.2] at this;cases this
    ·exact hb
   obtain⟨x,g1,lg1,ji,yD,yp⟩:=zJf yc w9;rw[hx] at ji;cases ji;obtain⟨e1,wu,jq⟩:=yD.run;refine zDT (F.step jE hx (hD.at hx) (zJi F (by rw[jq];exact yp) yO) hf wu) fun a' w' yv=>?_;have yt:∀ k,(listed.setIfInBounds i true).getD k true=if k=i then true else listed.getD k true:=by
    intro k;simp only[db,dM];by_cases hk:i=k
    ·subst hk;rw[if_pos rfl,if_pos rfl];split<;>rfl
    ·rw[if_neg hk,if_neg (fun e=>hk e.symm)]
   have hpw2:(l1++l2).Pairwise (· < ·):=by
    rw[dW] at w7 ⊢;refine⟨w7.1,w7.2.1.tail,fun x hx y hy=>w7.2.2 x hx y (by simp[hy])⟩
   have hni:i∉l1/\i∉l2:=by
    rw[dW] at w7;refine⟨fun hin=>?_,fun hin=>?_⟩
    ·have:=w7.2.2 i hin i (by simp);omega
    ·have:=io w7.2.1 hin;omega
   have hmem2:∀ k,k∈l1++l2↔k<ops.size/\(listed.setIfInBounds i true).getD k true=false:=by
    intro k;rw[yt];by_cases hk:k=i
    ·subst hk;simp only[if_true,bj];exact⟨fun h=>absurd h (by simp[hni]),fun h=>by cases h.2⟩
    ·rw[if_neg hk,<- jC k];simp only[bj,bx,hk,false_or]
   have:=ih (l1++l2) (by simp at hm ⊢;omega) (listed.setIfInBounds i true) (by simpa using yI) hpw2 hmem2 (fun k hk hl j hj=>?_) (by rw[jq];exact yp) yv
   ·exact this
   ·rw[yt] at hl ⊢;split
    ·rfl
    ·split at hl
     ·rename_i qc;subst qc;exact vQ j hj
     ·exact w8 k hk hl j hj
theorem zRn(F:Frame P H orc nt ro n D Fin G)(zFd:P.follows .mixedOrders=true){ops:Array Oper}(jE:zOO P nt ops=true)(hD:zQ8 D ops){fzs tks:LN}{nl:Bool}{a:Act}{w:World}{e:Env}{lg lg':Option Log}{id:Nat}(yO:Fin lg')(hf:G a w e lg)
  (h:zCC P H orc fzs tks nl ops ops.toList 0 [] [] e lg=some (e',lg')) (hq:∀ a' w',G a' w' e' lg'->Q .normal a' w'):(Code.region id ops true).wpIn (FF ro) n P Q a w:=by
 obtain⟨Bs,Ts,_,Dr,yc⟩:=zJT ops.toList 0 [] [] e lg h (by simp) (by simp) rfl rfl;refine wpIn_region_any zFd ?_;have yA:(List.range' 0 ops.toList.length).length=ops.size:=by simp
 have:=zZq (Q:=Q) F jE hD Dr (g':=e'.get) yO (fun a' w' f hg yv=>hq a' w' (F.get yv hg.symm)) (List.range' 0 ops.toList.length) (Array.replicate ops.size false) (a:=a) (w:={w with drawn:=w.drawn+1}) (e:=e) (by simp) List.pairwise_lt_range' (fun i=>?_) (fun i hi hl=>?_) yc (F.tick _ hf)
 ·rw[yA] at this;exact this
 ·simp only[List.mem_range'_1,fx];constructor
  ·intro⟨_,h2⟩;have:i<ops.size:=by omega
   exact⟨this,by simp[Array.getD,this]⟩
  ·intro⟨h2,_⟩;omega
 ·simp[Array.getD,hi] at hl
theorem zHP(F:Frame P H orc nt ro n D Fin G){ops:Array Oper}{fzs tks:LN}{nl:Bool}{lg':Option Log}:∀ (l:List Oper) (i:Nat) {e:Env} {lg:Option Log},zBh P H orc fzs tks nl ops l i e lg=some (e',lg')->Fin lg'->Fin lg
 |[],i,e,lg,h,hf=>by
  simp only[zBh,ba,bz] at h;rw[h.2];exact hf
 |o :: l,i,e,lg,h,hf=>by
  simp only[zBh] at h;split at h
  ·rename_i e1 lg1 h1;exact F.down h1 (zHP F l (i+1) h hf)
  ·cases h
theorem zVq(F:Frame P H orc nt ro n D Fin G){ops:Array Oper}{fzs tks:LN}{nl:Bool}{lg lg':Option Log}{e:Env}(h:zCC P H orc fzs tks nl ops ops.toList 0 [] [] e lg=some (e',lg'))(hf:Fin lg'):Fin lg:=by
 obtain⟨Bs,Ts,_,D,yc⟩:=zJT ops.toList 0 [] [] e lg h (by simp) (by simp) rfl rfl;exact zJi F yc hf
theorem zIr(F:Frame P H orc nt ro n D Fin G){ops:Array Oper}(jE:zOO P nt ops=true)(hD:zQ8 D ops){fzs tks:LN}{nl:Bool}{lg':Option Log}(yO:Fin lg'):∀ (l:List Oper) (i:Nat) {a:Act} {w:World} {e:Env} {lg:Option Log},l=ops.toList.drop i->i+l.length=ops.size->G a w e lg ->
  zBh P H orc fzs tks nl ops l i e lg=some (e',lg')->(∀ a' w',G a' w' e' lg'->Q .normal a' w')->wpOpsIn (FF ro) n P ops Q (List.range' i l.length) a w
 |[],i,a,w,e,lg,hl,hs,hf,h,hq=>by
  simp only[zBh,ba,bz] at h;obtain⟨rfl,rfl⟩:=h;exact hq _ _ hf
 | o :: l,i,a,w,e,lg,hl,hs,hf,h,hq=>by
  simp only[zBh] at h;split at h
  ·rename_i e1 lg1 h1;have hi:ops[i]? = some o:=by
    have:=congrArg (·[0]?) hl;simp only[bJ,ck,bQ] at this;rw[<- bS];exact this.symm
   have gc:l=ops.toList.drop (i+1):=by
    have:=congrArg List.tail hl;simpa using this
   show wpOpsIn (FF ro) n P ops Q (List.range' i (l.length+1)) a w
   rw[fk,wpOpsIn_cons];exact zDT (F.step jE hi (hD.at hi) (zHP F l (i+1) h yO) hf h1) fun a' w' yv=>zIr F jE hD yO l (i+1) gc (by simp at hs;omega) yv h hq
  ·cases h
end
end Go.Eng
namespace Go.Eng
open Go
theorem zXv(e:Env)(k:Nat)(v:PV)(s:Nat):(Env.put e k v).get s=if s=k then v else e.get s:=by
 by_cases hv:v = .bad
 ·subst hv;simp only[Env.put]
  induction e with
  |nil=>simp only[iJ,Env.get];split<;>rfl
  | cons x e ih =>
   obtain⟨k',v'⟩:=x;simp only[iv]
   cases hb:beq k' k with
   | true =>
    have:=bd hb;subst this;simp only[dy,bp,if_false,ih,Env.get];by_cases hs:s=k'
    ·rw[if_pos hs,if_pos hs]
    ·rw[if_neg hs,if_neg hs];have:beq k' s=false:=by cases h:beq k' s with|false=>rfl|true=>exact absurd (bd h).symm hs
     rw[this];rfl
   | false =>
    simp only[f5,if_true,Env.get]
    cases j0:beq k' s with
    |true=>
     have:=bd j0;subst this;have hI:k'≠k:=iL hb;rw[if_neg hI];rfl
    |false=>simp only[cond_false,ih]
 ·have:Env.put e k v=e.set k v:=by cases v<;>first|rfl|exact absurd rfl hv
  rw[this,Env.get_set]
theorem zI2:∀ (e:Env) (s:Nat),e.norm.get s=e.get s
 |[],_=>rfl|(k,v)::e,s=>by
  simp only[Env.norm,zXv,zI2 e,Env.get]
  cases hb:beq k s with
  |true=>rw[if_pos (bd hb).symm];rfl|false=>rw[if_neg (dK (iL hb))];rfl
section
variable {F:Fence} {n:Nat} {P:Program} {a:Act} {k:List Item} {cs:List Go.Frame} {w:World} {Q:Exit->Act->World->Prop}
theorem zDz{b:Go.Frame}{c:Code}:step P (lone (b.atR a (.code (.scope c)::k)) cs w) = .next (lone (b.atR a (.code c :: .inScope c::k)) cs w) :=
 step_lone_go (by simp[stepG,stepG.exec,Go.Frame.atR])
theorem zMs{b:Go.Frame}{c:Code}:step P (lone (b.atR a (.inScope c::k)) cs w) = .next (lone (b.atR a k) cs w) :=
 step_lone_go (by simp[stepG,stepG.exec,Go.Frame.atR])
theorem zRf{c:Code}(hq:∀ l a w,¬ Q (.goto l) a w)(h:c.wpIn F n P Q a w):(Code.scope c).wpIn F n P Q a w:=by
 intro b k cs vF hb hr;have h0:(lone (b.atR a (.code (.scope c)::k)) cs w).fenced P F:=fenced_calm hb hr rfl;obtain⟨e,a₁,w₁,kb,vj⟩:=h b (.inScope c::k) cs vF hb hr
 cases e with
 |normal=>exact⟨.normal,a₁,w₁,kb,.head h0 zDz (StepsIn.trans vj (.one (fenced_calm hb hr rfl) zMs))⟩
 | exit id =>
  have hx:exitTo id (.inScope c::k)=exitTo id k:=by simp[exitTo]
  exact⟨.exit id,a₁,w₁,kb,fun k' hk=>.head h0 zDz (vj.1 k' (by rw[hx];exact hk)),
   fun je hk=>let⟨k₁,h1,h2⟩:=vj.2 je (by rw[hx];exact hk);⟨k₁,h1,.head h0 zDz h2⟩⟩
 |goto l=>exact absurd kb (hq l a₁ w₁)|ret=>exact⟨_,a₁,w₁,kb,.of_steps (.one h0 zDz) vj⟩|panic ch=>exact⟨_,a₁,w₁,kb,.of_steps (.one h0 zDz) vj⟩|outgrown=>exact⟨_,a₁,w₁,kb,.of_steps (.one h0 zDz) vj⟩
end
section
variable {P:Program} {H:zBg} {nt:Nat} {orc:zAK} {yo:zCU} {al:All} {ro:ON} {n:Nat} {D:Nat->Prop} {Fin:Option Log->Prop} {G:Act->World->Env->Option Log->Prop} {hh:FHint}
theorem zMu(F:Frame P H orc nt ro n D Fin G):∀ (m:Nat) (c:Code) {e e':Env} {x:X} {lg lg':Option Log},exec P H orc yo al nt hh m c e lg=some (x,e',lg')->Fin lg'->Fin lg
 |0,c,e,e',x,lg,lg',h,hf=>by cases h
 | m + 1,c,e,e',x,lg,lg',h,hf=>by
  have yC:∀ {b:Code} {e e':Env} {x:X} {lg lg':Option Log},exec P H orc yo al nt hh m b e lg=some (x,e',lg')->Fin lg'->Fin lg:=fun h hf=>zMu F m _ h hf;cases c<;>simp only[exec] at h<;>try (cases h;done)
  case skip=>cases h;exact hf
  case region id ops draw=>
   split at h
   ·rename_i e1 lg1 h1;cases h
    cases draw with
    |true=>exact zVq F h1 hf|false=>exact zHP F _ _ h1 hf
   ·cases h
  case seq a b=>
   split at h
   ·rename_i e1 lg1 h1;exact yC h1 (yC h hf)
   ·exact yC h hf
  case cond c a b=>
   cases c with
   |tmp t=>
    simp only at h;split at h
    ·exact yC h hf
    ·exact yC h hf
    ·cases h
   |const v=>
    split at h
    ·rename_i uo;cases uo
    ·exact yC h hf
    ·exact yC h hf
    ·cases h
   |global g=>cases h|func f=>cases h
  case block id b=>
   split at h
   ·rename_i id' r h1;obtain⟨e1,lg1⟩:=r;cases h;exact yC h1 hf
   ·exact yC h hf
  case loop b=>
   split at h
   ·rename_i e1 lg1 h1;exact yC h1 (yC h hf)
   ·exact yC h hf
  case exit id=>cases h;exact hf
  case ret=>cases h;exact hf
  case label l=>cases h;exact hf
  case scope b=>exact yC h hf
  case rangeFunc f ps a b=>
   cases f with
   | tmp t =>
    cases lg with
    |none=>
     simp only at h;obtain⟨r,_,h2⟩:=bm.1 h;cases h2;exact hf
    |some l=>cases h
   |const v=>cases h|global g=>cases h|func f=>cases h
def zEp(P:Program)(H:zBg)(orc:zAK)(yo:zCU)(al:All)(nt:Nat)(hh:FHint)(ro:ON)(n:Nat)(G:Act->World->Env->Option Log->Prop)(m:Nat):Prop :=
 ∀ m',m'<m->∀ (t:Nat) (ps:Array Tmp) (ca cb:Code) (a:Act) (w:World) (e:Env) (x:X) (e':Env),zCP P nt (.rangeFunc (.tmp t) ps ca cb)=true->G a w e none->exec P H orc yo al nt hh (m'+1) (.rangeFunc (.tmp t) ps ca cb) e none=some (x,e',none) ->
   (Code.rangeFunc (.tmp t) ps ca cb).wpIn (FF ro) n P (fun ex a' w'=>ex=x.exit/\G a' w' e' none) a w
theorem zEp.less{m m':Nat}(h:zEp P H orc yo al nt hh ro n G m)(hm:m'<=m):zEp P H orc yo al nt hh ro n G m':=fun k hk=>h k (by omega)
theorem zIa(F:Frame P H orc nt ro n D Fin G)(zFd:P.follows .mixedOrders=true):∀ (m:Nat) (c:Code) (hr:zDa c=true\/zEp P H orc yo al nt hh ro n G m) {a:Act} {w:World} {e:Env} {x:X} {e':Env} {lg lg':Option Log},zCP P nt c=true->(∀ d∈zBZ c,D d)->Fin lg'->G a w e lg->exec P H orc yo al nt hh m c e lg=some (x,e',lg') ->
  c.wpIn (FF ro) n P (fun ex a' w'=>ex=x.exit/\G a' w' e' lg') a w
 |0,c,hr,a,w,e,x,e',lg,lg',hc,hD,yO,hf,h=>by cases h
 | m + 1,c,hr,a,w,e,x,e',lg,lg',hc,hD,yO,hf,h=>by
  have yC:∀ {b:Code} {e1:Env} {y:X} {e2:Env} {a w} {l1 l2:Option Log},(zDa b=true\/zEp P H orc yo al nt hh ro n G m)->zCP P nt b=true->(∀ d∈zBZ b,D d)->Fin l2->G a w e1 l1->exec P H orc yo al nt hh m b e1 l1=some (y,e2,l2)->b.wpIn (FF ro) n P (fun ex a' w'=>ex=y.exit/\G a' w' e2 l2) a w :=
   fun hr hc hd hn hf h=>zIa F zFd m _ hr hc hd hn hf h
  have two:∀ {p q:Bool},((p&&q)=true\/zEp P H orc yo al nt hh ro n G (m+1))->(p=true\/zEp P H orc yo al nt hh ro n G m)/\(q=true\/zEp P H orc yo al nt hh ro n G m):=by
   intro p q h;rcases h with h|h
   ·rw[bb] at h;exact⟨.inl h.1,.inl h.2⟩
   ·exact⟨.inr (h.less (by omega)),.inr (h.less (by omega))⟩
  have one:∀ {p:Bool},(p=true\/zEp P H orc yo al nt hh ro n G (m+1))->(p=true\/zEp P H orc yo al nt hh ro n G m):=fun h=>h.imp_right fun h=>h.less (by omega);cases c<;>simp only[zCP,bb] at hc<;>try (cases hc;done)
  case skip=>
   simp only[exec,ba,bz] at h;obtain⟨rfl,rfl,rfl⟩:=h;exact wpIn_skip ⟨rfl,hf⟩
  case region id ops draw=>
   simp only[exec] at h;split at h
   ·rename_i e1 lg1 h1;simp only[ba,bz] at h;obtain⟨rfl,rfl,rfl⟩:=h;have fin:∀ {a' w'},G a' w' e1 lg1->G a' w' (e1.drop (hh.drop id)).norm lg1:=fun hg=>F.get (F.drop _ hg) (by funext s;exact zI2 _ s);have hDs:zQ8 D ops:=fun o ho d hd=>hD d (List.mem_filterMap.2 ⟨o,ho,hd⟩)
    cases draw with
    |true=>exact zRn F zFd hc hDs yO hf h1 fun a' w' yv=>⟨rfl,fin yv⟩
    |false=>
     refine wpIn_region ?_;have:=zIr (Q:=fun ex a' w'=>ex=X.norm.exit/\G a' w' (e1.drop (hh.drop id)).norm lg1) F hc hDs yO ops.toList 0 (by simp) (by simp) hf h1 fun a' w' yv=>⟨rfl,fin yv⟩;rw[List.range_eq_range'];simpa using this
   ·cases h
  case seq c1 c2=>
   simp only[exec] at h;refine wpIn_seq ?_;split at h
   ·rename_i e1 lg1 h1;exact wpIn_mono (yC (two hr).1 hc.1 (fun d hd=>hD d (bt _ hd)) (zMu F _ _ h yO) hf h1) fun ex a' w' ⟨hx,yv⟩=>by subst hx;exact yC (two hr).2 hc.2 (fun d hd=>hD d (bn _ hd)) yO yv h
   ·rename_i hI;exact wpIn_mono (yC (two hr).1 hc.1 (fun d hd=>hD d (bt _ hd)) yO hf h) fun ex a' w' ⟨hx,yv⟩=>by
     subst hx
     cases x with
     |norm=>exact absurd h (hI _ _)|ex id=>exact⟨rfl,yv⟩|ret=>exact⟨rfl,yv⟩
  case cond c c1 c2=>
   have key:∀ t:Bool,a.eval c = .bool t->exec P H orc yo al nt hh m (if t then c1 else c2) e lg=some (x,e',lg')->(Code.cond c c1 c2).wpIn (FF ro) n P (fun ex a' w'=>ex=x.exit/\G a' w' e' lg') a w:=by
    intro t ht h;refine wpIn_cond ht ?_
    cases t with
    |true=>exact yC (two hr).1 hc.1.2 (fun d hd=>hD d (bt _ hd)) yO hf h
    |false=>exact yC (two hr).2 hc.2 (fun d hd=>hD d (bn _ hd)) yO hf h
   simp only[exec] at h
   cases c with
   |tmp t=>
    simp only at h;have uW:t<nt:=zCe hc.1.1;split at h
    ·rename_i hp;exact key true (F.cond hf uW hp) h
    ·rename_i hp;exact key false (F.cond hf uW hp) h
    ·cases h
   |const v=>
    split at h
    ·rename_i yK;cases yK
    ·rename_i uo;cases uo;exact key true rfl h
    ·rename_i uo;cases uo;exact key false rfl h
    ·cases h
   |global g=>cases h|func f=>cases h
  case block id b=>
   simp only[exec] at h;refine wpIn_block ?_;split at h
   ·rename_i id' r h1;obtain⟨e1,lg1⟩:=r;simp only[ba,bz] at h;obtain⟨rfl,rfl,rfl⟩:=h;refine wpIn_mono (yC (one hr) hc hD yO hf h1) fun ex a' w' ⟨hx,yv⟩=>?_;subst hx;simp only[X.exit,Exit.inBlock];split
    ·exact⟨rfl,yv⟩
    ·exact⟨rfl,yv⟩
   ·rename_i hI;refine wpIn_mono (yC (one hr) hc hD yO hf h) fun ex a' w' ⟨hx,yv⟩=>?_;subst hx
    cases x with
    |norm=>exact⟨rfl,yv⟩|ex id=>exact absurd h (hI _ _)|ret=>exact⟨rfl,yv⟩
  case loop b=>
   have key:∀ (m':Nat),m'<=m+1->∀ {e:Env} {a:Act} {w:World} {lg:Option Log},G a w e lg->exec P H orc yo al nt hh m' (.loop b) e lg=some (x,e',lg') ->
     Code.roundsIn (FF ro) n P b (fun ex a' w'=>ex=x.exit/\G a' w' e' lg') m' a w:=by
    intro m'
    induction m' with
    |zero=>intro _ e a w _ _ h;cases h
    | succ m' ih =>
     intro yS e a w lg hf h;simp only[exec] at h;show b.wpIn (FF ro) n P (Exit.then (Code.roundsIn (FF ro) n P b _ m') _) a w
     have gM:∀ {e1:Env} {y:X} {e2:Env} {a w} {l1 l2:Option Log},Fin l2->G a w e1 l1->exec P H orc yo al nt hh m' b e1 l1=some (y,e2,l2)->b.wpIn (FF ro) n P (fun ex a' w'=>ex=y.exit/\G a' w' e2 l2) a w:=by
      intro e1 y e2 a w l1 l2 hn hf h;exact zIa F zFd m' b (hr.imp_right fun h=>h.less (by omega)) hc hD hn hf h
     split at h
     ·rename_i e1 lg1 h1;exact wpIn_mono (gM (zMu F _ _ h yO) (F.drop _ hf) h1) fun ex a' w' ⟨hx,yv⟩=>by subst hx;exact ih (by omega) yv h
     ·rename_i hI;refine wpIn_mono (gM yO (F.drop _ hf) h) fun ex a' w' ⟨hx,yv⟩=>?_;subst hx
      cases x with
      |norm=>exact absurd h (hI _ _)|ex id=>exact⟨rfl,yv⟩|ret=>exact⟨rfl,yv⟩
   exact wpIn_loop_rounds (m+1) (key (m+1) (bf _) hf h)
  case exit id=>
   simp only[exec,ba,bz] at h;obtain⟨rfl,rfl,rfl⟩:=h;exact wpIn_exit ⟨rfl,F.ice _ hf⟩
  case ret=>
   simp only[exec,ba,bz] at h;obtain⟨rfl,rfl,rfl⟩:=h;exact wpIn_ret ⟨rfl,hf⟩
  case label l=>
   simp only[exec,ba,bz] at h;obtain⟨rfl,rfl,rfl⟩:=h;exact wpIn_label ⟨rfl,hf⟩
  case scope b=>
   simp only[exec] at h;exact zRf (fun l a w hx=>by cases x<;>cases hx.1) (yC (one hr) hc hD yO hf h)
  case rangeFunc f ps ca cb=>
   cases f with
   | tmp t =>
    have h0:=h;simp only[exec] at h
    cases lg with
    |none=>
     simp only at h;obtain⟨r,_,h2⟩:=bm.1 h;cases h2;rcases hr with hr|hr
     ·cases hr
     exact hr m (by omega) t ps ca cb a w e _ _ (by simp only[zCP,bb];exact hc) hf h0
    |some l=>cases h
   |const v=>simp only[exec] at h;cases h|global g=>simp only[exec] at h;cases h|func f=>simp only[exec] at h;cases h
end
end Go.Eng
namespace Go.Eng
open Go
structure Rel (w0:World) (U Φ0:Nat->Prop) (w1:World) (U1 Φ1:Nat->Prop):Prop where
 size:w0.heap.size<=w1.heap.size
 kept:∀ b,b<w0.heap.size->¬ U b->w1.heap[b]? = w0.heap[b]?
 own:∀ b,U1 b->U b\/w0.heap.size<=b
 frz:∀ b,Φ1 b->Φ0 b\/U b\/w0.heap.size<=b
 frz0:∀ b,Φ0 b->Φ1 b
 os:w1.os=w0.os
 tape:w1.tape=w0.tape
 output:w1.output=w0.output
section
variable {w0 w w' w1 w2:World} {U Φ0 Φ U1 Φ1 U2 Φ2:Nat->Prop} {nt:Nat} {hv:Hid} {a:Act} {e e':Env} {rv:Nat->Value} {E:Nat->PV} {L:Nat->LN}
theorem Rel.refl:Rel w U Φ w U Φ:=⟨bf _,fun _ _ _=>rfl,fun _ h=>.inl h,fun _ h=>.inl h,fun _ h=>h,rfl,rfl,rfl⟩
theorem Rel.trans(h:Rel w0 U Φ0 w1 U1 Φ1)(k:Rel w1 U1 Φ1 w2 U2 Φ2):Rel w0 U Φ0 w2 U2 Φ2:=by
 have hU:∀ b,b<w0.heap.size->¬ U b->¬ U1 b:=fun b hb hu h1=>by rcases h.own b h1 with h2|h2<;>first|exact hu h2|omega
 refine⟨bB h.size k.size,fun b hb hu=>(k.kept b (bI hb h.size) (hU b hb hu)).trans (h.kept b hb hu),fun b hb=>?_,fun b hb=>?_,fun b hb=>k.frz0 b (h.frz0 b hb),k.os.trans h.os,k.tape.trans h.tape,k.output.trans h.output⟩
 ·rcases k.own b hb with h1|h1
  ·exact h.own b h1
  ·exact .inr (bB h.size h1)
 ·rcases k.frz b hb with h1|h1|h1
  ·exact h.frz b h1
  ·rcases h.own b h1 with h2|h2
   ·exact .inr (.inl h2)
   ·exact .inr (.inr h2)
  ·exact .inr (.inr (bB h.size h1))
theorem Conf.rel(C:Conf w0 U Φ0 w Φ rv E L):Rel w0 U Φ0 w (fun b=>∃ s,b∈L s) Φ :=
 ⟨C.size,C.kept,fun b ⟨s,hs⟩=>(C.own s b hs).2.2,fun b hb=>(C.frz b hb).2,C.frz0,C.os,C.tape,C.output⟩
theorem Conf.rebase(h:Rel w0 U Φ0 w1 U1 Φ1)(C:Conf w1 U1 Φ1 w Φ rv E L):Conf w0 U Φ0 w Φ rv E L:=by
 have r:=h.trans C.rel;exact⟨C.rep,C.nodup,C.disj,fun s b hb=>⟨(C.own s b hb).1,(C.own s b hb).2.1,r.own b ⟨s,hb⟩⟩,fun b hb=>⟨(C.frz b hb).1,r.frz b hb⟩,r.frz0,r.size,r.kept,r.os,r.tape,r.output⟩
theorem Conf.fresh(C:Conf w0 U Φ0 w Φ rv E L):Conf w (fun b=>∃ s,b∈L s) Φ w Φ rv E L :=
 ⟨C.rep,C.nodup,C.disj,fun s b hb=>⟨(C.own s b hb).1,(C.own s b hb).2.1,.inl ⟨s,hb⟩⟩,fun b hb=>⟨(C.frz b hb).1,.inl hb⟩,fun _ h=>h,bf _,fun _ _ _=>rfl,rfl,rfl,rfl⟩
theorem Conf.moved(C:Conf w0 U Φ0 w Φ rv E L)(hs:w.heap.size<=w'.heap.size)(hL:∀ s,∀ b∈L s,w'.heap[b]? = w.heap[b]?)(hΦ:∀ b,Φ b->w'.heap[b]? = w.heap[b]?)(hk:∀ b,b<w0.heap.size->¬ U b->w'.heap[b]? = w.heap[b]?)
  (ho:w'.os=w.os/\w'.tape=w.tape/\w'.output=w.output):Conf w0 U Φ0 w' Φ rv E L:=by
 refine⟨fun s=>?_,C.nodup,C.disj,fun s b hb=>⟨bI (C.own s b hb).1 hs,(C.own s b hb).2⟩,fun b hb=>⟨bI (C.frz b hb).1 hs,(C.frz b hb).2⟩,C.frz0,bB C.size hs,fun b hb hu=>(hk b hb hu).trans (C.kept b hb hu),
  ho.1.trans C.os,ho.2.1.trans C.tape,ho.2.2.trans C.output⟩
 have:=Rep.map (f:=fun p=>p) (w':=w') (Φ':=Φ) (A':=zBa w' rv E) (fun _=>rfl) (fun b hb=>⟨hb,hΦ b hb⟩) (fun b v hw ha=>zC4 hw (zCS C zCs ha (zBl _).symm rfl (hL _))) (E s) (rv s) (L s) (hL s) (C.rep s);rwa[zBl] at this
theorem Conf.arrive(C:Conf w0 U Φ0 w Φ rv E L)(hs:w.heap.size<=w'.heap.size)(hL:∀ s,∀ b∈L s,w'.heap[b]? = w.heap[b]?)(hΦ:∀ b,Φ b->w'.heap[b]? = w.heap[b]?):Conf w' (fun b=>∃ s,b∈L s) Φ w' Φ rv E L:=by
 refine⟨fun s=>?_,C.nodup,C.disj,fun s b hb=>⟨bI (C.own s b hb).1 hs,(C.own s b hb).2.1,.inl ⟨s,hb⟩⟩,fun b hb=>⟨bI (C.frz b hb).1 hs,.inl hb⟩,fun _ h=>h,bf _,fun _ _ _=>rfl,rfl,rfl,rfl⟩;have:=Rep.map (f:=fun p=>p) (w':=w') (Φ':=Φ) (A':=zBa w' rv E) (fun _=>rfl) (fun b hb=>⟨hb,hΦ b hb⟩) (fun b v hw ha=>zC4 hw (zCS C zCs ha (zBl _).symm rfl (hL _))) (E s) (rv s) (L s) (hL s) (C.rep s);rwa[zBl] at this
theorem St.with(S:St w0 U Φ0 nt hv a w e Φ rv E L)(C:Conf w1 U1 Φ1 w' Φ2 rv E L):St w1 U1 Φ1 nt hv a w' e Φ2 rv E L :=
 ⟨C,S.env,S.size,S.small,S.tmps,S.parts,S.hid,S.dfr⟩
def zLx:PV->Value
 |.int k n=>.int k n|.bool b=>.bool b|_=>undef
def zCR:PV->Value
 |.agg cs=>.agg (cs.map zLx).toArray|p=>zLx p
theorem zX6{A:Al}{p:PV}{v:Value}{Lp:LN}(h:Rep w Φ A p v Lp)(hn:p.num=true):v=zLx p:=by
 cases p<;>first|(cases hn;done)|exact h.1
theorem zQl{A:Al}:∀ {ps:List PV} {vs:List Value} {Lp:LN},zA8 w Φ A ps vs Lp->ps.all PV.num=true->vs=ps.map zLx
 |[],vs,_,h,_=>h.1|p::ps,vs,_,⟨v,vs',L1,L2,h1,_,h3,h4⟩,hn=>by
  simp only[cF,bb] at hn;rw[h1,zX6 h3 hn.1,zQl h4 hn.2];rfl
theorem zVT{A:Al}{p:PV}{v:Value}{Lp:LN}(h:Rep w Φ A p v Lp)(hn:p.flat=true):v=zCR p:=by
 cases p<;>first|(cases hn;done)|exact h.1|skip
 obtain⟨vs,rfl,h2⟩:=h;have:=zQl h2 hn;simp only[zCR,<- this]
theorem zU3(S:St w0 U Φ0 nt hv a w e Φ rv E L){x:Operand}(hx:zAZ nt x=true):Rep w Φ (zBa w rv E) (zQN e x) (a.eval x) []:=by
 cases x with
 |tmp t=>
  have ht:t<nt:=zCe hx;have hg:t<zAa:=bI ht (bB S.small (by decide));have:=S.conf.view hg;rw[S.env t hg,<- S.tmps t ht] at this;exact this
 |const v=>exact zJx v|global g=>exact(rfl:([]:LN)=[])|func f=>exact(rfl:([]:LN)=[])
theorem zUM{ops:Array Oper}{P:Program}(jE:zOO P nt ops=true)(S:St w0 U Φ0 nt hv a w e Φ rv E L){o:Oper}{b:Bool}(h:zLM ops e o=some b):Region.wanted o (yielded ops a.tmps)=b:=by
 have y8:∀ (j:Nat) (x:Oper),ops[j]? = some x->zT0 P nt x=true:=fun j x hx=>bi.1 jE x (by
  rw[<- bS] at hx;exact bH hx)
 simp only[zLM] at h
 cases hg:o.guard with
 |none=>rw[hg] at h;simp only[ba] at h;subst h;simp[Region.wanted,hg]
 | some x =>
  obtain⟨j,want⟩:=x;rw[hg] at h;simp only at h
  cases hj:(ops[j]?).bind (·.dst) with
  |none=>rw[hj] at h;cases h
  | some t =>
   rw[hj] at h;simp only at h;have uW:t<nt:=by
    cases LE:ops[j]? with
    |none=>rw[LE] at hj;cases hj|some oj=>rw[LE] at hj;exact zIW (y8 j oj LE) t hj
   have yr:t<zAa:=bI uW (bB S.small (by decide));have hZ:=S.conf.rep t;rw[S.env t yr] at hZ;have htm:a.tmps[t]? = some (rv t):=by
    have h1:=S.tmps t uW;have h2:t<a.tmps.size:=by rw[S.size];exact uW
    rw[cQ h2];simp only[Array.getD,h2,dite_true] at h1;rw[<- h1];rfl
   have kS:yielded ops a.tmps j=match rv t with|.bool b=>some b|_=>none:=by
    simp only[yielded,hj,bc,htm];cases rv t<;>rfl
   revert h;cases hp:e.get t<;>intro h<;>try (cases h;done)
   case bool c=>
    simp only[ba] at h;have yK:rv t = .bool c:=by rw[hp] at hZ;exact hZ.1
    rw[yK] at kS;simp only at kS;rw[<- h];simp only[Region.wanted,hg,kS];rfl
   case und=>
    simp only[ba] at h;have yK:rv t=undef:=by rw[hp] at hZ;exact hZ.1
    rw[yK] at kS;rw[<- h];simp only[Region.wanted,hg,kS];rfl
end
theorem zNi{P:Program}{w:World}{fn:Func}{a:Act}(h:fn.results.isEmpty=true):(results fn a.tmps).run P w = .ok (.tuple #[]) w:=by
 have h0:fn.results=#[]:=by simpa using h
 simp only[results,h0];simp[bo,bA]
structure Apart (w w':World) (B Ψ:Nat->Prop):Prop where
 size:w.heap.size<=w'.heap.size
 os:w'.os=w.os
 tape:w'.tape=w.tape
 output:w'.output=w.output
 kept:∀ b,b<w.heap.size->¬ B b->w'.heap[b]? = w.heap[b]?
 seen:∀ b,Ψ b->w'.heap[b]? = w.heap[b]?
structure Client (P:Program) (l:Nat) (plan:List (List PV)) (k0:Int) (Ψ:Nat->Prop) (J:List (List PV)->World->(Nat->Prop)->Prop) (Jx:World->Prop):Prop where
 abide:∀ {xs:List (List PV)} {w w':World} {B:Nat->Prop},J xs w B->w.heap.size<=w'.heap.size->(∀ b,B b->w'.heap[b]? = w.heap[b]?)->w'.os=w.os/\w'.tape=w.tape/\w'.output=w.output->J xs w' B
 small:∀ {xs:List (List PV)} {w:World} {B:Nat->Prop},J xs w B->∀ b,B b->b<w.heap.size
 round:∀ {xs:List (List PV)} {x:List PV} {w:World} {B:Nat->Prop},J xs w B->xs++[x] <+: plan->k0-xs.length≠1->x.all PV.flat=true->YieldAt (FF none) 0 P l (x.map zCR).toArray w fun en w'=>en = .returned (.bool true)/\Apart w w' B Ψ /\
  ∃ B',J (xs++[x]) w' B'/\∀ b,B' b->B b\/w.heap.size<=b
 last:∀ {xs:List (List PV)} {x:List PV} {w:World} {B:Nat->Prop},J xs w B->xs++[x] <+: plan->k0-xs.length=1->x.all PV.flat=true->YieldAt (FF none) 0 P l (x.map zCR).toArray w fun en w'=>en = .returned (.bool false)/\Jx w'
 abideX:∀ {w w':World},Jx w->w.heap.size<=w'.heap.size->(∀ b,b<w.heap.size->w'.heap[b]? = w.heap[b]?)->w'.os=w.os/\w'.tape=w.tape/\w'.output=w.output->Jx w'
section
variable {P:Program} {H:zBg} {orc:zAK} {yo:zCU} {al:All} {nt:Nat} {val:Nat->Value} {l:Nat} {plan:List (List PV)} {k0:Int} {Ψ:Nat->Prop} {J:List (List PV)->World->(Nat->Prop)->Prop} {Jx:World->Prop}
def GJ(nt:Nat)(val:Nat->Value)(l:Nat)(k0:Int)(Ψ:Nat->Prop)(J:List (List PV)->World->(Nat->Prop)->Prop)(Jx:World->Prop)(a:Act)(w:World)(e:Env)(lg:Option Log):Prop :=
 ∃ g,lg=some g/\g.at_=l/\g.k=k0-g.xs.length/\∃ w1 U1 Φ1,Fr w1 U1 Φ1 nt ⟨val,[]⟩ a w e /\
  ((g.k≠0/\∃ B,J g.xs w1 B/\(∀ b,B b->¬ U1 b)/\∀ b,Φ1 b->Ψ b\/¬ B b)\/(g.k=0/\Jx w1/\∀ b,¬ U1 b))
def zZX(plan:List (List PV))(lg:Option Log):Prop:=∃ g,lg=some g/\g.xs <+: plan
theorem zH1{fz tk nl:Bool}{ops:Array Oper}{o:Oper}{e e':Env}{g:Log}{lg':Option Log}(h:zCV P H orc fz tk nl ops o e (some g)=some (e',lg')):∃ g',lg'=some g'/\g.xs <+: g'.xs:=by
 have mp:∀ {x:Option Env} {q:Log},x.map (fun e'=>(e',some q))=some (e',lg')->lg'=some q:=by
  intro x q h;obtain⟨y,_,h2⟩:=bm.1 h;cases h2;rfl
 simp only[zCV] at h;split at h
 ·simp only[zB0] at h;split at h
  ·rcases zBn h with⟨_,h⟩|⟨_,h⟩
   ·exact⟨_,mp h,List.prefix_append _ _⟩
   ·cases h
  ·exact⟨_,mp h,fN _⟩
  ·cases h
 ·exact⟨_,mp h,fN _⟩
theorem zYQ (jD : zGx P orc) (hnm:zET P) (hC:Client P l plan k0 Ψ J Jx):Frame P H orc nt none 0 (fun _=>True) (zZX plan) (GJ nt val l k0 Ψ J Jx):=by
 refine⟨?_,?_,?_,?_,?_,?_,?_⟩
 ·intro ops o fz tk nl e e' lg lg' h hf;obtain⟨g',rfl,hp⟩:=hf
  cases lg with
  |none=>simp only[zCV] at h;obtain⟨y,_,h2⟩:=bm.1 h;cases h2
  |some g=>
   obtain⟨g2,h2,h3⟩:=zH1 h;cases h2;exact⟨g,rfl,h3.trans hp⟩
 ·intro ops i o fz tk nl a w e e' lg lg' Q jE hi _ yO hG h;obtain ⟨g,rfl,yj,hk,w1,U1,Φ1,hf,jt⟩:=hG;have y8:zT0 P nt o=true:=bi.1 jE o (by
   rw[<- bS] at hi;exact bH hi)
  simp only[zCV] at h
  cases hy:zCp e o with
  |none=>
   rw[hy] at h;simp only at h;obtain⟨e1,h1,h2⟩:=bm.1 h;cases h2;exact zDT (zLG jD hnm jE hf hi h1) fun a' w' yv=>⟨g,rfl,yj,hk,w1,U1,Φ1,yv,jt⟩
  | some yP =>
   obtain⟨h0,args⟩:=yP;rw[hy] at h;simp only at h;obtain⟨Φ,rv,E,L,S,hb⟩:=hf;have kL:=zIW y8;simp only[zCp] at hy;split at hy
   ·rename_i c hc;split at hy
    ·rename_i tc ye;split at hy
     ·rename_i h0' kS;simp only[ba,bz] at hy;obtain⟨rfl,rfl⟩:=hy;have yE:zAZ nt (.tmp tc)=true/\∀ x∈c.args.toList,zAZ nt x=true:=by
       have h1:=y8;simp only[zT0,hc,bb,ye] at h1;obtain⟨_,h2,h3⟩:=h1;exact⟨by simpa using h3,bi.1 (by simpa using h2)⟩
      have htc:tc<nt:=zCe yE.1;have yr:tc<zAa:=bI htc (bB S.small (by decide));have qd:a.eval (.tmp tc) = .func (.yield h0') #[] #[]:=by
       have:=S.conf.rep tc;rw[S.env tc yr,kS] at this;show a.tmps.getD tc undef=_
       rw[S.tmps tc htc];exact this.2
      simp only[zB0] at h
      cases hw:zLM ops e o with
      |none=>rw[hw] at h;cases h
      | some b =>
       have hwant:=zUM jE S hw;simp only[wpOpIn,hi,hwant]
       cases b with
       |false=>
        rw[hw] at h;simp only at h;obtain⟨e1,h1,h2⟩:=bm.1 h;cases h2;exact⟨fun _ _=>trivial,g,rfl,yj,hk,w1,U1,Φ1,zAC S hb kL h1 (p := .und) ⟨rfl,rfl⟩,jt⟩
       | true =>
        rw[hw] at h;simp only at h;rcases zBn h with⟨j9,h⟩|⟨_,h⟩
        ·simp only[bb] at j9;obtain⟨⟨ju,hkn⟩,vk⟩:=j9;have vk:=bd vk;rw[yj] at vk;subst vk;have hkn:g.k≠0:=by simpa using hkn
         obtain⟨e1,h1,h2⟩:=bm.1 h;cases h2;rcases jt with⟨_,B,hJ,hBU,hBΦ⟩|⟨h0,_⟩
         ·
          have hvals:c.args.map a.eval=((c.args.toList.map (zQN e)).map zCR).toArray:=by
           have key:∀ l:List Operand,(∀ x∈l,zAZ nt x=true)->(l.map (zQN e)).all PV.flat=true->l.map a.eval=(l.map (zQN e)).map zCR:=by
            intro l
            induction l with
            |nil=>intro _ _;rfl|cons x l ih=>
             intro h1 h2;simp only[bL,cF,bb] at h2;simp only[bL];rw[zVT (zU3 S (h1 x (by simp))) h2.1,ih (fun y hy=>h1 y (by simp[hy])) h2.2]
           have:=key c.args.toList yE.2 ju;rw[<- this];apply Array.toList_inj.1;simp
          have hJw:J g.xs w B:=by
           refine hC.abide hJ S.conf.size (fun b hb=>S.conf.kept b (hC.small hJ b hb) (hBU b hb)) ⟨S.conf.os,S.conf.tape,S.conf.output⟩
          have hLB:∀ s,∀ b∈L s,¬ B b:=by
           intro s b jS wy;rcases(S.conf.own s b jS).2.2 with h3|h3
           ·exact hBU b wy h3
           ·have:=hC.small hJ b wy;omega
          have hΦB:∀ b,Φ b->Ψ b\/¬ B b:=by
           intro b hbΦ;rcases(S.conf.frz b hbΦ).2 with h3|h3|h3
           ·exact hBΦ b h3
           ·exact .inr fun wy=>hBU b wy h3
           ·exact .inr fun wy=>by have:=hC.small hJ b wy;omega
          have gN:g.xs++[c.args.toList.map (zQN e)] <+: plan:=by
           obtain⟨g2,vn,hp⟩:=yO;cases vn;exact hp
          have hexec:(execOp a.eval o).run P w=(Instr.yield h0' (c.args.map a.eval)).run P w:=by
           simp only[execOp,hc,Go.resolve,ye,qd,Deferred.ofValue,bo,bA,bh,invoke];simp
          have ku:∀ {R:Ending->World->Prop},YieldAt (FF none) 0 P h0' ((c.args.toList.map (zQN e)).map zCR).toArray w R->(∀ en w',R en w'->∃ v,en = .returned v/\GJ nt val h0' k0 Ψ J Jx (a.put o.dst v) w' e' (some ⟨g.xs++[c.args.toList.map (zQN e)],g.k-1,g.at_⟩)) ->
            o.wpIn (FF none) 0 P a w (fun a' w'=>GJ nt val h0' k0 Ψ J Jx a' w' e' (some ⟨g.xs++[c.args.toList.map (zQN e)],g.k-1,g.at_⟩)) Q:=by
           intro R ⟨fn,tmps,ca,cb,yC,yW⟩ hR;refine⟨fun _ _=>trivial,?_⟩;rw[Oper.semAt_eq (FF none).round a.eval o (fun c' hc'=>by rw[hc] at hc';cases hc'),hexec,hvals,yC];refine⟨fun h=>(by cases h),yW.mono fun en w' vO=>?_⟩;obtain⟨v,rfl,hv⟩:=hR en w' vO;exact hv
          have yA:g.k-1=k0-((g.xs++[c.args.toList.map (zQN e)]).length:Int):=by rw[hk];simp;omega
          rcases zBn h1 with⟨jY,h1⟩|⟨jY,h1⟩
          ·
           have jY:g.k=1:=by simpa using jY
           refine ku (hC.last hJw gN (by rw[<- hk];exact jY) ju) fun en w' ⟨vO,hx⟩=>⟨_,vO,?_⟩;refine⟨_,rfl,yj,yA,w',fun _=>False,fun _=>False,?_,.inr ⟨by rw[jY];rfl,hx,fun _ h=>h⟩⟩;have C':Conf w' (fun _=>False) (fun _=>False) w' (fun _=>False) rv (fun s=>if (E s).num then E s else .bad) (fun _=>[]):=by
            refine⟨fun s=>?_,fun _=>b8,fun _ _ _ b hb=>(by cases hb),fun s b hb=>(by cases hb),fun b hb=>hb.elim,fun b hb=>hb,bf _,fun _ _ _=>rfl,rfl,rfl,rfl⟩;have:=S.conf.rep s;split
            ·rename_i hn;revert this hn;cases E s<;>intro this hn<;>first|(cases hn;done)|exact⟨this.1,rfl⟩
            ·rfl
           have S':St w' (fun _=>False) (fun _=>False) nt ⟨val,[]⟩ a w' (e.forget zAa) (fun _=>False) rv (fun s=>if (E s).num then E s else .bad) (fun _=>[]):=by
            refine⟨C',fun s hs=>?_,S.size,S.small,S.tmps,fun d ps j hd hp hj=>?_,S.hid,S.dfr⟩
            ·rw[zE1,S.env s hs];have:s≠zAa:=by omega
             simp[this]
            ·split at hp
             ·rename_i hn;rw[hp] at hn;cases hn
             ·cases hp
           exact zAC S' (fun s hs=>by show(if (E s).num then E s else bad) = .bad;rw[hb s hs];rfl) kL h1 (p := .bool false) ⟨rfl,rfl⟩
          ·
           have jY:g.k≠1:=by simpa using jY
           refine ku (hC.round hJw gN (by rw[<- hk];exact jY) ju) fun en w' ⟨vO,LH,B',hJ',hB'⟩=>⟨_,vO,?_⟩;have hLk:∀ s,∀ b∈L s,w'.heap[b]? = w.heap[b]?:=fun s b hb=>LH.kept b (S.conf.own s b hb).1 (hLB s b hb);have hΦk:∀ b,Φ b->w'.heap[b]? = w.heap[b]?:=fun b hb=>(hΦB b hb).elim (fun h=>LH.seen b h) (fun h=>LH.kept b (S.conf.frz b hb).1 h);have C1:=S.conf.arrive (w':=w') LH.size hLk hΦk;have S':=S.with C1;refine⟨_,rfl,yj,yA,w',_,_,zAC S' hb kL h1 (p := .bool true) ⟨rfl,rfl⟩,.inl ⟨by simp only;omega,B',hJ',fun b wy ⟨s,jS⟩=>?_,fun b hbΦ=>?_⟩⟩
           ·rcases hB' b wy with h3|h3
            ·exact hLB s b jS h3
            ·have:=(S.conf.own s b jS).1;omega
           ·rcases hΦB b hbΦ with h3|h3
            ·exact .inl h3
            ·refine .inr fun wy=>?_;rcases hB' b wy with h4|h4
             ·exact h3 h4
             ·have:=(S.conf.frz b hbΦ).1;omega
         ·exact absurd h0 hkn
        ·cases h
     ·cases hy
    ·cases hy
   ·cases hy
 ·intro a w e e' lg ⟨g,h1,h2,h3,w1,U1,Φ1,hf,hc⟩ hg;exact⟨g,h1,h2,h3,w1,U1,Φ1,hf.get' hg,hc⟩
 ·intro a w e lg d ⟨g,h1,h2,h3,w1,U1,Φ1,hf,hc⟩;exact⟨g,h1,h2,h3,w1,U1,Φ1,hf.tick d,hc⟩
 ·intro a w e lg l ⟨g,h1,h2,h3,w1,U1,Φ1,hf,hc⟩;exact⟨g,h1,h2,h3,w1,U1,Φ1,hf.drop l,hc⟩
 ·intro a w e lg l ⟨g,h1,h2,h3,w1,U1,Φ1,hf,hc⟩;exact⟨g,h1,h2,h3,w1,U1,Φ1,hf.ice,hc⟩
 ·intro a w e lg t b ⟨g,h1,h2,h3,w1,U1,Φ1,⟨Φ,rv,E,L,S,hb⟩,hc⟩ ht he;have yr:t<zAa:=bI ht (bB S.small (by decide));have:=S.conf.rep t;rw[S.env t yr,he] at this;rw[S.tmps t ht];exact this.1
theorem zWD(zFd:P.follows .mixedOrders=true)(jD:zGx P orc)(hnm:zET P)(hC:Client P l plan k0 Ψ J Jx){m:Nat}{f:FuncId}{fn:Func}{body:Code}{args:List PV}(hf:P.funcs[f]? = some fn)(y4:fn.body=some body)(jR:zCP P fn.ntmps body=true)
  (ul:fn.ntmps<=2000000) (yP:args.length<=fn.ntmps) (uq:args.all (fun p=>!p.isTup)=true) (yi:fn.results.isEmpty=true) {x:X} {e1:Env} {g:Log}
  (hx:exec P H orc yo al fn.ntmps (H f) m body (zBf args []) (some ⟨[],k0,l⟩)=some (x,e1,some g)) (LI:x = .norm\/x = .ret) (hg:g.xs=plan) (hk:k0≠0)
  {w:World} {Φ:Nat->Prop} {rv:Nat->Value} {E:Nat->PV} {L:Nat->LN} {vs:Array Value} (hE:∀ s,s<zAa->E s=(zBf args []).get s) (ko:∀ s,zAa<=s->E s = .bad) (C:Conf w (fun b=>∃ s,b∈L s) Φ w Φ rv E L)
  (yI:vs.size=args.length) (yn:∀ i,i<args.length->vs[i]? = some (rv i)) (jc:∀ s,args.length<=s->s<zAk->rv s=undef) {B:Nat->Prop} (hJ:J [] w B) (hBL:∀ b,B b->∀ s,b∉L s) (hBΦ:∀ b,Φ b->Ψ b\/¬ B b) :
  CallsIn (FF none) 0 P f vs w fun en w'=>(∃ v,en = .returned v)/\((k0-plan.length≠0/\∃ B',J plan w' B')\/(k0-plan.length=0/\Jx w')):=by
 have ho:zAF=60000000:=rfl;have hh:zAk=50000000:=rfl;have ve:zAa=1000000000:=rfl;refine callsIn_of_wp hf y4 trivial ?_;have S:St w (fun b=>∃ s,b∈L s) Φ fn.ntmps ⟨rv,[]⟩ {tmps:=vs++Array.replicate (fn.ntmps-vs.size) undef,defers:=[]} w (zBf args []) Φ rv E L:=by
  refine⟨C,hE,by simp;omega,ul,fun t ht=>?_,fun d ps i hd hp hi=>?_,fun _ _ _=>rfl,rfl⟩
  ·simp only[db,Array.getElem?_append];by_cases h1:t<vs.size
   ·rw[if_pos h1,yn t (by omega)];rfl
   ·rw[if_neg h1,iA,if_pos (by omega),jc t (by omega) (by omega)];rfl
  ·rw[hE d (by omega),zDm (by omega)] at hp;split at hp
   ·rename_i wD;have:(args.getD d .bad)∈args:=by
     simp only[List.getD,bl wD,dd];exact cM wD
    have:=bi.1 uq _ this;rw[hp] at this;cases this
   ·split at hp
    ·rename_i h2;simp at h2;omega
    ·cases hp
 have yO:zZX plan (some g):=⟨g,rfl,by rw[hg];exact fN _⟩
 have hw:=zIa (zYQ (val:=rv) jD hnm hC) zFd m body (.inr fun m' _ t ps ca cb a w e x e' _ hG _=>by obtain⟨g,h,_⟩:=hG;cases h) jR (fun _ _=>trivial) yO
  (⟨_,rfl,rfl,by simp,w,_,_,⟨Φ,rv,E,L,S,ko⟩,.inl ⟨hk,B,hJ,fun b hb ⟨s,hs⟩=>hBL b hb s hs,hBΦ⟩⟩:GJ fn.ntmps rv l k0 Ψ J Jx _ w (zBf args []) (some ⟨[],k0,l⟩)) hx
 refine wpIn_mono hw fun ex a' w' ⟨qA,g',hg',_,wx,w1,U1,Φ1,vC,jt⟩=>?_;cases hg';rw[hg] at wx;rw[wx] at jt;obtain⟨Φ2,rv2,E2,L2,S2,j0⟩:=vC;have yC:=zNi (P:=P) (w:=w') (fn:=fn) (a:=a') yi;have wZ:bodyPost P fn (fun en w'=>(∃ v,en = .returned v)/\((k0-plan.length≠0/\∃ B',J plan w' B')\/(k0-plan.length=0/\Jx w'))) .normal a' w':=by
  refine⟨S2.dfr,_,yC,⟨_,rfl⟩,?_⟩;rcases jt with⟨h1,B1,hJ1,hBU,_⟩|⟨h1,ji,hU⟩
  ·rw[hg] at hJ1;exact .inl ⟨h1,B1,hC.abide hJ1 S2.conf.size (fun b hb=>S2.conf.kept b (hC.small hJ1 b hb) (hBU b hb)) ⟨S2.conf.os,S2.conf.tape,S2.conf.output⟩⟩
  ·exact .inr ⟨h1,hC.abideX ji S2.conf.size (fun b hb=>S2.conf.kept b hb (hU b)) ⟨S2.conf.os,S2.conf.tape,S2.conf.output⟩⟩
 subst qA;rcases LI with rfl|rfl<;>exact wZ
end
end Go.Eng
namespace Go.Eng
open Go
section
variable {w0 w w' w1 w2:World} {U Φ0 Φ U1 Φ1 U2 Φ2:Nat->Prop} {nt:Nat} {hv:Hid} {a:Act} {e e':Env} {rv rv':Nat->Value} {E E':Nat->PV} {L L':Nat->LN}
theorem zPY{f:Nat->PV->PV}:∀ (e:Env) (s:Nat),f s .bad = .bad->Env.get (e.map fun x=>(x.1,f x.1 x.2)) s=f s (e.get s)
 |[],s,h=>h.symm|(k,v)::e,s,h=>by
  simp only[bL,Env.get]
  cases hb:beq k s with
  |true=>rw[bd hb];rfl|false=>exact zPY e s h
def zDr(nt:Nat)(R ds:LN)(e:Env)(s:Nat)(p:PV):PV :=
 bif R.contains s || !p.heavy&&p.ways.all (fun w=>R.contains w.1) then p else bif !(blt s nt && !ds.contains s||ble zAk s&&blt s zAF) then .bad else bif (R.isEmpty||(e.get s).free) && !(e.get s).isTup then e.get s else .bad
theorem zTd(nt:Nat)(R ds:LN)(e0 e:Env)(s:Nat):(after nt R ds e0 e).get s=zDr nt R ds e s (e0.get s) :=
 zPY (f:=fun s p=>zDr nt R ds e s p) e0 s (by simp[zDr,PV.heavy,PV.ways])
theorem zL5(nt:Nat)(R ds:LN)(e:Env)(s:Nat)(p:PV) :
  (zDr nt R ds e s p=p/\s∈R)\/(zDr nt R ds e s p=p/\p.heavy=false/\∀ x∈p.ways,x.1∈R)\/zDr nt R ds e s p = .bad \/
  (zDr nt R ds e s p=e.get s/\s∉R/\((s<nt/\s∉ds)\/(zAk<=s/\s<zAF))/\(R=[]\/(e.get s).free=true)/\(e.get s).isTup=false):=by
 simp only[zDr]
 cases h1:(R.contains s || !p.heavy&&p.ways.all (fun w=>R.contains w.1)) with
 |true=>
  simp only[bW,bb,bG,dp,bi] at h1;rcases h1 with h1|⟨h1,h2⟩
  ·exact .inl ⟨rfl,h1⟩
  ·exact .inr (.inl ⟨rfl,h1,h2⟩)
 | false =>
  simp only[cond_false];have hs:s∉R:=by
   simp only[cI] at h1;intro hm;rw[dp.2 hm] at h1;cases h1.1
  cases h2:(!(blt s nt && !ds.contains s||ble zAk s&&blt s zAF)) with
  |true=>exact .inr (.inr (.inl rfl))
  | false =>
   simp only[cond_false]
   cases h3:((R.isEmpty||(e.get s).free) && !(e.get s).isTup) with
   |false=>exact .inr (.inr (.inl rfl))
   | true =>
    simp only[bE,bW,bb,bG] at h2 h3;refine .inr (.inr (.inr ⟨rfl,hs,?_,?_,h3.2⟩))
    ·rcases h2 with⟨h4,h5⟩|⟨h4,h5⟩
     ·refine .inl ⟨zCe h4,fun hm=>?_⟩;rw[dp.2 hm] at h5;cases h5
     ·exact .inr ⟨br h4,zCe h5⟩
    ·rcases h3.1 with h4|h4
     ·exact .inl (by simpa using h4)
     ·exact .inr h4
theorem zQ1{p:PV}(h:p.flat=true):p.isTup=false/\p.heavy=false:=by
 cases p<;>first|(cases h;done)|exact⟨rfl,rfl⟩|skip
 rename_i cs;refine⟨rfl,?_⟩;have key:∀ cs:List PV,cs.all PV.num=true->zDf cs=false:=by
  intro cs
  induction cs with
  |nil=>intro _;rfl|cons c cs ih=>
   intro h;simp only[cF,bb] at h;simp only[zDf,ih h.2,iO];cases c<;>first|(cases h.1;done)|rfl
 exact key cs h
theorem zWJ{A:Al}{p:PV}(h:p.num=true):Rep w Φ A p (zLx p) []:=by
 cases p<;>first|(cases h;done)|exact⟨rfl,rfl⟩
theorem zQm{A:Al}:∀ (ps:List PV),ps.all PV.num=true->zA8 w Φ A ps (ps.map zLx) []
 |[],_=>⟨rfl,rfl⟩|p::ps,h=>by
  simp only[cF,bb] at h;exact⟨_,_,[],[],rfl,rfl,zWJ h.1,zQm ps h.2⟩
theorem zVS{A:Al}{p:PV}(h:p.flat=true):Rep w Φ A p (zCR p) []:=by
 cases p<;>first|(cases h;done)|exact⟨rfl,rfl⟩|skip
 exact⟨_,rfl,by simpa using zQm _ h⟩
theorem zIA:∀ (ps:List Tmp) (x:List PV) {a:Act} {e e1:Env},Fr w0 U Φ0 nt hv a w e->(∀ t∈ps,t<nt)->x.all PV.flat=true->zCB ps x e=some e1 ->
  ps.length=x.length/\Fr w0 U Φ0 nt hv {a with tmps:=(ps.zip (x.map zCR)).foldl (fun t (p,v)=>t.setIfInBounds p v) a.tmps} w e1 /\
  ∀ t,t∉ps->((ps.zip (x.map zCR)).foldl (fun t (p,v)=>t.setIfInBounds p v) a.tmps).getD t undef=a.tmps.getD t undef
 |[],[],a,e,e1,hf,_,_,h=>by
  simp only[zCB,ba] at h;subst h;exact⟨rfl,hf,fun _ _=>rfl⟩
 |[],_::_,a,e,e1,hf,_,_,h=>by cases h|_::_,[],a,e,e1,hf,_,_,h=>by cases h
 | t :: ts,v::vs,a,e,e1,hf,ht,hx,h=>by
  simp only[zCB] at h;split at h
  ·cases h
  ·simp only[cF,bb] at hx;obtain⟨Φ,rv,E,L,S,hb⟩:=hf;have hl:=zQ1 hx.1;have yC:(put (some t) v).run (fun _ _ _=>none) e=some (e.set t v):=by
    simp only[put,hl.1,cond_false,lay,hl.2,PM.run]
   have hf1:=zAC (d:=some t) S hb (fun y hy=>by cases hy;exact ht t (by simp)) yC (zVS hx.1);obtain⟨h1,h2,h3⟩:=zIA ts vs hf1 (fun y hy=>ht y (by simp[hy])) hx.2 h;refine⟨by simp[h1],h2,fun y hy=>?_⟩;simp only[bx,not_or] at hy;have:=h3 y hy.2;simp only[bL,List.zip_cons_cons,bM];refine f9 this ?_;show(a.tmps.setIfInBounds t (zCR v)).getD y undef=_
   simp only[db,dM];rw[if_neg (fun e=>hy.1 e.symm)]
end
theorem zOP{F:Fence}{n:Nat}{P:Program}{ops:Array Oper}{Q:Exit->Act->World->Prop}{i:Nat}{K:Act->World->Prop}{T:Act->Prop}{a:Act}{w:World}{o:Oper}(hi:ops[i]? = some o)(hT:∀ v ds,T ({a with defers:=ds}.put o.dst v))
  (h:wpOpIn F n P ops Q i K a w):wpOpIn F n P ops Q i (fun a' w'=>K a' w'/\T a') a w:=by
 have hT0:∀ v,T (a.put o.dst v):=fun v=>hT v a.defers;simp only[wpOpIn,hi] at h ⊢;split
 ·rename_i hw;rw[if_pos hw] at h;refine⟨h.1,?_⟩;have h:=h.2;revert h;generalize (o.semAt F.round a.eval).run P w=r;intro h
  cases r with
  | ok x w' =>
   cases x<;>simp only[Oper.uponIn] at h ⊢ <;> first
    |exact⟨h,hT0 _⟩
    |exact⟨h,hT _ _⟩
    |exact⟨h.1,h.2.mono fun e w'' he=>by cases e<;>first|exact⟨he,hT0 _⟩|exact he⟩
    |exact⟨h.1,h.2.mono fun v w'' he=>⟨he,hT0 _⟩⟩
    |exact h
  |halt x w'=>cases x<;>simp only[Oper.uponIn] at h ⊢ <;> exact h
 ·rename_i hw;rw[if_neg hw] at h;exact⟨h.1,h.2,hT0 _⟩
def GR(wb:World)(Ub Φb:Nat->Prop)(nt:Nat)(val:Nat->Value)(ds:LN)(tm:Array Value)(a:Act)(w:World)(e:Env)(lg:Option Log):Prop :=
 lg=none/\Fr wb Ub Φb nt ⟨val,[]⟩ a w e/\∀ t,t∉ds->a.tmps.getD t undef=tm.getD t undef
theorem zWC{P:Program}{H:zBg}{orc:zAK}{nt l:Nat}{wb:World}{Ub Φb:Nat->Prop}{val:Nat->Value}{ds:LN}{tm:Array Value}(jD:zGx P orc)(hnm:zET P) :
  Frame P H orc nt (some l) 0 (fun d=>d∈ds) (fun lg=>lg=none) (GR wb Ub Φb nt val ds tm):=by
 refine⟨?_,?_,?_,?_,?_,?_,?_⟩
 ·intro ops o fz tk nl e e' lg lg' h hf
  cases lg with
  |none=>rfl|some g=>obtain⟨g',h2,_⟩:=zH1 h;rw[h2] at hf;cases hf
 ·intro ops i o fz tk nl a w e e' lg lg' Q jE hi hd yO ⟨qB,hf,ht⟩ h;subst qB;simp only[zCV] at h;obtain⟨e1,h1,h2⟩:=bm.1 h;cases h2;refine zDT (zOP (T:=fun a'=>∀ t,t∉ds->a'.tmps.getD t undef=tm.getD t undef) hi (fun v ds' t vH=>?_) (zLG jD hnm jE hf hi h1)) fun a' w' ⟨yv,ht'⟩=>⟨rfl,yv,ht'⟩;rw[<- ht t vH]
  cases kL:o.dst with
  |none=>rfl|some d=>
   have hI:t≠d:=by rintro rfl;exact vH (hd t kL)
   simp only[Act.put,db,dM];rw[if_neg (fun e=>hI e.symm)]
 ·intro a w e e' lg ⟨h1,hf,ht⟩ hg;exact⟨h1,hf.get' hg,ht⟩
 ·intro a w e lg d ⟨h1,hf,ht⟩;exact⟨h1,hf.tick d,ht⟩
 ·intro a w e lg l ⟨h1,hf,ht⟩;exact⟨h1,hf.drop l,ht⟩
 ·intro a w e lg l ⟨h1,hf,ht⟩;exact⟨h1,hf.ice,ht⟩
 ·intro a w e lg t b ⟨_,⟨Φ,rv,E,L,S,hb⟩,_⟩ ht he;have yr:t<zAa:=bI ht (bB S.small (by decide));have:=S.conf.rep t;rw[S.env t yr,he] at this;rw[S.tmps t ht];exact this.1
def X.isNorm:X->Bool
 |.norm=>true|_=>false
def zIX:X->Code
 |.ret=>.ret|.ex id=>.exit id|.norm=>.skip
def zJv(run:Code->Env->Option (X×Env))(ps:List Tmp)(ca cb:Code)(x:List PV)(e:Env):Option (X×Env) :=
 match zCB ps x e with
 |some e1=>match run ca e1 with
  |some (.norm,e2)=>run cb e2|_=>none
 |none=>none
section
variable {w0 w w' w1 w2:World} {U Φ0 Φ U1 Φ1 U2 Φ2:Nat->Prop} {nt:Nat} {hv:Hid} {a:Act} {e e':Env} {rv rv':Nat->Value} {E E':Nat->PV} {L L':Nat->LN}
theorem zN1{p:PV}(h:p.heavy=false):p.unlock=p:=by cases p<;>first|rfl|cases h
open Classical in
theorem Conf.behind{wb w4:World}{Ub Φb Φ3:Nat->Prop}{rv3:Nat->Value}{E3:Nat->PV}{L3:Nat->LN}{e3:Env}{R ds:LN}(C:Conf w0 U Φ0 w Φ rv E L)(hE:∀ s,s<zAa->E s=e.get s)(ko:zBs E)
  (C3:Conf wb Ub Φb w4 Φ3 rv3 E3 L3) (hE3:∀ s,s<zAa->E3 s=e3.get s) (yN:∀ r∈R,∀ x∈(E r).ways,x.1∈R)
  (jb:∀ s,(s<nt/\s∉ds)\/(zAk<=s/\s<zAF)->rv3 s=rv s)
  (hs:w.heap.size<=w4.heap.size) (hk:∀ b,b<w.heap.size->(Φ b\/(∃ r∈R,b∈L r)\/b<w0.heap.size/\¬ U b)->w4.heap[b]? = w.heap[b]?)
  (hΦ3:∀ b,Φ b->Φ3 b) (hΦb:∀ b,Φ3 b->Φ b\/(∃ s,b∈L s)\/w.heap.size<=b) (hΦR:∀ r∈R,∀ b∈L r,Φ3 b) (hL3:∀ s,∀ b∈L3 s,(∃ t,b∈L t)\/w.heap.size<=b) (ho:w4.os=w.os/\w4.tape=w.tape/\w4.output=w.output) :
  ∃ E' L',(∀ s,s<zAa->E' s=zDr nt R ds e3 s (e.get s))/\zBs E'/\Conf w0 U Φ0 w4 (fun b=>Φ3 b/\∀ r∈R,b∉L r) rv E' L'/\(∀ r∈R,L' r=L r)/\(∀ s,∀ b∈L' s,(∃ r∈R,b∈L r)\/∃ t,b∈L3 t) /\
   ∀ d ps,d<zAa->E' d = .tup ps->E d = .tup ps:=by
 let Tk:Nat->Prop:=fun s=>s<zAa/\zDr nt R ds e3 s (e.get s)=e3.get s/\((s<nt/\s∉ds)\/(zAk<=s/\s<zAF))/\(R=[]\/(e3.get s).free=true)/\(e3.get s).isTup=false
 let E':Nat->PV:=fun s=>if s<zAa then zDr nt R ds e3 s (e.get s) else .bad
 let L':Nat->LN:=fun s=>if s∈R then L s else if Tk s then L3 s else[]
 have hE':∀ s,s<zAa->E' s=zDr nt R ds e3 s (e.get s):=fun s hs=>if_pos hs;have hEb':zBs E':=fun g hg=>if_neg (by omega);have gO:∀ s,s∈R->L' s=L s:=fun s hs=>if_pos hs;have LJ:∀ s,s∉R->Tk s->L' s=L3 s:=fun s hs ht=>by show(if s∈R then L s else if Tk s then L3 s else[])=_;rw[if_neg hs,if_pos ht]
 have gP:∀ s,s∉R->¬ Tk s->L' s=[]:=fun s hs ht=>by show(if s∈R then L s else if Tk s then L3 s else[])=_;rw[if_neg hs,if_neg ht]
 have fate:∀ s,(s∈R/\E' s=E s)\/(s∉R/\Tk s/\E' s=E3 s)\/(s∉R/\¬ Tk s/\E' s=E s/\(E s).heavy=false/\∀ x∈(E s).ways,x.1∈R)\/(s∉R/\¬ Tk s/\E' s = .bad):=by
  intro s;by_cases yk:s<zAa
  ·rw[hE' s yk,hE s yk];by_cases jI:s∈R
   ·have:zDr nt R ds e3 s (e.get s)=e.get s:=by
     simp only[zDr,dp.2 jI,iR,cond_true]
    exact .inl ⟨jI,this⟩
   ·by_cases ht:Tk s
    ·exact .inr (.inl ⟨jI,ht,by rw[hE3 s yk];exact ht.2.1⟩)
    ·rcases zL5 nt R ds e3 s (e.get s) with⟨_,h2⟩|⟨h1,h2,h3⟩|h1|⟨h1,h2,h3,h4,h5⟩
     ·exact absurd h2 jI
     ·exact .inr (.inr (.inl ⟨jI,ht,h1,h2,h3⟩))
     ·exact .inr (.inr (.inr ⟨jI,ht,h1⟩))
     ·exact absurd ⟨yk,h1,h3,h4,h5⟩ ht
  ·have hb:E' s = .bad:=hEb' s (by omega);have ht:¬ Tk s:=fun ht=>yk ht.1;by_cases jI:s∈R
   ·exact .inl ⟨jI,by rw[hb,ko s (by omega)]⟩
   ·exact .inr (.inr (.inr ⟨jI,ht,hb⟩))
 have hΦ:zDq w w4 Φ (fun b=>Φ3 b/\∀ r∈R,b∉L r):=fun b hb=>⟨⟨hΦ3 b hb,fun r _ wo=>(C.own r b wo).2.1 hb⟩,hk b (C.frz b hb).1 (.inl hb)⟩;have hLk:∀ r∈R,∀ b∈L r,w4.heap[b]? = w.heap[b]?:=fun r hr b hb=>hk b (C.own r b hb).1 (.inr (.inl ⟨r,hr,hb⟩));have hA:∀ b v,b.isWay=true->(zBa w rv E b v/\∀ x∈b.ways,x.1∈R)->zBa w4 rv E' b v:=by
  intro b v hw ⟨ha,hR⟩;have hr:(zBc b).1∈R:=by
   have:=hR (zBc b);cases b<;>first|(cases hw;done)|(exact ha.elim)|skip
   all_goals exact this (by simp[PV.ways,zBc])
  have hg:=zC7 ha;rcases fate (zBc b).1 with⟨_,h1⟩|⟨h1,_⟩|⟨h1,_⟩|⟨h1,_⟩
  ·exact zCS C zCs ha (by rw[h1,zBl]) rfl (hLk _ hr)
  all_goals exact absurd hr h1
 have keepRep:∀ s,(∀ x∈(E s).ways,x.1∈R)->(∀ b∈L s,w4.heap[b]? = w.heap[b]?)->Rep w4 (fun b=>Φ3 b/\∀ r∈R,b∉L r) (zBa w4 rv E') (E s) (rv s) (L s):=by
  intro s hx hL;have h1:=Rep.ways (A':=fun b v=>zBa w rv E b v/\∀ x∈b.ways,x.1∈R) (E s) (rv s) (L s) (fun b v _ gd ha=>⟨ha,fun x hxb=>hx x (gd x hxb)⟩) (C.rep s);exact h1.mono (Φ':=fun b=>Φ3 b/\∀ r∈R,b∉L r) hΦ hA hL
 refine⟨E',L',hE',hEb',⟨fun s=>?_,fun s=>?_,fun s s' hI b hb yL=>?_,fun s b hb=>?_,fun b ⟨hb,_⟩=>?_,fun b hb=>⟨hΦ3 b (C.frz0 b hb),fun r _ wo=>(C.own r b wo).2.1 (C.frz0 b hb)⟩,bB C.size hs,
  fun b hb hu=>(hk b (bI hb C.size) (.inr (.inr ⟨hb,hu⟩))).trans (C.kept b hb hu),ho.1.trans C.os,ho.2.1.trans C.tape,ho.2.2.trans C.output⟩,gO,fun s b hb=>?_,fun d ps hd hp=>?_⟩
 ·rcases fate s with⟨h1,h2⟩|⟨h1,h2,h3⟩|⟨h1,h2,h3,h4,h5⟩|⟨h1,h2,h3⟩
  ·rw[h2,gO s h1];exact keepRep s (yN s h1) (hLk s h1)
  ·rw[h3,LJ s h1 h2];have jW:=jb s h2.2.2.1;rw[<- jW];rcases h2.2.2.2.1 with hR|w9
   ·subst hR;refine(C3.rep s).mono (Φ':=fun b=>Φ3 b/\∀ r∈([]:LN),b∉L r) (fun b hb=>⟨⟨hb,fun r hr=>by cases hr⟩,rfl⟩) (fun b v hw ha=>?_) (fun _ _=>rfl);have hg:=zC7 ha;rcases fate (zBc b).1 with⟨h1,_⟩|⟨_,h4,h5⟩|⟨_,_,h5,h6,_⟩|⟨_,_,h5⟩
    ·cases h1
    ·exact zCS C3 zCs ha (by rw[h5,zBl]) (jb _ h4.2.2.1).symm (fun _ _=>rfl)
    ·exact zLU ha (by rw[h5,zN1 h6];exact h6)
    ·exact zLU ha (by rw[h5];rfl)
   ·exact Rep.free _ _ _ (by rw[hE3 s h2.1];exact w9) (C3.rep s)
  ·rw[h3,gP s h1 h2];have qe:=zDt _ _ _ h4 (C.rep s);have:=keepRep s h5 (by rw[qe];simp);rwa[qe] at this
  ·rw[h3,gP s h1 h2];rfl
 ·by_cases h1:s∈R
  ·rw[gO s h1];exact C.nodup s
  ·by_cases h2:Tk s
   ·rw[LJ s h1 h2];exact C3.nodup s
   ·rw[gP s h1 h2];exact b8
 ·by_cases h1:s∈R
  ·rw[gO s h1] at hb;by_cases jd:s'∈R
   ·rw[gO s' jd] at yL;exact C.disj s s' hI b hb yL
   ·by_cases jm:Tk s'
    ·rw[LJ s' jd jm] at yL;exact(C3.own s' b yL).2.1 (hΦR s h1 b hb)
    ·rw[gP s' jd jm] at yL;cases yL
  ·by_cases h2:Tk s
   ·rw[LJ s h1 h2] at hb;by_cases jd:s'∈R
    ·rw[gO s' jd] at yL;exact(C3.own s b hb).2.1 (hΦR s' jd b yL)
    ·by_cases jm:Tk s'
     ·rw[LJ s' jd jm] at yL;exact C3.disj s s' hI b hb yL
     ·rw[gP s' jd jm] at yL;cases yL
   ·rw[gP s h1 h2] at hb;cases hb
 ·by_cases h1:s∈R
  ·rw[gO s h1] at hb;have:=C.own s b hb;exact⟨bI this.1 hs,fun⟨_,h2⟩=>h2 s h1 hb,this.2.2⟩
  ·by_cases h2:Tk s
   ·rw[LJ s h1 h2] at hb;have:=C3.own s b hb;refine⟨this.1,fun⟨h3,_⟩=>this.2.1 h3,?_⟩;rcases hL3 s b hb with⟨t,h3⟩|h3
    ·exact(C.own t b h3).2.2
    ·exact .inr (bB C.size h3)
   ·rw[gP s h1 h2] at hb;cases hb
 ·refine⟨(C3.frz b hb).1,?_⟩;rcases hΦb b hb with h3|⟨t,h3⟩|h3
  ·exact(C.frz b h3).2
  ·exact .inr (C.own t b h3).2.2
  ·exact .inr (.inr (bB C.size h3))
 ·by_cases h1:s∈R
  ·rw[gO s h1] at hb;exact .inl ⟨s,h1,hb⟩
  ·by_cases h2:Tk s
   ·rw[LJ s h1 h2] at hb;exact .inr ⟨s,hb⟩
   ·rw[gP s h1 h2] at hb;cases hb
 ·rcases fate d with⟨h1,h2⟩|⟨h1,h2,h3⟩|⟨h1,h2,h3,_⟩|⟨h1,h2,h3⟩
  ·rw[<- h2];exact hp
  ·rw[h3,hE3 d hd] at hp;have:=h2.2.2.2.2;rw[hp] at this;cases this
  ·rw[<- h3];exact hp
  ·rw[h3] at hp;cases hp
end
section
variable {P:Program} {H:zBg} {orc:zAK} {yo:zCU} {al:All} {w0 w:World} {U Φ0 Φ:Nat->Prop} {nt:Nat} {hv:Hid} {aM:Act} {e ef e3:Env} {rv:Nat->Value} {E:Nat->PV} {L:Nat->LN} {hh:FHint} {m:Nat}
def zKH(P:Program)(H:zBg)(orc:zAK)(yo:zCU)(al:All)(nt:Nat)(hh:FHint)(m:Nat)(c:Code)(e:Env):Option (X×Env) :=
 match exec P H orc yo al nt hh m c e none with
 |some (x,e',none)=>some (x,e')|_=>none
theorem zK9{c:Code}{e e':Env}{x:X}(h:zKH P H orc yo al nt hh m c e=some (x,e')):exec P H orc yo al nt hh m c e none=some (x,e',none):=by
 simp only[zKH] at h;split at h
 ·rename_i hx;cases h;exact hx
 ·cases h
theorem zK3:∀ (R:LN) {e ef:Env},zEE R e=some ef->∀ r∈R,r<zAa
 |[],_,_,_,r,hr=>by cases hr
 | t :: R,e,ef,h,r,hr=>by
  simp only[zEE] at h;rcases zBn h with⟨h1,h⟩|⟨_,h⟩
  ·split at h
   ·rcases bx.1 hr with rfl|hr
    ·exact zCe h1
    ·exact zK3 R h r hr
   ·cases h
  ·cases h
theorem zPS (zFd:P.follows .mixedOrders=true) (jD:zGx P orc) (hnm:zET P) {ps:Array Tmp} {ca cb:Code} {ds:LN} {x:List PV} {r:X} (yg:∀ t∈ps.toList,t<nt) (ur:zCP P nt ca=true) (hcb:zCP P nt cb=true) (hna:zDa ca=true) (u7:zDa cb=true)
  (hdp:∀ t∈ps.toList,t∈ds) (wD:∀ d∈zBZ ca,d∈ds) (hdb:∀ d∈zBZ cb,d∈ds) (hx:x.all PV.flat=true) (S:St w0 U Φ0 nt hv aM w e Φ rv E L) (hb:zBs E)
  {l:Nat} {rc:Go.Loop} (ue:rc.params=ps) (ub:rc.assign=ca) (hrb:rc.body=cb) (qC:rc.tmps=aM.tmps) (jW:rc.state = .ready) (hl:w.heap[l]? = some (.loop rc)) (hlL:∀ s,l∉L s) (hlΦ:¬ Φ l) (wV:w0.heap.size<=l)
  {R:LN} (hR:(R=[]/\ef=e)\/(zGq e R=true/\zEE R e=some ef)) (yW:zJv (zKH P H orc yo al nt hh m) ps.toList ca cb x ef=some (r,e3)) :
  YieldAt (FF none) 0 P l (x.map zCR).toArray w fun en w4=>en = .returned (.bool r.isNorm)/\w.heap.size<=w4.heap.size/\(w4.os=w.os/\w4.tape=w.tape/\w4.output=w.output) /\
   w4.heap[l]? = some (.loop {rc with state:=bif r.isNorm then .ready else .done,pending:=bif r.isNorm then none else some (zIX r)})/\(∀ b,b<w.heap.size->b≠l->(∀ s,s∉R->b∉L s)->w4.heap[b]? = w.heap[b]?) /\
   ∃ Φ4 E4 L4,St w0 U Φ0 nt hv aM w4 (after nt R ds e e3) Φ4 rv E4 L4/\zBs E4/\(∀ b,Φ b->Φ4 b)/\(∀ b,Φ4 b->Φ b\/(∃ s,b∈L s)\/w.heap.size<=b)/\(∀ r∈R,L4 r=L r)/\∀ s,∀ b∈L4 s,(∃ t,b∈L t)\/w.heap.size<=b:=by
 subst ub;subst hrb;have ve:zAa=1000000000:=rfl;have jl:=S.small;have hlw:l<w.heap.size:=(bY.1 hl).1;obtain⟨Φr,Er,Lr,Sr,wo,f1,f2,f3,f4⟩:∃ Φr Er Lr,St w (fun b=>∃ s,b∈L s) Φ nt hv aM w ef Φr rv Er Lr/\zBs Er/\(∀ b,Φ b->Φr b)/\(∀ b,Φr b->Φ b\/∃ r∈R,b∈L r)/\(∀ r∈R,∀ b∈L r,Φr b)/\∀ s,∀ b∈Lr s,b∈L s:=by
  rcases hR with⟨rfl,rfl⟩|⟨_,hf⟩
  ·exact⟨Φ,E,L,S.with S.conf.fresh,hb,fun _ h=>h,fun _ h=>.inl h,fun _ h=>(by cases h),fun _ _ h=>h⟩
  ·exact zJD R (S.with S.conf.fresh) hb hf
 have yN:∀ r∈R,∀ x∈(E r).ways,x.1∈R:=by
  rcases hR with⟨rfl,_⟩|⟨hc,hf⟩
  ·intro r hr;cases hr
  ·intro r hr x hx;have:=bi.1 hc r hr;rw[S.env r (zK3 R hf r hr)] at hx;exact dp.1 (bi.1 this x hx)
 have hlr:∀ s,l∉Lr s:=fun s hs=>hlL s (f4 s l hs);have hlΦr:¬ Φr l:=fun h=>(f2 l h).elim hlΦ fun⟨t,_,ht⟩=>hlL t ht;simp only[zJv] at yW
 cases jh:zCB ps.toList x ef with
 |none=>rw[jh] at yW;cases yW
 | some e1 =>
  rw[jh] at yW;simp only at yW;split at yW
  ·rename_i e2 hra1;have ji:=zK9 hra1;have j4:=zK9 yW
   have S0:St w (fun b=>∃ s,b∈Lr s) Φr nt ⟨hv.val,[]⟩ {tmps:=aM.tmps,defers:=[]} w ef Φr rv Er Lr :=
    ⟨Sr.conf.fresh,Sr.env,Sr.size,Sr.small,Sr.tmps,Sr.parts,Sr.hid,rfl⟩
   obtain⟨g1,g2,g3⟩:=zIA ps.toList x ⟨_,_,_,_,S0,wo⟩ yg hx jh;have ku:=run_yield (P:=P) (args:=(x.map zCR).toArray) hl (by rw[ue];simpa using g1.symm);have hfold:(rc.params.zip (x.map zCR).toArray).foldl (fun tmps (t,a)=>tmps.setIfInBounds t a) rc.tmps=(ps.toList.zip (x.map zCR)).foldl (fun t (p,v)=>t.setIfInBounds p v) aM.tmps:=by
    rw[ue,qC,<- Array.foldl_toList];simp
   refine⟨_,_,_,_,ku,roundIn_of_wpIn trivial ?_⟩;rw[hfold];refine wpIn_mono (zIa (zWC (l:=l) (tm:=aM.tmps) jD hnm) zFd m rc.assign (.inl hna) ur wD rfl ⟨rfl,g2,fun t ht=>g3 t (fun h=>ht (hdp t h))⟩ ji) fun ex a1 w1 ⟨qA,_,hf1,ht1⟩=>?_;subst qA;obtain⟨Φa,rva,Ea,La,Sa,hba⟩:=hf1;have vp:w1.heap[l]? = some (.loop rc):=(Sa.conf.kept l hlw (fun⟨s,hs⟩=>hlr s hs)).trans hl;have qf:∀ s,l∉La s:=fun s hs=>by rcases(Sa.conf.own s l hs).2.2 with⟨t,ht⟩|h2<;>first|exact hlr t ht|omega
   have hlΦa:¬ Φa l:=fun h=>by rcases(Sa.conf.frz l h).2 with h2|⟨t,ht⟩|h2<;>first|exact hlΦr h2|exact hlr t ht|omega
   refine⟨_,run_beginRound vp jW,?_⟩;obtain⟨w2,wE⟩:∃ w2,w1.putObj l (.loop {rc with state := .busy})=w2:=⟨_,rfl⟩;rw[wE];have hlw1:l<w1.heap.size:=(bY.1 vp).1;have gQ:∀ b,b≠l->w2.heap[b]? = w1.heap[b]?:=fun b hb=>by rw[<- wE];exact World.putObj_heap_other hb
   have h2l:w2.heap[l]? = some (.loop {rc with state := .busy}):=by rw[<- wE];exact World.putObj_heap_same hlw1
   have h2s:w1.heap.size<=w2.heap.size:=by rw[<- wE];simp
   have wa:w2.os=w1.os/\w2.tape=w1.tape/\w2.output=w1.output:=by rw[<- wE];exact⟨rfl,rfl,rfl⟩
   have C2:=Sa.conf.arrive h2s (fun s b hb=>gQ b fun e=>qf s (e▸hb)) (fun b hb=>gQ b fun e=>hlΦa (e▸hb));refine wpIn_mono (zIa (zWC (l:=l) (tm:=aM.tmps) jD hnm) zFd m rc.body (.inl u7) hcb hdb rfl ⟨rfl,⟨_,_,_,_,Sa.with C2,hba⟩,ht1⟩ j4) fun ex a3 w3 ⟨qA,_,hf3,ht3⟩=>?_;obtain⟨Φ3,rv3,E3,L3,S3,gJ⟩:=hf3;have hlw2:l<w2.heap.size:=by omega
   have hl3:w3.heap[l]? = some (.loop {rc with state := .busy}):=(S3.conf.kept l hlw2 (fun⟨s,hs⟩=>qf s hs)).trans h2l;have hl3L:∀ s,l∉L3 s:=fun s hs=>by rcases(S3.conf.own s l hs).2.2 with⟨t,ht⟩|h2<;>first|exact qf t ht|omega
   have hl3Φ:¬ Φ3 l:=fun h=>by rcases(S3.conf.frz l h).2 with h2|⟨t,ht⟩|h2<;>first|exact hlΦa h2|exact qf t ht|omega
   have hlw3:l<w3.heap.size:=(bY.1 hl3).1;have hws:w.heap.size<=w1.heap.size:=Sa.conf.size;have hws3:w2.heap.size<=w3.heap.size:=S3.conf.size;have hLa:∀ s,∀ b∈La s,(∃ t,b∈L t)\/w.heap.size<=b:=fun s b hb=>(Sa.conf.own s b hb).2.2.imp (fun⟨t,ht⟩=>⟨t,f4 t b ht⟩) id;have hL3:∀ s,∀ b∈L3 s,(∃ t,b∈L t)\/w.heap.size<=b:=fun s b hb=>by
    rcases(S3.conf.own s b hb).2.2 with⟨t,ht⟩|h2
    ·exact hLa t b ht
    ·exact .inr (by omega)
   have hΦ3:∀ b,Φr b->Φ3 b:=fun b hb=>S3.conf.frz0 b (Sa.conf.frz0 b hb);have hΦb:∀ b,Φ3 b->Φ b\/(∃ s,b∈L s)\/w.heap.size<=b:=fun b hb=>by
    rcases(S3.conf.frz b hb).2 with h2|⟨t,ht⟩|h2
    ·rcases(Sa.conf.frz b h2).2 with h4|⟨t,ht⟩|h4
     ·rcases f2 b h4 with h5|⟨t,_,ht⟩
      ·exact .inl h5
      ·exact .inr (.inl ⟨t,ht⟩)
     ·exact .inr (.inl ⟨t,f4 t b ht⟩)
     ·exact .inr (.inr h4)
    ·exact .inr (hLa t b ht)
    ·exact .inr (.inr (by omega))
   have hkept:∀ b,b<w.heap.size->b≠l->(∀ s,b∉Lr s)->w3.heap[b]? = w.heap[b]?:=by
    intro b LF hbl jS;have e1:=Sa.conf.kept b LF (fun⟨s,hs⟩=>jS s hs);have e3:=S3.conf.kept b (by omega) (fun⟨s,hs⟩=>by
     rcases(Sa.conf.own s b hs).2.2 with⟨t,ht⟩|h2
     ·exact jS t ht
     ·omega)
    rw[e3,gQ b hbl,e1]
   have hRr:∀ t∈R,∀ b∈L t,∀ s,b∉Lr s:=fun t ht b j5 s hs=>(Sr.conf.own s b hs).2.1 (f3 t ht b j5)
   have fin:∀ (w4:World),(∀ b,b≠l->w4.heap[b]? = w3.heap[b]?)->w4.heap.size=w3.heap.size->(w4.os=w3.os/\w4.tape=w3.tape/\w4.output=w3.output)->w4.heap[l]? = some (.loop {rc with state:=bif r.isNorm then .ready else .done,pending:=bif r.isNorm then none else some (zIX r)}) ->
     w.heap.size<=w4.heap.size/\(w4.os=w.os/\w4.tape=w.tape/\w4.output=w.output) /\
     w4.heap[l]? = some (.loop {rc with state:=bif r.isNorm then .ready else .done,pending:=bif r.isNorm then none else some (zIX r)})/\(∀ b,b<w.heap.size->b≠l->(∀ s,s∉R->b∉L s)->w4.heap[b]? = w.heap[b]?) /\
     ∃ Φ4 E4 L4,St w0 U Φ0 nt hv aM w4 (after nt R ds e e3) Φ4 rv E4 L4/\zBs E4/\(∀ b,Φ b->Φ4 b)/\(∀ b,Φ4 b->Φ b\/(∃ s,b∈L s)\/w.heap.size<=b)/\(∀ r∈R,L4 r=L r)/\∀ s,∀ b∈L4 s,(∃ t,b∈L t)\/w.heap.size<=b:=by
    intro w4 gR h4s wc h4l;have u4:w4.os=w.os/\w4.tape=w.tape/\w4.output=w.output:=⟨wc.1.trans (S3.conf.os.trans (wa.1.trans Sa.conf.os)),wc.2.1.trans (S3.conf.tape.trans (wa.2.1.trans Sa.conf.tape)),wc.2.2.trans (S3.conf.output.trans (wa.2.2.trans Sa.conf.output))⟩;have C4:=S3.conf.arrive (w':=w4) (by omega) (fun s b hb=>gR b fun e=>hl3L s (e▸hb)) (fun b hb=>gR b fun e=>hl3Φ (e▸hb));have hk4:∀ b,b<w.heap.size->b≠l->(∀ s,b∉Lr s)->w4.heap[b]? = w.heap[b]?:=fun b h1 h2 h3=>(gR b h2).trans (hkept b h1 h2 h3);obtain⟨E',L',q1,q2,q3,q4,q5,q6⟩:=S.conf.behind (nt:=nt) (R:=R) (ds:=ds) (e3:=e3) S.env hb C4 S3.env yN (fun s hs=>by
      rcases hs with⟨h1,h2⟩|⟨h1,h2⟩
      ·rw[<- S3.tmps s h1,ht3 s h2,S.tmps s h1]
      ·exact(S3.hid s h1 h2).trans (S.hid s h1 h2).symm) (by omega) (fun b LF hc=>hk4 b LF (fun e=>by
       subst e;rcases hc with h1|⟨t,_,h1⟩|⟨h1,_⟩
       ·exact hlΦ h1
       ·exact hlL t h1
       ·omega) (fun s hs=>by
       rcases hc with h1|⟨t,ht,h1⟩|⟨h1,h2⟩
       ·exact(S.conf.own s b (f4 s b hs)).2.1 h1
       ·exact hRr t ht b h1 s hs
       ·rcases(S.conf.own s b (f4 s b hs)).2.2 with h3|h3
        ·exact h2 h3
        ·omega)) (fun b hb=>hΦ3 b (f1 b hb)) hΦb (fun t ht b j5=>hΦ3 b (f3 t ht b j5)) hL3 u4
    refine⟨by omega,u4,h4l,fun b h1 h2 h3=>hk4 b h1 h2 fun s hs=>?_,_,E',L',⟨q3,fun s hs=>by rw[q1 s hs,zTd],S.size,S.small,S.tmps,fun d ps i hd hp hi=>?_,S.hid,S.dfr⟩,q2,fun b hb=>⟨hΦ3 b (f1 b hb),fun t _ ht=>(S.conf.own t b ht).2.1 hb⟩,fun b hb=>hΦb b hb.1,q4,fun s b hb=>?_⟩
    ·by_cases jI:s∈R
     ·exact hRr s jI b (f4 s b hs) s hs
     ·exact h3 s jI (f4 s b hs)
    ·exact S.parts d ps i hd (q6 d ps (by omega) hp) hi
    ·rcases q5 s b hb with⟨t,_,ht⟩|⟨t,ht⟩
     ·exact .inl ⟨t,ht⟩
     ·exact hL3 t b ht
   have put_o:∀ o:Obj,(∀ b,b≠l->(w3.putObj l o).heap[b]? = w3.heap[b]?)/\(w3.putObj l o).heap.size=w3.heap.size/\((w3.putObj l o).os=w3.os/\(w3.putObj l o).tape=w3.tape/\(w3.putObj l o).output=w3.output)/\(w3.putObj l o).heap[l]? = some o :=
    fun o=>⟨fun b hb=>World.putObj_heap_other hb,by simp,⟨rfl,rfl,rfl⟩,World.putObj_heap_same hlw3⟩
   subst qA
   cases r with
   |norm=>
    have he:(Instr.endRound l none).run P w3 = .ok (.bool true) (w3.putObj l (.loop {rc with state := .ready,pending:=none})):=by rw[run_endRound none hl3];rfl
    refine⟨_,_,he,?_⟩;obtain⟨p1,p2,p3,p4⟩:=put_o (.loop {rc with state := .ready,pending:=none});exact⟨rfl,fin _ p1 p2 p3 p4⟩
   |ret=>
    have he:(Instr.endRound l (some .ret)).run P w3 = .ok (.bool false) (w3.putObj l (.loop {rc with state := .done,pending:=some .ret})):=by rw[run_endRound (some .ret) hl3];rfl
    refine⟨_,_,he,?_⟩;obtain⟨p1,p2,p3,p4⟩:=put_o (.loop {rc with state := .done,pending:=some .ret});exact⟨rfl,fin _ p1 p2 p3 p4⟩
   |ex id=>
    have he:(Instr.endRound l (some (.exit id))).run P w3 = .ok (.bool false) (w3.putObj l (.loop {rc with state := .done,pending:=some (.exit id)})):=by rw[run_endRound (some (.exit id)) hl3];rfl
    refine⟨_,_,he,?_⟩;obtain⟨p1,p2,p3,p4⟩:=put_o (.loop {rc with state := .done,pending:=some (.exit id)});exact⟨rfl,fin _ p1 p2 p3 p4⟩
  ·cases yW
end
end Go.Eng
namespace Go.Eng
open Go
section
variable {P:Program} {H:zBg} {orc:zAK} {yo:zCU} {al:All} {w0 w w':World} {U Φ0 Φ:Nat->Prop} {nt:Nat} {hv:Hid} {aM a:Act} {e e' ef e3:Env} {rv:Nat->Value} {E:Nat->PV} {L:Nat->LN} {hh:FHint} {m:Nat}
structure Side (w0:World) (U Φ0:Nat->Prop) (nt:Nat) (hv:Hid) (aM:Act) (rv:Nat->Value) (l D size2:Nat) (rc:Go.Loop) (Φs:Nat->Prop) (Ls:Nat->LN) (R:LN) (w:World) (e:Env) (Φ:Nat->Prop) (E:Nat->PV) (L:Nat->LN) (B:Nat->Prop):Prop where
 st:St w0 U Φ0 nt hv aM w e Φ rv E L
 emp:zBs E
 recd:w.heap[l]? = some (.loop rc)
 mark:w.heap[D]? = some (.deferred (some []))
 lL:∀ s,l∉L s
 dL:∀ s,D∉L s
 lΦ:¬ Φ l
 dΦ:¬ Φ D
 BL:∀ s,∀ b∈L s,B b
 BΦ:∀ b,Φ b->B b
 old:∀ b,b<size2->B b
 small:∀ b,B b->b<w.heap.size
 see:∀ b,Φs b->Φ b
 Rs:∀ r∈R,L r=Ls r
structure Left (w0:World) (U Φ0:Nat->Prop) (nt:Nat) (hv:Hid) (aM:Act) (rv:Nat->Value) (l D:Nat) (rc:Go.Loop) (r:X) (w:World) (e:Env) (Φ:Nat->Prop) (E:Nat->PV) (L:Nat->LN):Prop where
 st:St w0 U Φ0 nt hv aM w e Φ rv E L
 emp:zBs E
 recd:w.heap[l]? = some (.loop {rc with state := .done,pending:=some (zIX r)})
 mark:w.heap[D]? = some (.deferred (some []))
 lL:∀ s,l∉L s
 dL:∀ s,D∉L s
 lΦ:¬ Φ l
 dΦ:¬ Φ D
theorem zJk{run:Code->Env->Option (X×Env)}{ps:List Tmp}{ca cb:Code}{R ds:LN}{x:List PV}{xs:List (List PV)}{j:Nat} :
  zDg nt run ps ca cb R ds (x::xs) e j=match zJv run ps ca cb x e with
   | some (.norm,e3)=>(match R with
    |[]=>zDg nt run ps ca cb R ds xs (after nt [] ds e e3) (j+1)
    | r :: R=>match (bif zGq e (zC1 e (r::R)) then zEE (zC1 e (r::R)) e else none) with
     |some e1=>match zJv run ps ca cb x e1 with
      |some (.norm,e3)=>zDg nt run ps ca cb (r::R) ds xs (after nt (zC1 e (r::R)) ds e e3) (j+1)|_=>none
     |none=>none)
   |some (r,e3)=>some (some (j+1,r),after nt [] ds e e3)|none=>none:=rfl
theorem zUK{rc:Go.Loop}(h1:rc.state = .ready)(h2:rc.pending=none):{rc with state := .ready,pending:=none}=rc:=by
 cases rc;simp only at h1 h2;subst h1;subst h2;rfl
theorem zUb(zFd:P.follows .mixedOrders=true)(jD:zGx P orc)(hnm:zET P){ps:Array Tmp}{ca cb:Code}{ds:LN}(yg:∀ t∈ps.toList,t<nt)(ur:zCP P nt ca=true)(hcb:zCP P nt cb=true)(hna:zDa ca=true)(u7:zDa cb=true)
  (hdp:∀ t∈ps.toList,t∈ds) (wD:∀ d∈zBZ ca,d∈ds) (hdb:∀ d∈zBZ cb,d∈ds) {l D size2:Nat} {rc:Go.Loop} (ue:rc.params=ps) (ub:rc.assign=ca) (hrb:rc.body=cb) (qC:rc.tmps=aM.tmps) (jW:rc.state = .ready) (hrn:rc.pending=none)
  (wV:w0.heap.size<=l) (vR:l<size2) (gL:D<size2) (h02:w0.heap.size<=size2) (hld:l≠D) {Φs:Nat->Prop} {Ls:Nat->LN} {R:LN} {plan:List (List PV)} {k0:Int} {res:Option (Nat×X)×Env}
  (yi:(res.1=none/\k0 = -1)\/∃ r,res.1=some (plan.length,r)/\k0=plan.length) :
  Client P l plan k0 (fun b=>Φs b\/∃ r∈R,b∈Ls r)
   (fun xs w B=>∃ rest e Φ E L,plan=xs++rest/\zDg nt (zKH P H orc yo al nt hh m) ps.toList ca cb R ds rest e xs.length=some res/\Side w0 U Φ0 nt hv aM rv l D size2 rc Φs Ls R w e Φ E L B)
   (fun w=>∃ r Φ E L,(∃ j,res.1=some (j,r))/\r.isNorm=false/\Left w0 U Φ0 nt hv aM rv l D rc r w res.2 Φ E L):=by
 refine⟨?_,?_,?_,?_,?_⟩
 ·rintro xs w w' B ⟨rest,e,Φ,E,L,h1,h2,S⟩ hs hB ho
  refine⟨rest,e,Φ,E,L,h1,h2,⟨S.st.with (S.st.conf.moved hs (fun s b hb=>hB b (S.BL s b hb)) (fun b hb=>hB b (S.BΦ b hb)) (fun b hb _=>hB b (S.old b (by omega))) ho),S.emp,(hB l (S.old l vR)).trans S.recd,(hB D (S.old D gL)).trans S.mark,
   S.lL,S.dL,S.lΦ,S.dΦ,S.BL,S.BΦ,S.old,fun b hb=>bI (S.small b hb) hs,S.see,S.Rs⟩⟩
 ·rintro xs w B ⟨rest,e,Φ,E,L,h1,h2,S⟩;exact S.small
 ·rintro xs x w B ⟨rest,e,Φ,E,L,h1,h2,S⟩ ut hk ju;have hlw:l<w.heap.size:=S.small l (S.old l vR);have hdw:D<w.heap.size:=S.small D (S.old D gL);obtain⟨rest',rfl⟩:∃ rest',rest=x::rest':=by
   obtain⟨t,ht⟩:=ut;rw[h1,cO] at ht;exact⟨t,(iE ht).symm⟩
  rw[zJk] at h2
  have go:∀ (R':LN) (ef e3:Env),(∀ r∈R,r∈R')->((R'=[]/\ef=e)\/(zGq e R'=true/\zEE R' e=some ef))->zJv (zKH P H orc yo al nt hh m) ps.toList ca cb x ef=some (.norm,e3) ->
    zDg nt (zKH P H orc yo al nt hh m) ps.toList ca cb R ds rest' (after nt R' ds e e3) (xs.length+1)=some res ->
    YieldAt (FF none) 0 P l (x.map zCR).toArray w fun en w'=>en = .returned (.bool true)/\Apart w w' B (fun b=>Φs b\/∃ r∈R,b∈Ls r) /\
     ∃ B',(∃ rest e Φ E L,plan=(xs++[x])++rest/\zDg nt (zKH P H orc yo al nt hh m) ps.toList ca cb R ds rest e (xs++[x]).length=some res/\Side w0 U Φ0 nt hv aM rv l D size2 rc Φs Ls R w' e Φ E L B')/\∀ b,B' b->B b\/w.heap.size<=b:=by
   intro R' ef e3 hRR hR' vF yp;obtain⟨fn,tm,c1,c2,hy,yW⟩:=zPS zFd jD hnm yg ur hcb hna u7 hdp wD hdb ju S.st S.emp ue ub hrb qC jW S.recd S.lL S.lΦ wV hR' vF;refine⟨fn,tm,c1,c2,hy,yW.mono fun en w4 ⟨vO,g1,g2,g3,g4,Φ4,E4,L4,S4,hb4,g5,g6,g7,g8⟩=>?_⟩;have keepL:∀ b,b<w.heap.size->b≠l->(∀ s,b∉L s)->w4.heap[b]? = w.heap[b]?:=fun b h1 h2 h3=>g4 b h1 h2 fun s _=>h3 s;refine⟨vO,⟨g1,g2.1,g2.2.1,g2.2.2,fun b hb hnB=>keepL b hb (fun e=>hnB (e▸S.old l vR)) (fun s hs=>hnB (S.BL s b hs)),fun b hb=>?_⟩,fun b=>B b\/(w.heap.size<=b/\b<w4.heap.size),⟨rest',_,Φ4,E4,L4,by rw[h1];simp,by simpa using yp,?_⟩,fun b hb=>hb.imp id (fun h=>h.1)⟩
   ·rcases hb with hb|⟨r,hr,hb⟩
    ·have hΦ:=S.see b hb;exact keepL b (S.st.conf.frz b hΦ).1 (fun e=>S.lΦ (e▸hΦ)) (fun s hs=>(S.st.conf.own s b hs).2.1 hΦ)
    ·rw[<- S.Rs r hr] at hb;exact g4 b (S.st.conf.own r b hb).1 (fun e=>S.lL r (e▸hb)) (fun s hs uE=>S.st.conf.disj s r (fun e=>hs (e▸hRR r hr)) b uE hb)
   ·refine⟨S4,hb4,?_,(keepL D hdw (dK hld) S.dL).trans S.mark,fun s hs=>?_,fun s hs=>?_,fun h=>?_,fun h=>?_,fun s b hs=>?_,fun b hb=>?_,fun b hb=>.inl (S.old b hb),fun b hb=>?_,fun b hb=>g5 b (S.see b hb),fun r hr=>(g7 r (hRR r hr)).trans (S.Rs r hr)⟩
    ·rw[g3];simp only[X.isNorm,cond_true];rw[zUK jW hrn]
    ·rcases g8 s l hs with⟨t,ht⟩|h<;>first|exact S.lL t ht|omega
    ·rcases g8 s D hs with⟨t,ht⟩|h<;>first|exact S.dL t ht|omega
    ·rcases g6 l h with h|⟨t,ht⟩|h<;>first|exact S.lΦ h|exact S.lL t ht|omega
    ·rcases g6 D h with h|⟨t,ht⟩|h<;>first|exact S.dΦ h|exact S.dL t ht|omega
    ·rcases g8 s b hs with⟨t,ht⟩|h
     ·exact .inl (S.BL t b ht)
     ·exact .inr ⟨h,(S4.conf.own s b hs).1⟩
    ·rcases g6 b hb with h|⟨t,ht⟩|h
     ·exact .inl (S.BΦ b h)
     ·exact .inl (S.BL t b ht)
     ·exact .inr ⟨h,(S4.conf.frz b hb).1⟩
    ·rcases hb with h|h
     ·exact bI (S.small b h) g1
     ·exact h.2
  split at h2
  ·rename_i e3 vF
   cases R with
   |nil=>exact go [] e e3 (fun r hr=>hr) (.inl ⟨rfl,rfl⟩) vF h2
   | cons r R =>
    simp only at h2;split at h2
    ·rename_i e1 hf;rcases zBn hf with⟨hc,hf⟩|⟨_,hf⟩
     ·split at h2
      ·rename_i e4 hro2;exact go _ e1 e4 (fun t ht=>bt _ ht) (.inr ⟨hc,hf⟩) hro2 h2
      ·cases h2
     ·cases hf
    ·cases h2
  ·rename_i r e3 hI vF;simp only[ba] at h2;subst h2;rcases yi with⟨hr,_⟩|⟨r',hr,vh⟩
   ·cases hr
   ·simp only[ba,bz] at hr;exfalso;apply hk;omega
  ·cases h2
 ·rintro xs x w B ⟨rest,e,Φ,E,L,h1,h2,S⟩ ut hk ju;have hlw:l<w.heap.size:=S.small l (S.old l vR);have hdw:D<w.heap.size:=S.small D (S.old D gL);obtain⟨rest',rfl⟩:∃ rest',rest=x::rest':=by
   obtain⟨t,ht⟩:=ut;rw[h1,cO] at ht;exact⟨t,(iE ht).symm⟩
  have qe:rest'=[]/\res.1≠none:=by
   rcases yi with⟨_,vh⟩|⟨r,hr,vh⟩
   ·omega
   ·rw[h1] at vh;simp at vh;exact⟨bq (by omega),by rw[hr];simp⟩
  obtain⟨rfl,wt⟩:=qe;rw[zJk] at h2;have none_:∀ {f:Env} {j:Nat} {R':LN},zDg nt (zKH P H orc yo al nt hh m) ps.toList ca cb R' ds [] f j=some res->False:=by
   intro f j R' h;simp only[zDg,ba] at h;rw[<- h] at wt;exact wt rfl
  split at h2
  ·cases R with
   |nil=>exact(none_ h2).elim
   | cons r R =>
    simp only at h2;split at h2
    ·split at h2
     ·exact(none_ h2).elim
     ·cases h2
    ·cases h2
  ·rename_i r e3 hI vF;simp only[ba] at h2;have hrn':r.isNorm=false:=by cases r<;>first|rfl|exact(hI rfl).elim
   obtain⟨fn,tm,c1,c2,hy,yW⟩:=zPS (R:=[]) zFd jD hnm yg ur hcb hna u7 hdp wD hdb ju S.st S.emp ue ub hrb qC jW S.recd S.lL S.lΦ wV (.inl ⟨rfl,rfl⟩) vF;refine⟨fn,tm,c1,c2,hy,yW.mono fun en w4 ⟨vO,g1,g2,g3,g4,Φ4,E4,L4,S4,hb4,g5,g6,g7,g8⟩=>?_⟩;rw[hrn'] at vO g3;have keepL:∀ b,b<w.heap.size->b≠l->(∀ s,b∉L s)->w4.heap[b]? = w.heap[b]?:=fun b h1 h2 h3=>g4 b h1 h2 fun s _=>h3 s;refine⟨vO,r,Φ4,E4,L4,⟨xs.length+1,by rw[<- h2]⟩,hrn',by rw[<- h2];exact S4,hb4,g3,(keepL D hdw (dK hld) S.dL).trans S.mark,fun s hs=>?_,fun s hs=>?_,fun h=>?_,fun h=>?_⟩
   ·rcases g8 s l hs with⟨t,ht⟩|h<;>first|exact S.lL t ht|omega
   ·rcases g8 s D hs with⟨t,ht⟩|h<;>first|exact S.dL t ht|omega
   ·rcases g6 l h with h|⟨t,ht⟩|h<;>first|exact S.lΦ h|exact S.lL t ht|omega
   ·rcases g6 D h with h|⟨t,ht⟩|h<;>first|exact S.dΦ h|exact S.dL t ht|omega
  ·cases h2
 ·rintro w w' ⟨r,Φ,E,L,h1,h2,S⟩ hs hk ho;have hlw:l<w.heap.size:=(bY.1 S.recd).1;have hdw:D<w.heap.size:=(bY.1 S.mark).1
  exact⟨r,Φ,E,L,h1,h2,S.st.with (S.st.conf.moved hs (fun s b hb=>hk b (S.st.conf.own s b hb).1) (fun b hb=>hk b (S.st.conf.frz b hb).1) (fun b hb _=>hk b (bI hb S.st.conf.size)) ho),S.emp,(hk l hlw).trans S.recd,(hk D hdw).trans S.mark,
   S.lL,S.dL,S.lΦ,S.dΦ⟩
structure Marks (z:Nat) (w1:World) (U1 Φ1:Nat->Prop) (ds:List Deferred):Prop where
 each:∀ d∈ds,∃ D,d.target = .collected D/\z<=D/\D<w1.heap.size/\w1.heap[D]? = some (.deferred (some []))/\¬ U1 D/\¬ Φ1 D
 apart:ds.Pairwise fun d d'=>∀ D D',d.target = .collected D->d'.target = .collected D'->D≠D'
def FrB(w0:World)(U Φ0:Nat->Prop)(nt:Nat)(val:Nat->Value)(a:Act)(w:World)(e:Env):Prop :=
 ∃ w1 U1 Φ1 ds,Rel w0 U Φ0 w1 U1 Φ1/\Marks w0.heap.size w1 U1 Φ1 ds/\Fr w1 U1 Φ1 nt ⟨val,ds⟩ a w e
def GB(w0:World)(U Φ0:Nat->Prop)(nt:Nat)(val:Nat->Value)(a:Act)(w:World)(e:Env)(lg:Option Log):Prop:=lg=none/\FrB w0 U Φ0 nt val a w e
theorem zZm{val:Nat->Value}(jD:zGx P orc)(hnm:zET P):Frame P H orc nt none 0 (fun _=>True) (fun lg=>lg=none) (GB w0 U Φ0 nt val):=by
 refine⟨?_,?_,?_,?_,?_,?_,?_⟩
 ·intro ops o fz tk nl e e' lg lg' h hf
  cases lg with
  |none=>rfl|some g=>obtain⟨g',h2,_⟩:=zH1 h;rw[h2] at hf;cases hf
 ·intro ops i o fz tk nl a w e e' lg lg' Q jE hi hd yO ⟨qB,w1,U1,Φ1,ds,h1,h2,hf⟩ h;subst qB;simp only[zCV] at h;obtain⟨e1,h3,h4⟩:=bm.1 h;cases h4;exact zDT (zLG jD hnm jE hf hi h3) fun a' w' yv=>⟨rfl,w1,U1,Φ1,ds,h1,h2,yv⟩
 ·intro a w e e' lg ⟨h1,w1,U1,Φ1,ds,h2,h3,hf⟩ hg;exact⟨h1,w1,U1,Φ1,ds,h2,h3,hf.get' hg⟩
 ·intro a w e lg d ⟨h1,w1,U1,Φ1,ds,h2,h3,hf⟩;exact⟨h1,w1,U1,Φ1,ds,h2,h3,hf.tick d⟩
 ·intro a w e lg l ⟨h1,w1,U1,Φ1,ds,h2,h3,hf⟩;exact⟨h1,w1,U1,Φ1,ds,h2,h3,hf.drop l⟩
 ·intro a w e lg l ⟨h1,w1,U1,Φ1,ds,h2,h3,hf⟩;exact⟨h1,w1,U1,Φ1,ds,h2,h3,hf.ice⟩
 ·intro a w e lg t b ⟨_,_,_,_,_,_,_,⟨Φ,rv,E,L,S,hb⟩⟩ ht he;have yr:t<zAa:=bI ht (bB S.small (by decide));have:=S.conf.rep t;rw[S.env t yr,he] at this;rw[S.tmps t ht];exact this.1
def zNQ(P:Program)(yo:zCU):Prop:=∀ g first i caps k plan,yo g first i caps k=some plan->Callable P g/\(first++PV.yld i::caps).length<=zAk /\
 ∀ (J:List (List PV)->World->(Nat->Prop)->Prop) (Jx:World->Prop) (Ψ:Nat->Prop),Client P i plan k Ψ J Jx->∀ (w:World) (Φ:Nat->Prop) (rv:Nat->Value) (E:Nat->PV) (L:Nat->LN) (vs:Array Value) (B:Nat->Prop),
  (∀ s,s<zAa->E s=(zBf (first++PV.yld i::caps) []).get s)->(∀ s,zAa<=s->E s = .bad)->Conf w (fun b=>∃ s,b∈L s) Φ w Φ rv E L->vs.size=(first++PV.yld i::caps).length->(∀ j,j<(first++PV.yld i::caps).length->vs[j]? = some (rv j)) ->
  (∀ s,(first++PV.yld i::caps).length<=s->s<zAk->rv s=undef)->J [] w B->(∀ b,B b->∀ s,b∉L s)->(∀ b,Φ b->Ψ b\/¬ B b) ->
  CallsIn (FF none) 0 P g vs w fun en w'=>(∃ v,en = .returned v)/\((k-plan.length≠0/\∃ B',J plan w' B')\/(k-plan.length=0/\Jx w'))
theorem zJ5{x:Nat->Option (List (List PV))}{r:List (List PV)}(h:zCb x=some r)(i:Nat):x i=some r:=by
 simp only[zCb] at h;split at h
 ·rename_i hx;have:=fj hx i;simp only[ba] at h;rw[h] at this;exact this
 ·cases h
theorem zQI(S:St w0 U Φ0 nt hv a w e Φ rv E L){t g:Nat}(ht:t<nt){first caps:List PV}{R:LN}(h:zDV e t=some (g,first,caps,R)){Ψ:Nat->Prop}(h1:∀ b,Φ b->Ψ b)(h2:∀ r∈R,∀ b∈L r,Ψ b) :
  ∃ fs cs:Array Value,rv t = .func (.func g) fs cs/\zA8 w Ψ zCm first fs.toList []/\zA8 w Ψ zCm caps cs.toList []:=by
 have yr:t<zAa:=bI ht (bB S.small (by decide));have hZ:=S.conf.view yr;rw[S.env t yr] at hZ;simp only[zDV] at h;split at h
 ·rename_i e' wd;obtain⟨q,l,h3,h4,h5⟩:=zPE S hZ wd;simp only[PM.run,ba] at h3;subst h3;have g0:(((e.set 0 (.tup [q])).set 1 (.tup (l.map fun x=>int .i64 x.1))).get 0) = .tup [q]:=by rw[Env.get_set,if_neg (by decide),Env.get_set,if_pos rfl]
  have g1:(((e.set 0 (.tup [q])).set 1 (.tup (l.map fun x=>int .i64 x.1))).get 1) = .tup (l.map fun x=>int .i64 x.1):=by rw[Env.get_set,if_pos rfl]
  rw[g0,g1] at h;split at h
  ·rename_i g' f' c' l' hq hl;simp only[PV.tup.injEq,fc,and_true] at hq hl;subst hq;subst hl;simp only[ba,bz] at h;obtain⟨rfl,rfl,rfl,rfl⟩:=h;have kG:∀ x∈l,Cov w Φ rv E Ψ x:=by
    intro x hx nv q Li A hf hr b hb;refine h2 x.1 ?_ b ?_
    ·refine List.mem_eraseDups.2 (List.mem_filterMap.2 ⟨_,b4.2 ⟨x,hx,rfl⟩,?_⟩);simp
    ·obtain⟨nv',Li',h6,h7,h8⟩:=zBS (zB9 (S.conf.rep x.1)) (zEO hf);rw[hf] at h6;cases h6;have:=Rep.uniq _ _ _ _ hr h8;subst this;exact h7 b hb
   obtain⟨_,fs,cs,h6,h7,h8⟩:=h5 Ψ h1 kG (by simp);exact⟨fs,cs,h6,h7,h8⟩
  ·cases h
 ·cases h
theorem zMk{A:Al}:∀ {ps:List PV} {vs:List Value},zA8 w Φ A ps vs []->vs.length=ps.length/\∀ (i:Nat) (p:PV),ps[i]? = some p->∃ v,vs[i]? = some v/\Rep w Φ A p v []
 |[],vs,h=>by rw[h.1];exact⟨rfl,fun i p hp=>by simp at hp⟩
 |p::ps,vs,⟨v,vs',L1,L2,h1,h2,h3,h4⟩=>by
  obtain⟨rfl,rfl⟩:L1=[]/\L2=[]:=by simpa using h2.symm
  obtain⟨g1,g2⟩:=zMk h4;subst h1;refine⟨by simp[g1],fun i q hq=>?_⟩
  cases i with
  |zero=>simp only[bJ,ba] at hq;subst hq;exact⟨v,rfl,h3⟩|succ i=>simp only[fa] at hq;exact g2 i q hq
theorem zKd(w:World)(o:Obj){k:Nat}(h:k<w.heap.size):(w.alloc o).heap[k]? = w.heap[k]?:=by
 simp only[World.alloc];rw[d8,if_neg (by omega)]
theorem zR7 {val:Nat->Value} (zFd:P.follows .mixedOrders=true) (jD:zGx P orc) (hnm:zET P) (gS:zNQ P yo) {t:Nat} {ps:Array Tmp} {ca cb:Code} {x:X} (jR:zCP P nt (.rangeFunc (.tmp t) ps ca cb)=true) (hG:FrB w0 U Φ0 nt val a w e)
    (h:zHH nt yo zCb (zKH P H orc yo zCb nt hh m) t ps.toList ca cb e=some (x,e')):(Code.rangeFunc (.tmp t) ps ca cb).wpIn (FF none) 0 P (fun ex a' w'=>ex=x.exit/\GB w0 U Φ0 nt val a' w' e' none) a w:=by
  have ve:zAa=1000000000:=rfl;have hhh:zAk=50000000:=rfl;simp only[zCP,bb] at jR;obtain⟨⟨⟨⟨⟨htn,yg⟩,ur⟩,hcb⟩,hna⟩,u7⟩:=jR;have htn:t<nt:=zCe htn;have yg:∀ t∈ps.toList,t<nt:=fun t ht=>zCe (bi.1 yg t ht);obtain⟨w1,U1,Φ1,ds,qg,vg,Φ,rv,E,L,S,hb⟩:=hG;have jl:=S.small;simp only[zHH] at h
  cases yN:zDV e t with
  |none=>rw[yN] at h;cases h
  | some cl =>
    obtain⟨gf,first,caps,R⟩:=cl;rw[yN] at h;simp only at h
    obtain⟨plan,k0,res,hplan,qh,yi,hx⟩:∃ (plan:List (List PV)) (k0:Int) (res:Option (Nat×X)×Env),(∀ i,yo gf first i caps k0=some plan)/\zDg nt (zKH P H orc yo zCb nt hh m) ps.toList ca cb R (ps.toList++zBZ ca++zBZ cb) plan e 0=some res /\
        ((res.1=none/\k0 = -1)\/∃ r,res.1=some (plan.length,r)/\k0=plan.length)/\((res.1=none/\x = .norm)\/∃ j,res.1=some (j,x))/\e'=res.2:=by
      cases jz:zCb fun i=>yo gf first i caps (-1) with
      |none=>rw[jz] at h;cases h
      | some xs =>
        rw[jz] at h;simp only at h;split at h
        · rename_i e1 hr;cases h;exact⟨xs,-1,_,zJ5 jz,hr,.inl ⟨rfl,rfl⟩,.inl ⟨rfl,rfl⟩,rfl⟩
        · rename_i j x1 e1 hr
          cases qi:zCb fun i=>yo gf first i caps j with
          |none=>rw[qi] at h;cases h
          | some ys =>
            rw[qi] at h;simp only at h;split at h
            · rename_i j' r e2 uF;split at h
              · rename_i hj;cases h;exact⟨ys,j,_,zJ5 qi,uF,.inr ⟨x,by rw[hj.1,hj.2],by rw[hj.2]⟩,.inr ⟨j',rfl⟩,rfl⟩
              · cases h
            · cases h
        · cases h
    obtain⟨hx,rfl⟩:=hx;refine wpIn_rangeFunc ?_;intro fn _;obtain⟨rc,kX⟩:∃ rc:Go.Loop,rc={state := .ready,pending:=none,fn,tmps:=a.tmps,params:=ps,assign:=ca,body:=cb,defers:=w.heap.size}:=⟨_,rfl⟩;obtain⟨w2,wE⟩:∃ w2,(w.alloc (.deferred (some []))).alloc (.loop rc)=w2:=⟨_,rfl⟩;have hsz2:w2.heap.size=w.heap.size+2:=by rw[<- wE];simp
    have gQ:∀ b,b<w.heap.size->w2.heap[b]? = w.heap[b]?:=fun b hb=>by
      rw[<- wE];exact(zKd _ _ (by simp;omega)).trans (zKd _ _ hb)
    have h2D:w2.heap[w.heap.size]? = some (.deferred (some [])):=by
      rw[<- wE];exact(zKd _ _ (by simp)).trans (World.alloc_heap_new w _)
    have h2l:w2.heap[w.heap.size+1]? = some (.loop rc):=by
      rw[<- wE];have:=World.alloc_heap_new (w.alloc (.deferred (some []))) (.loop rc);rwa[World.size_alloc] at this
    have wa:w2.os=w.os/\w2.tape=w.tape/\w2.output=w.output:=by rw[<- wE];exact⟨rfl,rfl,rfl⟩
    obtain⟨jq,jz,wg⟩:=gS gf first (w.heap.size+1) caps k0 plan (hplan _)
    obtain⟨fn',jk,y4⟩:=jq;have hΨs:∀ b,(Φ b\/∃ r∈R,b∈L r)->b<w.heap.size:=fun b hb=>hb.elim (fun h=>(S.conf.frz b h).1) (fun⟨r,_,h⟩=>(S.conf.own r b h).1);obtain⟨fs,cs,hv,vY,jO⟩:=zQI S htn yN (Ψ:=fun b=>Φ b\/∃ r∈R,b∈L r) (fun b hb=>.inl hb) (fun r hr b hb=>.inr ⟨r,hr,hb⟩);have yy:a.eval (.tmp t) = .func (.func gf) fs cs:=by
      show a.tmps.getD t undef=_
      rw[S.tmps t htn,hv]
    refine⟨w.heap.size+1,[{target := .collected w.heap.size,args:=#[]}],w2,{target := .fn (.func gf) cs,args:=fs++#[.func (.yield (w.heap.size+1)) #[] #[]]},w2,gf,(fs++#[.func (.yield (w.heap.size+1)) #[] #[]])++cs,w2,?_,?_,?_,?_,fun h=>(by cases h),?_⟩
    · rw[<- wE,kX];exact run_enterLoop_outer _ _ _ _ _
    · simp only[Go.resolve,yy,Deferred.ofValue];simp[bA,Act.eval]
    · intro f' _;trivial
    · have hn:=hnm gf fn' jk;have wv:¬ fn'.body=none:=by intro hb;rw[hb] at y4;cases y4
      have vt : ¬ fn'.name = "runtime.NumGoroutine" := by simpa using hn
      simp[invoke,callFunc,jk,wv,vt]
    ·
      have yP:zA8 w2 (fun b=>Φ b\/∃ r∈R,b∈L r) zCm (first++PV.yld (w.heap.size+1)::caps) (fs.toList ++ .func (.yield (w.heap.size+1)) #[] #[]::cs.toList) []:=by
        have hs:zDq w w2 (fun b=>Φ b\/∃ r∈R,b∈L r) (fun b=>Φ b\/∃ r∈R,b∈L r):=fun b hb=>⟨hb,gQ b (hΨs b hb)⟩;have h1:=vY.mono hs (fun _ _ _ h=>h) (by simp);have h2:=jO.mono hs (fun _ _ _ h=>h) (by simp);have h3:zA8 w2 (fun b=>Φ b\/∃ r∈R,b∈L r) zCm (PV.yld (w.heap.size+1)::caps) (.func (.yield (w.heap.size+1)) #[] #[]::cs.toList) []:=⟨_,_,[],[],rfl,rfl,⟨rfl,rfl⟩,h2⟩;have:=h1.append h3;simpa using this
      obtain⟨yA,yj⟩:=zMk yP;obtain⟨vs,yn⟩:∃ vs:Array Value,vs=(fs++#[.func (.yield (w.heap.size+1)) #[] #[]])++cs:=⟨_,rfl⟩;have kH:vs.toList=fs.toList ++ .func (.yield (w.heap.size+1)) #[] #[]::cs.toList:=by rw[yn];simp
      obtain⟨args,hargs_⟩:∃ args,first++PV.yld (w.heap.size+1)::caps=args:=⟨_,rfl⟩
      rw[hargs_] at yj yA wg jz;rw[<- kH] at yj yA;have hvz:vs.size=args.length:=by rw[<- yA];simp
      have hdp:∀ t∈ps.toList,t∈ps.toList++zBZ ca++zBZ cb:=fun t ht=>by simp[ht]
      have wD:∀ d∈zBZ ca,d∈ps.toList++zBZ ca++zBZ cb:=fun t ht=>by simp[ht]
      have hdb:∀ d∈zBZ cb,d∈ps.toList++zBZ ca++zBZ cb:=fun t ht=>by simp[ht]
      have qt:=S.conf.size
      have qj:=zUb (hv:=⟨val,{target := .collected w.heap.size,args:=#[]}::ds⟩) (aM:={a with defers:=[{target := .collected w.heap.size,args:=#[]}]++a.defers}) (w0:=w1) (U:=U1) (Φ0:=Φ1) (rv:=rv) (yo:=yo) (al:=zCb) (hh:=hh) (m:=m) (H:=H) zFd jD hnm yg ur hcb hna u7 hdp wD hdb
        (l:=w.heap.size+1) (D:=w.heap.size) (size2:=w2.heap.size) (rc:=rc) (by rw[kX]) (by rw[kX]) (by rw[kX]) (by rw[kX]) (by rw[kX]) (by rw[kX]) (by omega) (by omega) (by omega) (by omega) (by omega) (Φs:=Φ) (Ls:=L) (R:=R) (plan:=plan) (k0:=k0) (res:=res) yi
      have p1:∀ s,zAa<=s->(zBf args []).get s = .bad:=fun s hs=>by
        rw[zDm (by omega),if_neg (by omega),if_neg (by simp only[b7];omega)]
      have p2:Conf w2 (fun b=>∃ s,b∈((fun _=>[]):Nat->LN) s) (fun b=>Φ b\/∃ r∈R,b∈L r) w2 (fun b=>Φ b\/∃ r∈R,b∈L r) (fun s=>(vs[s]?).getD undef) (fun s=>(zBf args []).get s) (fun _=>[]):=by
        refine⟨fun s=>?_,fun _=>b8,fun _ _ _ _ h=>(by cases h),fun _ _ h=>(by cases h),fun b hb=>⟨by have:=hΨs b hb;omega,.inl hb⟩,fun _ h=>h,bf _,fun _ _ _=>rfl,rfl,rfl,rfl⟩;show Rep _ _ _ ((zBf args []).get s) _ _
        rw[zDm (by omega)];by_cases h1:s<args.length
        · rw[if_pos h1];obtain⟨v,u6,kZ⟩:=yj s args[s] (bl h1);have:vs[s]? = some v:=by rw[<- bS];exact u6
          rw[this];simp only[List.getD,bl h1,dd];exact kZ.mono (fun b hb=>⟨hb,rfl⟩) (fun _ _ _ h=>h.elim) (by simp)
        · rw[if_neg h1,if_neg (by simp only[b7];omega)];rfl
      have p3:∀ j,j<args.length->vs[j]? = some ((vs[j]?).getD undef):=fun j hj=>by rw[cQ (by omega)];rfl
      have p4:∀ s,args.length<=s->s<zAk->(vs[s]?).getD undef=undef:=fun s hs _=>by rw[fE (by omega)];rfl
      have uJ:∀ s,∀ b∈L s,b<w.heap.size:=fun s b hb=>(S.conf.own s b hb).1;have hΦo:∀ b,Φ b->b<w.heap.size:=fun b hb=>(S.conf.frz b hb).1;have hC2:Conf w1 U1 Φ1 w2 Φ rv E L:=S.conf.moved (by omega) (fun s b hb=>gQ b (uJ s b hb)) (fun b hb=>gQ b (hΦo b hb)) (fun b hb _=>gQ b (by omega)) wa;have hSide:Side w1 U1 Φ1 nt ⟨val,{target := .collected w.heap.size,args:=#[]}::ds⟩ {a with defers:=[{target := .collected w.heap.size,args:=#[]}]++a.defers} rv (w.heap.size+1) w.heap.size w2.heap.size rc Φ L R w2 e Φ E L (fun b=>b<w2.heap.size):=by
        refine⟨⟨hC2,S.env,S.size,S.small,S.tmps,S.parts,S.hid,by simp[S.dfr]⟩,hb,h2l,h2D,fun s h=>?_,fun s h=>?_,fun h=>?_,fun h=>?_,fun s b hb=>?_,fun b hb=>?_,fun b hb=>hb,fun b hb=>hb,fun b hb=>hb,fun r _=>rfl⟩
        · have:=uJ s _ h;omega
        · have:=uJ s _ h;omega
        · have:=hΦo _ h;omega
        · have:=hΦo _ h;omega
        · have:=uJ s b hb;show b<w2.heap.size;omega
        · have:=hΦo b hb;show b<w2.heap.size;omega
      have kq:=wg _ _ _ qj w2 (fun b=>Φ b\/∃ r∈R,b∈L r) (fun s=>(vs[s]?).getD undef) (fun s=>(zBf args []).get s) (fun _=>[]) vs (fun b=>b<w2.heap.size) (fun _ _=>rfl) p1 p2 hvz p3 p4
        ⟨plan,e,Φ,E,L,rfl,qh,hSide⟩ (fun _ _ _=>by simp) (fun b hb=>.inl hb)
      rw[yn] at kq;refine kq.mono fun en w3 ⟨⟨v,vO⟩,hend⟩=>?_;subst vO
      have behind:∀ (rc3:Go.Loop) (e3:Env) (Φ3:Nat->Prop) (E3:Nat->PV) (L3:Nat->LN),w3.heap[w.heap.size+1]? = some (.loop rc3)->rc3.state ≠ .busy->w3.heap[w.heap.size]? = some (.deferred (some []))->(∀ s,w.heap.size+1∉L3 s)->(∀ s,w.heap.size∉L3 s)->¬ Φ3 (w.heap.size+1)->¬ Φ3 w.heap.size ->
          St w1 U1 Φ1 nt ⟨val,{target := .collected w.heap.size,args:=#[]}::ds⟩ {a with defers:=[{target := .collected w.heap.size,args:=#[]}]++a.defers} w3 e3 Φ3 rv E3 L3->zBs E3 ->
          ∃ w4,(Instr.endLoop (w.heap.size+1)).run P w3 = .ok rc3.pending w4/\GB w0 U Φ0 nt val {a with defers:=[{target := .collected w.heap.size,args:=#[]}]++a.defers} w4 e3 none:=by
        intro rc3 e3 Φ3 E3 L3 vk yD gT hlL hdL hlΦ hdΦ S3 gJ;obtain⟨w4,hw4⟩:∃ w4,w3.putObj (w.heap.size+1) (.loop {rc3 with state := .exhausted})=w4:=⟨_,rfl⟩;have gR:∀ b,b≠w.heap.size+1->w4.heap[b]? = w3.heap[b]?:=fun b hb=>by rw[<- hw4];exact World.putObj_heap_other hb
        have h4s:w4.heap.size=w3.heap.size:=by rw[<- hw4];simp
        have wc:w4.os=w3.os/\w4.tape=w3.tape/\w4.output=w3.output:=by rw[<- hw4];exact⟨rfl,rfl,rfl⟩
        have hC4:Conf w1 U1 Φ1 w4 Φ3 rv E3 L3:=S3.conf.moved (by omega) (fun s b hb=>gR b fun h=>hlL s (h▸hb)) (fun b hb=>gR b fun h=>hlΦ (h▸hb)) (fun b hb _=>gR b (by omega)) wc;have hdw:w.heap.size<w3.heap.size:=(bY.1 gT).1;have hsz4:=hC4.size;refine⟨w4,by rw[<- hw4];exact run_endLoop vk yD,rfl,w4,_,Φ3,{target := .collected w.heap.size,args:=#[]}::ds,qg.trans hC4.rel,⟨fun d hd=>?_,?_⟩,Φ3,rv,E3,L3,S3.with hC4.fresh,gJ⟩
        · rcases bx.1 hd with rfl|hd
          · exact⟨_,rfl,by have:=qg.size;omega,by omega,(gR _ (by omega)).trans gT,fun⟨s,hs⟩=>hdL s hs,hdΦ⟩
          · obtain⟨D,q1,q0,q2,q3,q4,q5⟩:=vg.each d hd;refine⟨D,q1,q0,by omega,(hC4.kept D q2 q4).trans q3,fun⟨s,hs⟩=>?_,fun h=>?_⟩
            · rcases(hC4.own s D hs).2.2 with h|h
              · exact q4 h
              · omega
            · rcases(hC4.frz D h).2 with h|h|h
              · exact q5 h
              · exact q4 h
              · omega
        · refine cL.2 ⟨fun d hd D D' h1 h2=>?_,vg.apart⟩;obtain⟨D2,q1,_,q2,_⟩:=vg.each d hd;rw[h2] at q1;cases q1;cases h1;omega
      rcases hend with⟨hk,B',rest,e3,Φ3,E3,L3,r1,r2,S3⟩|⟨hk,r,Φ3,E3,L3,⟨j,r1⟩,r2,S3⟩
      · have:rest=[]:=by simpa using r1
        subst this;simp only[zDg,ba] at r2;subst r2;have LI:x = .norm:=by
          rcases hx with⟨_,h⟩|⟨j,h⟩
          · exact h
          · cases h
        subst LI;obtain⟨w4,g1,g2⟩:=behind rc e3 Φ3 E3 L3 S3.recd (by rw[kX];simp) S3.mark S3.lL S3.dL S3.lΦ S3.dΦ S3.st S3.emp;rw[show rc.pending=none by rw[kX]] at g1;exact⟨none,w4,g1,rfl,g2⟩
      · have wK:x=r:=by
          rcases hx with⟨h,_⟩|⟨j',h⟩
          · rw[h] at r1;cases r1
          · rw[h] at r1;cases r1;rfl
        subst wK;obtain⟨w4,g1,g2⟩:=behind _ _ Φ3 E3 L3 S3.recd (by simp) S3.mark S3.lL S3.dL S3.lΦ S3.dΦ S3.st S3.emp;refine⟨_,w4,g1,?_⟩
        cases x with
        |norm=>cases r2|ret=>exact wpIn_ret ⟨rfl,g2⟩|ex id=>exact wpIn_exit ⟨rfl,g2⟩
theorem zY2{val:Nat->Value}(zFd:P.follows .mixedOrders=true)(jD:zGx P orc)(hnm:zET P)(gS:zNQ P yo):zEp P H orc yo zCb nt hh none 0 (GB w0 U Φ0 nt val) m:=by
 intro m' _ t ps ca cb a w e x e' jR hG h;simp only[exec] at h;obtain⟨⟨x1,e1⟩,h1,h2⟩:=bm.1 h;simp only[ba,bz,and_true] at h2;obtain⟨rfl,rfl⟩:=h2;exact zR7 zFd jD hnm gS jR hG.2 h1
end
end Go.Eng
