/- Just those ye are left with an earlier notice alone that are told; who jN a notice has it by a path; and with the further cries that are told nobody is left, or gaps are told that no cry mends; for every list of numbers, evening and stands. -/
import Derived.Test.YtppbomajegnkeaaGreatPb
import Derived.MapKept
import Derived.OrdersIn
import Derived.LoopNIn
import Derived.RangeFuncRecord
import Derived.RangeFuncLeaves
import Derived.RangeFuncSeq
set_option linter.unusedVariables false
set_option linter.unusedSimpArgs false
set_option linter.unusedSectionVars false
open Nat (beq ble blt)
open List (map replicate take drop range length filter)
open Go.Eng.PV (own agg addr func sl bor tup omap bad bool int)
namespace Go.Eng
open Go
section
variable {P:Program} {w0 w:World} {U Φ0 Φ:Nat->Prop} {nt:Nat} {hv:Hid} {a:Act} {e e':Env} {rv:Nat->Value} {E:Nat->PV} {L:Nat->LN} {o:zAM} {A:Al}
theorem zPx {empty:Bool} {n:Nat} {ok:TypeId->PV->Bool} {p:PV} {xs:Array Value} (hp:Rep w Φ A p (.agg xs) [])
    (hd:∀ t p x,ok t p=true->Rep w Φ A p x []->(Instr.checkKey empty n t x).run P w = .ok () w) :
    ∀ (fs:List Field),zUM ok (shT P) p fs=true->((forIn fs () fun f _=>do
      if f.name ≠ "_" then
        Instr.checkKey empty n f.type (<- part f.type xs f.offset)
        pure (.yield ())
      else pure (.yield ()):Sem Unit)).run P w = .ok () w
  |[],_=>by simp
  | f :: fs,h=>by
    simp only [zUM,bb] at h;have ih:=zPx hp hd fs h.2;simp only [iD,bo];by_cases hn : f.name = "_"
    · simp only[hn,ne_eq,not_true_eq_false,if_false,bx,bh];exact ih
    · have h1:=h.1;rw[if_neg hn] at h1;rw[if_pos hn]
      cases hs:shT P f.type with
      |none=>rw[hs] at h1;cases h1
      | some sh =>
        rw[hs] at h1;simp only at h1
        cases yg:sub p f.offset sh with
        |none=>rw[yg] at h1;cases h1
        | some q =>
          rw[yg] at h1;simp only at h1;obtain⟨u,h3,h4⟩:=zGi hs hp yg;simp only[bo,h3,bh,hd _ _ _ h1 h4,bx];exact ih
theorem zP8{empty:Bool}{n:Nat}{ok:PV->Bool}{el:TypeId}{sh:ON}{i:TypeInfo}(hs:shT P el=some sh)(hi:P.info? el=some i){p:PV}{xs:Array Value}(hp:Rep w Φ A p (.agg xs) [])
  (hd:∀ p x,ok p=true->Rep w Φ A p x []->(Instr.checkKey empty n el x).run P w = .ok () w) :
  ∀ (m k:Nat),zVA ok sh i.size p k m=true->((forIn (List.range' k m 1) () fun j _=>do
   Instr.checkKey empty n el (<- part el xs (j*(<- sizeOf el)))
   pure (.yield ()):Sem Unit)).run P w = .ok () w
 |0,k,_=>by simp
 | m + 1,k,h=>by
  simp only[zVA,bb] at h;have ih:=zP8 (empty:=empty) hs hi hp hd m (k+1) h.2;have h1:=h.1;simp only[fq,iD,bo]
  cases yg:sub p (k*i.size) sh with
  |none=>rw[yg] at h1;cases h1|some q=>
   rw[yg] at h1;simp only at h1;obtain⟨u,h3,h4⟩:=zGi hs hp yg;simp only[zA8 hi,bh,h3,hd _ _ h1 h4,bx];exact ih
theorem zJI{empty:Bool}:∀ (n d:Nat) (t:TypeId) (p:PV) (x:Value),n<=d->zPp P n t p=true->Rep w Φ A p x []->(Instr.checkKey empty d t x).run P w = .ok () w
 |0,d,t,p,x,_,h,_=>by cases h|n+1,0,t,p,x,hd,h,_=>by omega
 | n + 1,d+1,t,p,x,hd,h,hp=>by
  have yR:n<=d:=by omega
  simp only[zPp] at h;split at h
  ·rename_i ht;rw[hp.1];simp[Instr.checkKey,run_underlying ht]
  ·rename_i ht;rw[hp.1];simp[Instr.checkKey,run_underlying ht]
  ·rename_i fs xs ht;obtain⟨vs,rfl,jq⟩:=hp;have:=zPx (empty:=empty) (n:=d) (p := .agg xs) ⟨vs,rfl,jq⟩ (fun t p x h1 h2=>zJI n d t p x yR h1 h2) fs.toList h;simp only[Instr.checkKey,bo,run_underlying ht,bh];simp only[ne_eq,ite_not] at this ⊢;simp at this ⊢;rw[this];rfl
  ·rename_i len el xs ht;split at h
   ·rename_i sz sh yG jf;obtain⟨vs,rfl,jq⟩:=hp;obtain⟨i,hi,_⟩:=zFw (w:=w) jf;have gp:i.size=sz:=by simp only[szT,hi,bu,ba] at yG;exact yG
    subst gp;have:=zP8 (empty:=empty) (n:=d) (p := .agg xs) jf hi ⟨vs,rfl,jq⟩ (fun p x h1 h2=>zJI n d el p x yR h1 h2) len 0 h;simp only[Instr.checkKey,bo,run_underlying ht,bh,fA,Std.Legacy.Range.size,dt,fD,Nat.div_one];simp at this ⊢;rw[this];rfl
   ·cases h
  ·cases h
theorem zLb{kt:TypeId}{d:TypeDesc}{kv:Value}(hd:P.underlying kt=some d):∀ {ms:List MapEntry} {i:Nat},(∀ x y,Instr.sameNow d x y=none)->Instr.findNow d kv ms i=none\/ms=[]
 |[],_,_=>.inr rfl|m::ms,i,h=>.inl (by simp only[Instr.findNow,h])
theorem zDJ{kt:TypeId}{key:PV}{kv:Value}(hk:Rep w Φ A key kv []):∀ (es:List (PV×PV)) (ms:List MapEntry) (i:Nat) (r:ON),zCV P kt key es i=some r->zD6 w Φ es ms i ->
  (Instr.findAsking kt kv ms i).run P w = .ok (r.bind fun j=>(ms[j-i]?).map fun m=>(j,m.val)) w/\∀ j,r=some j->i<=j/\j-i<ms.length/\∃ k v m,es[j-i]? = some (k,v)/\ms[j-i]? = some m/\zFT key.cells k.cells=some true/\Rep w Φ zCp k m.key []/\Rep w Φ zCp v m.val []/\m.born=j
 |[],ms,i,r,h,hm=>by
  simp only[zCV,ba] at h;subst h;simp only[zD6] at hm;subst hm;exact⟨rfl,fun j hj=>by cases hj⟩
 | (k, p)::es,ms,i,r,h,hm=>by
  obtain⟨m,ms',rfl,hb,h1,h2,h3⟩:=hm;have jc:Rep w Φ A k m.key []:=h1.mono zDq.refl (fun _ _ _ h=>h.elim) (by simp);simp only[zCV] at h;split at h
  ·rename_i he;split at h
   ·rename_i hc;simp only[ba] at h;subst h;have:=zK6 20 kt key k true kv m.key Op.maxDepth (by decide) he hk jc;refine⟨?_,fun j hj=>?_⟩
    ·simp[Instr.findAsking,Op.equal,this]
    ·cases hj;exact⟨bi _,by simp,k,p,m,by simp,by simp,hc,h1,h2,hb⟩
   ·cases h
  ·rename_i he;have:=zK6 20 kt key k false kv m.key Op.maxDepth (by decide) he hk jc;obtain⟨g1,g2⟩:=zDJ hk es ms' (i+1) r h h3;refine⟨?_,fun j hj=>?_⟩
   ·simp only[Instr.findAsking,Op.equal,bo,this,bh,bp,if_false,g1]
    cases r with
    |none=>rfl|some j=>
     obtain⟨k1,k2,_⟩:=g2 j rfl;simp only[bd];rw[show j-i=(j-(i+1))+1 by omega];simp
   ·obtain⟨k1,k2,k',v',m',k3,k4,k5⟩:=g2 j hj;have wW:j-i=(j-(i+1))+1:=by omega
    refine⟨by omega,by rw[wW];simp;omega,k',v',m',by rw[wW];simpa using k3,by rw[wW];simpa using k4,k5⟩
  ·cases h
theorem zKB{kt:TypeId}{k:IntKind}{n:Int}{key:PV}{kv:Value}(hd:∃ k0,P.underlying kt=some (.int k0))(qo:kv = .int k n)(yZ:key = .int k n):∀ (es:List (PV×PV)) (ms:List MapEntry) (i:Nat) (r:ON),zCV P kt key es i=some r->zD6 w Φ es ms i ->
  ∀ k0,Instr.findNow (.int k0) kv ms i=some (r.bind fun j=>(ms[j-i]?).map fun m=>(j,m.val))
 |[],ms,i,r,h,hm,_=>by
  simp only[zCV,ba] at h;subst h;simp only[zD6] at hm;subst hm;rfl
 | (q, p)::es,ms,i,r,h,hm,k0=>by
  obtain⟨k1,hd⟩:=hd;obtain⟨m,ms',rfl,hb,h1,h2,h3⟩:=hm;simp only[zCV] at h;have hq:∀ b,eqT P 20 kt key q=some b->∃ n',q = .int k n'/\b=(n==n'):=by
   intro b he;rw[yZ] at he;simp only[eqT,hd] at he;cases q<;>simp only at he<;>try (cases he;done)
   split at he
   ·rename_i qO;subst qO;cases he;exact⟨_,rfl,rfl⟩
   ·cases he
  split at h
  ·rename_i he;obtain⟨n',rfl,hn⟩:=hq _ he;split at h
   ·simp only[ba] at h;subst h;simp only[Instr.findNow,h1.1,qo,Instr.sameNow,if_true,<- hn];simp
   ·cases h
  ·rename_i he;obtain⟨n',rfl,hn⟩:=hq _ he;have g1:=zKB ⟨k1,hd⟩ qo yZ es ms' (i+1) r h h3 k0;simp only[Instr.findNow,h1.1,qo,Instr.sameNow,if_true,<- hn];rw[qo] at g1;rw[g1]
   cases r with
   |none=>rfl|some j=>
    obtain⟨k1,_⟩:=(zDJ (P:=P) (A:=zCp) (key:=key) (kv := .int k n) (by rw[yZ];exact⟨rfl,rfl⟩) es ms' (i+1) (some j) h h3).2 j rfl;simp only[bd];rw[show j-i=(j-(i+1))+1 by omega];simp
  ·cases h
theorem zIr{kt:TypeId}{n:Bool}{key:PV}{kv:Value}(hd:P.underlying kt=some .bool)(qo:kv = .bool n)(yZ:key = .bool n):∀ (es:List (PV×PV)) (ms:List MapEntry) (i:Nat) (r:ON),zCV P kt key es i=some r->zD6 w Φ es ms i ->
  Instr.findNow .bool kv ms i=some (r.bind fun j=>(ms[j-i]?).map fun m=>(j,m.val))
 |[],ms,i,r,h,hm=>by
  simp only[zCV,ba] at h;subst h;simp only[zD6] at hm;subst hm;rfl
 | (q, p)::es,ms,i,r,h,hm=>by
  obtain⟨m,ms',rfl,hb,h1,h2,h3⟩:=hm;simp only[zCV] at h;have hq:∀ b,eqT P 20 kt key q=some b->∃ n',q = .bool n'/\b=(n==n'):=by
   intro b he;rw[yZ] at he;simp only[eqT,hd] at he;cases q<;>simp only at he<;>try (cases he;done)
   cases he;exact⟨_,rfl,rfl⟩
  split at h
  ·rename_i he;obtain⟨n',rfl,hn⟩:=hq _ he;split at h
   ·simp only[ba] at h;subst h;simp only[Instr.findNow,h1.1,qo,Instr.sameNow,<- hn];simp
   ·cases h
  ·rename_i he;obtain⟨n',rfl,hn⟩:=hq _ he;have g1:=zIr hd qo yZ es ms' (i+1) r h h3;simp only[Instr.findNow,h1.1,qo,Instr.sameNow,<- hn];rw[qo] at g1;rw[g1]
   cases r with
   |none=>rfl|some j=>
    obtain⟨k1,_⟩:=(zDJ (P:=P) (A:=zCp) (key:=key) (kv := .bool n) (by rw[yZ];exact⟨rfl,rfl⟩) es ms' (i+1) (some j) h h3).2 j rfl;simp only[bd];rw[show j-i=(j-(i+1))+1 by omega];simp
  ·cases h
theorem zIg{kt:TypeId}{key:PV}{kv:Value}(ht:zPp P 20 kt key=true)(hk:Rep w Φ A key kv []){es:List (PV×PV)}{ms:List MapEntry}{r:ON}(h:zCV P kt key es 0=some r)(hm:zD6 w Φ es ms 0) :
  (Instr.findKey kt kv ms).run P w = .ok (r.bind fun j=>(ms[j]?).map fun m=>(j,m.val)) w:=by
 have h1:=(zDJ hk es ms 0 r h hm).1;simp only[dt] at h1;simp only[zPp] at ht;split at ht
 ·rename_i k0 k n hd;have h2:=zKB (key := .int k n) ⟨_,hd⟩ hk.1 rfl es ms 0 r h hm k0;simp only[dt] at h2;simp only[Instr.findKey,bo,run_underlying hd,bh,h2,bx]
 ·rename_i b hd;have h2:=zIr (key := .bool b) hd hk.1 rfl es ms 0 r h hm;simp only[dt] at h2;simp only[Instr.findKey,bo,run_underlying hd,bh,h2,bx]
 ·rename_i fs xs hd;simp only[Instr.findKey,bo,run_underlying hd,bh];rcases zLb (kv:=kv) hd (ms:=ms) (i:=0) (fun x y=>by simp[Instr.sameNow]) with h2|rfl
  ·rw[h2];exact h1
  ·simp only[Instr.findNow,bx];rw[<- h1];rfl
 ·rename_i len el xs hd;simp only[Instr.findKey,bo,run_underlying hd,bh];rcases zLb (kv:=kv) hd (ms:=ms) (i:=0) (fun x y=>by simp[Instr.sameNow]) with h2|rfl
  ·rw[h2];exact h1
  ·simp only[Instr.findNow,bx];rw[<- h1];rfl
 ·cases ht
theorem zMY{p:PV}{v:Value}(h:Rep w Φ A p v []):Rep w Φ A (zJ8 p) v []:=by
 unfold zJ8;split
 ·rcases h with⟨_,_,rfl⟩|⟨a,n,c,us,L',h,_⟩
  ·exact⟨rfl,.inl ⟨rfl,none,0,rfl,fun _=>rfl⟩⟩
  ·cases h
 ·exact h
theorem zNG{p:PV}{v:Value}{M:LN}(hp:p.lone0=true)(h:Rep w Φ A p v M):M=[]/\Rep w Φ zCp p v []:=by
 cases p<;>first|(cases hp;done)|skip
 case int=>exact⟨h.2,h.1,rfl⟩
 case bool=>exact⟨h.2,h.1,rfl⟩
 case nilp=>exact⟨h.2,h.1,rfl⟩
 case nilf=>exact⟨h.2,h.1,rfl⟩
 case nilm=>exact⟨h.2,h.1,rfl⟩
 case nn=>exact⟨h.1,rfl,h.2⟩
 case nils=>exact⟨h.2,h.1,rfl⟩
 case sl=>exact⟨h.1,rfl,h.2⟩
 case map=>exact⟨h.1,rfl,h.2⟩
theorem zK3:∀ {ps:List PV} {vs:List Value} {M:LN},ps.all PV.lone0=true->zBa w Φ A ps vs M->M=[]/\zBa w Φ zCp ps vs []
 |[],vs,M,_,h=>⟨h.2,h.1,rfl⟩|p::ps,vs,M,hp,h=>by
  simp only[cO,bb] at hp;obtain⟨v,vs',L1,L2,rfl,rfl,h1,h2⟩:=h;obtain⟨rfl,h3⟩:=zNG hp.1 h1;obtain⟨rfl,h4⟩:=zK3 hp.2 h2;exact⟨rfl,v,vs',[],[],rfl,rfl,h3,h4⟩
theorem zHf{p:PV}{v:Value}{M:LN}(hp:p.lone=true)(h:Rep w Φ A p v M):M=[]/\Rep w Φ zCp p v []:=by
 cases p<;>first|exact zNG hp h|skip
 obtain⟨vs,rfl,h⟩:=h;obtain⟨rfl,h2⟩:=zK3 hp h;exact⟨rfl,vs,rfl,h2⟩
theorem zKV(S:St w0 U Φ0 nt hv a w e Φ rv E L)(hb:zBz E){d:ON}(hd:∀ x,d=some x->x<nt){p:PV}{v:Value}{b:Bool}(hp:Rep w Φ zCp p v [])(vV:p.lone=true)(h:(zDB d (.tup [p,.bool b])).run o e=some e') :
  Fr w0 U Φ0 nt hv (a.put d (.tuple #[v,.bool b])) w e':=by
 have kB:=S.small
 cases d with
 |none=>
  simp only[zDB] at h;exact zAE S hb hd h ⟨#[v,.bool b],rfl,v,[.bool b],[],[],rfl,rfl,hp.mono zDq.refl (fun _ _ _ h=>h.elim) (by simp),.bool b,[],[],[],rfl,rfl,⟨rfl,rfl⟩,rfl,rfl⟩
 | some d =>
  have ua:=hd d rfl;simp only[zDB] at h;obtain⟨ko,h⟩:=zAR h;simp only[PM.run] at h;simp only[bb] at ko;obtain⟨L1,S1⟩:=S.empty ua;have S2:=S1.hold (g:=zAa) (bi _) (hp.mono (A':=zBb w rv (upd E d .bad)) zDq.refl (fun _ _ _ h=>h.elim) (by simp));have S3:=S2.hold (g:=zAa+1) (by omega) (p := .bool b) (v := .bool b) ⟨rfl,rfl⟩;refine zFk ua (vs:=#[v,.bool b]) [p,.bool b] 0 S3 (fun ps hp=>?_) (by simp) (by simp) (fun j q hq=>?_) (fun g hg hI=>?_) (fun x hx=>?_) (fun j hj=>by omega) h
  ·rw[zAf (by simp only[zAa];omega),zAf (by simp only[zAa];omega),zAi] at hp;cases hp
  ·match j,hq with
   |0,hq=>
    simp at hq;subst hq;rw[show zAa+0+0=zAa from rfl];refine⟨by rw[zAf (by omega),zAi],?_⟩;rw[zAf (by omega),zAi];rfl
   |1,hq=>
    simp at hq;subst hq;rw[show zAa+0+1=zAa+1 from rfl];refine⟨by rw[zAi],?_⟩;rw[zAi];rfl
  ·have h0:=hI 0 (by simp);have h1:=hI 1 (by simp);rw[zAf (by omega),zAf (by omega)];by_cases gV:g=d
   ·subst gV;rw[zAi]
   ·rw[zAf gV];exact hb g hg
  ·simpa using bj.1 ko.2 x hx
theorem zMa(S:St w0 U Φ0 nt hv a w e Φ rv E L)(hb:zBz E){d:ON}(hd:∀ x,d=some x->x<nt){t kt el:TypeId}{z key:PV}{kv zv:Value}{ok:Bool}{es:List (PV×PV)}{ms:Array MapEntry}{mv:Value}(ht:P.underlying t=some (.map kt el))(wK:zPp P 20 kt key=true)(hk:Rep w Φ (zBb w rv E) key kv [])
  (hz:(zeroValue el).run P w = .ok zv w) (qp:Rep w Φ zCp z zv []) (hzp:z.lone=true) (hm:zD6 w Φ es ms.toList 0) (wL:mv = .map none/\ms=#[]\/∃ b n,mv = .map (some b)/\w.heap[b]? = some (.map ms n))
  (h:(zJy P d kt z key ok es).run o e=some e'):∃ v,(Instr.lookup t mv kv ok).run P w = .ok v w/\Fr w0 U Φ0 nt hv (a.put d v) w e':=by
 simp only[zJy] at h
 cases hf:zCV P kt key es 0 with
 |none=>rw[hf] at h;cases h
 | some r =>
  rw[hf] at h;have yZ:=zIg wK hk hf hm;have wM:=zJI (empty:=ms.isEmpty) 20 10000 kt key kv (by decide) wK hk
  have yA:∀ v ok',(match(r.bind fun j=>(ms.toList[j]?).map fun m=>(j,m.val)) with
    |some (_,v)=>(v,true)|none=>(zv,false))=(v,ok')->(Instr.lookup t mv kv ok).run P w = .ok (if ok then .tuple #[v,.bool ok'] else v) w:=by
   intro v ok' he;revert he yZ;generalize (r.bind fun j=>(ms.toList[j]?).map fun m=>(j,m.val))=q;intro yZ he;rcases wL with⟨rfl,rfl⟩|⟨b,n,rfl,yJ⟩
   ·cases q with
    |none=>cases he;simp only[Instr.lookup,bo,run_underlying ht,bh,bx,wM,yZ,hz]|some x=>cases he;simp only[Instr.lookup,bo,run_underlying ht,bh,bx,wM,yZ]
   ·cases q with
    |none=>cases he;simp only[Instr.lookup,bo,run_underlying ht,bh,bx,di yJ,wM,yZ,hz]|some x=>cases he;simp only[Instr.lookup,bo,run_underlying ht,bh,bx,di yJ,wM,yZ]
  cases r with
  | none =>
   have:=yA zv false rfl;refine⟨_,this,?_⟩;simp only at h
   cases ok with
   |true=>exact zKV S hb hd qp hzp (by simpa using h)
   | false =>
    simp only[bp,if_false] at h ⊢;have h':(put d z).run o e=some e':=by
     revert h;cases d<;>simp only[zDB]<;>cases z<;>first|exact fun h=>h|(cases hzp;done)
    exact zAE S hb hd h' (qp.mono zDq.refl (fun _ _ _ h=>h.elim) (by simp))
  | some i =>
   obtain⟨_,_,k,v,m,h3,h4,_,_,h5,_⟩:=(zDJ hk es ms.toList 0 (some i) hf hm).2 i rfl;simp only[dt] at h3 h4;have:=yA m.val true (by simp only[bd,h4,bu]);refine⟨_,this,?_⟩;simp only[h3] at h;obtain⟨hvp,h⟩:=zAR h
   cases ok with
   |true=>exact zKV S hb hd h5 hvp (by simpa using h)
   | false =>
    simp only[bp,if_false] at h ⊢;have h':(put d v).run o e=some e':=by
     revert h;cases d<;>simp only[zDB]<;>cases v<;>first|exact fun h=>h|(cases hvp;done)
    exact zAE S hb hd h' (h5.mono zDq.refl (fun _ _ _ h=>h.elim) (by simp))
theorem zMl(S:St w0 U Φ0 nt hv a w e Φ rv E L){r:Nat}{pre:zA4}{mv:Value}(hm:Rep w Φ (zBb w rv E) (.bmap r pre) mv []){es:List (PV×PV)}(hq:zAC (e.get r).unlock pre=some (.omap es)) :
  r<zAa/\∃ b ms,mv = .map (some b)/\w.heap[b]? = some (.map ms es.length)/\zD6 w Φ es ms.toList 0:=by
 obtain⟨_,hr,_,hn⟩:=hm;rw[<- S.env r hr] at hq;obtain⟨nv,La,Li,Lb,h1,_,h2,_⟩:=Rep.zip pre (zCf (S.conf.rep r)) hq;obtain⟨b,ms,_,h3,h4,h5⟩:=h2;have:=hn nv _ h1 es rfl;exact⟨hr,b,ms,this.trans h3,h4,h5⟩
theorem zR3(S:St w0 U Φ0 nt hv a w e Φ rv E L)(hb:zBz E){d:ON}(hd:∀ x,d=some x->x<nt){t:TypeId}{m x:Operand}{ok:Bool}(hm:zAZ nt m=true)(hx:zAZ nt x=true)(h:(zIT P d t m x ok).run o e=some e') :
  ∃ v,(Instr.lookup t (a.eval m) (a.eval x) ok).run P w = .ok v w/\Fr w0 U Φ0 nt hv (a.put d v) w e':=by
 obtain⟨p,h1,hp⟩:=zBC S hm h;obtain⟨key,h2,hk⟩:=zBC S hx h1;split at h2
 ·rename_i kt el ht;obtain⟨wK,h3⟩:=zAR h2;obtain⟨z,hz,h4⟩:=zBS h3;obtain⟨kj,h5⟩:=zAR h4;obtain⟨i,zv,_,_,uV,kb⟩:=zDW hz;have qp:=zMY (zCt (w:=w) (Φ:=Φ) (A:=zCp) kb).1;cases p<;>simp only[zVi] at h5<;>try (cases h5;done)
  case nilm=>exact zMa S hb hd (ms:=#[]) (es:=[]) ht wK hk (uV w) qp kj (by simp[zD6]) (.inl ⟨hp.1,rfl⟩) h5
  case map es=>
   obtain⟨_,b,ms,q1,_,q2,q3⟩:=hp;exact zMa S hb hd ht wK hk (uV w) qp kj q3 (.inr ⟨b,_,q1,q2⟩) h5
  case bmap r pre=>
   obtain⟨q,hq,h6⟩:=zBW h5;cases q<;>simp only at h6<;>try (cases h6;done)
   rename_i es;obtain⟨_,b,ms,q1,q2,q3⟩:=zMl S hp hq;exact zMa S hb hd ht wK hk (uV w) qp kj q3 (.inr ⟨b,_,q1,q2⟩) h6
 ·cases h2
theorem zHk:∀ {ps qs:List PV} {us vs:List Value} {A A':Al},ps.all PV.num=true->zFT ps qs=some true->zBa w Φ A ps us []->zBa w Φ A' qs vs []->us=vs/\∀ u∈us,∀ n,Instr.sameBits n u u=true
 |[],[],us,vs,A,A',_,_,h1,h2=>by rw[h1.1,h2.1];exact⟨rfl,by simp⟩|[],_::_,us,vs,A,A',_,h,_,_=>by cases h|p::ps,[],us,vs,A,A',_,h,_,_=>by cases h
 | p :: ps,q::qs,us,vs,A,A',hp,h,h1,h2=>by
  simp only[cO,bb] at hp;obtain⟨u,us',L1,L2,rfl,hL,h3,h4⟩:=h1;obtain⟨v,vs',M1,M2,rfl,hM,h5,h6⟩:=h2;obtain⟨rfl,rfl⟩:=dw.1 hL.symm;obtain⟨rfl,rfl⟩:=dw.1 hM.symm;simp only[zFT] at h
  cases uW:zY5 p q with
  |none=>rw[uW] at h;cases h
  | some b1 =>
   rw[uW] at h
   cases y6:zFT ps qs with
   |none=>rw[y6] at h;cases h
   | some b2 =>
    rw[y6] at h;simp only[ba,bb] at h;obtain⟨rfl,rfl⟩:=h;obtain⟨ih1,ih2⟩:=zHk hp.2 y6 h4 h6;have huv:u=v/\∀ n,Instr.sameBits n u u=true:=by
     cases p<;>first|(cases hp.1;done)|skip
     case int k n=>
      cases q<;>simp only[zY5] at uW<;>try (cases uW;done)
      split at uW
      ·rename_i hk;subst hk;simp only[ba,beq_iff_eq] at uW;subst uW;refine⟨h3.1.trans h5.1.symm,fun n=>?_⟩;rw[h3.1];cases n<;>simp[Instr.sameBits]
      ·cases uW
     case bool b=>
      cases q<;>simp only[zY5] at uW<;>try (cases uW;done)
      simp only[ba,beq_iff_eq] at uW;subst uW;refine⟨h3.1.trans h5.1.symm,fun n=>?_⟩;rw[h3.1];cases n<;>simp[Instr.sameBits]
    refine⟨by rw[huv.1,ih1],fun x hx n=>?_⟩;rcases bv.1 hx with rfl|hx
    ·exact huv.2 n
    ·exact ih2 x hx n
theorem zP5{p q:PV}{x y:Value}{A A':Al}(hp:p.flat=true)(h:zFT p.cells q.cells=some true)(h1:Rep w Φ A p x [])(h2:Rep w Φ A' q y [])(ha:q.isAgg=p.isAgg):x=y/\Instr.sameBits 10000 x x=true:=by
 cases p<;>first|(cases hp;done)|skip
 case agg cs=>
  cases q<;>first|(cases ha;done)|skip
  rename_i ds;obtain⟨us,rfl,h3⟩:=h1;obtain⟨vs,rfl,h4⟩:=h2;obtain⟨k1,k2⟩:=zHk (A:=A) (A':=A') hp h h3 h4;refine⟨by rw[Array.toList_inj.1 k1],?_⟩;simp only[Instr.sameBits,BEq.rfl,cR,bj];intro z hz;obtain⟨j,hj⟩:=cj hz;obtain⟨g1,g2⟩:=fB.1 hj;rw[g1] at g2;simp only[ba] at g2;rw[<- g2];exact k2 _ (bG g1) _
 case int k n=>
  cases q<;>first|(cases ha;done)|skip
  all_goals
   obtain⟨k1,k2⟩:=zHk (A:=A) (A':=A') (ps:=[.int k n]) rfl h ⟨_,[],[],[],rfl,rfl,h1,rfl,rfl⟩ ⟨_,[],[],[],rfl,rfl,h2,rfl,rfl⟩;exact⟨by simpa using k1,k2 _ (by simp) _⟩
 case bool b=>
  cases q<;>first|(cases ha;done)|skip
  all_goals
   obtain⟨k1,k2⟩:=zHk (A:=A) (A':=A') (ps:=[.bool b]) rfl h ⟨_,[],[],[],rfl,rfl,h1,rfl,rfl⟩ ⟨_,[],[],[],rfl,rfl,h2,rfl,rfl⟩;exact⟨by simpa using k1,k2 _ (by simp) _⟩
theorem zXn{n:Nat}{t:TypeId}{p q:PV}{b:Bool}(h:eqT P n t p q=some b):q.isAgg=p.isAgg:=by
 cases n with
 |zero=>cases h|succ n=>
  simp only[eqT] at h;split at h<;>first|rfl|(cases h;done)
theorem zKj{kt:TypeId}{key:PV}:∀ {es:List (PV×PV)} {i j:Nat},zCV P kt key es i=some (some j)->i<=j/\∃ k v,es[j-i]? = some (k,v)/\k.isAgg=key.isAgg
 |[],i,j,h=>by cases h
 | (k, v)::es,i,j,h=>by
  simp only[zCV] at h;split at h
  ·rename_i he;split at h
   ·simp only[ba] at h;subst h;exact⟨bi _,k,v,by simp,zXn he⟩
   ·cases h
  ·obtain⟨h1,k',v',h2,h3⟩:=zKj h;exact⟨by omega,k',v',by rw[show j-i=(j-(i+1))+1 by omega];simpa using h2,h3⟩
  ·cases h
theorem zOd(S:St w0 U Φ0 nt hv a w e Φ rv E L){r b:Nat}{pre:zA4}{mv:Value}{es es':List (PV×PV)}{ms ms':Array MapEntry}{root:PV}(hm:Rep w Φ (zBb w rv E) (.bmap r pre) mv [])(hq:zAC (e.get r).unlock pre=some (.omap es))(wL:mv = .map (some b))
  (j8:w.heap[b]? = some (.map ms es.length)) (yF:(e.get r).isLock=false) (yq:zAz (fun _=>some (.omap es')) (e.get r) pre=some root) (hR:∀ w':World,(∀ c,Φ c->w'.heap[c]? = w.heap[c]?)->zD6 w' Φ es' ms'.toList 0) :
  ∃ rv' E' L',St w0 U Φ0 nt hv a {w with heap:=w.heap.setIfInBounds b (.map ms' es'.length)} (e.set r root) Φ rv' E' L'/\zBz E'/\∀ c,Φ c->({w with heap:=w.heap.setIfInBounds b (.map ms' es'.length)}:World).heap[c]? = w.heap[c]?:=by
 obtain⟨_,hr,_,hn⟩:=hm;rw[<- S.env r hr] at hq yF yq;have jG:(E r).unlock=E r:=by cases hE:E r<;>first|rfl|(rw[hE] at yF;cases yF)
 rw[jG] at hq;obtain⟨kr,kt⟩:=zB0 (q' := .omap es') rfl rfl yq;obtain⟨nv,Li,ug,hX,gw,vQ,wU⟩:=S.conf.mod hr (f:=fun x=>x) (fun _=>.inl rfl) (pre:=pre) (q := .omap es) (by rw[zBq];exact jG) (by rw[zBq];exact hq);rw[zBq] at ug;obtain⟨b',ents,rfl,rfl,hh',_⟩:=hX;have hbb:b'=b:=by
  have:=hn _ _ (by rw[jG];exact ug) es rfl;rw[wL] at this;cases this;rfl
 subst hbb;have jT:b'∈L r:=vQ b' (by simp);have hnΦ:¬ Φ b':=(S.conf.own r b' jT).2.1;obtain⟨s1,s2⟩:=MapKept.heap_set (o' := .map ms' es'.length) j8;have hG:∀ s,decide (zAa<=s)=true↔zAa<=s:=fun s=>decide_eq_true_iff
 obtain⟨L',wQ,hc⟩:=wU (fun s=>decide (zAa<=s)) {w with heap:=w.heap.setIfInBounds b' (.map ms' es'.length)} (.omap es') root [b'] (fun s hs=>(hG s).1 hs) (fun _=>rfl) (by rw[zBq];exact yq) kr
  (fun A hA=>⟨b',ms',rfl,rfl,s1,hR _ fun c hc=>s2 c fun h=>hnΦ (h▸hc)⟩) (by simp) (fun c hc=>.inl hc) (by simp)
  (fun c hc qN _=>s2 c (by simpa using qN)) (fun rest nv2 np2 hf hh=>by
   cases rest with
   |nil=>
    simp only[zA3,ba,bw] at hf;obtain⟨rfl,rfl⟩:=hf;exact .inr ⟨_,rfl,trivial⟩
   |cons ic rest=>obtain⟨i,c⟩:=ic;rw[zBc] at hf;cases hf) ⟨rfl,rfl,rfl⟩
 have hdec:∀ s,s<zAa->decide (zAa<=s)=false:=fun s hs=>decide_eq_false (by omega);refine⟨_,_,_,S.turn (e':=e.set r root) hc (fun s hs=>?_) (fun s hs=>rfl) (fun d ps hd hp=>?_),fun g hg=>?_,fun c hc=>s2 c fun h=>hnΦ (h▸hc)⟩
 ·rw[Env.get_set];by_cases yW:s=r
  ·subst yW;rw[if_pos rfl,if_pos rfl]
  ·rw[if_neg yW,if_neg yW,hdec s hs];simp only[bp,if_false,zBq];exact S.env s hs
 ·by_cases js:d=r
  ·subst js;rw[if_pos rfl] at hp;rw[hp] at kt;cases kt
  ·rw[if_neg js,hdec d (by simp only[zAa];omega)] at hp;simp only[bp,if_false,zBq] at hp;exact⟨ps,hp,rfl⟩
 ·show(if g=r then root else if decide (zAa<=g)=true then bad else PV.mapW (fun x=>x) (E g))=bad
  rw[if_neg (by omega),(hG g).2 hg];rfl
theorem zKd(S:St w0 U Φ0 nt hv a w e Φ rv E L){r b:Nat}{pre:zA4}{mv:Value}{es es':List (PV×PV)}{ms ms':Array MapEntry}{root:PV}(hm:Rep w Φ (zBb w rv E) (.bmap r pre) mv [])(hq:zAC (e.get r).unlock pre=some (.omap es))(wL:mv = .map (some b))
  (j8:w.heap[b]? = some (.map ms es.length)) (yF:(e.get r).isLock=false) (yq:zAz (fun _=>some (.omap es')) (e.get r) pre=some root) (hR:∀ w':World,(∀ c,Φ c->w'.heap[c]? = w.heap[c]?)->zD6 w' Φ es' ms'.toList 0) :
  Fr w0 U Φ0 nt hv a {w with heap:=w.heap.setIfInBounds b (.map ms' es'.length)} (e.set r root):=by
 obtain⟨rv',E',L',h1,h2,_⟩:=zOd S hm hq wL j8 yF yq hR;exact⟨Φ,rv',E',L',h1,h2⟩
theorem zD6.modify'{w':World}(hΦ:∀ c,Φ c->w'.heap[c]? = w.heap[c]?){key v:PV}{kv vv:Value}(hk:Rep w Φ zCp key kv [])(hv:Rep w Φ zCp v vv []):∀ (es:List (PV×PV)) (ms:List MapEntry) (i j:Nat),zD6 w Φ es ms i->zD6 w' Φ (es.modify j fun _=>(key,v)) (ms.modify j fun m=>{m with key:=kv,val:=vv}) i
 |[],ms,i,j,h=>by simp only[zD6] at h;subst h;cases j<;>simp[zD6]
 |(k,p)::es,ms,i,0,h=>by
  obtain⟨m,ms',rfl,hb,h1,h2,h3⟩:=h;simp only[List.modify_zero_cons];exact⟨_,_,rfl,hb,hk.mono (fun c hc=>⟨hc,hΦ c hc⟩) (fun _ _ _ h=>h) (by simp),hv.mono (fun c hc=>⟨hc,hΦ c hc⟩) (fun _ _ _ h=>h) (by simp),zD6.same (fun c hc=>⟨hc,hΦ c hc⟩) _ _ _ h3⟩
 |(k,p)::es,ms,i,j+1,h=>by
  obtain⟨m,ms',rfl,hb,h1,h2,h3⟩:=h;simp only[List.modify_succ_cons];exact⟨_,_,rfl,hb,h1.mono (fun c hc=>⟨hc,hΦ c hc⟩) (fun _ _ _ h=>h) (by simp),h2.mono (fun c hc=>⟨hc,hΦ c hc⟩) (fun _ _ _ h=>h) (by simp),zD6.modify' hΦ hk hv es ms' (i+1) j h3⟩
theorem zD6.push'{w':World}(hΦ:∀ c,Φ c->w'.heap[c]? = w.heap[c]?){key v:PV}{kv vv:Value}(hk:Rep w Φ zCp key kv [])(hv:Rep w Φ zCp v vv []):∀ (es:List (PV×PV)) (ms:List MapEntry) (i:Nat),zD6 w Φ es ms i->zD6 w' Φ (es++[(key,v)]) (ms++[{key:=kv,val:=vv,born:=i+es.length}]) i
 |[],ms,i,h=>by
  simp only[zD6] at h;subst h;exact⟨_,_,rfl,rfl,hk.mono (fun c hc=>⟨hc,hΦ c hc⟩) (fun _ _ _ h=>h) (by simp),hv.mono (fun c hc=>⟨hc,hΦ c hc⟩) (fun _ _ _ h=>h) (by simp),by simp[zD6]⟩
 |(k,p)::es,ms,i,h=>by
  obtain⟨m,ms',rfl,hb,h1,h2,h3⟩:=h;have ih:=zD6.push' hΦ hk hv es ms' (i+1) h3;rw[show i+1+es.length=i+(es.length+1) by omega] at ih;exact⟨m,_,rfl,hb,h1.mono (fun c hc=>⟨hc,hΦ c hc⟩) (fun _ _ _ h=>h) (by simp),h2.mono (fun c hc=>⟨hc,hΦ c hc⟩) (fun _ _ _ h=>h) (by simp),ih⟩
theorem zJD{p:PV}(h:p.flat=true):p.lone=true:=by
 cases p<;>first|(cases h;done)|rfl|skip
 rename_i cs;simp only[PV.flat,PV.lone,bj] at h ⊢;intro q hq;have:=h q hq;cases q<;>first|(cases this;done)|rfl
theorem zSN(S:St w0 U Φ0 nt hv a w e Φ rv E L){t kt el:TypeId}{key v m:PV}{mv kv vv:Value}(ht:P.underlying t=some (.map kt el))(wK:zPp P 20 kt key=true)(hkf:key.flat=true)(hEv:E zAa=v)(hEm:E (zAa+1)=m)(hEk:E (zAa+2)=key)(ja:rv zAa=vv)(hrm:rv (zAa+1)=mv)(hrk:rv (zAa+2)=kv)
  (h:(zMF P kt key v m).run o e=some e'):∃ w',(Instr.mapUpdate t mv kv vv).run P w = .ok () w'/\Fr w0 U Φ0 nt hv a w' e':=by
 have h0:=S.conf.rep zAa;have h1:=S.conf.rep (zAa+1);have h2:=S.conf.rep (zAa+2);rw[hEv,ja] at h0;rw[hEm,hrm] at h1;rw[hEk,hrk] at h2;cases m<;>simp only[zMF] at h<;>try (cases h;done)
 rename_i r pre;obtain⟨kI,h⟩:=zAR h;obtain⟨_,ub⟩:=zHf kI h0;obtain⟨jX,vo⟩:=zHf (zJD hkf) h2;rw[jX] at h2;have hL1:L (zAa+1)=[]:=h1.1;rw[hL1] at h1;obtain⟨q,hq,h⟩:=zBW h;cases q<;>simp only at h<;>try (cases h;done)
 rename_i es;obtain⟨_,b,ms,rfl,j8,hM⟩:=zMl S h1 hq
 cases hf:zCV P kt key es 0 with
 |none=>rw[hf] at h;cases h
 | some x =>
  rw[hf] at h;have yZ:=zIg wK h2 hf hM;have wM:=zJI (empty:=false) 20 10000 kt key kv (by decide) wK h2
  cases x with
  | none =>
   obtain⟨root,yF,yq,h⟩:=zCa h;simp only[PM.run,ba] at h;subst h;have:=zKd S (ms':=ms.push {key:=kv,val:=vv,born:=es.length}) h1 hq rfl j8 yF yq (fun w' hw=>by
    have:=zD6.push' hw vo ub es ms.toList 0 hM;simpa using this)
   refine⟨_,?_,this⟩;simp only[dM] at yZ;simp[Instr.mapUpdate,run_underlying ht,di j8,wM,yZ,dQ _ j8]
  | some i =>
   obtain⟨root,yF,yq,h⟩:=zCa h;simp only[PM.run,ba] at h;subst h;obtain⟨_,hi,k,v',m,h3,h4,h5,h6,h7,h8⟩:=(zDJ h2 es ms.toList 0 (some i) hf hM).2 i rfl;simp only[dt] at h3 h4 hi;obtain⟨_,k',v'',h9,jZ⟩:=zKj hf;simp only[dt] at h9;rw[h3] at h9;cases h9;obtain⟨qO,hsb⟩:=zP5 hkf h5 h2 h6 jZ;have:=zKd S (ms':=ms.modify i fun m=>{m with key:=kv,val:=vv}) h1 hq rfl j8 yF yq (fun w' hw=>by
    have:=zD6.modify' hw vo ub es ms.toList 0 i hM;simpa using this)
   refine⟨_,?_,this⟩;have gj:ms[i]? = some m:=by rw[<- bO];exact h4
   simp only[bd,h4,bu] at yZ;rw[qO] at hsb wM yZ ⊢;simp[Instr.mapUpdate,run_underlying ht,di j8,wM,yZ,gj,Instr.keyThatStays,hsb,dQ _ j8]
theorem zKI(S:St w0 U Φ0 nt hv a w e Φ rv E L)(hb:zBz E){t:TypeId}{m x y:Operand}(hm:zAZ nt m=true)(hx:zAZ nt x=true)(hy:zAZ nt y=true)(h:(zFq P t m x y).run o e=some e') :
  ∃ w',(Instr.mapUpdate t (a.eval m) (a.eval x) (a.eval y)).run P w = .ok () w'/\Fr w0 U Φ0 nt hv a w' e':=by
 obtain⟨p,h1,hp⟩:=zBC S hm h;obtain⟨key,h2,hk⟩:=zBC S hx h1;split at h2
 ·rename_i kt el ht;obtain⟨hc,h3⟩:=zAR h2;simp only[bb] at hc;have w6:=(zHf (zJD hc.2) hk).2;have S1:=S.hold (g:=zAa+1) (by omega) hp;have S2:=S1.hold (g:=zAa+2) (by omega) (w6.mono (A':=zBb w (upd rv (zAa+1) (a.eval m)) (upd E (zAa+1) p)) zDq.refl (fun _ _ _ h=>h.elim) (by simp));obtain⟨e1,rv1,E1,L1,h4,S3,h5,h6⟩:=zGd S2 hy (g:=zAa) (bi _) h3;obtain⟨e2,rv2,E2,h7,W⟩:=zOW S3 (g:=zAa) (bi _) h4;obtain⟨Φ2,L2,S4⟩:=W.st;obtain⟨Φ3,L3,S5⟩:=S4.iced (g:=zAa) (bi _);obtain⟨a1,a2,_⟩:=h6 (zAa+1) (by omega) (by omega);obtain⟨b1,b2,_⟩:=h6 (zAa+2) (by omega) (by omega);obtain⟨c1,c2⟩:=W.rest (zAa+1) (by omega) (by omega);obtain⟨d1,d2⟩:=W.rest (zAa+2) (by omega) (by omega);refine zSN S5 (vv:=a.eval y) (mv:=a.eval m) (kv:=a.eval x) ht hc.1 hc.2 zAi ?_ ?_ ?_ ?_ ?_ h7
  ·rw[zAf (by omega),c1,a1,zAf (by omega),zAi]
  ·rw[zAf (by omega),d1,b1,zAi]
  ·rw[W.val,h5]
  ·rw[c2,a2,zAf (by omega),zAi]
  ·rw[d2,b2,zAi]
 ·cases h2
end
end Go.Eng
namespace Go.Eng
open Go
section
variable {P:Program} {w0 w:World} {U Φ0 Φ:Nat->Prop} {nt:Nat} {hv:Hid} {a:Act} {e e':Env} {rv:Nat->Value} {E:Nat->PV} {L:Nat->LN} {o:zAM} {A:Al}
theorem zJP(S:St w0 U Φ0 nt hv a w e Φ rv E L)(hb:zBz E){d:ON}(hd:∀ x,d=some x->x<nt){p:PV}{v:Value}{n:Int}(hp:Rep w Φ zCp p v [])(vV:p.lone=true)(h:(zDB d (.tup [p,.int .i64 n])).run o e=some e') :
  Fr w0 U Φ0 nt hv (a.put d (.tuple #[v,.int .i64 n])) w e':=by
 have kB:=S.small
 cases d with
 |none=>
  simp only[zDB] at h;exact zAE S hb hd h ⟨#[v,.int .i64 n],rfl,v,[.int .i64 n],[],[],rfl,rfl,hp.mono zDq.refl (fun _ _ _ h=>h.elim) (by simp),.int .i64 n,[],[],[],rfl,rfl,⟨rfl,rfl⟩,rfl,rfl⟩
 | some d =>
  have ua:=hd d rfl;simp only[zDB] at h;obtain⟨ko,h⟩:=zAR h;simp only[PM.run] at h;simp only[bb] at ko;obtain⟨L1,S1⟩:=S.empty ua;have S2:=S1.hold (g:=zAa) (bi _) (hp.mono (A':=zBb w rv (upd E d .bad)) zDq.refl (fun _ _ _ h=>h.elim) (by simp));have S3:=S2.hold (g:=zAa+1) (by omega) (p := .int .i64 n) (v := .int .i64 n) ⟨rfl,rfl⟩;refine zFk ua (vs:=#[v,.int .i64 n]) [p,.int .i64 n] 0 S3 (fun ps hp=>?_) (by simp) (by simp) (fun j q hq=>?_) (fun g hg hI=>?_) (fun x hx=>?_) (fun j hj=>by omega) h
  ·rw[zAf (by simp only[zAa];omega),zAf (by simp only[zAa];omega),zAi] at hp;cases hp
  ·match j,hq with
   |0,hq=>
    simp at hq;subst hq;rw[show zAa+0+0=zAa from rfl];refine⟨by rw[zAf (by omega),zAi],?_⟩;rw[zAf (by omega),zAi];rfl
   |1,hq=>
    simp at hq;subst hq;rw[show zAa+0+1=zAa+1 from rfl];refine⟨by rw[zAi],?_⟩;rw[zAi];rfl
  ·have h0:=hI 0 (by simp);have h1:=hI 1 (by simp);rw[zAf (by omega),zAf (by omega)];by_cases gV:g=d
   ·subst gV;rw[zAi]
   ·rw[zAf gV];exact hb g hg
  ·simpa using bj.1 ko.2 x hx
theorem zOl{ms:Array MapEntry}{i:Nat}{m:MapEntry}{kv:Value}(h:ms[i]? = some m):ms.modify i (fun e=>{e with key:=kv})=ms.modify i (fun e=>{e with key:=kv,val:=m.val}):=by
 apply fE;intro j;rw[dC,dC];by_cases hj:i=j
 ·subst hj;simp[h]
 ·simp[hj]
theorem zL3(S:St w0 U Φ0 nt hv a w e Φ rv E L)(hb:zBz E){d:ON}(hd:∀ x,d=some x->x<nt){t:TypeId}{m x:Operand}(hm:zAZ nt m=true)(hx:zAZ nt x=true)(h:(zGE P d t m x).run o e=some e') :
  ∃ v w',(Instr.mapEntry t (a.eval m) (a.eval x)).run P w = .ok v w'/\Fr w0 U Φ0 nt hv (a.put d v) w' e':=by
 obtain⟨p,h1,hp⟩:=zBC S hm h;obtain⟨key,h2,hk⟩:=zBC S hx h1;split at h2
 ·rename_i kt el ht;obtain⟨hc,h3⟩:=zAR h2;simp only[bb] at hc;obtain⟨wK,hkf⟩:=hc;obtain⟨z,hz,h4⟩:=zBS h3;obtain⟨kj,h5⟩:=zAR h4;obtain⟨_,zv,_,_,uV,kb⟩:=zDW hz;have qp:=zMY (zCt (w:=w) (Φ:=Φ) (A:=zCp) kb).1;generalize zJ8 z=z at *;have vo:=(zHf (zJD hkf) hk).2;cases p<;>simp only[zPw] at h5<;>try (cases h5;done)
  rename_i r pre;obtain⟨q,hq,h6⟩:=zBW h5;cases q<;>simp only at h6<;>try (cases h6;done)
  rename_i es;obtain⟨_,b,ms,wL,j8,hM⟩:=zMl S hp hq
  cases hf:zCV P kt key es 0 with
  |none=>rw[hf] at h6;cases h6
  | some y =>
   rw[hf] at h6;have yZ:=zIg wK hk hf hM;have wM:=zJI (empty:=false) 20 10000 kt key (a.eval x) (by decide) wK hk;rw[wL]
   cases y with
   | none =>
    simp only at h6;obtain⟨root,yF,yq,h7⟩:=zCa h6;obtain⟨rv',E',L',S',yJ,yz⟩:=zOd S (ms':=ms.push {key:=a.eval x,val:=zv,born:=es.length}) hp hq wL j8 yF yq (fun w' hw=>by
     have:=zD6.push' hw vo qp es ms.toList 0 hM;simpa using this)
    have hzr':=qp.mono (w':={w with heap:=w.heap.setIfInBounds b (.map (ms.push {key:=a.eval x,val:=zv,born:=es.length}) (es++[(key,z)]).length)}) (fun c hc=>⟨hc,yz c hc⟩) (fun _ _ _ h=>h) (by simp);refine⟨_,_,?_,zJP S' yJ hd hzr' kj h7⟩;simp only[dM] at yZ;simp[Instr.mapEntry,run_underlying ht,di j8,wM,yZ,uV,dQ _ j8,goInt]
   | some i =>
    obtain⟨_,hi,k,v',m',g3,g4,g5,g6,g7,g8⟩:=(zDJ hk es ms.toList 0 (some i) hf hM).2 i rfl;simp only[dt] at g3 g4 hi;simp only[g3] at h6;obtain⟨kI,h6⟩:=zAR h6;obtain⟨root,yF,yq,h7⟩:=zCa h6;obtain⟨_,k',v'',g9,g10⟩:=zKj hf;simp only[dt] at g9;rw[g3] at g9;cases g9;obtain⟨qO,hsb⟩:=zP5 hkf g5 hk g6 g10;have g4':ms[i]? = some m':=by rw[<- bO];exact g4
    obtain⟨rv',E',L',S',yJ,yz⟩:=zOd S (ms':=ms.modify i fun e=>{e with key:=a.eval x,val:=m'.val}) hp hq wL j8 yF yq (fun w' hw=>by
     have:=zD6.modify' hw vo g7 es ms.toList 0 i hM;simpa using this)
    have hvr':=g7.mono (w':={w with heap:=w.heap.setIfInBounds b (.map (ms.modify i fun e=>{e with key:=a.eval x,val:=m'.val}) (es.modify i fun _=>(key,v')).length)}) (fun c hc=>⟨hc,yz c hc⟩) (fun _ _ _ h=>h) (by simp);refine⟨_,_,?_,zJP S' yJ hd hvr' kI h7⟩;simp only[bd,g4,bu] at yZ;have qZ:=zOl (kv:=m'.key) g4';rw[qO] at hsb wM yZ ⊢;simp[Instr.mapEntry,run_underlying ht,di j8,wM,yZ,g4',Instr.keyThatStays,hsb,dQ _ j8,goInt,qZ,g8]
 ·cases h2
theorem zSY:∀ {es:List (PV×PV)} {ms:List MapEntry} {i j:Nat},zD6 w Φ es ms j->i<ms.length->ms.findIdx? (fun e=>(e.born:Int)==((i+j:Nat):Int))=some i
 |[],ms,i,j,h,hi=>by simp only[zD6] at h;subst h;simp at hi|(k,p)::es,ms,0,j,h,hi=>by
  obtain⟨m,ms',rfl,hb,_⟩:=h;rw[ib,hb];simp
 |(k,p)::es,ms,i+1,j,h,hi=>by
  obtain⟨m,ms',rfl,hb,_,_,h3⟩:=h;have:=zSY (i:=i) h3 (by simpa using hi);rw[ib,hb];have hI:((j:Int)==((i+1+j:Nat):Int))=false:=by simp;omega
  rw[hI];simp only[bp,if_false];rw[show i+1+j=i+(j+1) by omega,this];rfl
theorem zTP:∀ {es:List (PV×PV)} {ms:List MapEntry} {i j:Nat} {k x:PV},zD6 w Φ es ms j->es[i]? = some (k,x)->∃ m,ms[i]? = some m/\Rep w Φ zCp k m.key []
 |[],_,_,_,_,_,_,h=>by cases h|(k',p)::es,ms,0,j,k,x,h,hi=>by
  obtain⟨m,ms',rfl,_,h1,_⟩:=h;cases hi;exact⟨m,rfl,h1⟩
 |(k',p)::es,ms,i+1,j,k,x,h,hi=>by
  obtain⟨m,ms',rfl,_,_,_,h3⟩:=h;exact zTP (i:=i) h3 (by simpa using hi)
theorem zM4{ms:Array MapEntry}{i:Nat}{m:MapEntry}{vv:Value}(h:ms[i]? = some m):ms.modify i (fun e=>{e with val:=vv})=ms.modify i (fun e=>{e with key:=m.key,val:=vv}):=by
 apply fE;intro j;rw[dC,dC];by_cases hj:i=j
 ·subst hj;simp[h]
 ·simp[hj]
theorem zJv(S:St w0 U Φ0 nt hv a w e Φ rv E L)(hb:zBz E){t:TypeId}{m s y:Operand}(hm:zAZ nt m=true)(hs:zAZ nt s=true)(hy:zAZ nt y=true)(h:(zEF m s y).run o e=some e') :
  ∃ w',(Instr.entryStore t (a.eval m) (a.eval s) (a.eval y)).run P w = .ok () w'/\Fr w0 U Φ0 nt hv a w' e':=by
 obtain⟨p,h1,hp⟩:=zBC S hm h;obtain⟨q,h2,hq⟩:=zBC S hs h1;obtain⟨ik,n,rfl,hn,h3⟩:=zEi h2;have gE:a.eval s = .int ik n:=hq.1;have S1:=S.hold (g:=zAa+1) (by omega) hp;obtain⟨e1,rv1,E1,L1,h4,S3,h5,h6⟩:=zGd S1 hy (g:=zAa) (bi _) h3;obtain⟨e2,rv2,E2,h7,W⟩:=zOW S3 (g:=zAa) (bi _) h4;obtain⟨Φ2,L2,S4⟩:=W.st;obtain⟨Φ3,L3,S5⟩:=S4.iced (g:=zAa) (bi _);obtain⟨a1,a2,_⟩:=h6 (zAa+1) (by omega) (by omega);obtain⟨c1,c2⟩:=W.rest (zAa+1) (by omega) (by omega);have hEm:(upd E2 zAa (zA2 (E2 zAa))) (zAa+1)=p:=by rw[zAf (by omega),c1,a1,zAi]
 have hrm:rv2 (zAa+1)=a.eval m:=by rw[c2,a2,zAi]
 have ja:rv2 zAa=a.eval y:=by rw[W.val,h5]
 have h0:=S5.conf.rep zAa;have hM1:=S5.conf.rep (zAa+1);rw[zAi,ja] at h0;rw[hEm,hrm] at hM1;generalize yI:zA2 (E2 zAa)=v at *;cases p<;>simp only[zI2] at h7<;>try (cases h7;done)
 rename_i r pre;obtain⟨kI,h7⟩:=zAR h7;obtain⟨_,ub⟩:=zHf kI h0;have hL1:L3 (zAa+1)=[]:=hM1.1;rw[hL1] at hM1;obtain⟨q,hq,h8⟩:=zBW h7;cases q<;>simp only at h8<;>try (cases h8;done)
 rename_i es;obtain⟨_,b,ms,wL,j8,hM⟩:=zMl S5 hM1 hq
 cases hes:es[n.toNat]? with
 |none=>rw[hes] at h8;cases h8
 | some kx =>
  obtain⟨k,x⟩:=kx;rw[hes] at h8;simp only at h8;obtain⟨root,yF,yq,h9⟩:=zCa h8;simp only[PM.run,ba] at h9;subst h9;obtain⟨m',g4,g5⟩:=zTP hM hes;have g4':ms[n.toNat]? = some m':=by rw[<- bO];exact g4
  have yL:n.toNat<ms.toList.length:=(bf.1 g4).1;have kU:=zSY hM yL;rw[bL,dK hn] at kU;have:=zKd S5 (ms':=ms.modify n.toNat fun e=>{e with key:=m'.key,val:=a.eval y}) hM1 hq wL j8 yF yq (fun w' hw=>by
   have:=zD6.modify' hw g5 ub es ms.toList 0 n.toNat hM;simpa using this)
  refine⟨_,?_,this⟩;have je:a.eval s = .int ik n:=gE;rw[wL,je];have hf:ms.findIdx? (fun e=>(e.born:Int)==n)=some n.toNat:=by first|(rw[<- Array.findIdx?_toList];exact kU)|(rw[Array.findIdx?_toList] at kU;exact kU)|(rw[<- kU];exact(Array.findIdx?_toList ..).symm)|(rw[<- kU];exact(List.findIdx?_toArray ..))
  simp[Instr.entryStore,di j8,asInt,asIntOf,hf,dQ _ j8,zM4 g4']
end
end Go.Eng
namespace Go.Eng
open Go
section
variable {w:World} {Φ:Nat->Prop} {rv:Nat->Value} {E:Nat->PV}
mutual
theorem zHE:∀ (p:PV) (v:Value) (L:LN),Rep w Φ (zBb w rv E) p v L->∀ x∈p.ways,x.1<zAa
 |.agg cs,v,L,h,x,hx=>by obtain⟨vs,_,h⟩:=h;exact zFS cs _ L h x hx
 |.tup cs,v,L,h,x,hx=>by obtain⟨vs,_,h⟩:=h;exact zFS cs _ L h x hx
 |.ref q,v,L,h,x,hx=>by obtain⟨_,a,c,u,_,_,_,_,_,_,h7⟩:=h;exact zHE q u [] h7 x hx
 |.box q,v,L,h,x,hx=>by obtain⟨a,c,u,L',_,_,_,_,_,_,h7⟩:=h;exact zHE q u L' h7 x hx
 |.lock q,v,L,h,x,hx=>zHE q v L h x hx|.func g a b,v,L,h,x,hx=>by
  obtain⟨_,fs,cs,_,h2,h3⟩:=h;simp only[PV.ways,bg] at hx;rcases hx with hx|hx
  ·exact zFS a _ [] h2 x hx
  ·exact zFS b _ [] h3 x hx
 |.addr ..,v,L,h,x,hx=>by simp only[PV.ways,bl] at hx;subst hx;exact h.2.1|.bor ..,v,L,h,x,hx=>by simp only[PV.ways,bl] at hx;subst hx;exact h.2.1|.bsl ..,v,L,h,x,hx=>by simp only[PV.ways,bl] at hx;subst hx;exact h.2.1|.bmap ..,v,L,h,x,hx=>by simp only[PV.ways,bl] at hx;subst hx;exact h.2.1|.yld _,v,L,h,x,hx=>by cases hx|.log ..,v,L,h,x,hx=>h.2.elim|.bad,_,_,_,x,hx=>by cases hx|.und,_,_,_,x,hx=>by cases hx|.int ..,_,_,_,x,hx=>by cases hx|.bool _,_,_,_,x,hx=>by cases hx|.nilp,_,_,_,x,hx=>by cases hx|.nilf,_,_,_,x,hx=>by cases hx|.nilm,_,_,_,x,hx=>by cases hx|.nn,_,_,_,x,hx=>by cases hx|.nils _,_,_,_,x,hx=>by cases hx|.sl _,_,_,_,x,hx=>by cases hx|.own ..,_,_,_,x,hx=>by cases hx|.map _,_,_,_,x,hx=>by cases hx|.omap _,_,_,_,x,hx=>by cases hx
theorem zFS:∀ (ps:List PV) (vs:List Value) (L:LN),zBa w Φ (zBb w rv E) ps vs L->∀ x∈zBE ps,x.1<zAa
 |[],_,_,_,x,hx=>by cases hx|p::ps,vs,L,h,x,hx=>by
  obtain⟨v,vs',L1,L2,_,_,h1,h2⟩:=h;simp only[zBE,bg] at hx;rcases hx with hx|hx
  ·exact zHE p v L1 h1 x hx
  ·exact zFS ps vs' L2 h2 x hx
end
theorem zX1{w:World}{rv rv':Nat->Value}{E E':Nat->PV}(h:∀ s,s<zAa->E' s=E s/\rv' s=rv s){a:PV}{v:Value}(ha:zBb w rv E a v):zBb w rv' E' a v:=by
 obtain⟨h1,h2⟩:=h _ (zC7 ha);exact ha.mono fun nv np hn hh=>⟨np,by rw[h1,h2] at hn;exact hn,zCv.refl hh⟩
end
section
variable {P:Program} {w0 w:World} {U Φ0 Φ:Nat->Prop} {nt:Nat} {hv:Hid} {a:Act} {e e':Env} {rv:Nat->Value} {E:Nat->PV} {L:Nat->LN} {o:zAM}
theorem zMm:∀ (ps:List PV) (vs:List Value) (i:Nat) {rv:Nat->Value} {E:Nat->PV} {L:Nat->LN},St w0 U Φ0 nt hv a w e Φ rv E L->zBa w Φ (zBb w rv E) ps vs [] ->
  ∃ rv1 E1 L1,St w0 U Φ0 nt hv a w e Φ rv1 E1 L1/\(∀ s,s<zAa->E1 s=E s/\rv1 s=rv s)/\(∀ (j:Nat) (p:PV) (v:Value),ps[j]? = some p->vs[j]? = some v->E1 (zAa+i+j)=p/\rv1 (zAa+i+j)=v/\L1 (zAa+i+j)=[]) /\
   ∀ s,zAa<=s->(s<zAa+i\/zAa+i+ps.length<=s)->E1 s=E s/\rv1 s=rv s/\L1 s=L s
 |[],vs,i,rv,E,L,S,h=>⟨rv,E,L,S,fun _ _=>⟨rfl,rfl⟩,by simp,fun _ _ _=>⟨rfl,rfl,rfl⟩⟩
 | p :: ps,vs,i,rv,E,L,S,h=>by
  obtain⟨v,vs',L1,L2,rfl,hL,h1,h2⟩:=h;obtain⟨rfl,rfl⟩:L1=[]/\L2=[]:=by simpa using hL.symm
  have S1:=S.hold (g:=zAa+i) (by omega) h1;have jD:∀ s,s<zAa->upd E (zAa+i) p s=E s/\upd rv (zAa+i) v s=rv s:=fun s hs=>⟨zAf (by omega),zAf (by omega)⟩;obtain⟨rv1,E1,L1,S2,h3,h4,h5⟩:=zMm ps vs' (i+1) S1 (h2.mono zDq.refl (fun _ _ _ ha=>zX1 jD ha) (fun _ _=>rfl));refine⟨rv1,E1,L1,S2,fun s hs=>⟨(h3 s hs).1.trans (jD s hs).1,(h3 s hs).2.trans (jD s hs).2⟩,fun j q u hq hu=>?_,fun s hs kD=>?_⟩
  ·cases j with
   |zero=>
    simp at hq hu;subst hq;subst hu;obtain⟨k1,k2,k3⟩:=h5 (zAa+i) (by omega) (.inl (by omega));simp only[bL];rw[k1,k2,k3,zAi,zAi,zAi];exact⟨rfl,rfl,rfl⟩
   |succ j=>
    have:=h4 j q u (by simpa using hq) (by simpa using hu);rwa[show zAa+i+(j+1)=zAa+(i+1)+j by omega]
  ·obtain⟨k1,k2,k3⟩:=h5 s hs (by simp at kD;omega);have hI:s≠zAa+i:=by simp at kD;omega
   rw[k1,k2,k3,zAf hI,zAf hI,zAf hI];exact⟨rfl,rfl,rfl⟩
structure Handed (rv1:Nat->Value) (E1:Nat->PV) (L1:Nat->LN) (i:Nat) (bs:List (Bool×PV)):Prop where
 at_:∀ (j:Nat) (b:Bool×PV),bs[j]? = some b->E1 (zAa+i+j)=b.2/\(b.1=true->b.2.ways=[])/\(b.1=false->L1 (zAa+i+j)=[])
theorem zG9:∀ (ps:List PV) (ms:LN) (i:Nat) {k:List (Bool×PV)->PM} {e:Env} {Φ:Nat->Prop} {rv:Nat->Value} {E:Nat->PV} {L:Nat->LN},St w0 U Φ0 nt hv a w e Φ rv E L ->
  (∀ (j:Nat) (p:PV),ps[j]? = some p->E (zAa+i+j)=p/\L (zAa+i+j)=[])->(zEc ms ps k).run o e=some e' ->
  ∃ e1 rv1 E1 L1 bs,(k bs).run o e1=some e'/\St w0 U Φ0 nt hv a w e1 Φ rv1 E1 L1/\bs.length=ps.length/\Handed rv1 E1 L1 i bs/\(∀ s,rv1 s=rv s)/\(∀ s,zAa<=s->(s<zAa+i\/zAa+i+ps.length<=s)->E1 s=E s/\L1 s=L s)
 |[],ms,i,k,e,Φ,rv,E,L,S,hp,h=>⟨e,rv,E,L,[],by simpa[zEc] using h,S,rfl,⟨by simp⟩,fun _=>rfl,fun _ _ _=>⟨rfl,rfl⟩⟩
 | p :: ps,ms,i,k,e,Φ,rv,E,L,S,hp,h=>by
  obtain⟨hE,hL⟩:=hp 0 p rfl;simp only[bL] at hE hL
  have plain:(zEc ms.tail ps fun as=>k ((false,p)::as)).run o e=some e'->∃ e1 rv1 E1 L1 bs,(k bs).run o e1=some e'/\St w0 U Φ0 nt hv a w e1 Φ rv1 E1 L1/\bs.length=(p::ps).length/\Handed rv1 E1 L1 i bs/\(∀ s,rv1 s=rv s) /\
    (∀ s,zAa<=s->(s<zAa+i\/zAa+i+(p::ps).length<=s)->E1 s=E s/\L1 s=L s):=by
   intro h;obtain⟨e1,rv1,E1,L1,bs,h1,S1,h2,h3,h4,h5⟩:=zG9 ps ms.tail (i+1) S (fun j q hq=>by
    rw[show zAa+(i+1)+j=zAa+i+(j+1) by omega];exact hp (j+1) q (by simpa using hq)) h
   refine⟨e1,rv1,E1,L1,(false,p)::bs,h1,S1,by simp[h2],⟨fun j b hb=>?_⟩,h4,fun s hs kD=>h5 s hs (by simp at kD;omega)⟩
   cases j with
   |zero=>
    simp at hb;subst hb;obtain⟨k1,k2⟩:=h5 (zAa+i) (by omega) (.inl (by omega));simp only[bL];exact⟨k1.trans hE,by simp,fun _=>k2.trans hL⟩
   |succ j=>
    have:=h3.at_ j b (by simpa using hb);rwa[show zAa+(i+1)+j=zAa+i+(j+1) by omega] at this
  simp only[zEc] at h;split at h
  ·rename_i r pre z n _;obtain⟨q,hq,h1⟩:=zBW h;split at h1
   ·rename_i sz xs;obtain⟨yR,h2⟩:=zAR h1;have yR:=br yR;obtain⟨root,hl,hm,h3⟩:=zCa h2;have hX:=S.conf.rep (zAa+i);rw[hE] at hX;obtain⟨_,hr,_,hn⟩:=hX;have yF:=zBQ hl;rw[yF,<- S.env r hr] at hq;rw[<- S.env r hr] at yF hm;obtain⟨kk1,kk2⟩:=zB0 (q' := .bad) rfl rfl hm;obtain⟨nv,Li,g1,g2,g3,g4,g5⟩:=S.taken (g:=zAa+i) (by omega) hr yF hq rfl hm kk1 kk2;have yy:zBU (rv (zAa+i)) nv sz 0 n:=by
     obtain⟨s2,xs2,q1,q2,q3⟩:=hn nv _ (by rw[yF];exact g1) rfl;cases q1;subst q2;exact q3
    obtain⟨Lg,p1,p2,p3⟩:=zIP g2 (by omega) yy;obtain⟨L',S1,wQ⟩:=g5 _ (rv (zAa+i)) Lg p1 (p3 g3) (fun b hb=>.inl (p2 b hb));have ja:∀ s,upd rv (zAa+i) (rv (zAa+i)) s=rv s:=fun s=>by
     by_cases hs:s=zAa+i
     ·subst hs;rw[zAi]
     ·rw[zAf hs]
    have vc:∀ s,zAa<=s->s≠zAa+i->upd (upd E r root) (zAa+i) (own sz ((xs.drop 0).take n)) s=E s/\L' s=L s:=fun s hs hI=>⟨by rw[zAf hI,zAf (by omega)],wQ s hs hI⟩;obtain⟨e1,rv1,E1,L1,bs,h4,S2,h5,h6,h7,h8⟩:=zG9 ps ms.tail (i+1) S1 (fun j q hq=>by
     obtain⟨k1,k2⟩:=vc (zAa+(i+1)+j) (by omega) (by omega);rw[k1,k2,show zAa+(i+1)+j=zAa+i+(j+1) by omega];exact hp (j+1) q (by simpa using hq)) h3
    refine⟨e1,rv1,E1,L1,_::bs,h4,S2,by simp[h5],⟨fun j b hb=>?_⟩,fun s=>(h7 s).trans (ja s),fun s hs kD=>?_⟩
    ·cases j with
     |zero=>
      simp only[bJ,ba] at hb;subst hb;obtain⟨k1,k2⟩:=h8 (zAa+i) (by omega) (.inl (by omega));simp only[bL];exact⟨by rw[k1,zAi],fun _=>rfl,fun h=>by cases h⟩
     |succ j=>
      have:=h6.at_ j b (by simpa using hb);rwa[show zAa+(i+1)+j=zAa+i+(j+1) by omega] at this
    ·obtain⟨k1,k2⟩:=h8 s hs (by simp at kD;omega);obtain⟨k3,k4⟩:=vc s hs (by simp at kD;omega);exact⟨k1.trans k3,k2.trans k4⟩
   ·cases h1
  ·exact plain h
theorem zIC(S:St w0 U Φ0 nt hv a w e Φ rv E L):∀ (bs:List (Bool×PV)) (ms:LN) (i:Nat) {k:List Arg->PM},Handed rv E L i bs->(zCE ms bs k).run o e=some e' ->
  ∃ as,(k as).run o e=some e'/\as.length=bs.length/\∀ (j:Nat) (x:Arg),as[j]? = some x->zOk w Φ rv E (i+j) x
 |[],ms,i,k,hb,h=>⟨[],by simpa[zCE] using h,rfl,by simp⟩
 | (m, p)::bs,ms,i,k,hb,h=>by
  obtain⟨h1,h2,h3⟩:=hb.at_ 0 (m,p) rfl;simp only[bL] at h1 h2 h3;have uX:Handed rv E L (i+1) bs:=⟨fun j b hj=>by
   rw[show zAa+(i+1)+j=zAa+i+(j+1) by omega];exact hb.at_ (j+1) b (by simpa using hj)⟩
  have fin:∀ x,zOk w Φ rv E i x->(zCE ms.tail bs fun as=>k (x::as)).run o e=some e'->∃ as,(k as).run o e=some e'/\as.length=((m,p)::bs).length/\∀ (j:Nat) (x:Arg),as[j]? = some x->zOk w Φ rv E (i+j) x:=by
   intro x hx h;obtain⟨as,g1,g2,g3⟩:=zIC S bs ms.tail (i+1) uX h;refine⟨x::as,g1,by simp[g2],fun j y hy=>?_⟩
   cases j with
   |zero=>simp at hy;subst hy;exact hx|succ j=>rw[show i+(j+1)=i+1+j by omega];exact g3 j y (by simpa using hy)
  cases m with
  |true=>exact fin _ ⟨by simp,.inr (.inl ⟨rfl,h1.symm,by rw[h1];exact h2 rfl⟩)⟩ h
  | false =>
   simp only[zCE] at h;revert h
   cases beq (ms.headD 0) 1 with
   |true=>exact fun h=>fin _ ⟨by simp,.inl ⟨rfl,h1.symm⟩⟩ h
   |false=>
    intro h;simp only[cond_false] at h;have hX:=S.conf.rep (zAa+i);rw[h1,h3 rfl] at hX;obtain⟨q,l,g1,g2,g3⟩:=zPT S hX h;exact fin _ ⟨g2,.inr (.inr ⟨rfl,fun Φ1 k1 k2=>g3 Φ1 k1 k2 (by simp)⟩)⟩ g1
theorem zKT:∀ (bs:List (Bool×PV)) (ms:LN) (i:Nat) {k:List Arg->PM} {e:Env} {Φ:Nat->Prop} {E:Nat->PV} {L:Nat->LN},St w0 U Φ0 nt hv a w e Φ rv E L->Handed rv E L i bs->(zEr ms bs k).run o e=some e' ->
  ∃ as e1 Φ1 E1 L1,(k as).run o e1=some e'/\St w0 U Φ0 nt hv a w e1 Φ1 rv E1 L1/\as.length=bs.length/\(∀ (j:Nat) (x:Arg),as[j]? = some x->zOk w Φ1 rv E1 (i+j) x)/\∀ s,zAa<=s->s<zAa+i->E1 s=E s
 |[],ms,i,k,e,Φ,E,L,S,hb,h=>⟨[],e,Φ,E,L,by simpa[zEr] using h,S,rfl,by simp,fun _ _ _=>rfl⟩
 | (m, p)::bs,ms,i,k,e,Φ,E,L,S,hb,h=>by
  obtain⟨h1,h2,h3⟩:=hb.at_ 0 (m,p) rfl;simp only[bL] at h1 h2 h3;have uX:Handed rv E L (i+1) bs:=⟨fun j b hj=>by
   rw[show zAa+(i+1)+j=zAa+i+(j+1) by omega];exact hb.at_ (j+1) b (by simpa using hj)⟩
  have fin:∀ {e:Env} {Φ:Nat->Prop} {E2:Nat->PV} {L2:Nat->LN} (x:Arg),St w0 U Φ0 nt hv a w e Φ rv E2 L2->Handed rv E2 L2 (i+1) bs->(∀ s,zAa<=s->s<zAa+i->E2 s=E s)->(∀ (Φ1:Nat->Prop) (E1:Nat->PV),E1 (zAa+i)=E2 (zAa+i)->zOk w Φ1 rv E1 i x) ->
    (zEr ms.tail bs fun as=>k (x::as)).run o e=some e'->∃ as e1 Φ1 E1 L1,(k as).run o e1=some e'/\St w0 U Φ0 nt hv a w e1 Φ1 rv E1 L1/\as.length=((m,p)::bs).length/\(∀ (j:Nat) (x:Arg),as[j]? = some x->zOk w Φ1 rv E1 (i+j) x)/\∀ s,zAa<=s->s<zAa+i->E1 s=E s:=by
   intro e Φ E2 L2 x S hh hE hx h;obtain⟨as,e1,Φ1,E1,L1,g1,S1,g2,g3,g4⟩:=zKT bs ms.tail (i+1) S hh h;refine⟨x::as,e1,Φ1,E1,L1,g1,S1,by simp[g2],fun j y hy=>?_,fun s hs yL=>(g4 s hs (by omega)).trans (hE s hs yL)⟩
   cases j with
   |zero=>simp at hy;subst hy;exact hx Φ1 E1 (g4 _ (by omega) (by omega))|succ j=>rw[show i+(j+1)=i+1+j by omega];exact g3 j y (by simpa using hy)
  cases m with
  |true=>exact fin _ S uX (fun _ _ _=>rfl) (fun Φ1 E1 he=>⟨by simp,.inr (.inl ⟨rfl,by rw[he,h1],by rw[he,h1];exact h2 rfl⟩)⟩) h
  | false =>
   simp only[zEr] at h;revert h
   cases beq (ms.headD 0) 1 with
   |true=>exact fun h=>fin _ S uX (fun _ _ _=>rfl) (fun Φ1 E1 he=>⟨by simp,.inl ⟨rfl,by rw[he,h1]⟩⟩) h
   | false =>
    intro h;simp only[cond_false] at h;rw[<- h1] at h;obtain⟨e1,Φ1,E1,L1,g1,S1,g2,g3,g4,g5,_,_⟩:=zH0 (g:=zAa+i) (by omega) (bi _) zDp S h;have hw:(E1 (zAa+i)).ways=[]:=by
     have jD:=zHE _ _ _ (S1.conf.rep (zAa+i))
     cases hw:(E1 (zAa+i)).ways with
     |nil=>rfl|cons x xs=>
      have k1:=jD x (by rw[hw];simp);have k2:=g5 x (by rw[hw];simp);omega
    refine fin _ S1 ⟨fun j b hj=>?_⟩ (fun s hs yL=>g3 s hs (by omega)) (fun Φ1 E1' he=>⟨by simp,.inr (.inl ⟨rfl,he.symm,by rw[he];exact hw⟩)⟩) g1;rw[g3 _ (by omega) (by omega),g4 _ (by omega)];exact uX.at_ j b hj
variable {H:zBh}
theorem zUR(jL:zGH P o)(S:St w0 U Φ0 nt hv a w e Φ rv E L){d:ON}(hd:∀ x,d=some x->x<nt){f:FuncId}{ps:List PV}{vs:Array Value}(hr:zBa w Φ (zBb w rv E) ps vs.toList [])
  (h:(zOK H d f ps).run o e=some e'):Callable P f/\Calls P f vs w fun en w''=>∃ u,en = .returned u/\Fr w0 U Φ0 nt hv (a.put d u) w'' e':=by
 have hZ:=hr.length;obtain⟨rv1,E1,L1,S1,_,h2,_⟩:=zMm ps vs.toList 0 S hr;have hpv:∀ (j:Nat) (p:PV),ps[j]? = some p->∃ v,vs.toList[j]? = some v:=fun j p hj=>by
  have:j<ps.length:=(bf.1 hj).1;exact⟨_,bk (by omega)⟩
 simp only[zOK] at h;obtain⟨e2,rv2,E2,L2,bs,h3,S2,h4,h5,h6,_⟩:=zG9 ps (H f).mode 0 S1 (fun j p hj=>by
  obtain⟨v,yI⟩:=hpv j p hj;have:=h2 j p v hj yI;exact⟨this.1,this.2.2⟩) h
 have yj:∀ i,i<bs.length->vs[i]? = some (rv2 (zAa+i)):=by
  intro i hi;obtain⟨p,hp⟩:∃ p,ps[i]? = some p:=⟨_,bk (by omega)⟩;obtain⟨v,yI⟩:=hpv i p hp;have:=h2 i p v hp yI;simp only[bL] at this;rw[h6,this.2.1];simpa using yI
 have hvsz:vs.size=bs.length:=by rw[h4,<- hZ];simp
 obtain⟨as,g1,g2,g3⟩:=zIC S2 bs (H f).mode 0 h5 h3;rcases zPt jL S2 hd (vs:=vs) (by rw[hvsz,g2]) (fun i hi=>yj i (by omega)) (fun i x hx=>by simpa using g3 i x hx) g1 with h7|h7
 ·obtain⟨as',e3,Φ3,E3,L3,k1,S3,k2,k3,_⟩:=zKT bs (H f).mode 0 S2 h5 h7;rcases zPt jL S3 hd (vs:=vs) (by rw[hvsz,k2]) (fun i hi=>yj i (by omega)) (fun i x hx=>by simpa using k3 i x hx) k1 with h8|h8
  ·cases h8
  ·exact h8
 ·exact h7
end
end Go.Eng
namespace Go.Eng
open Go
def zT5(P:Program)(o:Oper)(a:Act)(w:World)(K:Act->World->Prop):Prop :=
 match(execOp a.eval o).run P w with
 |.ok (.value v) w'=>K (a.put o.dst v) w'|.ok .skip w'=>K (a.put o.dst undef) w'|.ok (.enter f args) w'=>Calls P f args w' fun en w''=>∃ u,en = .returned u/\K (a.put o.dst u) w''
 |_=>False
def zTQ:Op->Bool
 |.defer _=>true|_=>false
theorem zXp{P:Program}{o:Oper}{a:Act}{w:World}{K:Act->World->Prop}{n:Nat}{ro:ON}{Q:Exit->Act->World->Prop}(hd:zTQ o.op=false)(h:zT5 P o a w K):o.wpIn {Fence.wide with round:=ro} n P a w K Q:=by
 refine⟨fun _ _=>trivial,?_⟩;rw[Oper.semAt_eq ro a.eval o (fun c hc=>by rw[hc] at hd;cases hd)];simp only[zT5] at h;split at h
 ·rename_i v w' hr;rw[hr];exact h
 ·rename_i w' hr;rw[hr];exact h
 ·rename_i f args w' hr;rw[hr];refine⟨fun h=>(by cases h),?_⟩;have h1:CallsIn Fence.wide (n-1) P f args w' _:=callsIn_wide.2 h;refine CallsIn.mono (F:={Fence.wide with round:=ro}) ?_ (R:=fun en w''=>∃ u,en = .returned u/\K (a.put o.dst u) w'') (fun en w'' v6=>?_)
  ·exact h1
  ·obtain⟨u,rfl,hk⟩:=v6;exact hk
 ·exact h.elim
def zTd(P:Program)(nt:Nat):Oper->Bool:=fun o=>
 (match o.dst with|some d=>blt d nt|none=>true) &&
 match o.op with
 |.move x|.assign x|.nilCheck x|.unOp _ _ x|.box _ x|.load _ x|.fieldAddr _ x _|.field _ x _=>zAZ nt x|.pick c a b=>zAZ nt c&&zAZ nt a&&zAZ nt b|.alloc _=>true|.build _ ps|.buildSlice _ _ ps=>ps.toList.all fun x=>zAZ nt x.2
 |.store _ a x=>o.dst.isNone&&zAZ nt a&&zAZ nt x|.binOp _ _ x y _=>zAZ nt x&&zAZ nt y|.convert s _ x=>(P.underlying s).isSome&&zAZ nt x|.makeFunc _ fs cs=>fs.toList.all (zAZ nt)&&cs.toList.all (zAZ nt)|.makeMap _ _=>true|.makeSlice _ l c=>zAZ nt l&&zAZ nt c|.slice _ x lo hi mx=>zAZ nt x&&(match lo with|some y=>zAZ nt y|none=>true)&&(match hi with|some y=>zAZ nt y|none=>true)&&(match mx with|some y=>zAZ nt y|none=>true)
 |.indexAddr _ x i|.index _ x i=>zAZ nt x&&zAZ nt i|.lookup _ m x _=>zAZ nt m&&zAZ nt x|.mapUpdate _ m x y=>o.dst.isNone&&zAZ nt m&&zAZ nt x&&zAZ nt y|.mapEntry _ m x=>zAZ nt m&&zAZ nt x|.entryStore _ m s x=>o.dst.isNone&&zAZ nt m&&zAZ nt s&&zAZ nt x|.panic _|.makeInterface .. => true|.extract (.tmp s) _=>blt s nt
 | .call c=>c.args.toList.all (zAZ nt)&&(match c.callee with
  |.builtin b=>match b with
   |.append|.copy=>beq c.argTypes.size 2|.len|.max|.min=>true|.clear=>blt 0 c.argTypes.size|_=>false
  |.value f=>zAZ nt f|_=>false)
 |_=>false
def zE3 (P : Program) : Prop := ∀ (f : FuncId) (fn : Func), P.funcs[f]? = some fn -> (fn.name == "runtime.NumGoroutine") = false
section
variable {P:Program} {H:zBh} {w0 w:World} {U Φ0 Φ:Nat->Prop} {nt:Nat} {hv:Hid} {a:Act} {e e':Env} {rv:Nat->Value} {E:Nat->PV} {L:Nat->LN} {orc:zAM}
theorem zAU{o:Oper}{K:Act->World->Prop}{v:Value}{w':World}(h:(execOp a.eval o).run P w = .ok (.value v) w')(hk:K (a.put o.dst v) w'):zT5 P o a w K:=by
 simp only[zT5,h];exact hk
theorem zYo (jL:zGH P orc) (hnm:zE3 P) (S:St w0 U Φ0 nt hv a w e Φ rv E L) (hb:zBz E) {o:Oper} (yE:zTd P nt o=true) {fz tk nl:Bool} (h:(opM P H fz tk nl o).run orc e=some e') :
    zT5 P o a w fun a' w'=>Fr w0 U Φ0 nt hv a' w' e':=by
  obtain⟨dst,op,type,pos,after,guard⟩:=o;simp only[zTd,bb] at yE;obtain⟨vp,yE⟩:=yE;have hd:∀ x,dst=some x->x<nt:=by
    intro x hx;subst hx;exact zCh vp
  have all:∀ {xs:List Operand},xs.all (zAZ nt)=true->∀ x∈xs,zAZ nt x=true:=fun h=>bj.1 h;cases op<;>simp only[opM] at h<;>try (cases h;done)
  case move x=>exact zAU (by simp[execOp]) (zWX S hb hd yE h)
  case assign x=>
    cases hft:fz&&tk with
    | true =>
      rw[hft] at h;exact zAU (by simp[execOp]) (zTf S hb hd yE h)
    | false =>
      rw[hft] at h;exact zAU (by simp[execOp]) (zSA S hb hd yE h)
  case pick c x y=>
    simp only[bb] at yE;obtain⟨t,h1,h2⟩:=zXf S hb hd yE.1.1 yE.1.2 yE.2 h;exact zAU (by simp[execOp,asBool,h1]) h2
  case alloc t=>
    obtain⟨v,w',h1,h2⟩:=zUw S hb hd h;exact zAU (by simp[execOp,h1]) h2
  case box t x=>
    obtain⟨v,w',h1,h2⟩:=zYV S hb hd yE h;exact zAU (by simp[execOp,h1]) h2
  case build t ps=>
    obtain⟨v,h1,h2⟩:=zVz S hb hd (bj.1 yE) h;exact zAU (by simp only[execOp,bo,h1,bh,bx]) h2
  case buildSlice t n ps=>
    obtain⟨v,w',h1,h2⟩:=zL8 S hb hd (bj.1 yE) h;exact zAU (by simp only[execOp,bo,h1,bh,bx]) h2
  case load t x=>
    obtain⟨v,h1,h2⟩:=zR5 S hb hd yE h;exact zAU (by simp[execOp,h1]) h2
  case store t x y=>
    simp only[bb,dD] at yE;obtain⟨⟨rfl,hx⟩,hy⟩:=yE;obtain⟨w',h1,h2⟩:=zVp S hb hx hy h;simp only[zT5,execOp,bo,h1,bh,bx,Act.put];exact h2
  case nilCheck x=>
    obtain⟨h1,h2⟩:=zXT S hb hd yE h;refine zAU (v:=a.eval x) (w':=w) ?_ h2;simp only[execOp];revert h1;generalize a.eval x=v;intro h1;split<;>first|(exact h1.elim)|rfl
  case binOp op t x y ty=>
    simp only[bb] at yE;obtain⟨v,h1,h2⟩:=zXU S hb hd yE.1 yE.2 h;exact zAU (by simp only[execOp,bo] at h1 ⊢;simp only[h1];rfl) h2
  case unOp op t x=>
    obtain⟨v,h1,h2⟩:=zZn (P:=P) S hb hd yE h;exact zAU (by simp[execOp,h1]) h2
  case convert s t x=>
    simp only[bb] at yE;obtain⟨v,h1,h2⟩:=zXK S hb hd yE.1 yE.2 h;exact zAU (by simp[execOp,h1]) h2
  case makeFunc f fs cs=>
    simp only[bb] at yE;cases f<;>try (cases h;done)
    exact zAU (by simp[execOp,Instr.makeFunc]) (zWk S hb hd (all yE.1) (all yE.2) h)
  case makeMap t r=>
    cases r with
    |some r=>cases h
    | none =>
      obtain⟨v,w',h1,h2⟩:=zQI (P:=P) (t:=t) S hb hd h;exact zAU (by simp[execOp,h1]) h2
  case makeSlice t l c=>
    simp only[bb] at yE;obtain⟨v,w',h1,h2⟩:=zMw S hb hd yE.1 yE.2 h;exact zAU (by simp[execOp,h1]) h2
  case slice t x lo hi mx=>
    simp only[bb] at yE;obtain⟨v,h1,h2⟩:=zUI S hb hd yE.1.1.1 (fun y hy=>by subst hy;exact yE.1.1.2) (fun y hy=>by subst hy;exact yE.1.2) (fun y hy=>by subst hy;exact yE.2) h;exact zAU (by simp[execOp,h1]) h2
  case fieldAddr t x i=>
    obtain⟨v,h1,h2⟩:=zNV S hb hd yE h;exact zAU (by simp[execOp,h1]) h2
  case field t x i=>
    obtain⟨v,h1,h2⟩:=zU3 S hb hd yE h;exact zAU (by simp[execOp,h1]) h2
  case indexAddr t x i=>
    simp only[bb] at yE;obtain⟨v,h1,h2⟩:=zNI S hb hd yE.1 yE.2 h;exact zAU (by simp[execOp,h1]) h2
  case index t x i=>
    simp only[bb] at yE;obtain⟨v,h1,h2⟩:=zUO S hb hd yE.1 yE.2 h;exact zAU (by simp[execOp,h1]) h2
  case lookup t m x ok=>
    simp only[bb] at yE;obtain⟨v,h1,h2⟩:=zR3 S hb hd yE.1 yE.2 h;exact zAU (by simp[execOp,h1]) h2
  case mapUpdate t m x y=>
    simp only[bb,dD] at yE;obtain⟨⟨⟨rfl,hm⟩,hx⟩,hy⟩:=yE;obtain⟨w',h1,h2⟩:=zKI S hb hm hx hy h;simp only[zT5,execOp,bo,h1,bh,bx,Act.put];exact h2
  case mapEntry t m x=>
    simp only[bb] at yE;obtain⟨v,w',h1,h2⟩:=zL3 S hb hd yE.1 yE.2 h;simp only[zT5,execOp,bo,h1,bh,bx];exact h2
  case entryStore t m s x=>
    simp only[bb,dD] at yE;obtain⟨⟨⟨rfl,hm⟩,hs⟩,hx⟩:=yE;obtain⟨w',h1,h2⟩:=zJv (P:=P) (t:=t) S hb hm hs hx h;simp only[zT5,execOp,bo,Act.put];rw[h1];exact h2
  case extract x i=>
    cases x<;>try (cases h;done)
    obtain⟨v,h1,h2⟩:=zQ9 (P:=P) S hb hd (zCh yE) h;exact zAU (by simp[execOp,h1]) h2
  case call c=>
    simp only[bb] at yE;obtain⟨yP,yc⟩:=yE;obtain⟨callee,args,argTypes⟩:=c;replace yP:∀ x∈args.toList,zAZ nt x=true:=bj.1 yP;simp only[zKq] at h
    cases callee with
    |invoke r m=>cases h
    | value f =>
      simp only at h yc yP;obtain⟨g,h1,hg⟩:=zBC S yc h;cases g<;>simp only[zVf] at h1<;>try (cases h1;done)
      case func g fs cs=>
        obtain⟨ps,h2,y6⟩:=zIc S yP h1;obtain⟨_,us,vs,hgv,wH,yj⟩:=hg;have hr:zBa w Φ (zBb w rv E) (fs++ps++cs) (us++args.map a.eval++vs).toList []:=by
          have:=(wH.append y6).append yj;simpa using this
        obtain⟨⟨fn,kq,y1⟩,ku⟩:=zUR jL S hd hr h2;have yA:(execOp a.eval ⟨dst,.call ⟨.value f,args,argTypes⟩,type,pos,after,guard⟩).run P w = .ok (.enter g (us++args.map a.eval++vs)) w:=by
          have hn:=hnm g fn kq;have qK:¬ fn.body=none:=by intro hb;rw[hb] at y1;cases y1
          have wG : ¬ fn.name = "runtime.NumGoroutine" := by simpa using hn
          simp[execOp,Go.resolve,hgv,Deferred.ofValue,invoke,callFunc,kq,qK,wG]
        simp only[zT5,yA];exact ku
    | builtin b =>
      simp only at h yc yP;have yA:∀ v w',(builtin b argTypes type (args.map fun|.const _=>true|_=>false) (args.map a.eval)).run P w = .ok (.value v) w'->(execOp a.eval ⟨dst,.call ⟨.builtin b,args,argTypes⟩,type,pos,after,guard⟩).run P w = .ok (.value v) w':=by
        intro v w' hr;simp only[execOp,Go.resolve,bo,bx,bh,invoke];exact hr
      cases b<;>simp only at yc<;>try (cases yc;done)
      case len=>
        obtain⟨v,h1,h2⟩:=zX2 (ty:=type) S hb hd yP h;exact zAU (yA v w (by simp[builtin,h1])) h2
      case max=>
        obtain⟨v,h1,h2⟩:=zYA (ty:=type) S hb hd yP h;exact zAU (yA v w (by simp[builtin,h1])) h2
      case min=>
        obtain⟨v,h1,h2⟩:=zYP (ty:=type) S hb hd yP h;exact zAU (yA v w (by simp[builtin,h1])) h2
      case append=>
        have yG:=bc yc;obtain⟨t,t2,rfl⟩:∃ t t2,argTypes=#[t,t2]:=by
          match argTypes,yG with
          |⟨[t,t2]⟩,_=>exact⟨t,t2,rfl⟩
        have hax:∃ x y,args=#[x,y]:=by
          obtain⟨l⟩:=args;simp only[zBB] at h
          match l,h with
          |[x,y],_=>exact⟨x,y,rfl⟩|[],h=>cases h|[_],h=>cases h|_::_::_::_,h=>cases h
        obtain⟨x,y,rfl⟩:=hax;obtain⟨v,w',h1,h2⟩:=zRR (ty:=type) S hb hd (yP x (by simp)) (yP y (by simp)) h;exact zAU (yA v w' (by simp only[builtin,bo,fu,bM,d4,h1,bh,bx])) h2
      case clear=>
        obtain⟨t,ts,rfl⟩:∃ t ts,argTypes=(t::ts).toArray:=by
          match argTypes,yc with
          |⟨t::ts⟩,_=>exact⟨t,ts,rfl⟩
        obtain⟨x,rfl⟩:∃ x,args=#[x]:=by
          obtain⟨l⟩:=args
          match l,h with
          |[x],_=>exact⟨x,rfl⟩|[],h=>simp only[zBB] at h;cases h|_::_::_,h=>simp only[zBB] at h;cases h
        obtain⟨w',h1,h2⟩:=zUa (ty:=type) S hb hd (yP x (by simp)) h;exact zAU (yA _ w' (by simp only[builtin,bo,fu,bM,d4,h1,bh,bx])) h2
      case copy=>
        have yG:=bc yc;obtain⟨t,t2,rfl⟩:∃ t t2,argTypes=#[t,t2]:=by
          match argTypes,yG with
          |⟨[t,t2]⟩,_=>exact⟨t,t2,rfl⟩
        have hax:∃ x y,args=#[x,y]:=by
          obtain⟨l⟩:=args;simp only[zBB] at h
          match l,h with
          |[x,y],_=>exact⟨x,y,rfl⟩|[],h=>cases h|[_],h=>cases h|_::_::_::_,h=>cases h
        obtain⟨x,y,rfl⟩:=hax;obtain⟨v,w',h1,h2⟩:=zWr (ty:=type) S hb hd (yP x (by simp)) (yP y (by simp)) h;exact zAU (yA v w' (by simp only[builtin,bo,fu,bM,d4,h1,bh,bx])) h2
  all_goals first|(cases yE;done)|skip
end
end Go.Eng
namespace Go.Eng
open Go
def FF(ro:ON):Fence:={Fence.wide with round:=ro}
def zOs(P:Program)(nt:Nat)(ops:Array Oper):Bool:=ops.toList.all (zTd P nt)
def zDd:Code->Bool
 |.seq a b=>zDd a&&zDd b|.cond _ a b=>zDd a&&zDd b|.block _ b=>zDd b|.loop b=>zDd b|.scope b=>zDd b|.rangeFunc .. => false|_=>true
def zCT(P:Program)(nt:Nat):Code->Bool
 |.skip=>true|.region _ ops _=>zOs P nt ops|.seq a b=>zCT P nt a&&zCT P nt b|.cond c a b=>zAZ nt c&&zCT P nt a&&zCT P nt b|.block _ b=>zCT P nt b|.loop b=>zCT P nt b|.exit _=>true|.ret=>true|.label _=>true|.scope b=>zCT P nt b|.rangeFunc f ps a b=>zAZ nt f&&ps.toList.all (fun t=>blt t nt)&&zCT P nt a&&zCT P nt b&&zDd a&&zDd b
 |_=>false
def X.exit:X->Exit
 |.norm=>.normal|.ex id=>.exit id|.ret=>.ret
section
variable {P:Program} {H:zBh} {w0 w:World} {U Φ0 Φ:Nat->Prop} {nt:Nat} {hv:Hid} {a:Act} {e e':Env} {rv:Nat->Value} {E:Nat->PV} {L:Nat->LN} {orc:zAM} {ro:ON} {n:Nat} {Q:Exit->Act->World->Prop}
theorem zME{o:Oper}(h:zTd P nt o=true):zTQ o.op=false:=by
 obtain⟨dst,op,type,pos,after,guard⟩:=o;simp only[zTd,bb] at h;cases op<;>first|rfl|(cases h.2;done)
theorem zI4{o:Oper}(h:zTd P nt o=true):∀ x,o.dst=some x->x<nt:=by
 intro x hx;simp only[zTd,bb] at h;rw[hx] at h;exact zCh h.1
theorem zDY{ops:Array Oper}{i:Nat}{F:Fence}{K K':Act->World->Prop}(h:wpOpIn F n P ops Q i K a w)(hk:∀ a w,K a w->K' a w):wpOpIn F n P ops Q i K' a w:=wpOpIn_mono hk h
theorem zMh(jL:zGH P orc)(hnm:zE3 P){ops:Array Oper}(jF:zOs P nt ops=true)(hf:Fr w0 U Φ0 nt hv a w e){i:Nat}{o:Oper}(hi:ops[i]? = some o){fz tk nl:Bool}(h:(zFP P H ops fz tk nl o).run orc e=some e') :
  wpOpIn (FF ro) n P ops Q i (fun a' w'=>Fr w0 U Φ0 nt hv a' w' e') a w:=by
 obtain⟨Φ,rv,E,L,S,hb⟩:=hf;have yY:∀ (j:Nat) (x:Oper),ops[j]? = some x->zTd P nt x=true:=fun j x hx=>bj.1 jF x (by
  rw[<- bO] at hx;exact bG hx)
 have yE:=yY i o hi;have kO:=zI4 yE;simp only[wpOpIn,hi];simp only[zFP] at h
 have done:Region.wanted o (yielded ops a.tmps)=true->(opM P H fz tk nl o).run orc e=some e' ->
   (if Region.wanted o (yielded ops a.tmps) then o.wpIn (FF ro) n P a w (fun a' w'=>Fr w0 U Φ0 nt hv a' w' e') Q else(∀ f,o.about P w a.eval=some f->(FF ro).fn f)/\(fun a' w'=>Fr w0 U Φ0 nt hv a' w' e') (a.put o.dst undef) w):=by
  intro hw h;rw[if_pos hw];exact zXp (zME yE) (zYo jL hnm S hb yE h)
 have skip:Region.wanted o (yielded ops a.tmps)=false->(put o.dst .und).run orc e=some e' ->
   (if Region.wanted o (yielded ops a.tmps) then o.wpIn (FF ro) n P a w (fun a' w'=>Fr w0 U Φ0 nt hv a' w' e') Q else(∀ f,o.about P w a.eval=some f->(FF ro).fn f)/\(fun a' w'=>Fr w0 U Φ0 nt hv a' w' e') (a.put o.dst undef) w):=by
  intro hw h;rw[hw];exact⟨fun _ _=>trivial,zAE S hb kO h (p := .und) ⟨rfl,rfl⟩⟩
 cases hg:o.guard with
 |none=>
  rw[hg] at h;exact done (by simp[Region.wanted,hg]) h
 | some x =>
  obtain⟨j,want⟩:=x;rw[hg] at h;simp only at h
  cases hj:(ops[j]?).bind (·.dst) with
  |none=>rw[hj] at h;cases h
  | some t =>
   rw[hj] at h;simp only[PM.run] at h;have jv:t<nt:=by
    cases hoj:ops[j]? with
    |none=>rw[hoj] at hj;cases hj|some oj=>rw[hoj] at hj;exact zI4 (yY j oj hoj) t hj
   have yu:t<zAa:=bH jv (bF S.small (by decide));have hX:=S.conf.rep t;rw[S.env t yu] at hX;have htm:a.tmps[t]? = some (rv t):=by
    have h1:=S.tmps t jv;have h2:t<a.tmps.size:=by rw[S.size];exact jv
    rw[cU h2];simp only[Array.getD,h2,dite_true] at h1;rw[<- h1];rfl
   have kQ:yielded ops a.tmps j=match rv t with|.bool b=>some b|_=>none:=by
    simp only[yielded,hj,bd,htm];cases rv t<;>rfl
   revert h;cases hp:e.get t<;>intro h<;>try (cases h;done)
   case bool b=>
    simp only at h;have yI:rv t = .bool b:=by rw[hp] at hX;exact hX.1
    rw[yI] at kQ;simp only at kQ;split at h
    ·rename_i hbw;subst hbw;exact done (by simp[Region.wanted,hg,kQ]) h
    ·rename_i hbw;exact skip (by simp[Region.wanted,hg,kQ,hbw]) h
   case und=>
    have yI:rv t=undef:=by rw[hp] at hX;exact hX.1
    rw[yI] at kQ;exact skip (by simp only[Region.wanted,hg,kQ];rfl) h
theorem Fr.drop(hf:Fr w0 U Φ0 nt hv a w e)(l:LN):Fr w0 U Φ0 nt hv a w (e.drop l):=by
 obtain⟨Φ,rv,E,L,S,hb⟩:=hf;have hc:=S.conf.drop (fun s=>decide (s<zAa)&&zNd l s);refine⟨Φ,rv,_,_,S.turn hc (fun s hs=>?_) (fun _ _=>rfl) (fun d ps hd hp=>?_),fun g hg=>?_⟩
 ·rw[Env.get_drop,S.env s hs];simp[hs]
 ·by_cases h:(decide (d<zAa)&&zNd l d)=true
  ·simp only[h,if_true] at hp;cases hp
  ·simp only[h] at hp;exact⟨ps,hp,rfl⟩
 ·have:¬ g<zAa:=by omega
  simp[this,hb g hg]
end
end Go.Eng
namespace Go.Eng
open Go
section
variable {w0 w w' w1 w2:World} {U Φ0 Φ U1 Φ1 U2 Φ2:Nat->Prop} {nt:Nat} {hv:Hid} {a:Act} {e e':Env} {rv rv':Nat->Value} {E E':Nat->PV} {L L':Nat->LN}
theorem zBt{α:Type}{b:Bool}{x y:Option α}{r:α}(h:(bif b then x else y)=some r):(b=true/\x=some r)\/(b=false/\y=some r):=by
 cases b with
 |true=>exact .inl ⟨rfl,h⟩|false=>exact .inr ⟨rfl,h⟩
theorem zIK:∀ (p:PV),(zA2 p).heavy=false:=by
 intro p;induction p using PV.rec (motive_2:=fun ps=>zDj (zAt ps)=false) (motive_3:=fun _=>True) (motive_4:=fun _=>True)<;>first|trivial|rfl|skip
 all_goals simp_all[zA2,zAt,PV.heavy,zDj]
mutual
theorem zLr{f:PV->PV}(hf:∀ a,a.isWay=true->(f a).heavy=false):∀ (p:PV),p.heavy=false->(p.mapW f).heavy=false
 |.agg cs,h=>zG1 hf cs h|.tup cs,h=>zG1 hf cs h|.addr ..,_=>hf _ rfl|.bor ..,_=>hf _ rfl|.bsl ..,_=>hf _ rfl|.bmap ..,_=>hf _ rfl|.log ..,_=>hf _ rfl|.own ..,h=>h|.box _,h=>by cases h|.omap _,h=>h|.lock _,h=>by cases h|.bad,h=>h|.und,h=>h|.int ..,h=>h|.bool _,h=>h|.nilp,h=>h|.nilf,h=>h|.nilm,h=>h|.nn,h=>h|.nils _,h=>h|.sl _,h=>h|.ref _,h=>rfl|.map _,h=>h|.func ..,h=>rfl|.yld _,h=>h
theorem zG1{f:PV->PV}(hf:∀ a,a.isWay=true->(f a).heavy=false):∀ (ps:List PV),zDj ps=false->zDj (zCB f ps)=false
 |[],h=>h|p::ps,h=>by
  simp only[zDj,cD] at h;simp only[zCB,zDj,zLr hf p h.1,zG1 hf ps h.2,Bool.or_self]
end
theorem zRW(r:Nat)(pre:zA4)(q0:PV):∀ a:PV,a.isWay=true->(inl r pre q0 a).heavy=false:=by
 have at_:∀ {q:Option PV} {g:PV->PV},(∀ x,(g x).heavy=false)->(zFH q g).heavy=false:=by
  intro q g h;cases q<;>first|rfl|exact h _
 have h1:∀ i c sh x,(zDO i c sh x).heavy=false:=by
  intro i c sh x;simp only[zDO]
  repeat' split
  all_goals first|rfl|(cases (_:Bool)<;>rfl)|skip
  all_goals (rename_i h;revert h;intro _)
  all_goals first|(generalize (ble _ _&&_)=b;cases b<;>rfl)|(generalize PV.oneCell _=b;cases b<;>rfl)
 have h2:∀ lo n x,(zCl lo n x).heavy=false:=by
  intro lo n x;simp only[zCl];split
  ·generalize ble _ _=b;cases b<;>rfl
  ·rfl
 have h3:∀ i c sz ag m x,(zCH i c sz ag m x).heavy=false:=by
  intro i c sz ag m x;simp only[zCH]
  repeat' split
  all_goals first|rfl|skip
  generalize (zCA _ _ _ _&&_)=b;cases b<;>rfl
 have h4:∀ x,(zE7 x).heavy=false:=by intro x;cases x<;>rfl
 intro a ha;cases a<;>first|(cases ha;done)|skip
 case addr=>simp only[inl];generalize zAT _ _ _ _=b;cases b<;>first|rfl|exact at_ (h1 _ _ _)
 case bor=>simp only[inl];generalize zAT _ _ _ _=b;cases b<;>first|rfl|exact at_ (h2 _ _)
 case bsl=>simp only[inl];generalize zAT _ _ _ _=b;cases b<;>first|rfl|exact at_ (h3 _ _ _ _ _)
 case bmap=>simp only[inl];generalize zAT _ _ _ _=b;cases b<;>first|rfl|exact at_ h4
 case log=>rfl
theorem zJJ:∀ (R:LN) {e ef:Env} {Φ:Nat->Prop} {E:Nat->PV} {L:Nat->LN},St w0 U Φ0 nt hv a w e Φ rv E L->zBz E->zEK R e=some ef ->
  ∃ Φ' E' L',St w0 U Φ0 nt hv a w ef Φ' rv E' L'/\zBz E'/\(∀ b,Φ b->Φ' b)/\(∀ b,Φ' b->Φ b\/∃ r∈R,b∈L r)/\(∀ r∈R,∀ b∈L r,Φ' b)/\∀ s,∀ b∈L' s,b∈L s
 |[],e,ef,Φ,E,L,S,hb,h=>by
  simp only[zEK,ba] at h;subst h;exact⟨Φ,E,L,S,hb,fun _ h=>h,fun _ h=>.inl h,fun _ h=>(by cases h),fun _ _ h=>h⟩
 | r :: R, e,ef,Φ,E,L,S,hb,h=>by
  simp only[zEK] at h;rcases zBt h with⟨hr,h⟩|⟨_,h⟩
  ·have hr:=zCh hr
   cases hf:e.frz r [] with
   |none=>rw[hf] at h;cases h
   | some e1 =>
    rw[hf] at h;simp only at h;obtain⟨q0,root,hl,hn,hm,yY⟩:=Env.frz_eq hf;have yF:=zBQ hl;have hE:=S.env r hr;obtain⟨k1,k2⟩:=zB0 (zFx q0).1 (zFx q0).2 hm;obtain⟨nv,Li,L1,h1,h2,h3,h4⟩:=S.conf.ice (fun _=>false) hr (pre:=[]) (q:=q0) (root':=root) (by rw[hE];exact yF) (by rw[hE];exact hn) (by rw[hE];exact hm) k1;have hq:q0=E r:=by simp only[zAC,ba] at hn;rw[hE,hn]
    have uN:root=zA2 q0:=by simp only[zAz,ba] at hm;exact hm.symm
    have uJ:Li=L r:=by
     simp only[zA3,ba,bw] at h1;rw[<- h1.1,hq] at h2;exact Rep.uniq _ _ _ _ h2 (by rw[show E r=(E r).unlock from(by rw[hE];exact yF.symm)];exact zCf (S.conf.rep r))
    have hL1r:L1 r=[]:=by
     have:=h4.rep r;simp only[hr,true_or,if_true] at this;refine zDy _ _ _ ?_ this;rw[uN];have hh:=zIK q0;exact zLr (zRW r [] q0) _ hh
    have S1:St w0 U Φ0 nt hv a w e1 (fun b=>Φ b\/b∈Li) rv (fun s=>if s<zAa\/False then(if s=r then root else E s).mapW (inl r [] q0) else E s) L1:=by
     refine S.turn (by simpa using h4) (fun s hs=>?_) (fun _ _=>rfl) (fun d ps hd hp=>?_)
     ·simp only[hs,true_or,if_true];rw[yY s];by_cases yW:s=r
      ·subst yW;simp
      ·rw[if_neg yW,if_neg yW,S.env s hs]
     ·have vI:d<zAa:=by simp only[zAa];omega
      simp only[vI,true_or,if_true] at hp;obtain⟨ps',h5,h6⟩:=zEg (zS5 r [] q0) hp;by_cases js:d=r
      ·rw[if_pos js] at h5;rw[h5] at k2;cases k2
      ·rw[if_neg js] at h5;exact⟨ps',h5,h6⟩
    have y8:zBz fun s=>if s<zAa\/False then(if s=r then root else E s).mapW (inl r [] q0) else E s:=by
     intro g hg;have:¬ g<zAa:=by omega
     simp[this,hb g hg]
    obtain⟨Φ',E',L',g1,g2,g3,g4,g5,g6⟩:=zJJ R S1 y8 h;have yg:∀ s,∀ b∈L1 s,b∈L s:=by
     intro s b kN;by_cases yW:s=r
     ·subst yW;rw[hL1r] at kN;cases kN
     ·rw[h3 s yW] at kN;exact kN
    refine⟨Φ',E',L',g1,g2,fun b hb=>g3 b (.inl hb),fun b hb=>?_,fun t ht b jz=>?_,fun s b kN=>yg s b (g6 s b kN)⟩
    ·rcases g4 b hb with(h5|h5)|⟨t,ht,h5⟩
     ·exact .inl h5
     ·exact .inr ⟨r,by simp,by rw[<- uJ];exact h5⟩
     ·exact .inr ⟨t,by simp[ht],yg t b h5⟩
    ·by_cases htr:t=r
     ·subst htr;exact g3 b (.inr (by rw[uJ];exact jz))
     ·rcases bv.1 ht with h5|h5
      ·exact absurd h5 htr
      ·exact g5 t h5 b (by rw[h3 t htr];exact jz)
  ·cases h
theorem Fr.ice{R:LN}(hf:Fr w0 U Φ0 nt hv a w e):Fr w0 U Φ0 nt hv a w (zXJ R e):=by
 simp only[zXJ]
 cases h:zEK R e with
 |none=>exact hf|some ef=>
  obtain⟨Φ,rv,E,L,S,hb⟩:=hf;obtain⟨Φ',E',L',S',yJ,_⟩:=zJJ R S hb h;exact⟨Φ',rv,E',L',S',yJ⟩
end
end Go.Eng
namespace Go.Eng
open Go
theorem zEb{r:Nat}{pre:zA4}{p:PV}(h:∀ x∈p.ways,zAT r pre x.1 x.2=false):p.mapW (lose r pre)=p:=by
 refine zD2 p (fun a ha hw hn=>?_) (fun _ _=>rfl);have hx:∀ x,a.ways=[x]->zAT r pre x.1 x.2=false:=fun x hx=>h x (hw x (by rw[hx];simp));cases a<;>first|(cases ha;done)|(exact absurd rfl (hn _ _))|skip
 case addr r' q i c sh=>have:=hx _ rfl;simp only[zAT] at this;simp only[lose,this];rfl
 case bor r' q z lo n=>have:=hx _ rfl;simp only[zAT] at this;simp only[lose,this];rfl
 case bsl r' q i c sz ag n=>have:=hx _ rfl;simp only[zAT] at this;simp only[lose,this];rfl
 case bmap r' q=>have:=hx _ rfl;simp only[zAT] at this;simp only[lose,this];rfl
theorem zCP{r:Nat}{keep:List zA4}{p:PV}(h:∀ x∈p.ways,(beq x.1 r && !x.2.isEmpty)=false):p.mapW (zBY r keep)=p:=by
 refine zD2 p (fun a ha hw hn=>?_) (fun _ _=>rfl);have hx:∀ x,a.ways=[x]->(beq x.1 r && !x.2.isEmpty)=false:=fun x hx=>h x (hw x (by rw[hx];simp));have key:∀ r' (q:zA4),(beq r' r && !q.isEmpty)=false->(beq r' r && !(q.isEmpty||keep.any q.isPrefixOf))=false:=by
  intro r' q h
  cases hb:beq r' r with
  |false=>rfl|true=>rw[hb] at h;simp only[cR,bB] at h ⊢;rw[h];rfl
 cases a<;>first|(cases ha;done)|(exact absurd rfl (hn _ _))|skip
 case addr r' q i c sh=>simp only[zBY,key _ _ (hx _ rfl)];rfl
 case bor r' q z lo n=>simp only[zBY,key _ _ (hx _ rfl)];rfl
 case bsl r' q i c sz ag n=>simp only[zBY,key _ _ (hx _ rfl)];rfl
 case bmap r' q=>simp only[zBY,key _ _ (hx _ rfl)];rfl
theorem zF3{r:Nat}{pre:zA4}{q0 p:PV}(h:∀ x∈p.ways,zAT r pre x.1 x.2=false):p.mapW (inl r pre q0)=p:=by
 refine zD2 p (fun a ha hw hn=>?_) (fun _ _=>rfl);have hx:∀ x,a.ways=[x]->zAT r pre x.1 x.2=false:=fun x hx=>h x (hw x (by rw[hx];simp));cases a<;>first|(cases ha;done)|(exact absurd rfl (hn _ _))|rfl|skip
 case addr r' q i c sh=>have:=hx _ rfl;simp only[inl,this];rfl
 case bor r' q z lo n=>have:=hx _ rfl;simp only[inl,this];rfl
 case bsl r' q i c sz ag n=>have:=hx _ rfl;simp only[inl,this];rfl
 case bmap r' q=>have:=hx _ rfl;simp only[inl,this];rfl
theorem zIk{x q q':PV}{c:Nat}(hq:x.cells[c]? = some q)(hg:q'.isAgg=q.isAgg\/q'.isAgg=false):(zAF x c [q']).cells=x.cells.set c q':=by
 rcases hg with hg|hg
 ·exact zNP hq hg
 ·cases hx:x.isAgg with
  |true=>
   cases x<;>simp[PV.isAgg] at hx;rename_i cs;have hc:c<cs.length:=(bf.1 hq).1;show cs.take c++[q']++cs.drop (c+1)=cs.set c q'
   rw[cg,if_pos hc];simp
  |false=>
   have j5:x.cells=[x]:=by cases x<;>first|rfl|simp[PV.isAgg] at hx
   rw[j5] at hq ⊢;have hc:c=0:=by have:=(bf.1 hq).1;simp at this;exact this
   subst hc;have he:zAF x 0 [q']=q':=by cases x<;>first|rfl|simp[PV.isAgg] at hx
   rw[he];cases q'<;>first|rfl|simp[PV.isAgg] at hg
theorem zHd{p q q' p':PV}{i c:Nat}(hc:Eng.child p i c=some q)(hp:zCd p i c q'=some p') :
  ∃ xs x,zA9 p=some xs/\xs[i]? = some x/\x.cells[c]? = some q/\zA9 p'=some (xs.set i (zAF x c [q']))/\((∃ sz,p = .own sz xs/\p' = .own sz (xs.set i (zAF x c [q'])))\/(∃ y,p = .box y/\i=0/\x=y/\p' = .box (zAF y c [q']))\/∃ cs,p = .agg cs/\i=0/\x = .agg cs/\p' = .agg (cs.take c++[q']++cs.drop (c+1))):=by
 simp only[Eng.child] at hc;simp only[zCd] at hp
 cases hh:zA9 p with
 |none=>rw[hh] at hc;cases hc
 | some xs =>
  rw[hh] at hc hp;simp only[bd] at hc hp
  cases hx:xs[i]? with
  |none=>rw[hx] at hc;cases hc
  | some x =>
   rw[hx] at hc hp;simp only[bd] at hc hp;have hi:i<xs.length:=(bf.1 hx).1;refine⟨xs,x,rfl,hx,hc,?_⟩;cases p<;>simp only[zA9] at hh<;>try cases hh
   ·rename_i cs;have jY:i=0:=by simpa using hi
    subst jY;simp only[bJ,ba] at hx;subst hx;simp only[zAF,cy,zAK,ba] at hp ⊢;subst hp;refine⟨?_,.inr (.inr ⟨cs,?_⟩)⟩<;>first|(simp[zA9];done)|rfl|exact⟨rfl,rfl⟩|exact⟨rfl,rfl,rfl,rfl⟩
   ·rename_i sz;simp only[zAK,ba] at hp;subst hp;refine⟨?_,.inl ⟨sz,?_⟩⟩<;>first|(simp[zA9];done)|rfl|exact⟨rfl,rfl⟩|exact⟨rfl,rfl,rfl,rfl⟩
   ·rename_i q0;have jY:i=0:=by simpa using hi
    subst jY;simp only[bJ,ba] at hx;subst hx;simp only[cy,zAK,ba] at hp ⊢;subst hp;refine⟨?_,.inr (.inl ⟨q0,?_⟩)⟩<;>first|(simp[zA9];done)|rfl|exact⟨rfl,rfl⟩|exact⟨rfl,rfl,rfl,rfl⟩
theorem zQV{p q q' p':PV}{i c:Nat}(hc:Eng.child p i c=some q)(hg:q'.isAgg=q.isAgg\/q'.isAgg=false)(hp:zCd p i c q'=some p') :
  Eng.child p' i c=some q'/\∀ i2 c2,(i2,c2)≠(i,c)->Eng.child p' i2 c2=Eng.child p i2 c2:=by
 obtain⟨xs,x,hh,hx,hcx,qV,_⟩:=zHd hc hp;have yf:=zIk hcx hg;have hi:i<xs.length:=(bf.1 hx).1;have yO:c<x.cells.length:=(bf.1 hcx).1;refine⟨?_,fun i2 c2 hI=>?_⟩
 ·simp only[Eng.child,qV,bd,ci hi,yf,ci yO]
 ·simp only[Eng.child,qV,hh,bd];by_cases uB:i2=i
  ·subst uB;rw[ci hi,hx];simp only[bd,yf];rw[dd (by intro e;exact hI (by rw[e]))]
  ·rw[dd (by omega)]
theorem zNA(r:Nat)(pre:zA4)(a:PV):zHh r pre (.box a) = .addr r pre 0 0 (if a.isAgg then some a.cells.length else none):=by
 cases a<;>rfl
theorem zEL{p q:PV}(h:zCo p q=true)(r:Nat)(pre:zA4):zHh r pre p=zHh r pre q:=by
 cases p<;>cases q<;>simp only[zCo] at h<;>try (cases h;done)
 ·simp only[bb] at h;have h1:=bc h.1;have h2:=bc h.2;subst h1;simp only[zHh,h2]
 ·rename_i a b;simp only[bb,beq_iff_eq] at h;have h2:=bc h.2;have h3:=h.1;rw[zNA,zNA,h3,h2]
 ·rfl
theorem zUs {v:PV} (hv:v.isAgg=false):∀ (P:zA4) (x q':PV),P≠[]->zAz (fun _=>some v) x P=some q'->x.isAgg=false->zCo x q'=true
 |[],_,_,hn,_,_=>absurd rfl hn
 | (i, c) :: P,x,q',_,h,hx=>by
  rw[zBA] at h
  cases hc:Eng.child x i c with
  |none=>rw[hc] at h;cases h
  | some y =>
   rw[hc] at h;simp only[bd] at h
   cases hm:zAz (fun _=>some v) y P with
   |none=>rw[hm] at h;cases h
   | some y' =>
    rw[hm] at h;simp only[bd] at h;obtain⟨xs,z,_,hz,kV,_,⟨sz,rfl,rfl⟩|⟨w,rfl,rfl,rfl,rfl⟩|⟨cs,rfl,_⟩⟩:=zHd hc h
    ·simp[zCo]
    ·have u9:y'.isAgg=y.isAgg\/y'.isAgg=false:=by
      cases P with
      |nil=>simp only[zAz,ba] at hm;subst hm;exact .inr hv
      | cons a P =>
       rw[zBA] at hm
       cases jJ:Eng.child y a.1 a.2 with
       |none=>rw[jJ] at hm;cases hm|some y2=>
        rw[jJ] at hm;simp only[bd] at hm
        cases vG:zAz (fun _=>some v) y2 P with
        |none=>rw[vG] at hm;cases hm|some y3=>rw[vG] at hm;simp only[bd] at hm;exact .inl (zEd hm)
     have yf:=zIk kV u9;simp only[zCo,yf,fS,cz,ig,beq_iff_eq]
     cases uD:z.isAgg with
     |true=>cases z<;>first|(cases uD;done)|rfl
     |false=>
      have j5:z.cells=[z]:=by cases z<;>first|rfl|simp[PV.isAgg] at uD
      rw[j5] at kV;have wF:c=0:=by have:=(bf.1 kV).1;simp at this;exact this
      subst wF;simp at kV;subst kV;have he:zAF z 0 [y']=y':=by cases z<;>first|rfl|simp[PV.isAgg] at uD
      rw[he];rcases u9 with h|h
      ·rw[h,uD]
      ·rw[h]
    ·cases hx
theorem zEs{r i:Nat}{pre:zA4}:∀ (l1 l2:List PV) (k:Nat),(∀ (j:Nat) (nm:zA4),(l1[j]?).map (zHh r nm)=(l2[j]?).map (zHh r nm))->zBR r pre i k l1=zBR r pre i k l2
 |[],[],_,_=>rfl|[],y::ys,_,h=>by have:=h 0 [];simp at this|x::xs,[],_,h=>by have:=h 0 [];simp at this|x::xs,y::ys,k,h=>by
  have h0:=h 0 (pre++[(i,k)]);simp only[bJ,bu,ba] at h0;simp only[zBR,h0];rw[zEs xs ys (k+1) fun j nm=>by have:=h (j+1) nm;simpa using this]
theorem zSh{s:Nat}{p q:PV}(h:zCo p q=true):view s p=view s q:=by
 have:=zEL h s [];cases p<;>cases q<;>simp only[zCo] at h<;>first|(cases h;done)|exact this
theorem zXv{v:PV}(hv:v.isAgg=false):∀ (P:zA4) (x x':PV),zAz (fun _=>some v) x P=some x'->x'.isAgg=x.isAgg\/x'.isAgg=false
 |[],x,x',h=>by simp only[zAz,ba] at h;subst h;exact .inr hv
 | (i,c)::P,x,x',h=>by
  rw[zBA] at h
  cases jJ:Eng.child x i c with
  |none=>rw[jJ] at h;cases h|some y2=>
   rw[jJ] at h;simp only[bd] at h
   cases vG:zAz (fun _=>some v) y2 P with
   |none=>rw[vG] at h;cases h|some y3=>rw[vG] at h;simp only[bd] at h;exact .inl (zEd h)
theorem zHF{s:Nat}{F:PV->Option PV}{P:zA4}{p q:PV}(h:zAz F p P=some q)(hk:zAH p q P=true):view s p=view s q:=by
 by_cases ha:(∃ cs,p = .agg cs)/\(∃ ds,q = .agg ds)/\P≠[]
 ·obtain⟨⟨cs,rfl⟩,⟨ds,rfl⟩,hP⟩:=ha
  match P,hP with
  | (i, c)::rest,_ =>
   rw[zBA] at h
   cases hc:Eng.child (.agg cs) i c with
   |none=>rw[hc] at h;cases h
   | some x =>
    rw[hc] at h;simp only[bd] at h
    cases hm:zAz F x rest with
    |none=>rw[hm] at h;cases h
    | some x' =>
     rw[hm] at h;simp only[bd] at h;obtain⟨xs,z,hh,hz,kV,qV,⟨sz,h1,_⟩|⟨w,h1,_⟩|⟨cs',h1,rfl,rfl,h2⟩⟩:=zHd hc h
     ·cases h1
     ·cases h1
     ·cases h1;have kV:cs[c]? = some x:=kV;have yO:c<cs.length:=(bf.1 kV).1;have yf:cs.take c++[x']++cs.drop (c+1)=cs.set c x':=by rw[cg,if_pos yO];simp
      simp only[PV.agg.injEq] at h2;rw[yf] at h2;subst h2;simp only[zAH,kV,ci yO] at hk;show agg _=agg _
      congr 1;refine zEs _ _ _ fun j nm=>?_;by_cases hj:c=j
      ·subst hj;rw[ci yO,kV];simp only[bu];rw[zEL hk]
      ·rw[dd hj]
 ·have:zAH p q P=zCo p q:=by
   cases p<;>cases q<;>first|rfl|skip
   cases P with
   |nil=>rfl|cons a P=>exact absurd ⟨⟨_,rfl⟩,⟨_,rfl⟩,by simp⟩ ha
  rw[this] at hk;exact zSh hk
def zTR(r:Nat)(nm:zA4)(p:PV)(Q:zA4)(i c n:Nat):Option (Bool×List PV) :=
 match zAC p Q with
 | some q=>match zBm q with
  |some xs=>match xs[i]? with
   |some x=>bif ble (c+n) x.cells.length then some (x.isAgg,zBR r nm i c ((x.cells.drop c).take n)) else none|none=>none
  |none=>none
 |none=>none
theorem zIw {v:PV} (hv:v.isAgg=false) {r:Nat} {nm:zA4} {i c n:Nat}:∀ (P Q:zA4) (p p':PV),zAz (fun _=>some v) p P=some p' ->
  ((P.isPrefixOf Q=false/\∀ x,zAC p P=some x->zCo x v=true)\/(P≠[]/\P.dropLast.isPrefixOf Q=false))->zTR r nm p' Q i c n=zTR r nm p Q i c n
 |[],Q,p,p',h,hc=>by
  rcases hc with hc|hc
  ·simp at hc
  ·exact absurd rfl hc.1
 | (i0, c0) :: P,Q,p,p',h,kW=>by
  rw[zBA] at h
  cases hc:Eng.child p i0 c0 with
  |none=>rw[hc] at h;cases h
  | some x =>
   rw[hc] at h;simp only[bd] at h
   cases hm:zAz (fun _=>some v) x P with
   |none=>rw[hm] at h;cases h
   | some x' =>
    rw[hm] at h;simp only[bd] at h;have hg:=zXv hv P x x' hm;obtain⟨y7,vc⟩:=zQV hc hg h
    cases Q with
    | cons y Q =>
     obtain⟨j,d⟩:=y;simp only[zTR,zCk];by_cases hjd:(j,d)=(i0,c0)
     ·cases hjd;rw[y7,hc];simp only[bd];refine zIw hv P Q x x' hm ?_;rcases kW with⟨h1,h2⟩|⟨_,h2⟩
      ·refine .inl ⟨by simpa using h1,fun y hy=>h2 y (by rw[zCk,hc];exact hy)⟩
      ·cases P with
       |nil=>simp at h2|cons a P=>exact .inr ⟨by simp,by simpa using h2⟩
     ·rw[vc j d hjd]
    | nil =>
     have hview:∀ nm,zHh r nm x'=zHh r nm x:=by
      intro nm;have yk:zCo x x'=true->zHh r nm x'=zHh r nm x:=fun h=>(zEL h r nm).symm
      cases P with
      |nil=>
       simp only[zAz,ba] at hm;subst hm;rcases kW with⟨_,h2⟩|⟨_,h2⟩
       ·exact yk (h2 x (by rw[zCk,hc];rfl))
       ·simp at h2
      | cons a P =>
       cases hx:x.isAgg with
       |false=>exact yk (zUs hv _ x x' (by simp) hm hx)
       | true =>
        have ue:x'.isAgg=true:=by
         rw[zBA] at hm
         cases jJ:Eng.child x a.1 a.2 with
         |none=>rw[jJ] at hm;cases hm|some y2=>
          rw[jJ] at hm;simp only[bd] at hm
          cases vG:zAz (fun _=>some v) y2 P with
          |none=>rw[vG] at hm;cases hm|some y3=>rw[vG] at hm;simp only[bd] at hm;rw[zEd hm,hx]
        cases x<;>first|(cases hx;done)|skip
        cases x'<;>first|(cases ue;done)|rfl
     obtain⟨xs,z,hh,hz,kV,qV,hform⟩:=zHd hc h;have yf:=zIk kV hg;have yO:c0<z.cells.length:=(bf.1 kV).1;have kb:(zAF z c0 [x']).isAgg=z.isAgg:=by
      cases uD:z.isAgg with
      |true=>cases z<;>first|(cases uD;done)|rfl
      |false=>
       have j5:z.cells=[z]:=by cases z<;>first|rfl|simp[PV.isAgg] at uD
       rw[j5] at kV;have wF:c0=0:=by have:=(bf.1 kV).1;simp at this;exact this
       subst wF;simp at kV;subst kV;have he:zAF z 0 [x']=x':=by cases z<;>first|rfl|simp[PV.isAgg] at uD
       rw[he];rcases hg with h|h
       ·rw[h,uD]
       ·exact h
     have hvc:zBR r nm i c (((zAF z c0 [x']).cells.drop c).take n)=zBR r nm i c ((z.cells.drop c).take n):=by
      rw[yf];refine zEs _ _ _ fun j nm=>?_;simp only[ck,cf];split
      ·by_cases hj:c0=c+j
       ·subst hj;rw[ci yO,kV];simp only[bu,hview]
       ·rw[dd hj]
      ·rfl
     have elem:(match(xs.set i0 (zAF z c0 [x']))[i]? with|some x=>bif ble (c+n) x.cells.length then some (x.isAgg,zBR r nm i c ((x.cells.drop c).take n)) else none|none=>none) =
       (match xs[i]? with|some x=>bif ble (c+n) x.cells.length then some (x.isAgg,zBR r nm i c ((x.cells.drop c).take n)) else none|none=>none):=by
      have hi:i0<xs.length:=(bf.1 hz).1;by_cases uB:i0=i
      ·subst uB;rw[ci hi,hz];simp only;rw[hvc,kb,yf,fS]
      ·rw[dd uB]
     simp only[zTR,zAC];rcases hform with⟨sz,rfl,rfl⟩|⟨w,rfl,rfl,rfl,rfl⟩|⟨cs,rfl,rfl,rfl,rfl⟩
     ·simp only[zBm];exact elem
     ·simp only[zA9,ba] at hh;subst hh;simp only[zBm];simpa using elem
     ·simp only[zBm]
abbrev zC3:=Nat->PV
def PM.does(o:zAM):PM->zC3->Tok->zC3->Prop
 |.ok,g,t,g'=>t={}/\g'=g|.fail,_,_,_=>False|.view s k,g,t,g'=>∃ t',t=Tok.join {look:=[s]} t'/\(k (Eng.view s (g s))).does o g t' g'|.get s k,g,t,g'=>(g s).isLock=false/\∃ t',t=Tok.join {rd:=[s]} t'/\(k (g s)).does o g t' g'|.set s p k,g,t,g'=>∃ t',t=Tok.join (zFI s (g s) p) t'/\k.does o (upd g s p) t' g'|.cells r pre i c n k,g,t,g'=>∃ a qs t',zAo r (g r) pre i c n=some (a,qs)/\t=Tok.join {cel:=[(r,pre)]} t'/\(k a qs).does o g t' g'|.deep r pre k,g,t,g'=>∃ q t',zAC (g r).unlock pre=some q/\t=Tok.join {rd:=[r]} t'/\(k q).does o g t' g'|.wcells r pre i c qs k,g,t,g'=>∃ root t',zBO (g r) pre i c qs=some root/\t=Tok.join (zBo r [] (zAH (g r) root pre) (g r) root) t'/\k.does o (upd g r root) t' g'
 | .wnode r pre q k,g,t,g'=>(g r).isLock=false/\∃ root t',zAz (fun _=>some q) (g r) pre=some root /\
   t=Tok.join (zBo r pre.dropLast (zAH (g r) root pre&&(pre.isEmpty || !q.isAgg)) (g r) root) t'/\k.does o (upd g r root) t' g'
 |.kill r pre k,g,t,g'=>∃ D t',(∀ s,s∉D->∀ x∈(g s).ways,zAT r pre x.1 x.2=false)/\t=Tok.join (zAX D g (fun s=>(g s).mapW (lose r pre)) [r] []) t'/\k.does o (fun s=>(g s).mapW (lose r pre)) t' g'
 | .frz r pre k,g,t,g'=>(g r).isLock=false/\∃ D t' q root,(∀ s,s∉D->∀ x∈(g s).ways,zAT r pre x.1 x.2=false)/\r∈D/\zAC (g r) pre=some q/\zAz (fun _=>some (zA2 q)) (g r) pre=some root /\
   t=Tok.join (zAX D g (fun s=>(upd g r root s).mapW (inl r pre q)) [r] []) t'/\k.does o (fun s=>(upd g r root s).mapW (inl r pre q)) t' g'
 |.killEx r keep k,g,t,g'=>∃ D t',(∀ s,s∉D->∀ x∈(g s).ways,(beq x.1 r && !x.2.isEmpty)=false)/\t=Tok.join (zAX D g (fun s=>(g s).mapW (zBY r keep)) [] [r]) t'/\k.does o (fun s=>(g s).mapW (zBY r keep)) t' g'
 |.forget _ _,_,t,_=>t.all=true|.call f args hid k,g,t,g'=>∃ v hO,o f args hid=some (v,hO)/\(k v hO).does o g t g'
theorem zXD{a b:LN}{x:Nat}(ha:x∈a)(hb:x∈b):zRF a b=true:=bN.2 ⟨x,ha,bN.2 ⟨x,hb,cz x⟩⟩
theorem zEa{a b:LN}(h:zRF a b=false){x:Nat}(ha:x∈a):x∉b:=fun hb=>by rw[zXD ha hb] at h;cases h
structure Off (a b:Tok):Prop where
 all:a.all=false
 look:∀ s∈a.wr,s∉b.look
 rd:∀ s∈a.wr,s∉b.rd
 cel:∀ s∈a.wr,∀ c∈b.cel,c.1≠s
 wr:∀ s∈a.wr,s∉b.wr
 inn:∀ s∈a.wr,∀ c∈b.inn,c.1≠s
 ird:∀ w∈a.inn,w.1∉b.rd
 iinn:∀ w∈a.inn,∀ c∈b.inn,c.1≠w.1
 icel:∀ w∈a.inn,∀ c∈b.cel,c.1=w.1->w.2.isPrefixOf c.2=false
 ways:∀ s∈a.kills,∀ x∈b.ways,x.1≠s
 waysIn:∀ s∈a.killsIn,∀ x∈b.ways,x.1=s->x.2.isEmpty=true
theorem zEt{l:List (Nat×zA4)}{x:Nat×zA4}(h:x∈l):x.1∈zMR l:=bT.2 ⟨x,h,rfl⟩
theorem zLl{a b:Tok}(h:zQc a b=false):Off a b:=by
 simp only[zQc,cD] at h;obtain⟨⟨⟨⟨⟨⟨⟨⟨⟨⟨h1,h2⟩,h3⟩,h4⟩,h5⟩,h6⟩,h7⟩,h8⟩,h9⟩,jZ⟩,vg⟩:=h;refine⟨h1,fun s hs=>zEa h2 hs,fun s hs=>zEa h3 hs,fun s hs c hc e=>?_,fun s hs=>zEa h5 hs,fun s hs c hc e=>?_,fun w hw=>zEa h7 (zEt hw),fun w hw c hc e=>?_,fun w hw c hc e=>?_,fun s hs x hx e=>?_,fun s hs x hx e=>?_⟩
 ·subst e;exact zEa h4 hs (zEt hc)
 ·subst e;exact zEa h6 hs (zEt hc)
 ·exact zEa h8 (zEt hw) (by rw[<- e];exact zEt hc)
 ·have:=cV.1 h9 w hw;have:=(cV (p:=fun c:Nat×zA4=>beq w.1 c.1&&w.2.isPrefixOf c.2)).1 (by simpa using this) c hc;simp only[e,cz,cR,cu] at this;exact this
 ·subst e;exact zEa jZ hs (zEt hx)
 ·cases he:x.2.isEmpty with
  |true=>rfl|false=>exact absurd (by rw[<- e];exact zEt (bP.2 ⟨hx,by rw[he];rfl⟩)) (zEa vg hs)
theorem Off.left{a a' b:Tok}(h:Off (Tok.join a a') b):Off a b:=by
 have ha:=h.all;simp only[Tok.join,cD] at ha
 exact⟨ha.1,fun s hs=>h.look s (bt _ hs),fun s hs=>h.rd s (bt _ hs),fun s hs=>h.cel s (bt _ hs),fun s hs=>h.wr s (bt _ hs),fun s hs=>h.inn s (bt _ hs),
  fun s hs=>h.ird s (bt _ hs),fun s hs=>h.iinn s (bt _ hs),fun s hs=>h.icel s (bt _ hs),fun s hs=>h.ways s (bt _ hs),fun s hs=>h.waysIn s (bt _ hs)⟩
theorem Off.left'{a a' b:Tok}(h:Off (Tok.join a a') b):Off a' b:=by
 have ha:=h.all;simp only[Tok.join,cD] at ha
 exact⟨ha.2,fun s hs=>h.look s (bn _ hs),fun s hs=>h.rd s (bn _ hs),fun s hs=>h.cel s (bn _ hs),fun s hs=>h.wr s (bn _ hs),fun s hs=>h.inn s (bn _ hs),
  fun s hs=>h.ird s (bn _ hs),fun s hs=>h.iinn s (bn _ hs),fun s hs=>h.icel s (bn _ hs),fun s hs=>h.ways s (bn _ hs),fun s hs=>h.waysIn s (bn _ hs)⟩
theorem Off.right{a b b':Tok}(h:Off a (Tok.join b b')):Off a b :=
 ⟨h.all,fun s hs hm=>h.look s hs (bt _ hm),fun s hs hm=>h.rd s hs (bt _ hm),fun s hs c hm=>h.cel s hs c (bt _ hm),fun s hs hm=>h.wr s hs (bt _ hm),fun s hs c hm=>h.inn s hs c (bt _ hm),
  fun s hs hm=>h.ird s hs (bt _ hm),fun s hs c hm=>h.iinn s hs c (bt _ hm),fun s hs c hm=>h.icel s hs c (bt _ hm),fun s hs x hm=>h.ways s hs x (bt _ hm),fun s hs x hm=>h.waysIn s hs x (bt _ hm)⟩
theorem Off.right'{a b b':Tok}(h:Off a (Tok.join b b')):Off a b' :=
 ⟨h.all,fun s hs hm=>h.look s hs (bn _ hm),fun s hs hm=>h.rd s hs (bn _ hm),fun s hs c hm=>h.cel s hs c (bn _ hm),fun s hs hm=>h.wr s hs (bn _ hm),fun s hs c hm=>h.inn s hs c (bn _ hm),
  fun s hs hm=>h.ird s hs (bn _ hm),fun s hs c hm=>h.iinn s hs c (bn _ hm),fun s hs c hm=>h.icel s hs c (bn _ hm),fun s hs x hm=>h.ways s hs x (bn _ hm),fun s hs x hm=>h.waysIn s hs x (bn _ hm)⟩
section
variable {o:zAM} {g g' g1 g2:zC3} {t:Tok} {s r:Nat}
theorem zDQ:∀ {q:PM} {g g':zC3} {t:Tok},q.does o g t g'->t.all=false->s∉t.wr->(∀ c∈t.inn,c.1≠s)->g' s=g s:=by
 intro q
 induction q with
 |ok=>intro g g' t h _ _ _;rw[h.2]|fail=>intro g g' t h;cases h|view s0 k ih=>intro g g' t ⟨t',e,h⟩ ha hw hi;subst e;exact ih _ h ha hw hi|get s0 k ih=>intro g g' t ⟨_,t',e,h⟩ ha hw hi;subst e;exact ih _ h ha hw hi|set s0 p k ih=>
  intro g g' t ⟨t',e,h⟩ ha hw hi;subst e;simp only[Tok.join,zFI,bg,not_or,bl,co,cY] at ha hw hi;rw[ih h ha hw.2 hi,zAf hw.1]
 |cells r0 pre i c n k ih=>intro g g' t ⟨a,qs,t',_,e,h⟩ ha hw hi;subst e;exact ih _ _ h ha hw hi|deep r0 pre k ih=>intro g g' t ⟨q,t',_,e,h⟩ ha hw hi;subst e;exact ih _ h ha hw hi
 | wcells r0 pre i c qs k ih =>
  intro g g' t ⟨root,t',_,e,h⟩ ha hw hi;subst e;have hI:s≠r0:=by
   rintro rfl
   cases hk:zAH (g s) root pre with
   |true=>exact hi (s,[]) (by simp[Tok.join,zBo,hk]) rfl|false=>exact hw (by simp[Tok.join,zBo,hk])
  rw[ih h (by simpa[Tok.join,zBo] using ha) (fun hm=>hw (bn _ hm)) (fun c hm=>hi c (bn _ hm)),zAf hI]
 | wnode r0 pre q k ih =>
  intro g g' t ⟨_,root,t',_,e,h⟩ ha hw hi;subst e;have hI:s≠r0:=by
   rintro rfl
   cases hk:(zAH (g s) root pre&&(pre.isEmpty || !q.isAgg)) with
   |true=>exact hi (s,pre.dropLast) (by simp only[Tok.join,zBo,hk];simp) rfl|false=>exact hw (by simp only[Tok.join,zBo,hk];simp)
  rw[ih h (by simpa[Tok.join,zBo] using ha) (fun hm=>hw (bn _ hm)) (fun c hm=>hi c (bn _ hm)),zAf hI]
 |kill r0 pre k ih=>
  intro g g' t ⟨D,t',hD,e,h⟩ ha hw hi;subst e;simp only[Tok.join,zAX,bg,not_or,co,cY] at ha hw hi;rw[ih h ha hw.2 hi,zEb (hD s hw.1)]
 |frz r0 pre k ih=>
  intro g g' t ⟨_,D,t',q,root,hD,hr,_,_,e,h⟩ ha hw hi;subst e;simp only[Tok.join,zAX,bg,not_or,co,cY] at ha hw hi;rw[ih h ha hw.2 hi,zAf (by rintro rfl;exact hw.1 hr),zF3 (hD s hw.1)]
 |killEx r0 pre k ih=>
  intro g g' t ⟨D,t',hD,e,h⟩ ha hw hi;subst e;simp only[Tok.join,zAX,bg,not_or,co,cY] at ha hw hi;rw[ih h ha hw.2 hi,zCP (hD s hw.1)]
 |forget r0 k ih=>intro g g' t h ha;rw[show t.all=true from h] at ha;cases ha|call f args hid k ih=>intro g g' t ⟨v,hO,_,h⟩ ha hw hi;exact ih _ _ h ha hw hi
theorem zRl:∀ {q:PM} {g g':zC3} {t:Tok},q.does o g t g'->t.all=false->s∉t.wr->view s (g' s)=view s (g s):=by
 intro q
 induction q with
 |ok=>intro g g' t h _ _;rw[h.2]|fail=>intro g g' t h;cases h|view s0 k ih=>intro g g' t ⟨t',e,h⟩ ha hw;subst e;exact ih _ h ha hw|get s0 k ih=>intro g g' t ⟨_,t',e,h⟩ ha hw;subst e;exact ih _ h ha hw|set s0 p k ih=>
  intro g g' t ⟨t',e,h⟩ ha hw;subst e;simp only[Tok.join,zFI,bg,not_or,bl,co] at ha hw;rw[ih h ha hw.2,zAf hw.1]
 |cells r0 pre i c n k ih=>intro g g' t ⟨a,qs,t',_,e,h⟩ ha hw;subst e;exact ih _ _ h ha hw|deep r0 pre k ih=>intro g g' t ⟨q,t',_,e,h⟩ ha hw;subst e;exact ih _ h ha hw
 | wcells r0 pre i c qs k ih =>
  intro g g' t ⟨root,t',hr,e,h⟩ ha hw;subst e;rw[ih h (by simpa[Tok.join,zBo] using ha) (fun hm=>hw (bn _ hm))];by_cases hI:s=r0
  ·subst hI;rw[zAi]
   cases hk:zAH (g s) root pre with
   |false=>exact absurd (by simp[Tok.join,zBo,hk]) hw|true=>
    simp only[zBO] at hr;revert hr
    cases (zDR (g s) pre && !(zBE qs).isEmpty) with
    |true=>intro hr;cases hr|false=>intro hr;exact(zHF hr hk).symm
  ·rw[zAf hI]
 | wnode r0 pre q k ih =>
  intro g g' t ⟨_,root,t',hr,e,h⟩ ha hw;subst e;rw[ih h (by simpa[Tok.join,zBo] using ha) (fun hm=>hw (bn _ hm))];by_cases hI:s=r0
  ·subst hI;rw[zAi]
   cases hk:(zAH (g s) root pre&&(pre.isEmpty || !q.isAgg)) with
   |false=>exact absurd (by simp only[Tok.join,zBo,hk];simp) hw|true=>
    rw[bb] at hk;exact(zHF hr hk.1).symm
  ·rw[zAf hI]
 |kill r0 pre k ih=>
  intro g g' t ⟨D,t',hD,e,h⟩ ha hw;subst e;simp only[Tok.join,zAX,bg,not_or,co] at ha hw;rw[ih h ha hw.2,zEb (hD s hw.1)]
 |frz r0 pre k ih=>
  intro g g' t ⟨_,D,t',q,root,hD,hr,_,_,e,h⟩ ha hw;subst e;simp only[Tok.join,zAX,bg,not_or,co] at ha hw;rw[ih h ha hw.2,zAf (by rintro rfl;exact hw.1 hr),zF3 (hD s hw.1)]
 |killEx r0 pre k ih=>
  intro g g' t ⟨D,t',hD,e,h⟩ ha hw;subst e;simp only[Tok.join,zAX,bg,not_or,co] at ha hw;rw[ih h ha hw.2,zCP (hD s hw.1)]
 |forget r0 k ih=>intro g g' t h ha;rw[show t.all=true from h] at ha;cases ha|call f args hid k ih=>intro g g' t ⟨v,hO,_,h⟩ ha hw;exact ih _ _ h ha hw
theorem zMQ{p:PV}(h:p.isLock=false):p.unlock=p:=by cases p<;>first|rfl|cases h
theorem zKF{r:Nat}{p:PV}{pre:zA4}{i c n:Nat}:zAo r p pre i c n=zTR r pre p.unlock pre i c n:=rfl
theorem zKR{F:PV->Option PV}{p q:PV}{x:Nat×zA4}{pre:zA4}{i c:Nat}(h:zAz F p ((i,c)::pre)=some q):q.isLock=false:=by
 rw[zBA] at h
 cases hc:Eng.child p i c with
 |none=>rw[hc] at h;cases h
 | some y =>
  rw[hc] at h;simp only[bd] at h
  cases hm:zAz F y pre with
  |none=>rw[hm] at h;cases h|some y'=>
   rw[hm] at h;simp only[bd] at h;obtain⟨xs,z,_,hz,kV,_,⟨sz,rfl,rfl⟩|⟨w,rfl,rfl,rfl,rfl⟩|⟨cs,rfl,_,_,rfl⟩⟩:=zHd hc h<;>rfl
theorem zJd{r:Nat}{q root p:PV}{pre Q:zA4}(hl:p.isLock=false)(hr:zAz (fun _=>some q) p pre=some root)(hk:(zAH p root pre&&(pre.isEmpty || !q.isAgg))=true)(hp:pre.dropLast.isPrefixOf Q=false)(i c n:Nat) :
  zAo r root Q i c n=zAo r p Q i c n:=by
 rw[zKF,zKF,zMQ hl]
 cases pre with
 |nil=>simp at hp
 | cons x pre =>
  have hq:q.isAgg=false:=by
   rw[bb] at hk;have:=hk.2;simpa using this
  rw[zMQ (zKR (x:=(0,[])) hr)];exact zIw hq _ _ _ _ hr (.inr ⟨by simp,hp⟩)
theorem zQ3{Q:zA4}{i c n:Nat}:∀ {q:PM} {g g':zC3} {t:Tok},q.does o g t g'->t.all=false->s∉t.wr->(∀ w∈t.inn,s=w.1->w.2.isPrefixOf Q=false)->zAo s (g' s) Q i c n=zAo s (g s) Q i c n:=by
 intro q
 induction q with
 |ok=>intro g g' t h _ _ _;rw[h.2]|fail=>intro g g' t h;cases h|view s0 k ih=>intro g g' t ⟨t',e,h⟩ ha hw hi;subst e;exact ih _ h ha hw hi|get s0 k ih=>intro g g' t ⟨_,t',e,h⟩ ha hw hi;subst e;exact ih _ h ha hw hi|set s0 p k ih=>
  intro g g' t ⟨t',e,h⟩ ha hw hi;subst e;simp only[Tok.join,zFI,bg,not_or,bl,co,cY] at ha hw hi;rw[ih h ha hw.2 hi,zAf hw.1]
 |cells r0 pre i c n k ih=>intro g g' t ⟨a,qs,t',_,e,h⟩ ha hw hi;subst e;exact ih _ _ h ha hw hi|deep r0 pre k ih=>intro g g' t ⟨q,t',_,e,h⟩ ha hw hi;subst e;exact ih _ h ha hw hi
 | wcells r0 pre i c qs k ih =>
  intro g g' t ⟨root,t',_,e,h⟩ ha hw hi;subst e;have hI:s≠r0:=by
   rintro rfl
   cases hk:zAH (g s) root pre with
   |true=>have:=hi (s,[]) (by simp[Tok.join,zBo,hk]) rfl;simp at this|false=>exact hw (by simp[Tok.join,zBo,hk])
  rw[ih h (by simpa[Tok.join,zBo] using ha) (fun hm=>hw (bn _ hm)) (fun c hm=>hi c (bn _ hm)),zAf hI]
 | wnode r0 pre q k ih =>
  intro g g' t ⟨hl,root,t',hr,e,h⟩ ha hw hi;subst e;rw[ih h (by simpa[Tok.join,zBo] using ha) (fun hm=>hw (bn _ hm)) (fun c hm=>hi c (bn _ hm))];by_cases hI:s=r0
  ·subst hI;rw[zAi]
   cases hk:(zAH (g s) root pre&&(pre.isEmpty || !q.isAgg)) with
   |true=>exact zJd hl hr hk (hi (s,pre.dropLast) (by simp only[Tok.join,zBo,hk];simp) rfl) _ _ _|false=>exact absurd (by simp only[Tok.join,zBo,hk];simp) hw
  ·rw[zAf hI]
 |kill r0 pre k ih=>
  intro g g' t ⟨D,t',hD,e,h⟩ ha hw hi;subst e;simp only[Tok.join,zAX,bg,not_or,co,cY] at ha hw hi;rw[ih h ha hw.2 hi,zEb (hD s hw.1)]
 |frz r0 pre k ih=>
  intro g g' t ⟨_,D,t',q,root,hD,hr,_,_,e,h⟩ ha hw hi;subst e;simp only[Tok.join,zAX,bg,not_or,co,cY] at ha hw hi;rw[ih h ha hw.2 hi,zAf (by rintro rfl;exact hw.1 hr),zF3 (hD s hw.1)]
 |killEx r0 pre k ih=>
  intro g g' t ⟨D,t',hD,e,h⟩ ha hw hi;subst e;simp only[Tok.join,zAX,bg,not_or,co,cY] at ha hw hi;rw[ih h ha hw.2 hi,zCP (hD s hw.1)]
 |forget r0 k ih=>intro g g' t h ha;rw[show t.all=true from h] at ha;cases ha|call f args hid k ih=>intro g g' t ⟨v,hO,_,h⟩ ha hw hi;exact ih _ _ h ha hw hi
theorem zJl{D:LN}{ok:Nat×zA4->Prop}:∀ {q:PM} {g g':zC3} {t:Tok},q.does o g t g'->t.all=false->(∀ x∈t.ways,ok x)->(∀ s,s∉D->∀ x∈(g s).ways,ok x)->∀ s,s∉D->∀ x∈(g' s).ways,ok x:=by
 have put:∀ {g:zC3} {s0:Nat} {p:PV},(∀ x∈p.ways,ok x)->(∀ s,s∉D->∀ x∈(g s).ways,ok x)->∀ s,s∉D->∀ x∈(upd g s0 p s).ways,ok x:=by
  intro g s0 p hp hg s hs x hx;by_cases h:s=s0
  ·subst h;rw[zAi] at hx;exact hp x hx
  ·rw[zAf h] at hx;exact hg s hs x hx
 have turn:∀ {g g1:zC3} {D0:LN} {t:Tok} {ks ki:LN},(∀ x∈(Tok.join (zAX D0 g g1 ks ki) t).ways,ok x)->(∀ s,s∉D0->g1 s=g s)->(∀ s,s∉D->∀ x∈(g s).ways,ok x)->∀ s,s∉D->∀ x∈(g1 s).ways,ok x:=by
  intro g g1 D0 t ks ki hw h1 hg s hs x hx;by_cases h:s∈D0
  ·exact hw x (bt _ (cT.2 ⟨s,h,bn _ hx⟩))
  ·rw[h1 s h] at hx;exact hg s hs x hx
 intro q
 induction q with
 |ok=>intro g g' t h _ _ hg;rw[h.2];exact hg|fail=>intro g g' t h;cases h|view s0 k ih=>intro g g' t ⟨t',e,h⟩ ha hw hi;subst e;exact ih _ h ha hw hi|get s0 k ih=>intro g g' t ⟨_,t',e,h⟩ ha hw hi;subst e;exact ih _ h ha hw hi|set s0 p k ih=>
  intro g g' t ⟨t',e,h⟩ ha hw hi;subst e;exact ih h (by simpa[Tok.join,zFI] using ha) (fun x hx=>hw x (bn _ hx)) (put (fun x hx=>hw x (bt _ (bn _ hx))) hi)
 |cells r pre i c n k ih=>intro g g' t ⟨a,qs,t',_,e,h⟩ ha hw hi;subst e;exact ih _ _ h ha hw hi|deep r pre k ih=>intro g g' t ⟨q,t',_,e,h⟩ ha hw hi;subst e;exact ih _ h ha hw hi|wcells r pre i c qs k ih=>
  intro g g' t ⟨root,t',_,e,h⟩ ha hw hi;subst e;exact ih h (by simpa[Tok.join,zBo] using ha) (fun x hx=>hw x (bn _ hx)) (put (fun x hx=>hw x (bt _ (bn _ hx))) hi)
 |wnode r pre q k ih=>
  intro g g' t ⟨_,root,t',_,e,h⟩ ha hw hi;subst e;exact ih h (by simpa[Tok.join,zBo] using ha) (fun x hx=>hw x (bn _ hx)) (put (fun x hx=>hw x (bt _ (bn _ hx))) hi)
 |kill r pre k ih=>
  intro g g' t ⟨D0,t',hD,e,h⟩ ha hw hi;subst e;exact ih h (by simpa[Tok.join,zAX] using ha) (fun x hx=>hw x (bn _ hx)) (turn hw (fun s hs=>zEb (hD s hs)) hi)
 |frz r pre k ih=>
  intro g g' t ⟨_,D0,t',q,root,hD,hr,_,_,e,h⟩ ha hw hi;subst e;exact ih h (by simpa[Tok.join,zAX] using ha) (fun x hx=>hw x (bn _ hx)) (turn hw (fun s hs=>by rw[zAf (by rintro rfl;exact hs hr),zF3 (hD s hs)]) hi)
 |killEx r pre k ih=>
  intro g g' t ⟨D0,t',hD,e,h⟩ ha hw hi;subst e;exact ih h (by simpa[Tok.join,zAX] using ha) (fun x hx=>hw x (bn _ hx)) (turn hw (fun s hs=>zCP (hD s hs)) hi)
 |forget r k ih=>intro g g' t h ha;rw[show t.all=true from h] at ha;cases ha|call f args hid k ih=>intro g g' t ⟨v,hO,_,h⟩ ha hw hi;exact ih _ _ h ha hw hi
theorem zOL{α:Type}{f:Nat->α}{s:Nat}{x y:α}:upd (upd f s x) s y=upd f s y:=by funext t;simp only[upd];split<;>rfl
theorem zLQ{α:Type}{f:Nat->α}{s:Nat}:upd f s (f s)=f:=by
 funext u;simp only[upd];split
 ·rename_i e;rw[e]
 ·rfl
def mix(D:LN)(v g:zC3):zC3:=fun s=>if s∈D then v s else g s
theorem zBG{D:LN}{v g:zC3}{s:Nat}(h:s∈D):mix D v g s=v s:=if_pos h
theorem zA0{D:LN}{v g:zC3}{s:Nat}(h:s∉D):mix D v g s=g s:=if_neg h
theorem zJH{D:LN}{v g:zC3}{s:Nat}{p:PV}(h:s∉D):upd (mix D v g) s p=mix D v (upd g s p):=by
 funext u;by_cases hu:u=s
 ·subst hu;rw[zAi,zA0 h,zAi]
 ·rw[zAf hu];by_cases hd:u∈D
  ·rw[zBG hd,zBG hd]
  ·rw[zA0 hd,zA0 hd,zAf hu]
theorem zOG{g:zC3}{s:Nat}{p:PV}:upd g s p=mix [s] (fun _=>p) g:=by
 funext u;simp only[upd,mix,bl]
theorem zCN{D:LN}{g g' h h':zC3}{ks ki:LN}(h1:∀ s∈D,g s=h s)(h2:∀ s∈D,g' s=h' s):zAX D g g' ks ki=zAX D h h' ks ki:=by
 simp only[zAX];congr 1
 induction D with
 |nil=>rfl|cons d D ih=>
  simp only[fj];rw[h1 d (by simp),h2 d (by simp),ih (fun s hs=>h1 s (by simp[hs])) (fun s hs=>h2 s (by simp[hs]))]
structure Unseen (D:LN) (v g:zC3) (t:Tok):Prop where
 rd:∀ s∈D,s∉t.rd
 wr:∀ s∈D,s∉t.wr
 inn:∀ s∈D,∀ c∈t.inn,c.1≠s
 look:∀ s∈D,s∈t.look->view s (v s)=view s (g s)
 cel:∀ s∈D,∀ c∈t.cel,c.1=s->∀ i c' n,zAo s (v s) c.2 i c' n=zAo s (g s) c.2 i c' n
 kills:∀ s∈D,∀ k∈t.kills,∀ x∈(g s).ways,x.1≠k
 killsIn:∀ s∈D,∀ k∈t.killsIn,∀ x∈(g s).ways,x.1=k->x.2.isEmpty=true
theorem Unseen.rest{D:LN}{v g g':zC3}{a t:Tok}(h:Unseen D v g (Tok.join a t))(hg:∀ s∈D,g' s=g s):Unseen D v g' t :=
 ⟨fun s hs hm=>h.rd s hs (bn _ hm),fun s hs hm=>h.wr s hs (bn _ hm),fun s hs c hm=>h.inn s hs c (bn _ hm),fun s hs hm=>by rw[hg s hs];exact h.look s hs (bn _ hm),
  fun s hs c hm=>by rw[hg s hs];exact h.cel s hs c (bn _ hm),fun s hs k hm=>by rw[hg s hs];exact h.kills s hs k (bn _ hm),fun s hs k hm=>by rw[hg s hs];exact h.killsIn s hs k (bn _ hm)⟩
theorem zHN{r:Nat}{pre:zA4}{x:Nat×zA4}(h:x.1≠r):zAT r pre x.1 x.2=false:=by
 simp only[zAT]
 cases hb:beq x.1 r with
 |true=>exact absurd (bc hb) h|false=>rfl
theorem zWa{r:Nat}{x:Nat×zA4}(h:x.1=r->x.2.isEmpty=true):(beq x.1 r && !x.2.isEmpty)=false:=by
 cases hb:beq x.1 r with
 |true=>rw[h (bc hb)];rfl|false=>rfl
theorem zGo{D:LN}{v:zC3}:∀ {q:PM} {g g':zC3} {t:Tok},q.does o (mix D v g) t g'->t.all=false->Unseen D v g t->q.does o g t (mix D g g'):=by
 intro q
 induction q with
 |ok=>
  intro g g' t h _ _;refine⟨h.1,?_⟩;rw[h.2];funext s;by_cases hs:s∈D
  ·rw[zBG hs]
  ·rw[zA0 hs,zA0 hs]
 |fail=>intro g g' t h;cases h
 | view s0 k ih =>
  intro g g' t ⟨t',e,h⟩ ha hu;subst e;have hv:view s0 (mix D v g s0)=view s0 (g s0):=by
   by_cases hs:s0∈D
   ·rw[zBG hs];exact hu.look s0 hs (by simp[Tok.join])
   ·rw[zA0 hs]
  rw[hv] at h;exact⟨t',rfl,ih _ h ha (hu.rest fun _ _=>rfl)⟩
 |get s0 k ih=>
  intro g g' t ⟨yF,t',e,h⟩ ha hu;subst e;have hs:s0∉D:=fun hs=>hu.rd s0 hs (by simp[Tok.join]);rw[zA0 hs] at h yF;exact⟨yF,t',rfl,ih _ h ha (hu.rest fun _ _=>rfl)⟩
 | set s0 p k ih =>
  intro g g' t ⟨t',e,h⟩ ha hu;subst e;have hs:s0∉D:=fun hs=>hu.wr s0 hs (by simp[Tok.join,zFI]);rw[zA0 hs] at hu ⊢;rw[zJH hs] at h;have hg:∀ s∈D,upd g s0 p s=g s:=fun s hd=>zAf (by rintro rfl;exact hs hd);have:=ih h (by simpa[Tok.join,zFI] using ha) (hu.rest hg);refine⟨t',rfl,?_⟩;have he:mix D (upd g s0 p) g'=mix D g g':=by
   funext s;by_cases hd:s∈D
   ·rw[zBG hd,zBG hd,hg s hd]
   ·rw[zA0 hd,zA0 hd]
  rw[<- he];exact this
 | cells r0 pre i c n k ih =>
  intro g g' t ⟨a,qs,t',kX,e,h⟩ ha hu;subst e;have hv:zAo r0 (g r0) pre i c n=some (a,qs):=by
   by_cases hs:r0∈D
   ·rw[zBG hs] at kX;rw[<- hu.cel r0 hs (r0,pre) (by simp[Tok.join]) rfl];exact kX
   ·rw[zA0 hs] at kX;exact kX
  exact⟨a,qs,t',hv,rfl,ih _ _ h ha (hu.rest fun _ _=>rfl)⟩
 |deep r0 pre k ih=>
  intro g g' t ⟨q,t',hn,e,h⟩ ha hu;subst e;have hs:r0∉D:=fun hs=>hu.rd r0 hs (by simp[Tok.join]);rw[zA0 hs] at hn;exact⟨q,t',hn,rfl,ih _ h ha (hu.rest fun _ _=>rfl)⟩
 | wcells r0 pre i c qs k ih =>
  intro g g' t ⟨root,t',hn,e,h⟩ ha hu;subst e;have hs:r0∉D:=by
   intro hs
   cases vA:zAH (mix D v g r0) root pre with
   |true=>exact hu.inn r0 hs (r0,[]) (by simp[Tok.join,zBo,vA]) rfl|false=>exact hu.wr r0 hs (by simp[Tok.join,zBo,vA])
  rw[zA0 hs] at hn hu ha ⊢;rw[zJH hs] at h;have hg:∀ s∈D,upd g r0 root s=g s:=fun s hd=>zAf (by rintro rfl;exact hs hd);have:=ih h (by simpa[Tok.join,zBo] using ha) (hu.rest hg);refine⟨root,t',hn,rfl,?_⟩;have he:mix D (upd g r0 root) g'=mix D g g':=by
   funext s;by_cases hd:s∈D
   ·rw[zBG hd,zBG hd,hg s hd]
   ·rw[zA0 hd,zA0 hd]
  rw[<- he];exact this
 | wnode r0 pre q k ih =>
  intro g g' t ⟨yF,root,t',hn,e,h⟩ ha hu;subst e;have hs:r0∉D:=by
   intro hs
   cases vA:(zAH (mix D v g r0) root pre&&(pre.isEmpty || !q.isAgg)) with
   |true=>exact hu.inn r0 hs (r0,pre.dropLast) (by simp only[Tok.join,zBo,vA];simp) rfl|false=>exact hu.wr r0 hs (by simp only[Tok.join,zBo,vA];simp)
  rw[zA0 hs] at hn yF hu ha ⊢;rw[zJH hs] at h;have hg:∀ s∈D,upd g r0 root s=g s:=fun s hd=>zAf (by rintro rfl;exact hs hd);have:=ih h (by simpa[Tok.join,zBo] using ha) (hu.rest hg);refine⟨yF,root,t',hn,rfl,?_⟩;have he:mix D (upd g r0 root) g'=mix D g g':=by
   funext s;by_cases hd:s∈D
   ·rw[zBG hd,zBG hd,hg s hd]
   ·rw[zA0 hd,zA0 hd]
  rw[<- he];exact this
 | kill r0 pre k ih =>
  intro g g' t ⟨D0,t',hD,e,h⟩ ha hu;subst e;have yt:∀ s∈D0,s∉D:=fun s h0 hd=>hu.wr s hd (by simp[Tok.join,zAX,h0]);have hq:∀ s∈D,∀ x∈(g s).ways,zAT r0 pre x.1 x.2=false:=fun s hd x hx=>zHN (hu.kills s hd r0 (by simp[Tok.join,zAX]) x hx);have hg:∀ s∈D,(fun s=>(g s).mapW (lose r0 pre)) s=g s:=fun s hd=>zEb (hq s hd);have hm:(fun s=>(mix D v g s).mapW (lose r0 pre))=mix D v (fun s=>(g s).mapW (lose r0 pre)):=by
   funext s;by_cases hd:s∈D
   ·have:=hD s (fun h0=>yt s h0 hd);rw[zBG hd] at this;rw[zBG hd,zBG hd,zEb this]
   ·rw[zA0 hd,zA0 hd]
  have ht:=zCN (D:=D0) (g:=mix D v g) (g':=fun s=>(mix D v g s).mapW (lose r0 pre)) (h:=g) (h':=fun s=>(g s).mapW (lose r0 pre)) (ks:=[r0]) (ki:=[]) (fun s h0=>zA0 (yt s h0)) (fun s h0=>by simp only[zA0 (yt s h0)]);rw[hm] at h;rw[ht] at hu ha ⊢;have:=ih h (by simpa[Tok.join,zAX] using ha) (hu.rest hg);refine⟨D0,t',fun s h0 x hx=>?_,rfl,?_⟩
  ·by_cases hd:s∈D
   ·exact hq s hd x hx
   ·exact hD s h0 x (by rw[zA0 hd];exact hx)
  ·have he:mix D (fun s=>(g s).mapW (lose r0 pre)) g'=mix D g g':=by
    funext s;by_cases hd:s∈D
    ·rw[zBG hd,zBG hd];exact hg s hd
    ·rw[zA0 hd,zA0 hd]
   rw[<- he];exact this
 | frz r0 pre k ih =>
  intro g g' t ⟨yF,D0,t',q,root,hD,hr,hn,hmn,e,h⟩ ha hu;subst e;have yt:∀ s∈D0,s∉D:=fun s h0 hd=>hu.wr s hd (by simp[Tok.join,zAX,h0]);have ur:=yt r0 hr;have hq:∀ s∈D,∀ x∈(g s).ways,zAT r0 pre x.1 x.2=false:=fun s hd x hx=>zHN (hu.kills s hd r0 (by simp[Tok.join,zAX]) x hx);have hg:∀ s∈D,(fun s=>(upd g r0 root s).mapW (inl r0 pre q)) s=g s:=fun s hd=>by
   simp only;rw[zAf (by rintro rfl;exact ur hd),zF3 (hq s hd)]
  have hm:(fun s=>(upd (mix D v g) r0 root s).mapW (inl r0 pre q))=mix D v (fun s=>(upd g r0 root s).mapW (inl r0 pre q)):=by
   rw[zJH ur];funext s;by_cases hd:s∈D
   ·have:=hD s (fun h0=>yt s h0 hd);rw[zBG hd] at this;rw[zBG hd,zBG hd,zF3 this]
   ·rw[zA0 hd,zA0 hd]
  have ht:=zCN (D:=D0) (g:=mix D v g) (g':=fun s=>(upd (mix D v g) r0 root s).mapW (inl r0 pre q)) (h:=g) (h':=fun s=>(upd g r0 root s).mapW (inl r0 pre q)) (ks:=[r0]) (ki:=[]) (fun s h0=>zA0 (yt s h0)) (fun s h0=>by simp only[zJH ur,zA0 (yt s h0)]);rw[hm] at h;rw[ht] at hu ha ⊢;rw[zA0 ur] at yF hn hmn;have:=ih h (by simpa[Tok.join,zAX] using ha) (hu.rest hg);refine⟨yF,D0,t',q,root,fun s h0 x hx=>?_,hr,hn,hmn,rfl,?_⟩
  ·by_cases hd:s∈D
   ·exact hq s hd x hx
   ·exact hD s h0 x (by rw[zA0 hd];exact hx)
  ·have he:mix D (fun s=>(upd g r0 root s).mapW (inl r0 pre q)) g'=mix D g g':=by
    funext s;by_cases hd:s∈D
    ·rw[zBG hd,zBG hd];exact hg s hd
    ·rw[zA0 hd,zA0 hd]
   rw[<- he];exact this
 | killEx r0 pre k ih =>
  intro g g' t ⟨D0,t',hD,e,h⟩ ha hu;subst e;have yt:∀ s∈D0,s∉D:=fun s h0 hd=>hu.wr s hd (by simp[Tok.join,zAX,h0]);have hq:∀ s∈D,∀ x∈(g s).ways,(beq x.1 r0 && !x.2.isEmpty)=false:=fun s hd x hx=>zWa (hu.killsIn s hd r0 (by simp[Tok.join,zAX]) x hx);have hg:∀ s∈D,(fun s=>(g s).mapW (zBY r0 pre)) s=g s:=fun s hd=>zCP (hq s hd);have hm:(fun s=>(mix D v g s).mapW (zBY r0 pre))=mix D v (fun s=>(g s).mapW (zBY r0 pre)):=by
   funext s;by_cases hd:s∈D
   ·have:=hD s (fun h0=>yt s h0 hd);rw[zBG hd] at this;rw[zBG hd,zBG hd,zCP this]
   ·rw[zA0 hd,zA0 hd]
  have ht:=zCN (D:=D0) (g:=mix D v g) (g':=fun s=>(mix D v g s).mapW (zBY r0 pre)) (h:=g) (h':=fun s=>(g s).mapW (zBY r0 pre)) (ks:=[]) (ki:=[r0]) (fun s h0=>zA0 (yt s h0)) (fun s h0=>by simp only[zA0 (yt s h0)]);rw[hm] at h;rw[ht] at hu ha ⊢;have:=ih h (by simpa[Tok.join,zAX] using ha) (hu.rest hg);refine⟨D0,t',fun s h0 x hx=>?_,rfl,?_⟩
  ·by_cases hd:s∈D
   ·exact hq s hd x hx
   ·exact hD s h0 x (by rw[zA0 hd];exact hx)
  ·have he:mix D (fun s=>(g s).mapW (zBY r0 pre)) g'=mix D g g':=by
    funext s;by_cases hd:s∈D
    ·rw[zBG hd,zBG hd];exact hg s hd
    ·rw[zA0 hd,zA0 hd]
   rw[<- he];exact this
 |forget r0 k ih=>intro g g' t h ha;rw[show t.all=true from h] at ha;cases ha|call f args hid k ih=>intro g g' t ⟨v',hO,ho,h⟩ ha hu;exact⟨v',hO,ho,ih _ _ h ha hu⟩
theorem zE5{D:LN}{v g:zC3}{p q:Tok}(h1:Off p q)(h2:Off q p)(hD:∀ s∈D,s∈p.wr)(hw:∀ s∈D,∀ x∈(g s).ways,x∈p.ways):Unseen D v g q :=
 ⟨fun s hs=>h1.rd s (hD s hs),fun s hs=>h1.wr s (hD s hs),fun s hs=>h1.inn s (hD s hs),fun s hs hl=>absurd hl (h1.look s (hD s hs)),fun s hs c hc e=>absurd e (h1.cel s (hD s hs) c hc),
  fun s hs k hk x hx=>h2.ways k hk x (hw s hs x hx),fun s hs k hk x hx=>h2.waysIn k hk x (hw s hs x hx)⟩
theorem comm{q:PM}:∀ {p:PM} {g g1 g2:zC3} {tp tq:Tok},p.does o g tp g1->q.does o g1 tq g2->Off tp tq->Off tq tp->∃ m,q.does o g tq m/\p.does o m tp g2:=by
 intro p
 induction p with
 |ok=>intro g g1 g2 tp tq h hq _ _;obtain⟨rfl,rfl⟩:=h;exact⟨g2,hq,rfl,rfl⟩
 |fail=>intro g g1 g2 tp tq h;cases h|view s k ih=>
  intro g g1 g2 tp tq ⟨t',e,h⟩ hq h1 h2;subst e;obtain⟨m,hm,hk⟩:=ih _ h hq h1.left' h2.right';refine⟨m,hm,t',rfl,?_⟩;rw[zRl hm h2.all (fun hw=>h2.look s hw (by simp[Tok.join]))];exact hk
 |get s k ih=>
  intro g g1 g2 tp tq ⟨hl,t',e,h⟩ hq h1 h2;subst e;obtain⟨m,hm,hk⟩:=ih _ h hq h1.left' h2.right';have:=zDQ hm h2.all (fun hw=>h2.rd s hw (by simp[Tok.join])) (fun c hc e=>h2.ird c hc (by rw[e];simp[Tok.join]));exact⟨m,hm,by rw[this];exact hl,t',rfl,by rw[this];exact hk⟩
 | set s v k ih =>
  intro g g1 g2 tp tq ⟨t',e,h⟩ hq h1 h2;subst e;obtain⟨m,hm,hk⟩:=ih h hq h1.left' h2.right';have hw:s∈(Tok.join (zFI s (g s) v) t').wr:=by simp[Tok.join,zFI]
  have qZ:m s=v:=by rw[zDQ hm h2.all (h1.wr s hw) (h1.inn s hw),zAi]
  have hu:Unseen [s] (fun _=>v) g tq:=zE5 h1 h2 (fun u hu=>by rw[bl.1 hu];exact hw) (fun u hu x hx=>by
   rw[bl.1 hu] at hx;exact bt _ (bt _ hx))
  rw[zOG] at hm;have hd:=zGo hm h2.all hu;have he:mix [s] g m=upd m s (g s):=by funext u;simp only[upd,mix,bl];split<;>simp_all
  rw[he] at hd;refine⟨_,hd,t',by rw[zAi],?_⟩;rw[zOL,<- qZ,zLQ];exact hk
 |cells r pre i c n k ih=>
  intro g g1 g2 tp tq ⟨a,qs,t',kX,e,h⟩ hq h1 h2;subst e;obtain⟨m,hm,hk⟩:=ih _ _ h hq h1.left' h2.right';refine⟨m,hm,a,qs,t',?_,rfl,hk⟩;rw[zQ3 hm h2.all (fun hw=>h2.cel r hw (r,pre) (by simp[Tok.join]) rfl) (fun w hw e=>h2.icel w hw (r,pre) (by simp[Tok.join]) e)];exact kX
 |deep r pre k ih=>
  intro g g1 g2 tp tq ⟨q,t',hn,e,h⟩ hq h1 h2;subst e;obtain⟨m,hm,hk⟩:=ih _ h hq h1.left' h2.right';have:=zDQ hm h2.all (fun hw=>h2.rd r hw (by simp[Tok.join])) (fun c hc e=>h2.ird c hc (by rw[e];simp[Tok.join]));exact⟨m,hm,q,t',by rw[this];exact hn,rfl,hk⟩
 | wcells r pre i c qs k ih =>
  intro g g1 g2 tp tq ⟨root,t',hn,e,h⟩ hq h1 h2;subst e;obtain⟨m,hm,hk⟩:=ih h hq h1.left' h2.right';have jB:∀ x∈(g r).ways,x∈(Tok.join (zBo r [] (zAH (g r) root pre) (g r) root) t').ways:=fun x hx=>bt _ (bt _ hx);have fin:m r=root->Unseen [r] (fun _=>root) g tq->∃ m,q.does o g tq m/\(PM.wcells r pre i c qs k).does o m (Tok.join (zBo r [] (zAH (g r) root pre) (g r) root) t') g2:=by
   intro qZ hu;rw[zOG] at hm;have hd:=zGo hm h2.all hu;have he:mix [r] g m=upd m r (g r):=by funext u;simp only[upd,mix,bl];split<;>simp_all
   rw[he] at hd;refine⟨_,hd,root,t',by rw[zAi];exact hn,by rw[zAi],?_⟩;rw[zOL,<- qZ,zLQ];exact hk
  cases vA:zAH (g r) root pre with
  | true =>
   rw[vA] at h1 h2 fin jB;have hin:(r,([]:zA4))∈(Tok.join (zBo r [] true (g r) root) t').inn:=by simp[Tok.join,zBo]
   have hw:r∉tq.wr:=fun hw=>h2.inn r hw _ hin rfl;have hi:∀ c∈tq.inn,c.1≠r:=h1.iinn _ hin;have hcel:∀ c∈tq.cel,c.1≠r:=fun c hc e=>by have:=h1.icel _ hin c hc e;simp at this
   refine fin (by rw[zDQ hm h2.all hw hi,zAi]) ⟨fun s hs=>?_,fun s hs=>?_,fun s hs=>?_,fun s hs _=>?_,fun s hs c hc e=>?_,fun s hs k hk x hx=>?_,fun s hs k hk x hx=>?_⟩<;>rw[bl.1 hs] at *
   ·exact h1.ird _ hin
   ·exact hw
   ·exact hi
   ·simp only[zBO] at hn;revert hn
    cases (zDR (g r) pre && !(zBE qs).isEmpty) with
    |true=>intro hr;cases hr|false=>intro hr;exact(zHF hr vA).symm
   ·exact absurd e (hcel c hc)
   ·exact h2.ways k hk x (jB x hx)
   ·exact h2.waysIn k hk x (jB x hx)
  |false=>
   rw[vA] at h1 h2 fin jB;have hw:r∈(Tok.join (zBo r [] false (g r) root) t').wr:=by simp[Tok.join,zBo]
   exact fin (by rw[zDQ hm h2.all (h1.wr r hw) (h1.inn r hw),zAi]) (zE5 h1 h2 (fun u hu=>by rw[bl.1 hu];exact hw) (fun u hu x hx=>by rw[bl.1 hu] at hx;exact jB x hx))
 | wnode r pre q0 k ih =>
  intro g g1 g2 tp tq ⟨yF,root,t',hn,e,h⟩ hq h1 h2;subst e;obtain⟨m,hm,hk⟩:=ih h hq h1.left' h2.right';have jB:∀ x∈(g r).ways,x∈(Tok.join (zBo r pre.dropLast (zAH (g r) root pre&&(pre.isEmpty || !q0.isAgg)) (g r) root) t').ways:=fun x hx=>bt _ (bt _ hx);have fin:m r=root->Unseen [r] (fun _=>root) g tq->∃ m,q.does o g tq m/\(PM.wnode r pre q0 k).does o m (Tok.join (zBo r pre.dropLast (zAH (g r) root pre&&(pre.isEmpty || !q0.isAgg)) (g r) root) t') g2:=by
   intro qZ hu;rw[zOG] at hm;have hd:=zGo hm h2.all hu;have he:mix [r] g m=upd m r (g r):=by funext u;simp only[upd,mix,bl];split<;>simp_all
   rw[he] at hd;refine⟨_,hd,by rw[zAi];exact yF,root,t',by rw[zAi];exact hn,by rw[zAi],?_⟩;rw[zOL,<- qZ,zLQ];exact hk
  cases vA:(zAH (g r) root pre&&(pre.isEmpty || !q0.isAgg)) with
  |true=>
   rw[vA] at h1 h2 fin jB;have hin:(r,pre.dropLast)∈(Tok.join (zBo r pre.dropLast true (g r) root) t').inn:=by simp[Tok.join,zBo]
   have hw:r∉tq.wr:=fun hw=>h2.inn r hw _ hin rfl;have hi:∀ c∈tq.inn,c.1≠r:=h1.iinn _ hin;refine fin (by rw[zDQ hm h2.all hw hi,zAi]) ⟨fun s hs=>?_,fun s hs=>?_,fun s hs=>?_,fun s hs _=>?_,fun s hs c hc e i c' n=>?_,fun s hs k hk x hx=>?_,fun s hs k hk x hx=>?_⟩<;>rw[bl.1 hs] at *
   ·exact h1.ird _ hin
   ·exact hw
   ·exact hi
   ·rw[bb] at vA;exact(zHF hn vA.1).symm
   ·exact zJd yF hn vA (h1.icel _ hin c hc e) i c' n
   ·exact h2.ways k hk x (jB x hx)
   ·exact h2.waysIn k hk x (jB x hx)
  |false=>
   rw[vA] at h1 h2 fin jB;have hw:r∈(Tok.join (zBo r pre.dropLast false (g r) root) t').wr:=by simp[Tok.join,zBo]
   exact fin (by rw[zDQ hm h2.all (h1.wr r hw) (h1.inn r hw),zAi]) (zE5 h1 h2 (fun u hu=>by rw[bl.1 hu];exact hw) (fun u hu x hx=>by rw[bl.1 hu] at hx;exact jB x hx))
 | kill r pre k ih =>
  intro g g1 g2 tp tq ⟨D,t',hD,e,h⟩ hq h1 h2;subst e;obtain⟨m,hm,hk⟩:=ih h hq h1.left' h2.right';have hw:∀ s∈D,s∈(Tok.join (zAX D g (fun s=>(g s).mapW (lose r pre)) [r] []) t').wr:=fun s hs=>bt _ hs;have hu:Unseen D (fun s=>(g s).mapW (lose r pre)) g tq:=zE5 h1 h2 hw (fun s hs x hx=>bt _ (cT.2 ⟨s,hs,bt _ hx⟩));have jh:(fun s=>(g s).mapW (lose r pre))=mix D (fun s=>(g s).mapW (lose r pre)) g:=by
   funext s;by_cases hs:s∈D
   ·rw[zBG hs]
   ·rw[zA0 hs,zEb (hD s hs)]
  have hmD:∀ s∈D,m s=(g s).mapW (lose r pre):=fun s hs=>zDQ hm h2.all (h1.wr s (hw s hs)) (h1.inn s (hw s hs));have jI:=zJl (D:=D) (ok:=fun x=>zAT r pre x.1 x.2=false) hm h2.all (fun x hx=>zHN (h1.ways r (by simp[Tok.join,zAX]) x hx)) (fun s hs x hx=>hD s hs x (by rw[zEb (hD s hs)] at hx;exact hx));rw[jh] at hm;have hd:=zGo hm h2.all hu;have yi:(fun s=>(mix D g m s).mapW (lose r pre))=m:=by
   funext s;by_cases hs:s∈D
   ·rw[zBG hs,hmD s hs]
   ·rw[zA0 hs,zEb (jI s hs)]
  refine⟨_,hd,D,t',fun s hs x hx=>jI s hs x (by rw[zA0 hs] at hx;exact hx),?_,by rw[yi];exact hk⟩;rw[zCN (g:=g) (h:=mix D g m) (h':=fun s=>(mix D g m s).mapW (lose r pre)) (fun s hs=>(zBG hs).symm) (fun s hs=>by simp only[zBG hs])]
 | frz r pre k ih =>
  intro g g1 g2 tp tq ⟨yF,D,t',q0,root,hD,hr,hn,hmn,e,h⟩ hq h1 h2;subst e;obtain⟨m,hm,hk⟩:=ih h hq h1.left' h2.right';have hw:∀ s∈D,s∈(Tok.join (zAX D g (fun s=>(upd g r root s).mapW (inl r pre q0)) [r] []) t').wr:=fun s hs=>bt _ hs;have hu:Unseen D (fun s=>(upd g r root s).mapW (inl r pre q0)) g tq:=zE5 h1 h2 hw (fun s hs x hx=>bt _ (cT.2 ⟨s,hs,bt _ hx⟩));have yt:∀ s,s∉D->(upd g r root s).mapW (inl r pre q0)=g s:=fun s hs=>by rw[zAf (by rintro rfl;exact hs hr),zF3 (hD s hs)]
  have jh:(fun s=>(upd g r root s).mapW (inl r pre q0))=mix D (fun s=>(upd g r root s).mapW (inl r pre q0)) g:=by
   funext s;by_cases hs:s∈D
   ·rw[zBG hs]
   ·rw[zA0 hs,yt s hs]
  have hmD:∀ s∈D,m s=(upd g r root s).mapW (inl r pre q0):=fun s hs=>zDQ hm h2.all (h1.wr s (hw s hs)) (h1.inn s (hw s hs));have jI:=zJl (D:=D) (ok:=fun x=>zAT r pre x.1 x.2=false) hm h2.all (fun x hx=>zHN (h1.ways r (by simp[Tok.join,zAX]) x hx)) (fun s hs x hx=>hD s hs x (by rw[yt s hs] at hx;exact hx));rw[jh] at hm;have hd:=zGo hm h2.all hu;have yi:(fun s=>(upd (mix D g m) r root s).mapW (inl r pre q0))=m:=by
   funext s;by_cases hs:s∈D
   ·rw[hmD s hs];by_cases yW:s=r
    ·subst yW;rw[zAi,zAi]
    ·rw[zAf yW,zAf yW,zBG hs]
   ·rw[zAf (by rintro rfl;exact hs hr),zA0 hs,zF3 (jI s hs)]
  have hmr:mix D g m r=g r:=zBG hr;refine⟨_,hd,by rw[hmr];exact yF,D,t',q0,root,fun s hs x hx=>jI s hs x (by rw[zA0 hs] at hx;exact hx),hr,by rw[hmr];exact hn,by rw[hmr];exact hmn,?_,by rw[yi];exact hk⟩;rw[zCN (g:=g) (h:=mix D g m) (fun s hs=>(zBG hs).symm) (fun s hs=>by
   show(upd g r root s).mapW (inl r pre q0)=(upd (mix D g m) r root s).mapW (inl r pre q0)
   by_cases yW:s=r
   ·subst yW;rw[zAi,zAi]
   ·rw[zAf yW,zAf yW,zBG hs])]
 | killEx r pre k ih =>
  intro g g1 g2 tp tq ⟨D,t',hD,e,h⟩ hq h1 h2;subst e;obtain⟨m,hm,hk⟩:=ih h hq h1.left' h2.right';have hw:∀ s∈D,s∈(Tok.join (zAX D g (fun s=>(g s).mapW (zBY r pre)) [] [r]) t').wr:=fun s hs=>bt _ hs;have hu:Unseen D (fun s=>(g s).mapW (zBY r pre)) g tq:=zE5 h1 h2 hw (fun s hs x hx=>bt _ (cT.2 ⟨s,hs,bt _ hx⟩));have jh:(fun s=>(g s).mapW (zBY r pre))=mix D (fun s=>(g s).mapW (zBY r pre)) g:=by
   funext s;by_cases hs:s∈D
   ·rw[zBG hs]
   ·rw[zA0 hs,zCP (hD s hs)]
  have hmD:∀ s∈D,m s=(g s).mapW (zBY r pre):=fun s hs=>zDQ hm h2.all (h1.wr s (hw s hs)) (h1.inn s (hw s hs));have jI:=zJl (D:=D) (ok:=fun x=>(beq x.1 r && !x.2.isEmpty)=false) hm h2.all (fun x hx=>zWa (h1.waysIn r (by simp[Tok.join,zAX]) x hx)) (fun s hs x hx=>hD s hs x (by rw[zCP (hD s hs)] at hx;exact hx));rw[jh] at hm;have hd:=zGo hm h2.all hu;have yi:(fun s=>(mix D g m s).mapW (zBY r pre))=m:=by
   funext s;by_cases hs:s∈D
   ·rw[zBG hs,hmD s hs]
   ·rw[zA0 hs,zCP (jI s hs)]
  refine⟨_,hd,D,t',fun s hs x hx=>jI s hs x (by rw[zA0 hs] at hx;exact hx),?_,by rw[yi];exact hk⟩;rw[zCN (g:=g) (h:=mix D g m) (h':=fun s=>(mix D g m s).mapW (zBY r pre)) (fun s hs=>(zBG hs).symm) (fun s hs=>by simp only[zBG hs])]
 |forget r k ih=>intro g g1 g2 tp tq h hq h1 h2;have:=h1.all;rw[show tp.all=true from h] at this;cases this|call f args hid k ih=>
  intro g g1 g2 tp tq ⟨v',hO,ho,h⟩ hq h1 h2;obtain⟨m,hm,hk⟩:=ih _ _ h hq h1 h2;exact⟨m,hm,v',hO,ho,hk⟩
theorem zBs(e:Env)(s:Nat)(p:PV):(e.set s p).get=upd e.get s p:=by
 funext t;rw[Env.get_set];rfl
theorem zGa{e:Env}{h:Nat×zA4->Bool}:∀ s,s∉zDx e h->∀ x∈(e.get s).ways,h x=false:=by
 intro s hs x hx
 cases hh:h x with
 |false=>rfl
 | true =>
  exfalso;refine hs ?_;clear hs
  induction e with
  |nil=>cases hx
  | cons y e ih =>
   obtain⟨k,v⟩:=y;simp only[Env.get] at hx
   cases hb:beq k s with
   |true=>
    rw[hb] at hx;have hk:=bc hb;exact bT.2 ⟨(k,v),bP.2 ⟨by simp,bN.2 ⟨x,hx,hh⟩⟩,hk⟩
   |false=>
    rw[hb] at hx;obtain⟨y,hy,gP⟩:=bT.1 (ih hx);obtain⟨h1,h2⟩:=bP.1 hy;exact bT.2 ⟨y,bP.2 ⟨by simp[h1],h2⟩,gP⟩
theorem zW4{e e':Env}{r:Nat}{pre:zA4}(h:e.frz r pre=some e') :
  (e.get r).isLock=false/\∃ q root,zAC (e.get r) pre=some q/\zAz (fun _=>some (zA2 q)) (e.get r) pre=some root/\e'.get=fun s=>(upd e.get r root s).mapW (inl r pre q):=by
 simp only[Env.frz] at h
 cases hl:(e.get r).isLock with
 |true=>rw[hl] at h;cases h
 | false =>
  rw[hl] at h;simp only[cond_false] at h
  cases hn:zAC (e.get r) pre with
  |none=>rw[hn] at h;cases h
  | some q =>
   rw[hn] at h;simp only at h
   cases hm:zAz (fun _=>some (zA2 q)) (e.get r) pre with
   |none=>rw[hm] at h;cases h|some root=>
    rw[hm] at h;simp only[ba] at h;subst h;refine⟨rfl,q,root,rfl,hm,?_⟩;funext s;rw[Env.get_map (e.set r root) (g:=fun p=>p.mapW (inl r pre q)) rfl s,zBs]
theorem zIu:∀ {p:PM} {e e':Env} {t:Tok},p.runT o e=some (e',t)->t.all=true\/p.does o e.get t e'.get:=by
 intro p
 induction p with
 |ok=>intro e e' t h;simp only[PM.runT,ba,bw] at h;obtain⟨rfl,rfl⟩:=h;exact .inr ⟨rfl,rfl⟩
 |fail=>intro e e' t h;cases h|view s k ih=>
  intro e e' t h;simp only[PM.runT,bm] at h;obtain⟨⟨e1,t1⟩,h,hx⟩:=h;cases hx;rcases ih _ h with ha|hd
  ·exact .inl (by simp[Tok.join,ha])
  ·exact .inr ⟨t1,rfl,hd⟩
 | get s k ih =>
  intro e e' t h;simp only[PM.runT] at h;split at h
  ·cases h
  ·rename_i qI;simp only[bm] at h;obtain⟨⟨e1,t1⟩,h,hx⟩:=h;cases hx;rcases ih _ h with ha|hd
   ·exact .inl (by simp[Tok.join,ha])
   ·refine .inr ⟨?_,t1,rfl,hd⟩;cases hl:e.get s<;>first|rfl|exact absurd hl (qI _)
 |set s v k ih=>
  intro e e' t h;simp only[PM.runT,bm] at h;obtain⟨⟨e1,t1⟩,h,hx⟩:=h;cases hx;rcases ih h with ha|hd
  ·exact .inl (by simp[Tok.join,ha])
  ·exact .inr ⟨t1,rfl,by rw[zBs] at hd;exact hd⟩
 | cells r pre i c n k ih =>
  intro e e' t h;simp only[PM.runT] at h;split at h
  ·rename_i a qs kX;simp only[bm] at h;obtain⟨⟨e1,t1⟩,h,hx⟩:=h;cases hx;rcases ih _ _ h with ha|hd
   ·exact .inl (by simp[Tok.join,ha])
   ·exact .inr ⟨a,qs,t1,kX,rfl,hd⟩
  ·cases h
 | deep r pre k ih =>
  intro e e' t h;simp only[PM.runT] at h;split at h
  ·rename_i q hn;simp only[bm] at h;obtain⟨⟨e1,t1⟩,h,hx⟩:=h;cases hx;rcases ih _ h with ha|hd
   ·exact .inl (by simp[Tok.join,ha])
   ·exact .inr ⟨q,t1,hn,rfl,hd⟩
  ·cases h
 | wcells r pre i c qs k ih =>
  intro e e' t h;simp only[PM.runT] at h;split at h
  ·rename_i root hn;simp only[bm] at h;obtain⟨⟨e1,t1⟩,h,hx⟩:=h;cases hx;rcases ih h with ha|hd
   ·exact .inl (by simp[Tok.join,ha])
   ·exact .inr ⟨root,t1,hn,rfl,by rw[zBs] at hd;exact hd⟩
  ·cases h
 | wnode r pre q k ih =>
  intro e e' t h;simp only[PM.runT] at h
  cases hl:(e.get r).isLock with
  |true=>rw[hl] at h;cases h
  | false =>
   rw[hl] at h;simp only[cond_false] at h;split at h
   ·rename_i root hn;simp only[bm] at h;obtain⟨⟨e1,t1⟩,h,hx⟩:=h;cases hx;rcases ih h with ha|hd
    ·exact .inl (by simp[Tok.join,ha])
    ·exact .inr ⟨hl,root,t1,hn,rfl,by rw[zBs] at hd;exact hd⟩
   ·cases h
 | kill r pre k ih =>
  intro e e' t h;simp only[PM.runT,bm] at h;obtain⟨⟨e1,t1⟩,h,hx⟩:=h;cases hx;rcases ih h with hb|hd
  ·exact .inl (by simp[Tok.join,zAX,hb])
  ·have hg:(e.kill r pre).get=fun s=>(e.get s).mapW (lose r pre):=by funext s;rw[Env.get_kill]
   rw[hg] at hd ⊢;exact .inr ⟨_,t1,zGa,rfl,hd⟩
 | frz r pre k ih =>
  intro e e' t h;simp only[PM.runT] at h;split at h
  ·rename_i e2 h2;simp only[bm] at h;obtain⟨⟨e1,t1⟩,h,hx⟩:=h;cases hx;rcases ih h with hb|hd
   ·exact .inl (by simp[Tok.join,zAX,hb])
   ·obtain⟨hl,q,root,hn,hm,hg⟩:=zW4 h2;rw[hg] at hd ⊢;exact .inr ⟨hl,_,t1,q,root,fun s hs=>zGa s (fun hm=>hs (dg _ hm)),by simp,hn,hm,rfl,hd⟩
  ·cases h
 | killEx r keep k ih =>
  intro e e' t h;simp only[PM.runT,bm] at h;obtain⟨⟨e1,t1⟩,h,hx⟩:=h;cases hx;rcases ih h with hb|hd
  ·exact .inl (by simp[Tok.join,zAX,hb])
  ·have hg:(e.killEx r keep).get=fun s=>(e.get s).mapW (zBY r keep):=by funext s;rw[Env.get_killEx]
   rw[hg] at hd ⊢;exact .inr ⟨_,t1,zGa,rfl,hd⟩
 |forget r k ih=>
  intro e e' t h;simp only[PM.runT,bm] at h;obtain⟨⟨e1,t1⟩,h,hx⟩:=h;cases hx;exact .inl rfl
 | call f args hid k ih =>
  intro e e' t h;simp only[PM.runT] at h;split at h
  ·rename_i v hO ho;rcases ih _ _ h with ha|hd
   ·exact .inl ha
   ·exact .inr ⟨v,hO,ho,hd⟩
  ·cases h
theorem zON:∀ {p:PM} {e:Env} {g':zC3} {t:Tok},p.does o e.get t g'->t.all=false->∃ e',p.run o e=some e'/\e'.get=g':=by
 intro p
 induction p with
 |ok=>intro e g' t h _;exact⟨e,rfl,h.2.symm⟩|fail=>intro e g' t h;cases h|view s k ih=>
  intro e g' t ⟨t',he,h⟩ ha;subst he;exact ih _ h ha
 |get s k ih=>
  intro e g' t ⟨hl,t',he,h⟩ ha;subst he;obtain⟨e',h1,h2⟩:=ih _ h ha;refine⟨e',?_,h2⟩;simp only[PM.run];split
  ·rename_i p hp;rw[hp] at hl;cases hl
  ·exact h1
 |set s v k ih=>
  intro e g' t ⟨t',he,h⟩ ha;subst he;exact ih (e:=e.set s v) (by rw[zBs];exact h) (by simpa[Tok.join,zFI] using ha)
 |cells r pre i c n k ih=>
  intro e g' t ⟨a,qs,t',kX,he,h⟩ ha;subst he;obtain⟨e',h1,h2⟩:=ih _ _ h ha;exact⟨e',by simp only[PM.run,kX];exact h1,h2⟩
 |deep r pre k ih=>
  intro e g' t ⟨q,t',hn,he,h⟩ ha;subst he;obtain⟨e',h1,h2⟩:=ih _ h ha;exact⟨e',by simp only[PM.run,hn];exact h1,h2⟩
 |wcells r pre i c qs k ih=>
  intro e g' t ⟨root,t',hn,he,h⟩ ha;subst he;obtain⟨e',h1,h2⟩:=ih (e:=e.set r root) (by rw[zBs];exact h) (by simpa[Tok.join,zBo] using ha);exact⟨e',by simp only[PM.run,hn];exact h1,h2⟩
 |wnode r pre q k ih=>
  intro e g' t ⟨hl,root,t',hn,he,h⟩ ha;subst he;obtain⟨e',h1,h2⟩:=ih (e:=e.set r root) (by rw[zBs];exact h) (by simpa[Tok.join,zBo] using ha);exact⟨e',by simp only[PM.run,hl,cond_false,hn];exact h1,h2⟩
 | kill r pre k ih =>
  intro e g' t ⟨D,t',hD,he,h⟩ ha;subst he;exact ih (e:=e.kill r pre) (t:=t') (by
   have:(e.kill r pre).get=fun s=>(e.get s).mapW (lose r pre):=by funext s;rw[Env.get_kill]
   rw[this];exact h) (by simpa[Tok.join,zAX] using ha)
 | frz r pre k ih =>
  intro e g' t ⟨hl,D,t',q,root,hD,hr,hn,hm,he,h⟩ ha;subst he;have hf:e.frz r pre=some ((e.set r root).map fun x=>(x.1,x.2.mapW (inl r pre q))):=by
   simp only[Env.frz,hl,cond_false,hn,hm]
  have hg:Env.get ((e.set r root).map fun x=>(x.1,x.2.mapW (inl r pre q)))=fun s=>(upd e.get r root s).mapW (inl r pre q):=by
   funext s;rw[Env.get_map (e.set r root) (g:=fun p=>p.mapW (inl r pre q)) rfl s,zBs]
  obtain⟨e',h1,h2⟩:=ih (e:=(e.set r root).map fun x=>(x.1,x.2.mapW (inl r pre q))) (t:=t') (by rw[hg];exact h) (by simpa[Tok.join,zAX] using ha);exact⟨e',by simp only[PM.run,hf];exact h1,h2⟩
 | killEx r keep k ih =>
  intro e g' t ⟨D,t',hD,he,h⟩ ha;subst he;exact ih (e:=e.killEx r keep) (t:=t') (by
   have:(e.killEx r keep).get=fun s=>(e.get s).mapW (zBY r keep):=by funext s;rw[Env.get_killEx]
   rw[this];exact h) (by simpa[Tok.join,zAX] using ha)
 |forget r k ih=>intro e g' t h ha;rw[show t.all=true from h] at ha;cases ha|call f args hid k ih=>
  intro e g' t ⟨v,hO,ho,h⟩ ha;obtain⟨e',h1,h2⟩:=ih _ _ h ha;exact⟨e',by simp only[PM.run,ho];exact h1,h2⟩
end
section
variable {o:zAM}
theorem zEZ(e:Env)(h s:Nat):(e.forget h).get s=if s=h\/(e.get s).num=true then e.get s else .bad:=by
 induction e with
 |nil=>exact(ite_self (c:=s=h\/PV.bad.num=true) bad).symm
 | cons x e ih =>
  obtain⟨k,v⟩:=x;have ih:Env.get (map (fun x=>bif beq x.1 h||x.2.num then x else(x.1,bad)) e) s=_:=ih;simp only[Env.forget,bM]
  cases hb:beq k s with
  | true =>
   have hk:=bc hb;subst hk;have e1:Env.get ((k,v)::e) k=v:=by simp only[Env.get,hb,cond_true]
   rw[e1]
   cases hc:(beq k h||v.num) with
   |true=>
    rw[cond_true];simp only[Env.get,hb,cond_true];rw[bV] at hc;rw[if_pos (hc.imp (fun h=>bc h) id)]
   |false=>
    rw[cond_false];simp only[Env.get,hb,cond_true];rw[cD] at hc;rw[if_neg];rintro(h1|h1)
    ·subst h1;rw[cz] at hc;cases hc.1
    ·rw[hc.2] at h1;cases h1
  |false=>
   have e1:Env.get ((k,v)::e) s=Env.get e s:=by simp only[Env.get,hb,cond_false]
   rw[e1,<- ih];cases (beq k h||v.num)<;>simp only[cond_true,cond_false,Env.get,hb]
theorem zRN{e f e1:Env}{r:Nat}{pre:zA4}(he:f.get=e.get)(h:e.frz r pre=some e1):∃ f1,f.frz r pre=some f1/\f1.get=e1.get:=by
 simp only[Env.frz] at h ⊢;rw[he]
 cases hl:(e.get r).isLock with
 |true=>rw[hl] at h;cases h
 | false =>
  rw[hl] at h;simp only[cond_false] at h ⊢
  cases hn:zAC (e.get r) pre with
  |none=>rw[hn] at h;cases h
  | some q =>
   rw[hn] at h;simp only at h ⊢
   cases hm:zAz (fun _=>some (zA2 q)) (e.get r) pre with
   |none=>rw[hm] at h;cases h|some root=>
    rw[hm] at h;simp only[ba] at h ⊢;subst h;refine⟨_,rfl,?_⟩;funext s;rw[Env.get_map (f.set r root) (g:=fun p=>p.mapW (inl r pre q)) rfl s,Env.get_map (e.set r root) (g:=fun p=>p.mapW (inl r pre q)) rfl s,zBs,zBs,he]
theorem zF4:∀ {p:PM} {e f e1:Env},f.get=e.get->p.run o e=some e1->∃ f1,p.run o f=some f1/\f1.get=e1.get:=by
 intro p
 induction p with
 |ok=>intro e f e1 he h;simp only[PM.run,ba] at h;subst h;exact⟨f,rfl,he⟩|fail=>intro e f e1 he h;cases h|view s k ih=>intro e f e1 he h;simp only[PM.run] at h ⊢;rw[he];exact ih _ he h|get s k ih=>
  intro e f e1 he h;simp only[PM.run] at h ⊢;rw[he];split at h
  ·cases h
  ·exact ih _ he h
 |set s v k ih=>intro e f e1 he h;exact ih (by rw[zBs,zBs,he]) h|cells r pre i c n k ih=>
  intro e f e1 he h;simp only[PM.run] at h ⊢;rw[he];split at h
  ·exact ih _ _ he h
  ·cases h
 |deep r pre k ih=>
  intro e f e1 he h;simp only[PM.run] at h ⊢;rw[he];split at h
  ·exact ih _ he h
  ·cases h
 |wcells r pre i c qs k ih=>
  intro e f e1 he h;simp only[PM.run] at h ⊢;rw[he];split at h
  ·exact ih (by rw[zBs,zBs,he]) h
  ·cases h
 | wnode r pre q k ih =>
  intro e f e1 he h;simp only[PM.run] at h ⊢;rw[he]
  cases hl:(e.get r).isLock with
  |true=>rw[hl] at h;cases h|false=>
   rw[hl] at h;simp only[cond_false] at h ⊢;split at h
   ·exact ih (by rw[zBs,zBs,he]) h
   ·cases h
 |kill r pre k ih=>intro e f e1 he h;exact ih (by funext s;rw[Env.get_kill,Env.get_kill,he]) h|frz r pre k ih=>
  intro e f e1 he h;simp only[PM.run] at h ⊢;split at h
  ·rename_i e2 h2;obtain⟨f2,kE,hg⟩:=zRN he h2;rw[kE];exact ih hg h
  ·cases h
 |killEx r pre k ih=>intro e f e1 he h;exact ih (by funext s;rw[Env.get_killEx,Env.get_killEx,he]) h|forget r k ih=>intro e f e1 he h;exact ih (by funext s;rw[zEZ,zEZ,he]) h|call f args hid k ih=>
  intro e f e1 he h;simp only[PM.run] at h ⊢;split at h
  ·exact ih _ _ he h
  ·cases h
theorem zEq:∀ {p:PM} {e e1:Env} {t:Tok},p.runT o e=some (e1,t)->p.run o e=some e1:=by
 have mp:∀ {x:Option (Env×Tok)} {f:Tok->Tok} {e1:Env} {t:Tok},(x.map fun y=>(y.1,f y.2))=some (e1,t)->∃ t',x=some (e1,t'):=by
  intro x f e1 t h
  cases x with
  |none=>cases h|some y=>simp only[bu,ba,bw] at h;exact⟨y.2,by rw[<- h.1]⟩
 intro p
 induction p with
 |ok=>intro e e1 t h;simp only[PM.runT,ba,bw] at h;rw[<- h.1];rfl|fail=>intro e e1 t h;cases h|view s k ih=>intro e e1 t h;obtain⟨t',h'⟩:=mp h;exact ih _ h'
 |get s k ih=>
  intro e e1 t h;simp only[PM.runT,PM.run] at h ⊢;split at h
  ·cases h
  ·obtain⟨t',h'⟩:=mp h;exact ih _ h'
 |set s v k ih=>intro e e1 t h;obtain⟨t',h'⟩:=mp h;exact ih h'
 |cells r pre i c n k ih=>
  intro e e1 t h;simp only[PM.runT,PM.run] at h ⊢;split at h
  ·obtain⟨t',h'⟩:=mp h;exact ih _ _ h'
  ·cases h
 |deep r pre k ih=>
  intro e e1 t h;simp only[PM.runT,PM.run] at h ⊢;split at h
  ·obtain⟨t',h'⟩:=mp h;exact ih _ h'
  ·cases h
 |wcells r pre i c qs k ih=>
  intro e e1 t h;simp only[PM.runT,PM.run] at h ⊢;split at h
  ·obtain⟨t',h'⟩:=mp h;exact ih h'
  ·cases h
 | wnode r pre q k ih =>
  intro e e1 t h;simp only[PM.runT,PM.run] at h ⊢
  cases hl:(e.get r).isLock with
  |true=>rw[hl] at h;cases h|false=>
   rw[hl] at h;simp only[cond_false] at h ⊢;split at h
   ·obtain⟨t',h'⟩:=mp h;exact ih h'
   ·cases h
 |kill r pre k ih=>intro e e1 t h;obtain⟨t',h'⟩:=mp h;exact ih h'
 |frz r pre k ih=>
  intro e e1 t h;simp only[PM.runT,PM.run] at h ⊢;split at h
  ·obtain⟨t',h'⟩:=mp h;exact ih h'
  ·cases h
 |killEx r pre k ih=>intro e e1 t h;obtain⟨t',h'⟩:=mp h;exact ih h'
 |forget r k ih=>intro e e1 t h;obtain⟨t',h'⟩:=mp (f:=fun _=>({all:=true}:Tok)) h;exact ih h'
 |call f args hid k ih=>
  intro e e1 t h;simp only[PM.runT,PM.run] at h ⊢;split at h
  ·exact ih _ _ h
  ·cases h
theorem zFO{e f:Env}{o:Oper}(h:f.get=e.get):zCr f o=zCr e o:=by
 have hv:zQR f=zQR e:=by funext x;cases x<;>simp only[zQR,h]
 simp only[zCr,h,hv]
theorem zOz{e f:Env}{ops:Array Oper}{o:Oper}(h:f.get=e.get):zMq ops f o=zMq ops e o:=by simp only[zMq,h]
theorem zKN{orc:zAM}{ops:Array Oper}{x:Oper}{k:Nat}{args:List PV}{l:Log}{e f e1:Env}{lg:Option Log}(h:f.get=e.get)(hr:zB4 orc ops x k args l e=some (e1,lg)) :
  ∃ f1,zB4 orc ops x k args l f=some (f1,lg)/\f1.get=e1.get:=by
 have mp:∀ {p:PM} {e f:Env} {lg':Option Log},f.get=e.get->(p.run orc e).map (fun e'=>(e',lg'))=some (e1,lg)->∃ f1,(p.run orc f).map (fun e'=>(e',lg'))=some (f1,lg)/\f1.get=e1.get:=by
  intro p e f lg' h hr;obtain⟨e2,h1,h2⟩:=bm.1 hr;cases h2;obtain⟨f2,h3,h4⟩:=zF4 h h1;exact⟨f2,by rw[h3];rfl,h4⟩
 have hfg:(f.forget zAa).get=(e.forget zAa).get:=by funext s;rw[zEZ,zEZ,h]
 simp only[zB4,zOz h] at hr ⊢;split at hr
 ·cases hc:(args.all PV.flat&&l.k != 0&&beq k l.at_) with
  |false=>rw[hc] at hr;cases hr|true=>
   rw[hc] at hr;simp only[cond_true] at hr ⊢
   cases jX:(l.k==1) with
   |true=>rw[jX] at hr;exact mp hfg hr|false=>rw[jX] at hr;exact mp h hr
 ·exact mp h hr
 ·cases hr
section
variable {P:Program} {H:zBh} {o:zAM}
theorem zLU{ops:Array Oper}{x:Oper}{fz tk nl:Bool}{e:Env}{lg:Option Log}{t:Tok}{m:zC3}(h:(zFP P H ops fz tk nl x).does o e.get t m)(ha:t.all=false) :
  ∃ e1,zC1 P H o fz tk nl ops x e lg=some (e1,lg)/\e1.get=m:=by
 obtain⟨e1,h1,h2⟩:=zON h ha
 cases lg with
 |none=>exact⟨e1,by simp only[zC1,h1,bu],h2⟩
 | some l =>
  cases hy:zCr e x with
  |none=>exact⟨e1,by simp only[zC1,hy,h1,bu],h2⟩
  | some kargs =>
   obtain⟨kk,args⟩:=kargs;have jA:(opM P H fz tk nl x).run o e=none:=by
    simp only[zCr] at hy;split at hy
    ·rename_i c hc;split at hy
     ·rename_i tc yc;split at hy
      ·rename_i k hk;simp only[opM,hc,zKq,yc,opd,PM.run,hk];rfl
      ·cases hy
     ·cases hy
    ·cases hy
   simp only[zFP] at h1;simp only[zC1,hy,zB4,zMq]
   cases hg:x.guard with
   |none=>rw[hg] at h1;rw[jA] at h1;cases h1
   | some jw =>
    obtain⟨j,want⟩:=jw;rw[hg] at h1;simp only at h1 ⊢
    cases hj:(ops[j]?).bind (·.dst) with
    |none=>rw[hj] at h1;cases h1
    | some tj =>
     rw[hj] at h1;simp only[PM.run] at h1 ⊢;cases hp:e.get tj<;>rw[hp] at h1<;>simp only at h1<;>try (cases h1;done)
     case bool b=>
      simp only;by_cases hb:b=want
      ·rw[if_pos hb,jA] at h1;cases h1
      ·rw[if_neg hb] at h1;have:(b==want)=false:=by simpa using hb
       rw[this];simp only[h1,bu];exact⟨e1,rfl,h2⟩
     case und=>
      simp only[h1,bu];exact⟨e1,rfl,h2⟩
def zPU(P:Program)(H:zBh)(o:zAM)(fz tk nl:Bool)(ops:Array Oper)(x:Oper)(t:Tok)(g:zC3)(lg:Option Log)(m:zC3)(lg':Option Log):Prop :=
 (t.all=true/\∀ e:Env,e.get=g->∃ e1,zC1 P H o fz tk nl ops x e lg=some (e1,lg')/\e1.get=m)\/(t.all=false/\lg'=lg/\(zFP P H ops fz tk nl x).does o g t m)
theorem zPU.run{fz tk nl:Bool}{ops:Array Oper}{x:Oper}{t:Tok}{e:Env}{m:zC3}{lg lg':Option Log}(h:zPU P H o fz tk nl ops x t e.get lg m lg'):∃ e1,zC1 P H o fz tk nl ops x e lg=some (e1,lg')/\e1.get=m:=by
 rcases h with⟨_,h⟩|⟨ha,rfl,h⟩
 ·exact h e rfl
 ·exact zLU h ha
theorem zTL{fz tk nl:Bool}{ops:Array Oper}{x:Oper}{t:Tok}{e e1:Env}{lg lg':Option Log}(h:zEx P H o fz tk nl ops x e lg=some (e1,lg',t)):zPU P H o fz tk nl ops x t e.get lg e1.get lg':=by
 cases lg with
 | none =>
  simp only[zEx] at h;obtain⟨⟨e2,t2⟩,h1,h2⟩:=bm.1 h;cases h2
  cases ha:t2.all with
  |true=>
   refine .inl ⟨ha,fun f hf=>?_⟩;obtain⟨f1,h3,h4⟩:=zF4 hf (zEq h1);exact⟨f1,by simp only[zC1,h3,bu],h4⟩
  |false=>
   rcases zIu h1 with h3|h3
   ·rw[h3] at ha;cases ha
   ·exact .inr ⟨ha,rfl,h3⟩
 | some l =>
  simp only[zEx] at h
  cases hy:zCr e x with
  | none =>
   rw[hy] at h;simp only at h;obtain⟨⟨e2,t2⟩,h1,h2⟩:=bm.1 h;cases h2
   cases ha:t2.all with
   |true=>
    refine .inl ⟨ha,fun f hf=>?_⟩;obtain⟨f1,h3,h4⟩:=zF4 hf (zEq h1);exact⟨f1,by simp only[zC1,zFO hf,hy,h3,bu],h4⟩
   |false=>
    rcases zIu h1 with h3|h3
    ·rw[h3] at ha;cases ha
    ·exact .inr ⟨ha,rfl,h3⟩
  |some kargs=>
   obtain⟨kk,args⟩:=kargs;rw[hy] at h;simp only at h;obtain⟨⟨e2,lg2⟩,h1,h2⟩:=bm.1 h;cases h2;refine .inl ⟨rfl,fun f hf=>?_⟩;obtain⟨f1,h3,h4⟩:=zKN hf h1;exact⟨f1,by simp only[zC1,zFO hf,hy,h3],h4⟩
def zOM(P:Program)(H:zBh)(o:zAM)(fzs tks:LN)(nl:Bool)(ops:Array Oper)(tk:Nat->Tok):LN->zC3->Option Log->zC3->Option Log->Prop
 |[],g,lg,g',lg'=>g'=g/\lg'=lg|i::l,g,lg,g',lg'=>∃ x m lm,ops[i]? = some x/\zPU P H o (fzs.contains i) (tks.contains i) nl ops x (tk i) g lg m lm/\zOM P H o fzs tks nl ops tk l m lm g' lg'
theorem zJC{fzs tks:LN}{nl:Bool}{ops:Array Oper}{tk:Nat->Tok}{i:Nat}{l2:LN}:∀ {l1:LN} {g g':zC3} {lg lg':Option Log},zOM P H o fzs tks nl ops tk (l1++i::l2) g lg g' lg'->(∀ j∈l1,zRa (tk j) (tk i)=false)->zOM P H o fzs tks nl ops tk (i::(l1++l2)) g lg g' lg'
 |[],_,_,_,_,h,_=>h
 | j :: l1,g,g',lg,lg',⟨x,m,lm,hx,h1,h2⟩,hc=>by
  obtain⟨y,m2,lm2,hy,h3,h4⟩:=zJC h2 fun k hk=>hc k (by simp[hk]);have yO:=hc j (by simp);simp only[zRa,cD] at yO;have hp:=zLl yO.1;have hq:=zLl yO.2;rcases h1 with⟨ha,_⟩|⟨_,rfl,hd1⟩
  ·have:=hp.all;rw[ha] at this;cases this
  ·rcases h3 with⟨ha,_⟩|⟨_,rfl,hd2⟩
   ·have:=hq.all;rw[ha] at this;cases this
   ·obtain⟨n,vM,j9⟩:=comm hd1 hd2 hp hq;exact⟨y,n,_,hy,.inr ⟨hq.all,rfl,vM⟩,x,m2,_,hx,.inr ⟨hp.all,rfl,j9⟩,h4⟩
end
end
section
variable {P:Program} {H:zBh} {w0 w:World} {U Φ0 Φ:Nat->Prop} {nt:Nat} {hv:Hid} {a:Act} {e e':Env} {rv:Nat->Value} {E:Nat->PV} {L:Nat->LN} {orc:zAM} {ro:ON} {n:Nat} {Q:Exit->Act->World->Prop}
theorem Fr.get'(hf:Fr w0 U Φ0 nt hv a w e)(h:e'.get=e.get):Fr w0 U Φ0 nt hv a w e':=by
 obtain⟨Φ,rv,E,L,S,hb⟩:=hf;exact⟨Φ,rv,E,L,⟨S.conf,fun s hs=>by rw[h];exact S.env s hs,S.size,S.small,S.tmps,S.parts,S.hid,S.dfr⟩,hb⟩
theorem Fr.tick(hf:Fr w0 U Φ0 nt hv a w e)(d:Nat):Fr w0 U Φ0 nt hv a {w with drawn:=d} e:=by
 obtain⟨Φ,rv,E,L,S,hb⟩:=hf;have hc:Conf w0 U Φ0 {w with drawn:=d} Φ rv E L:=by
  refine S.conf.step2 some (fun p=>p) zCw (fun a b t ha hb=>by cases ha;cases hb;rfl) (fun a t ha=>by cases ha;exact⟨(zBq _).symm,rfl,rfl⟩) (fun a ha=>by cases ha) (fun a v hw ha=>?_)
   (fun a ha=>by cases ha) (fun a b ha=>by cases ha) (fun a ha=>by cases ha) (bi _) (fun _ _ _=>rfl) ⟨rfl,rfl,rfl⟩
  exact zDb hw (zCX S.conf zCw ha (zBq _).symm rfl (fun _ _=>rfl))
 exact⟨Φ,rv,E,L,⟨hc,S.env,S.size,S.small,S.tmps,S.parts,S.hid,S.dfr⟩,hb⟩
structure Drawn (ops:Array Oper) (i:Nat) (Bs:LN) (Ts:List Tok):Prop where
 early:∀ (k:Nat) (x:Oper),i<=k->ops[k]? = some x->∀ ed∈x.after.toList,Region.binds .any ed=true->ed.on<k
 bits:∀ (k:Nat) (x:Oper),i<=k->ops[k]? = some x->∀ j,(Bs.getD k 0).testBit j=true->∃ ed∈x.after.toList,Region.binds .any ed=true/\(ed.on=j\/(Bs.getD ed.on 0).testBit j=true)
 free:∀ (k j:Nat),i<=k->k<ops.size->j<k->(Bs.getD k 0).testBit j=true\/zRa (Ts.getD j {}) (Ts.getD k {})=false
theorem zJq{b:Nat}{t:Tok}:∀ {l:List Tok} {j:Nat},zGB b t j l=true->∀ k,k<l.length->b.testBit (j+k)=true\/zRa (l.getD k {}) t=false
 |[],j,_,k,hk=>by cases hk
 | u :: us,j,h,k,hk=>by
  simp only[zGB,bb,bV,bD] at h
  cases k with
  |zero=>simpa using h.1|succ k=>
   have:=zJq h.2 k (by simpa using hk);rw[show j+(k+1)=j+1+k by omega];simpa using this
theorem zSB{acc:LN}{o:Oper}{j:Nat}(h:(zID acc o).testBit j=true):∃ ed∈o.after.toList,Region.binds .any ed=true/\(ed.on=j\/(acc.getD ed.on 0).testBit j=true):=by
 have key:∀ (l:List Edge) (s:Nat),(l.foldl (fun s e=>if Region.binds .any e then s ||| 2 ^ e.on ||| acc.getD e.on 0 else s) s).testBit j=true->s.testBit j=true\/∃ ed∈l,Region.binds .any ed=true/\(ed.on=j\/(acc.getD ed.on 0).testBit j=true):=by
  intro l
  induction l with
  |nil=>intro s h;exact .inl h
  | cons x l ih =>
   intro s h;rcases ih _ h with h1|⟨ed,h1,h2⟩
   ·simp only at h1;by_cases hb:Region.binds .any x=true
    ·rw[if_pos hb] at h1;simp only[Nat.testBit_or,bV] at h1;rcases h1 with(h1|h1)|h1
     ·exact .inl h1
     ·refine .inr ⟨x,by simp,hb,.inl ?_⟩;rw[Nat.testBit_two_pow] at h1;simpa using h1
     ·exact .inr ⟨x,by simp,hb,.inr h1⟩
    ·rw[if_neg hb] at h1;exact .inl h1
   ·exact .inr ⟨ed,by simp[h1],h2⟩
 rcases key _ _ h with h1|h1
 ·simp at h1
 ·exact h1
theorem zJG{fzs tks:LN}{nl:Bool}{ops:Array Oper}{lg':Option Log}:∀ (l:List Oper) (i:Nat) (acc:LN) (ts:List Tok) (e:Env) (lg:Option Log),zCF P H orc fzs tks nl ops l i acc ts e lg=some (e',lg')->l=ops.toList.drop i->i+l.length=ops.size->acc.length=i->ts.length=i ->
  ∃ Bs Ts,(∀ k,k<i->Bs.getD k 0=acc.getD k 0/\Ts.getD k {}=ts.getD k {})/\Drawn ops i Bs Ts/\zOM P H orc fzs tks nl ops (fun k=>Ts.getD k {}) (List.range' i l.length) e.get lg e'.get lg'
 |[],i,acc,ts,e,lg,h,hl,hs,ha,ht=>by
  simp only[zCF,ba,bw] at h;obtain⟨rfl,rfl⟩:=h;have yG:ops.size=i:=by simpa using hs.symm
  refine⟨acc,ts,fun k _=>⟨rfl,rfl⟩,⟨fun k x hk hx=>?_,fun k x hk hx=>?_,fun k j hk qD=>by omega⟩,rfl,rfl⟩
  ·have:=(bS.1 hx).1;omega
  ·have:=(bS.1 hx).1;omega
 | o :: l, i,acc,ts,e,lg,h,hl,hs,ha,ht=>by
  simp only[zCF] at h
  cases hr:zEx P H orc (fzs.contains i) (tks.contains i) nl ops o e lg with
  |none=>rw[hr] at h;cases h
  | some r =>
   obtain⟨e1,lg1,t⟩:=r;rw[hr] at h;simp only at h
   cases hb:(o.after.toList.all (fun e=>!Region.binds .any e||blt e.on i)&&zGB (zID acc o) t 0 ts) with
   |false=>rw[hb] at h;cases h
   | true =>
    rw[hb] at h;simp only[cond_true] at h;rw[bb] at hb;have hi:ops[i]? = some o:=by
     have:=congrArg (·[0]?) hl;simp only[bJ,cf,bL] at this;rw[<- bO];exact this.symm
    have gq:l=ops.toList.drop (i+1):=by
     have:=congrArg List.tail hl;simpa using this
    obtain⟨Bs,Ts,h1,D,y7⟩:=zJG l (i+1) (acc++[zID acc o]) (ts++[t]) e1 lg1 h gq (by simp at hs;omega) (by simp[ha]) (by simp[ht]);have hBi:Bs.getD i 0=zID acc o:=by rw[(h1 i (by omega)).1,<- ha];simp[List.getD]
    have hTi:Ts.getD i {}=t:=by rw[(h1 i (by omega)).2,<- ht];simp[List.getD]
    have hold:∀ k,k<i->Bs.getD k 0=acc.getD k 0/\Ts.getD k {}=ts.getD k {}:=by
     intro k hk;obtain⟨h2,h3⟩:=h1 k (by omega);rw[h2,h3];simp only[List.getD];rw[cn (by omega),cn (by omega)];exact⟨rfl,rfl⟩
    have wg:∀ ed∈o.after.toList,Region.binds .any ed=true->ed.on<i:=by
     intro ed he hbd;have:=bj.1 hb.1 ed he;simp only[hbd,dy,co] at this;exact zCh this
    refine⟨Bs,Ts,hold,⟨fun k x hk hx=>?_,fun k x hk hx j hj=>?_,fun k j hk hks hj=>?_⟩,?_⟩
    ·by_cases qq:k=i
     ·subst qq;rw[hi] at hx;cases hx;exact wg
     ·exact D.early k x (by omega) hx
    ·by_cases qq:k=i
     ·subst qq;rw[hi] at hx;cases hx;rw[hBi] at hj;obtain⟨ed,h2,h3,h4⟩:=zSB hj;refine⟨ed,h2,h3,h4.imp_right fun h4=>?_⟩;rw[(hold _ (wg ed h2 h3)).1];exact h4
     ·exact D.bits k x (by omega) hx j hj
    ·by_cases qq:k=i
     ·subst qq;have:=zJq hb.2 j (by omega);rw[hBi,hTi,(hold j hj).2];simpa using this
     ·exact D.free k j (by omega) hks hj
    ·show zOM P H orc fzs tks nl ops _ (List.range' i (l.length+1)) _ _ _ _
     rw[fq];refine⟨o,e1.get,lg1,hi,?_,y7⟩;simp only[hTi];exact zTL hr
structure Frame (P:Program) (H:zBh) (orc:zAM) (nt:Nat) (ro:ON) (n:Nat) (D:Nat->Prop) (Fin:Option Log->Prop) (G:Act->World->Env->Option Log->Prop):Prop where
 down:∀ {ops:Array Oper} {o:Oper} {fz tk nl:Bool} {e e':Env} {lg lg':Option Log},zC1 P H orc fz tk nl ops o e lg=some (e',lg')->Fin lg'->Fin lg
 step:∀ {ops:Array Oper} {i:Nat} {o:Oper} {fz tk nl:Bool} {a:Act} {w:World} {e e':Env} {lg lg':Option Log} {Q:Exit->Act->World->Prop},zOs P nt ops=true->ops[i]? = some o->(∀ d,o.dst=some d->D d)->Fin lg'->G a w e lg->zC1 P H orc fz tk nl ops o e lg=some (e',lg') ->
  wpOpIn (FF ro) n P ops Q i (fun a' w'=>G a' w' e' lg') a w
 get:∀ {a:Act} {w:World} {e e':Env} {lg:Option Log},G a w e lg->e'.get=e.get->G a w e' lg
 tick:∀ {a:Act} {w:World} {e:Env} {lg:Option Log} (d:Nat),G a w e lg->G a {w with drawn:=d} e lg
 drop:∀ {a:Act} {w:World} {e:Env} {lg:Option Log} (l:LN),G a w e lg->G a w (e.drop l) lg
 ice:∀ {a:Act} {w:World} {e:Env} {lg:Option Log} (l:LN),G a w e lg->G a w (zXJ l e) lg
 cond:∀ {a:Act} {w:World} {e:Env} {lg:Option Log} {t:Nat} {b:Bool},G a w e lg->t<nt->e.get t = .bool b->a.tmps.getD t undef = .bool b
variable {G:Act->World->Env->Option Log->Prop} {Fin:Option Log->Prop} {D:Nat->Prop}
def zQE(D:Nat->Prop)(ops:Array Oper):Prop:=∀ o∈ops.toList,∀ d,o.dst=some d->D d
theorem zQE.at{ops:Array Oper}(h:zQE D ops){i:Nat}{o:Oper}(hi:ops[i]? = some o):∀ d,o.dst=some d->D d:=h o (by rw[<- bO] at hi;exact bG hi)
theorem zKb(F:Frame P H orc nt ro n D Fin G){fzs tks:LN}{nl:Bool}{ops:Array Oper}{tk:Nat->Tok}:∀ {l:LN} {e:Env} {g':zC3} {lg lg':Option Log},zOM P H orc fzs tks nl ops tk l e.get lg g' lg'->Fin lg'->Fin lg
 |[],_,_,_,_,⟨_,h⟩,hf=>by rw[<- h];exact hf|i::l,e,g',lg,lg',⟨x,m,lm,_,yC,hr⟩,hf=>by
  obtain⟨e1,h1,h2⟩:=yC.run;exact F.down h1 (zKb F (by rw[h2];exact hr) hf)
theorem zX4(F:Frame P H orc nt ro n D Fin G){ops:Array Oper}(jF:zOs P nt ops=true)(hD:zQE D ops){fzs tks:LN}{nl:Bool}{Bs:LN}{Ts:List Tok}(Dr:Drawn ops 0 Bs Ts){g':zC3}{lg':Option Log}(yM:Fin lg')
  (hq:∀ a' w' e',e'.get=g'->G a' w' e' lg'->Q .normal a' w'):∀ (rem:LN) (listed:Array Bool) {a:Act} {w:World} {e:Env} {lg:Option Log},listed.size=ops.size->rem.Pairwise (· < ·)->(∀ i,i∈rem↔i<ops.size/\listed.getD i true=false) ->
   (∀ i,i<ops.size->listed.getD i true=true->∀ j,(Bs.getD i 0).testBit j=true->listed.getD j true=true)->zOM P H orc fzs tks nl ops (fun k=>Ts.getD k {}) rem e.get lg g' lg'->G a w e lg ->
   wpAnyIn (FF ro) n P .any ops Q rem.length listed a w:=by
 have ready_mem:∀ (listed:Array Bool) (i:Nat),i∈Region.ready .any ops listed↔i<ops.size/\listed.getD i true=false/\∀ x,ops[i]? = some x->∀ ed∈x.after.toList,Region.binds .any ed=true->listed.getD ed.on false=true:=by
  intro listed i;simp only[Region.ready,bP,bC,bb,bD];refine⟨fun⟨h1,h2,h3⟩=>⟨h1,h2,fun x hx ed he hb=>?_⟩,fun⟨h1,h2,h3⟩=>⟨h1,h2,?_⟩⟩
  ·rw[hx] at h3;simp only[bu,de,Array.all_eq_true'] at h3;have:=h3 ed (by simpa using he);rw[hb] at this;simpa using this
  ·have hx:ops[i]? = some ops[i]:=cU h1;rw[hx];simp only[bu,de,Array.all_eq_true'];intro ed he
   cases hb:Region.binds .any ed with
   |false=>rfl|true=>simpa using h3 _ hx ed (by simpa using he) hb
 have tf:∀ {listed:Array Bool} {k:Nat},k<listed.size->listed.getD k true=listed.getD k false:=by
  intro listed k hk;simp[Array.getD,hk]
 have ft:∀ {listed:Array Bool} {k:Nat},listed.getD k false=true->listed.getD k true=true:=by
  intro listed k hk;by_cases yL:k<listed.size
  ·rw[tf yL];exact hk
  ·simp[Array.getD,yL] at hk
 intro rem
 induction hm:rem.length generalizing rem with
 |zero=>
  intro listed a w e lg yG wh jE wi y7 hf;have hrem:rem=[]:=bq hm;subst hrem;obtain⟨h1,rfl⟩:=y7;refine⟨?_,hq a w e h1.symm hf⟩;rw[fg];intro i hi;obtain⟨h1,h2,_⟩:=(ready_mem listed i).1 hi;exact absurd ((jE i).2 ⟨h1,h2⟩) (by simp)
 | succ m ih =>
  intro listed a w e lg yG wh jE wi y7 hf;refine⟨fun hr=>?_,fun i hi=>?_⟩
  ·
   exfalso
   match rem,hm with
   | i :: rest,_ =>
    have uB:=(jE i).1 (by simp);have:i∈Region.ready .any ops listed:=(ready_mem listed i).2 ⟨uB.1,uB.2,fun x hx ed he hb=>by
     have yL:=Dr.early i x (by omega) hx ed he hb;have hed:ed.on<listed.size:=by omega
     rw[<- tf hed]
     cases hl:listed.getD ed.on true with
     |true=>rfl|false=>
      have hin:=(jE ed.on).2 ⟨by omega,hl⟩;rcases bv.1 hin with h|h
      ·omega
      ·have:=im wh h;omega⟩
    rw[hr] at this;cases this
  ·obtain⟨h1,h2,h3⟩:=(ready_mem listed i).1 hi;obtain⟨l1,l2,hsplit⟩:=List.append_of_mem ((jE i).2 ⟨h1,h2⟩);subst hsplit;have hx:ops[i]? = some ops[i]:=cU h1;have v7:∀ j,(Bs.getD i 0).testBit j=true->listed.getD j true=true:=by
    intro j hj;obtain⟨ed,he,hb,hc⟩:=Dr.bits i _ (by omega) hx j hj;have hl:=ft (h3 _ hx ed he hb);rcases hc with hc|hc
    ·rw[<- hc];exact hl
    ·have yL:=Dr.early i _ (by omega) hx ed he hb;exact wi ed.on (by omega) hl j hc
   have wj:∀ j∈l1,zRa (Ts.getD j {}) (Ts.getD i {})=false:=by
    intro j hj;have wW:j<i:=by
     rw[dF] at wh;exact wh.2.2 j hj i (by simp)
    rcases Dr.free i j (by omega) h1 wW with hb|hb
    ·have:=v7 j hb;have hjn:=(jE j).1 (by simp[hj]);rw[hjn.2] at this;cases this
    ·exact hb
   obtain⟨x,g1,lg1,jg,yC,yr⟩:=zJC y7 wj;rw[hx] at jg;cases jg;obtain⟨e1,qJ,jh⟩:=yC.run;refine zDY (F.step jF hx (hD.at hx) (zKb F (by rw[jh];exact yr) yM) hf qJ) fun a' w' yw=>?_;have yf:∀ k,(listed.setIfInBounds i true).getD k true=if k=i then true else listed.getD k true:=by
    intro k;simp only[da,dN];by_cases hk:i=k
    ·subst hk;rw[if_pos rfl,if_pos rfl];split<;>rfl
    ·rw[if_neg hk,if_neg (fun e=>hk e.symm)]
   have hpw2:(l1++l2).Pairwise (· < ·):=by
    rw[dF] at wh ⊢;refine⟨wh.1,wh.2.1.tail,fun x hx y hy=>wh.2.2 x hx y (by simp[hy])⟩
   have hni:i∉l1/\i∉l2:=by
    rw[dF] at wh;refine⟨fun hin=>?_,fun hin=>?_⟩
    ·have:=wh.2.2 i hin i (by simp);omega
    ·have:=im wh.2.1 hin;omega
   have hmem2:∀ k,k∈l1++l2↔k<ops.size/\(listed.setIfInBounds i true).getD k true=false:=by
    intro k;rw[yf];by_cases hk:k=i
    ·subst hk;simp only[if_true,bg];exact⟨fun h=>absurd h (by simp[hni]),fun h=>by cases h.2⟩
    ·rw[if_neg hk,<- jE k];simp only[bg,bv,hk,false_or]
   have:=ih (l1++l2) (by simp at hm ⊢;omega) (listed.setIfInBounds i true) (by simpa using yG) hpw2 hmem2 (fun k hk hl j hj=>?_) (by rw[jh];exact yr) yw
   ·exact this
   ·rw[yf] at hl ⊢;split
    ·rfl
    ·split at hl
     ·rename_i qq;subst qq;exact v7 j hj
     ·exact wi k hk hl j hj
theorem zQQ(F:Frame P H orc nt ro n D Fin G)(zFr:P.follows .mixedOrders=true){ops:Array Oper}(jF:zOs P nt ops=true)(hD:zQE D ops){fzs tks:LN}{nl:Bool}{a:Act}{w:World}{e:Env}{lg lg':Option Log}{id:Nat}(yM:Fin lg')(hf:G a w e lg)
  (h:zCF P H orc fzs tks nl ops ops.toList 0 [] [] e lg=some (e',lg')) (hq:∀ a' w',G a' w' e' lg'->Q .normal a' w'):(Code.region id ops true).wpIn (FF ro) n P Q a w:=by
 obtain⟨Bs,Ts,_,Dr,y7⟩:=zJG ops.toList 0 [] [] e lg h (by simp) (by simp) rfl rfl;refine wpIn_region_any zFr ?_;have hZ:(List.range' 0 ops.toList.length).length=ops.size:=by simp
 have:=zX4 (Q:=Q) F jF hD Dr (g':=e'.get) yM (fun a' w' f hg yw=>hq a' w' (F.get yw hg.symm)) (List.range' 0 ops.toList.length) (Array.replicate ops.size false) (a:=a) (w:={w with drawn:=w.drawn+1}) (e:=e) (by simp) List.pairwise_lt_range' (fun i=>?_) (fun i hi hl=>?_) y7 (F.tick _ hf)
 ·rw[hZ] at this;exact this
 ·simp only[List.mem_range'_1,f0];constructor
  ·intro⟨_,h2⟩;have:i<ops.size:=by omega
   exact⟨this,by simp[Array.getD,this]⟩
  ·intro⟨h2,_⟩;omega
 ·simp[Array.getD,hi] at hl
theorem zH3(F:Frame P H orc nt ro n D Fin G){ops:Array Oper}{fzs tks:LN}{nl:Bool}{lg':Option Log}:∀ (l:List Oper) (i:Nat) {e:Env} {lg:Option Log},zBl P H orc fzs tks nl ops l i e lg=some (e',lg')->Fin lg'->Fin lg
 |[],i,e,lg,h,hf=>by
  simp only[zBl,ba,bw] at h;rw[h.2];exact hf
 |o :: l,i,e,lg,h,hf=>by
  simp only[zBl] at h;split at h
  ·rename_i e1 lg1 h1;exact F.down h1 (zH3 F l (i+1) h hf)
  ·cases h
theorem zVE(F:Frame P H orc nt ro n D Fin G){ops:Array Oper}{fzs tks:LN}{nl:Bool}{lg lg':Option Log}{e:Env}(h:zCF P H orc fzs tks nl ops ops.toList 0 [] [] e lg=some (e',lg'))(hf:Fin lg'):Fin lg:=by
 obtain⟨Bs,Ts,_,D,y7⟩:=zJG ops.toList 0 [] [] e lg h (by simp) (by simp) rfl rfl;exact zKb F y7 hf
theorem zIA(F:Frame P H orc nt ro n D Fin G){ops:Array Oper}(jF:zOs P nt ops=true)(hD:zQE D ops){fzs tks:LN}{nl:Bool}{lg':Option Log}(yM:Fin lg'):∀ (l:List Oper) (i:Nat) {a:Act} {w:World} {e:Env} {lg:Option Log},l=ops.toList.drop i->i+l.length=ops.size->G a w e lg ->
  zBl P H orc fzs tks nl ops l i e lg=some (e',lg')->(∀ a' w',G a' w' e' lg'->Q .normal a' w')->wpOpsIn (FF ro) n P ops Q (List.range' i l.length) a w
 |[],i,a,w,e,lg,hl,hs,hf,h,hq=>by
  simp only[zBl,ba,bw] at h;obtain⟨rfl,rfl⟩:=h;exact hq _ _ hf
 | o :: l,i,a,w,e,lg,hl,hs,hf,h,hq=>by
  simp only[zBl] at h;split at h
  ·rename_i e1 lg1 h1;have hi:ops[i]? = some o:=by
    have:=congrArg (·[0]?) hl;simp only[bJ,cf,bL] at this;rw[<- bO];exact this.symm
   have gq:l=ops.toList.drop (i+1):=by
    have:=congrArg List.tail hl;simpa using this
   show wpOpsIn (FF ro) n P ops Q (List.range' i (l.length+1)) a w
   rw[fq,wpOpsIn_cons];exact zDY (F.step jF hi (hD.at hi) (zH3 F l (i+1) h yM) hf h1) fun a' w' yw=>zIA F jF hD yM l (i+1) gq (by simp at hs;omega) yw h hq
  ·cases h
end
end Go.Eng
namespace Go.Eng
open Go
theorem zWL(e:Env)(k:Nat)(v:PV)(s:Nat):(Env.put e k v).get s=if s=k then v else e.get s:=by
 by_cases hv:v = .bad
 ·subst hv;simp only[Env.put]
  induction e with
  |nil=>simp only[fW,Env.get];split<;>rfl
  | cons x e ih =>
   obtain⟨k',v'⟩:=x;simp only[fp]
   cases hb:beq k' k with
   | true =>
    have:=bc hb;subst this;simp only[dy,bp,if_false,ih,Env.get];by_cases hs:s=k'
    ·rw[if_pos hs,if_pos hs]
    ·rw[if_neg hs,if_neg hs];have:beq k' s=false:=by cases h:beq k' s with|false=>rfl|true=>exact absurd (bc h).symm hs
     rw[this];rfl
   | false =>
    simp only[f8,if_true,Env.get]
    cases jS:beq k' s with
    |true=>
     have:=bc jS;subst this;have hI:k'≠k:=iG hb;rw[if_neg hI];rfl
    |false=>simp only[cond_false,ih]
 ·have:Env.put e k v=e.set k v:=by cases v<;>first|rfl|exact absurd rfl hv
  rw[this,Env.get_set]
theorem zI8:∀ (e:Env) (s:Nat),e.norm.get s=e.get s
 |[],_=>rfl|(k,v)::e,s=>by
  simp only[Env.norm,zWL,zI8 e,Env.get]
  cases hb:beq k s with
  |true=>rw[if_pos (bc hb).symm];rfl|false=>rw[if_neg (dA (iG hb))];rfl
section
variable {F:Fence} {n:Nat} {P:Program} {a:Act} {k:List Item} {cs:List Go.Frame} {w:World} {Q:Exit->Act->World->Prop}
theorem zDH{b:Go.Frame}{c:Code}:step P (lone (b.atR a (.code (.scope c)::k)) cs w) = .next (lone (b.atR a (.code c :: .inScope c::k)) cs w) :=
 step_lone_go (by simp[stepG,stepG.exec,Go.Frame.atR])
theorem zLM{b:Go.Frame}{c:Code}:step P (lone (b.atR a (.inScope c::k)) cs w) = .next (lone (b.atR a k) cs w) :=
 step_lone_go (by simp[stepG,stepG.exec,Go.Frame.atR])
theorem zQK{c:Code}(hq:∀ l a w,¬ Q (.goto l) a w)(h:c.wpIn F n P Q a w):(Code.scope c).wpIn F n P Q a w:=by
 intro b k cs vR hb hr;have h0:(lone (b.atR a (.code (.scope c)::k)) cs w).fenced P F:=fenced_calm hb hr rfl;obtain⟨e,a₁,w₁,ka,vq⟩:=h b (.inScope c::k) cs vR hb hr
 cases e with
 |normal=>exact⟨.normal,a₁,w₁,ka,.head h0 zDH (StepsIn.trans vq (.one (fenced_calm hb hr rfl) zLM))⟩
 | exit id =>
  have hx:exitTo id (.inScope c::k)=exitTo id k:=by simp[exitTo]
  exact⟨.exit id,a₁,w₁,ka,fun k' hk=>.head h0 zDH (vq.1 k' (by rw[hx];exact hk)),
   fun jd hk=>let⟨k₁,h1,h2⟩:=vq.2 jd (by rw[hx];exact hk);⟨k₁,h1,.head h0 zDH h2⟩⟩
 |goto l=>exact absurd ka (hq l a₁ w₁)|ret=>exact⟨_,a₁,w₁,ka,.of_steps (.one h0 zDH) vq⟩|panic ch=>exact⟨_,a₁,w₁,ka,.of_steps (.one h0 zDH) vq⟩|outgrown=>exact⟨_,a₁,w₁,ka,.of_steps (.one h0 zDH) vq⟩
end
section
variable {P:Program} {H:zBh} {nt:Nat} {orc:zAM} {yo:zC2} {al:All} {ro:ON} {n:Nat} {D:Nat->Prop} {Fin:Option Log->Prop} {G:Act->World->Env->Option Log->Prop} {hh:FHint}
theorem zLL(F:Frame P H orc nt ro n D Fin G):∀ (m:Nat) (c:Code) {e e':Env} {x:X} {lg lg':Option Log},exec P H orc yo al nt hh m c e lg=some (x,e',lg')->Fin lg'->Fin lg
 |0,c,e,e',x,lg,lg',h,hf=>by cases h
 | m + 1,c,e,e',x,lg,lg',h,hf=>by
  have yA:∀ {b:Code} {e e':Env} {x:X} {lg lg':Option Log},exec P H orc yo al nt hh m b e lg=some (x,e',lg')->Fin lg'->Fin lg:=fun h hf=>zLL F m _ h hf;cases c<;>simp only[exec] at h<;>try (cases h;done)
  case skip=>cases h;exact hf
  case region id ops draw=>
   split at h
   ·rename_i e1 lg1 h1;cases h
    cases draw with
    |true=>exact zVE F h1 hf|false=>exact zH3 F _ _ h1 hf
   ·cases h
  case seq a b=>
   split at h
   ·rename_i e1 lg1 h1;exact yA h1 (yA h hf)
   ·exact yA h hf
  case cond c a b=>
   cases c with
   |tmp t=>
    simp only at h;split at h
    ·exact yA h hf
    ·exact yA h hf
    ·cases h
   |const v=>
    split at h
    ·rename_i uY;cases uY
    ·exact yA h hf
    ·exact yA h hf
    ·cases h
   |global g=>cases h|func f=>cases h
  case block id b=>
   split at h
   ·rename_i id' r h1;obtain⟨e1,lg1⟩:=r;cases h;exact yA h1 hf
   ·exact yA h hf
  case loop b=>
   split at h
   ·rename_i e1 lg1 h1;exact yA h1 (yA h hf)
   ·exact yA h hf
  case exit id=>cases h;exact hf
  case ret=>cases h;exact hf
  case label l=>cases h;exact hf
  case scope b=>exact yA h hf
  case rangeFunc f ps a b=>
   cases f with
   | tmp t =>
    cases lg with
    |none=>
     simp only at h;obtain⟨r,_,h2⟩:=bm.1 h;cases h2;exact hf
    |some l=>cases h
   |const v=>cases h|global g=>cases h|func f=>cases h
def zEm(P:Program)(H:zBh)(orc:zAM)(yo:zC2)(al:All)(nt:Nat)(hh:FHint)(ro:ON)(n:Nat)(G:Act->World->Env->Option Log->Prop)(m:Nat):Prop :=
 ∀ m',m'<m->∀ (t:Nat) (ps:Array Tmp) (ca cb:Code) (a:Act) (w:World) (e:Env) (x:X) (e':Env),zCT P nt (.rangeFunc (.tmp t) ps ca cb)=true->G a w e none->exec P H orc yo al nt hh (m'+1) (.rangeFunc (.tmp t) ps ca cb) e none=some (x,e',none) ->
   (Code.rangeFunc (.tmp t) ps ca cb).wpIn (FF ro) n P (fun ex a' w'=>ex=x.exit/\G a' w' e' none) a w
theorem zEm.less{m m':Nat}(h:zEm P H orc yo al nt hh ro n G m)(hm:m'<=m):zEm P H orc yo al nt hh ro n G m':=fun k hk=>h k (by omega)
theorem zIe(F:Frame P H orc nt ro n D Fin G)(zFr:P.follows .mixedOrders=true):∀ (m:Nat) (c:Code) (hr:zDd c=true\/zEm P H orc yo al nt hh ro n G m) {a:Act} {w:World} {e:Env} {x:X} {e':Env} {lg lg':Option Log},zCT P nt c=true->(∀ d∈zB3 c,D d)->Fin lg'->G a w e lg->exec P H orc yo al nt hh m c e lg=some (x,e',lg') ->
  c.wpIn (FF ro) n P (fun ex a' w'=>ex=x.exit/\G a' w' e' lg') a w
 |0,c,hr,a,w,e,x,e',lg,lg',hc,hD,yM,hf,h=>by cases h
 | m + 1,c,hr,a,w,e,x,e',lg,lg',hc,hD,yM,hf,h=>by
  have yA:∀ {b:Code} {e1:Env} {y:X} {e2:Env} {a w} {l1 l2:Option Log},(zDd b=true\/zEm P H orc yo al nt hh ro n G m)->zCT P nt b=true->(∀ d∈zB3 b,D d)->Fin l2->G a w e1 l1->exec P H orc yo al nt hh m b e1 l1=some (y,e2,l2)->b.wpIn (FF ro) n P (fun ex a' w'=>ex=y.exit/\G a' w' e2 l2) a w :=
   fun hr hc hd hn hf h=>zIe F zFr m _ hr hc hd hn hf h
  have two:∀ {p q:Bool},((p&&q)=true\/zEm P H orc yo al nt hh ro n G (m+1))->(p=true\/zEm P H orc yo al nt hh ro n G m)/\(q=true\/zEm P H orc yo al nt hh ro n G m):=by
   intro p q h;rcases h with h|h
   ·rw[bb] at h;exact⟨.inl h.1,.inl h.2⟩
   ·exact⟨.inr (h.less (by omega)),.inr (h.less (by omega))⟩
  have one:∀ {p:Bool},(p=true\/zEm P H orc yo al nt hh ro n G (m+1))->(p=true\/zEm P H orc yo al nt hh ro n G m):=fun h=>h.imp_right fun h=>h.less (by omega);cases c<;>simp only[zCT,bb] at hc<;>try (cases hc;done)
  case skip=>
   simp only[exec,ba,bw] at h;obtain⟨rfl,rfl,rfl⟩:=h;exact wpIn_skip ⟨rfl,hf⟩
  case region id ops draw=>
   simp only[exec] at h;split at h
   ·rename_i e1 lg1 h1;simp only[ba,bw] at h;obtain⟨rfl,rfl,rfl⟩:=h;have fin:∀ {a' w'},G a' w' e1 lg1->G a' w' (e1.drop (hh.drop id)).norm lg1:=fun hg=>F.get (F.drop _ hg) (by funext s;exact zI8 _ s);have hDs:zQE D ops:=fun o ho d hd=>hD d (List.mem_filterMap.2 ⟨o,ho,hd⟩)
    cases draw with
    |true=>exact zQQ F zFr hc hDs yM hf h1 fun a' w' yw=>⟨rfl,fin yw⟩
    |false=>
     refine wpIn_region ?_;have:=zIA (Q:=fun ex a' w'=>ex=X.norm.exit/\G a' w' (e1.drop (hh.drop id)).norm lg1) F hc hDs yM ops.toList 0 (by simp) (by simp) hf h1 fun a' w' yw=>⟨rfl,fin yw⟩;rw[List.range_eq_range'];simpa using this
   ·cases h
  case seq c1 c2=>
   simp only[exec] at h;refine wpIn_seq ?_;split at h
   ·rename_i e1 lg1 h1;exact wpIn_mono (yA (two hr).1 hc.1 (fun d hd=>hD d (bt _ hd)) (zLL F _ _ h yM) hf h1) fun ex a' w' ⟨hx,yw⟩=>by subst hx;exact yA (two hr).2 hc.2 (fun d hd=>hD d (bn _ hd)) yM yw h
   ·rename_i hI;exact wpIn_mono (yA (two hr).1 hc.1 (fun d hd=>hD d (bt _ hd)) yM hf h) fun ex a' w' ⟨hx,yw⟩=>by
     subst hx
     cases x with
     |norm=>exact absurd h (hI _ _)|ex id=>exact⟨rfl,yw⟩|ret=>exact⟨rfl,yw⟩
  case cond c c1 c2=>
   have key:∀ t:Bool,a.eval c = .bool t->exec P H orc yo al nt hh m (if t then c1 else c2) e lg=some (x,e',lg')->(Code.cond c c1 c2).wpIn (FF ro) n P (fun ex a' w'=>ex=x.exit/\G a' w' e' lg') a w:=by
    intro t ht h;refine wpIn_cond ht ?_
    cases t with
    |true=>exact yA (two hr).1 hc.1.2 (fun d hd=>hD d (bt _ hd)) yM hf h
    |false=>exact yA (two hr).2 hc.2 (fun d hd=>hD d (bn _ hd)) yM hf h
   simp only[exec] at h
   cases c with
   |tmp t=>
    simp only at h;have jv:t<nt:=zCh hc.1.1;split at h
    ·rename_i hp;exact key true (F.cond hf jv hp) h
    ·rename_i hp;exact key false (F.cond hf jv hp) h
    ·cases h
   |const v=>
    split at h
    ·rename_i yI;cases yI
    ·rename_i uY;cases uY;exact key true rfl h
    ·rename_i uY;cases uY;exact key false rfl h
    ·cases h
   |global g=>cases h|func f=>cases h
  case block id b=>
   simp only[exec] at h;refine wpIn_block ?_;split at h
   ·rename_i id' r h1;obtain⟨e1,lg1⟩:=r;simp only[ba,bw] at h;obtain⟨rfl,rfl,rfl⟩:=h;refine wpIn_mono (yA (one hr) hc hD yM hf h1) fun ex a' w' ⟨hx,yw⟩=>?_;subst hx;simp only[X.exit,Exit.inBlock];split
    ·exact⟨rfl,yw⟩
    ·exact⟨rfl,yw⟩
   ·rename_i hI;refine wpIn_mono (yA (one hr) hc hD yM hf h) fun ex a' w' ⟨hx,yw⟩=>?_;subst hx
    cases x with
    |norm=>exact⟨rfl,yw⟩|ex id=>exact absurd h (hI _ _)|ret=>exact⟨rfl,yw⟩
  case loop b=>
   have key:∀ (m':Nat),m'<=m+1->∀ {e:Env} {a:Act} {w:World} {lg:Option Log},G a w e lg->exec P H orc yo al nt hh m' (.loop b) e lg=some (x,e',lg') ->
     Code.roundsIn (FF ro) n P b (fun ex a' w'=>ex=x.exit/\G a' w' e' lg') m' a w:=by
    intro m'
    induction m' with
    |zero=>intro _ e a w _ _ h;cases h
    | succ m' ih =>
     intro yR e a w lg hf h;simp only[exec] at h;show b.wpIn (FF ro) n P (Exit.then (Code.roundsIn (FF ro) n P b _ m') _) a w
     have gW:∀ {e1:Env} {y:X} {e2:Env} {a w} {l1 l2:Option Log},Fin l2->G a w e1 l1->exec P H orc yo al nt hh m' b e1 l1=some (y,e2,l2)->b.wpIn (FF ro) n P (fun ex a' w'=>ex=y.exit/\G a' w' e2 l2) a w:=by
      intro e1 y e2 a w l1 l2 hn hf h;exact zIe F zFr m' b (hr.imp_right fun h=>h.less (by omega)) hc hD hn hf h
     split at h
     ·rename_i e1 lg1 h1;exact wpIn_mono (gW (zLL F _ _ h yM) (F.drop _ hf) h1) fun ex a' w' ⟨hx,yw⟩=>by subst hx;exact ih (by omega) yw h
     ·rename_i hI;refine wpIn_mono (gW yM (F.drop _ hf) h) fun ex a' w' ⟨hx,yw⟩=>?_;subst hx
      cases x with
      |norm=>exact absurd h (hI _ _)|ex id=>exact⟨rfl,yw⟩|ret=>exact⟨rfl,yw⟩
   exact wpIn_loop_rounds (m+1) (key (m+1) (bi _) hf h)
  case exit id=>
   simp only[exec,ba,bw] at h;obtain⟨rfl,rfl,rfl⟩:=h;exact wpIn_exit ⟨rfl,F.ice _ hf⟩
  case ret=>
   simp only[exec,ba,bw] at h;obtain⟨rfl,rfl,rfl⟩:=h;exact wpIn_ret ⟨rfl,hf⟩
  case label l=>
   simp only[exec,ba,bw] at h;obtain⟨rfl,rfl,rfl⟩:=h;exact wpIn_label ⟨rfl,hf⟩
  case scope b=>
   simp only[exec] at h;exact zQK (fun l a w hx=>by cases x<;>cases hx.1) (yA (one hr) hc hD yM hf h)
  case rangeFunc f ps ca cb=>
   cases f with
   | tmp t =>
    have h0:=h;simp only[exec] at h
    cases lg with
    |none=>
     simp only at h;obtain⟨r,_,h2⟩:=bm.1 h;cases h2;rcases hr with hr|hr
     ·cases hr
     exact hr m (by omega) t ps ca cb a w e _ _ (by simp only[zCT,bb];exact hc) hf h0
    |some l=>cases h
   |const v=>simp only[exec] at h;cases h|global g=>simp only[exec] at h;cases h|func f=>simp only[exec] at h;cases h
end
end Go.Eng
namespace Go.Eng
open Go
structure Rel (w0:World) (U Φ0:Nat->Prop) (w1:World) (U1 Φ1:Nat->Prop):Prop where
 size:w0.heap.size<=w1.heap.size
 kept:∀ b,b<w0.heap.size->¬ U b->w1.heap[b]? = w0.heap[b]?
 own:∀ b,U1 b->U b\/w0.heap.size<=b
 frz:∀ b,Φ1 b->Φ0 b\/U b\/w0.heap.size<=b
 frz0:∀ b,Φ0 b->Φ1 b
 os:w1.os=w0.os
 tape:w1.tape=w0.tape
 output:w1.output=w0.output
section
variable {w0 w w' w1 w2:World} {U Φ0 Φ U1 Φ1 U2 Φ2:Nat->Prop} {nt:Nat} {hv:Hid} {a:Act} {e e':Env} {rv:Nat->Value} {E:Nat->PV} {L:Nat->LN}
theorem Rel.refl:Rel w U Φ w U Φ:=⟨bi _,fun _ _ _=>rfl,fun _ h=>.inl h,fun _ h=>.inl h,fun _ h=>h,rfl,rfl,rfl⟩
theorem Rel.trans(h:Rel w0 U Φ0 w1 U1 Φ1)(k:Rel w1 U1 Φ1 w2 U2 Φ2):Rel w0 U Φ0 w2 U2 Φ2:=by
 have hU:∀ b,b<w0.heap.size->¬ U b->¬ U1 b:=fun b hb hu h1=>by rcases h.own b h1 with h2|h2<;>first|exact hu h2|omega
 refine⟨bF h.size k.size,fun b hb hu=>(k.kept b (bH hb h.size) (hU b hb hu)).trans (h.kept b hb hu),fun b hb=>?_,fun b hb=>?_,fun b hb=>k.frz0 b (h.frz0 b hb),k.os.trans h.os,k.tape.trans h.tape,k.output.trans h.output⟩
 ·rcases k.own b hb with h1|h1
  ·exact h.own b h1
  ·exact .inr (bF h.size h1)
 ·rcases k.frz b hb with h1|h1|h1
  ·exact h.frz b h1
  ·rcases h.own b h1 with h2|h2
   ·exact .inr (.inl h2)
   ·exact .inr (.inr h2)
  ·exact .inr (.inr (bF h.size h1))
theorem Conf.rel(C:Conf w0 U Φ0 w Φ rv E L):Rel w0 U Φ0 w (fun b=>∃ s,b∈L s) Φ :=
 ⟨C.size,C.kept,fun b ⟨s,hs⟩=>(C.own s b hs).2.2,fun b hb=>(C.frz b hb).2,C.frz0,C.os,C.tape,C.output⟩
theorem Conf.rebase(h:Rel w0 U Φ0 w1 U1 Φ1)(C:Conf w1 U1 Φ1 w Φ rv E L):Conf w0 U Φ0 w Φ rv E L:=by
 have r:=h.trans C.rel;exact⟨C.rep,C.nodup,C.disj,fun s b hb=>⟨(C.own s b hb).1,(C.own s b hb).2.1,r.own b ⟨s,hb⟩⟩,fun b hb=>⟨(C.frz b hb).1,r.frz b hb⟩,r.frz0,r.size,r.kept,r.os,r.tape,r.output⟩
theorem Conf.fresh(C:Conf w0 U Φ0 w Φ rv E L):Conf w (fun b=>∃ s,b∈L s) Φ w Φ rv E L :=
 ⟨C.rep,C.nodup,C.disj,fun s b hb=>⟨(C.own s b hb).1,(C.own s b hb).2.1,.inl ⟨s,hb⟩⟩,fun b hb=>⟨(C.frz b hb).1,.inl hb⟩,fun _ h=>h,bi _,fun _ _ _=>rfl,rfl,rfl,rfl⟩
theorem Conf.moved(C:Conf w0 U Φ0 w Φ rv E L)(hs:w.heap.size<=w'.heap.size)(hL:∀ s,∀ b∈L s,w'.heap[b]? = w.heap[b]?)(hΦ:∀ b,Φ b->w'.heap[b]? = w.heap[b]?)(hk:∀ b,b<w0.heap.size->¬ U b->w'.heap[b]? = w.heap[b]?)
  (ho:w'.os=w.os/\w'.tape=w.tape/\w'.output=w.output):Conf w0 U Φ0 w' Φ rv E L:=by
 refine⟨fun s=>?_,C.nodup,C.disj,fun s b hb=>⟨bH (C.own s b hb).1 hs,(C.own s b hb).2⟩,fun b hb=>⟨bH (C.frz b hb).1 hs,(C.frz b hb).2⟩,C.frz0,bF C.size hs,fun b hb hu=>(hk b hb hu).trans (C.kept b hb hu),
  ho.1.trans C.os,ho.2.1.trans C.tape,ho.2.2.trans C.output⟩
 have:=Rep.map (f:=fun p=>p) (w':=w') (Φ':=Φ) (A':=zBb w' rv E) (fun _=>rfl) (fun b hb=>⟨hb,hΦ b hb⟩) (fun b v hw ha=>zDb hw (zCX C zCw ha (zBq _).symm rfl (hL _))) (E s) (rv s) (L s) (hL s) (C.rep s);rwa[zBq] at this
theorem Conf.arrive(C:Conf w0 U Φ0 w Φ rv E L)(hs:w.heap.size<=w'.heap.size)(hL:∀ s,∀ b∈L s,w'.heap[b]? = w.heap[b]?)(hΦ:∀ b,Φ b->w'.heap[b]? = w.heap[b]?):Conf w' (fun b=>∃ s,b∈L s) Φ w' Φ rv E L:=by
 refine⟨fun s=>?_,C.nodup,C.disj,fun s b hb=>⟨bH (C.own s b hb).1 hs,(C.own s b hb).2.1,.inl ⟨s,hb⟩⟩,fun b hb=>⟨bH (C.frz b hb).1 hs,.inl hb⟩,fun _ h=>h,bi _,fun _ _ _=>rfl,rfl,rfl,rfl⟩;have:=Rep.map (f:=fun p=>p) (w':=w') (Φ':=Φ) (A':=zBb w' rv E) (fun _=>rfl) (fun b hb=>⟨hb,hΦ b hb⟩) (fun b v hw ha=>zDb hw (zCX C zCw ha (zBq _).symm rfl (hL _))) (E s) (rv s) (L s) (hL s) (C.rep s);rwa[zBq] at this
theorem St.with(S:St w0 U Φ0 nt hv a w e Φ rv E L)(C:Conf w1 U1 Φ1 w' Φ2 rv E L):St w1 U1 Φ1 nt hv a w' e Φ2 rv E L :=
 ⟨C,S.env,S.size,S.small,S.tmps,S.parts,S.hid,S.dfr⟩
def zLk:PV->Value
 |.int k n=>.int k n|.bool b=>.bool b|_=>undef
def zCZ:PV->Value
 |.agg cs=>.agg (cs.map zLk).toArray|p=>zLk p
theorem zXd{A:Al}{p:PV}{v:Value}{Lp:LN}(h:Rep w Φ A p v Lp)(hn:p.num=true):v=zLk p:=by
 cases p<;>first|(cases hn;done)|exact h.1
theorem zQh{A:Al}:∀ {ps:List PV} {vs:List Value} {Lp:LN},zBa w Φ A ps vs Lp->ps.all PV.num=true->vs=ps.map zLk
 |[],vs,_,h,_=>h.1|p::ps,vs,_,⟨v,vs',L1,L2,h1,_,h3,h4⟩,hn=>by
  simp only[cO,bb] at hn;rw[h1,zXd h3 hn.1,zQh h4 hn.2];rfl
theorem zUh{A:Al}{p:PV}{v:Value}{Lp:LN}(h:Rep w Φ A p v Lp)(hn:p.flat=true):v=zCZ p:=by
 cases p<;>first|(cases hn;done)|exact h.1|skip
 obtain⟨vs,rfl,h2⟩:=h;have:=zQh h2 hn;simp only[zCZ,<- this]
theorem zU0(S:St w0 U Φ0 nt hv a w e Φ rv E L){x:Operand}(hx:zAZ nt x=true):Rep w Φ (zBb w rv E) (zQR e x) (a.eval x) []:=by
 cases x with
 |tmp t=>
  have ht:t<nt:=zCh hx;have hg:t<zAa:=bH ht (bF S.small (by decide));have:=S.conf.view hg;rw[S.env t hg,<- S.tmps t ht] at this;exact this
 |const v=>exact zKz v|global g=>exact(rfl:([]:LN)=[])|func f=>exact(rfl:([]:LN)=[])
theorem zUm{ops:Array Oper}{P:Program}(jF:zOs P nt ops=true)(S:St w0 U Φ0 nt hv a w e Φ rv E L){o:Oper}{b:Bool}(h:zMq ops e o=some b):Region.wanted o (yielded ops a.tmps)=b:=by
 have yY:∀ (j:Nat) (x:Oper),ops[j]? = some x->zTd P nt x=true:=fun j x hx=>bj.1 jF x (by
  rw[<- bO] at hx;exact bG hx)
 simp only[zMq] at h
 cases hg:o.guard with
 |none=>rw[hg] at h;simp only[ba] at h;subst h;simp[Region.wanted,hg]
 | some x =>
  obtain⟨j,want⟩:=x;rw[hg] at h;simp only at h
  cases hj:(ops[j]?).bind (·.dst) with
  |none=>rw[hj] at h;cases h
  | some t =>
   rw[hj] at h;simp only at h;have jv:t<nt:=by
    cases hoj:ops[j]? with
    |none=>rw[hoj] at hj;cases hj|some oj=>rw[hoj] at hj;exact zI4 (yY j oj hoj) t hj
   have yu:t<zAa:=bH jv (bF S.small (by decide));have hX:=S.conf.rep t;rw[S.env t yu] at hX;have htm:a.tmps[t]? = some (rv t):=by
    have h1:=S.tmps t jv;have h2:t<a.tmps.size:=by rw[S.size];exact jv
    rw[cU h2];simp only[Array.getD,h2,dite_true] at h1;rw[<- h1];rfl
   have kQ:yielded ops a.tmps j=match rv t with|.bool b=>some b|_=>none:=by
    simp only[yielded,hj,bd,htm];cases rv t<;>rfl
   revert h;cases hp:e.get t<;>intro h<;>try (cases h;done)
   case bool c=>
    simp only[ba] at h;have yI:rv t = .bool c:=by rw[hp] at hX;exact hX.1
    rw[yI] at kQ;simp only at kQ;rw[<- h];simp only[Region.wanted,hg,kQ];rfl
   case und=>
    simp only[ba] at h;have yI:rv t=undef:=by rw[hp] at hX;exact hX.1
    rw[yI] at kQ;rw[<- h];simp only[Region.wanted,hg,kQ];rfl
end
theorem zNg{P:Program}{w:World}{fn:Func}{a:Act}(h:fn.results.isEmpty=true):(results fn a.tmps).run P w = .ok (.tuple #[]) w:=by
 have h0:fn.results=#[]:=by simpa using h
 simp only[results,h0];simp[bo,bx]
structure Apart (w w':World) (B Ψ:Nat->Prop):Prop where
 size:w.heap.size<=w'.heap.size
 os:w'.os=w.os
 tape:w'.tape=w.tape
 output:w'.output=w.output
 kept:∀ b,b<w.heap.size->¬ B b->w'.heap[b]? = w.heap[b]?
 seen:∀ b,Ψ b->w'.heap[b]? = w.heap[b]?
structure Client (P:Program) (l:Nat) (plan:List (List PV)) (k0:Int) (Ψ:Nat->Prop) (J:List (List PV)->World->(Nat->Prop)->Prop) (Jx:World->Prop):Prop where
 abide:∀ {xs:List (List PV)} {w w':World} {B:Nat->Prop},J xs w B->w.heap.size<=w'.heap.size->(∀ b,B b->w'.heap[b]? = w.heap[b]?)->w'.os=w.os/\w'.tape=w.tape/\w'.output=w.output->J xs w' B
 small:∀ {xs:List (List PV)} {w:World} {B:Nat->Prop},J xs w B->∀ b,B b->b<w.heap.size
 round:∀ {xs:List (List PV)} {x:List PV} {w:World} {B:Nat->Prop},J xs w B->xs++[x] <+: plan->k0-xs.length≠1->x.all PV.flat=true->YieldAt (FF none) 0 P l (x.map zCZ).toArray w fun en w'=>en = .returned (.bool true)/\Apart w w' B Ψ /\
  ∃ B',J (xs++[x]) w' B'/\∀ b,B' b->B b\/w.heap.size<=b
 last:∀ {xs:List (List PV)} {x:List PV} {w:World} {B:Nat->Prop},J xs w B->xs++[x] <+: plan->k0-xs.length=1->x.all PV.flat=true->YieldAt (FF none) 0 P l (x.map zCZ).toArray w fun en w'=>en = .returned (.bool false)/\Jx w'
 abideX:∀ {w w':World},Jx w->w.heap.size<=w'.heap.size->(∀ b,b<w.heap.size->w'.heap[b]? = w.heap[b]?)->w'.os=w.os/\w'.tape=w.tape/\w'.output=w.output->Jx w'
section
variable {P:Program} {H:zBh} {orc:zAM} {yo:zC2} {al:All} {nt:Nat} {val:Nat->Value} {l:Nat} {plan:List (List PV)} {k0:Int} {Ψ:Nat->Prop} {J:List (List PV)->World->(Nat->Prop)->Prop} {Jx:World->Prop}
def GJ(nt:Nat)(val:Nat->Value)(l:Nat)(k0:Int)(Ψ:Nat->Prop)(J:List (List PV)->World->(Nat->Prop)->Prop)(Jx:World->Prop)(a:Act)(w:World)(e:Env)(lg:Option Log):Prop :=
 ∃ g,lg=some g/\g.at_=l/\g.k=k0-g.xs.length/\∃ w1 U1 Φ1,Fr w1 U1 Φ1 nt ⟨val,[]⟩ a w e /\
  ((g.k≠0/\∃ B,J g.xs w1 B/\(∀ b,B b->¬ U1 b)/\∀ b,Φ1 b->Ψ b\/¬ B b)\/(g.k=0/\Jx w1/\∀ b,¬ U1 b))
def zZy(plan:List (List PV))(lg:Option Log):Prop:=∃ g,lg=some g/\g.xs <+: plan
theorem zHZ{fz tk nl:Bool}{ops:Array Oper}{o:Oper}{e e':Env}{g:Log}{lg':Option Log}(h:zC1 P H orc fz tk nl ops o e (some g)=some (e',lg')):∃ g',lg'=some g'/\g.xs <+: g'.xs:=by
 have mp:∀ {x:Option Env} {q:Log},x.map (fun e'=>(e',some q))=some (e',lg')->lg'=some q:=by
  intro x q h;obtain⟨y,_,h2⟩:=bm.1 h;cases h2;rfl
 simp only[zC1] at h;split at h
 ·simp only[zB4] at h;split at h
  ·rcases zBt h with⟨_,h⟩|⟨_,h⟩
   ·exact⟨_,mp h,List.prefix_append _ _⟩
   ·cases h
  ·exact⟨_,mp h,fO _⟩
  ·cases h
 ·exact⟨_,mp h,fO _⟩
theorem zYh (jL : zGH P orc) (hnm:zE3 P) (hC:Client P l plan k0 Ψ J Jx):Frame P H orc nt none 0 (fun _=>True) (zZy plan) (GJ nt val l k0 Ψ J Jx):=by
 refine⟨?_,?_,?_,?_,?_,?_,?_⟩
 ·intro ops o fz tk nl e e' lg lg' h hf;obtain⟨g',rfl,hp⟩:=hf
  cases lg with
  |none=>simp only[zC1] at h;obtain⟨y,_,h2⟩:=bm.1 h;cases h2
  |some g=>
   obtain⟨g2,h2,h3⟩:=zHZ h;cases h2;exact⟨g,rfl,h3.trans hp⟩
 ·intro ops i o fz tk nl a w e e' lg lg' Q jF hi _ yM hG h;obtain ⟨g,rfl,jQ,hk,w1,U1,Φ1,hf,ju⟩:=hG;have yY:zTd P nt o=true:=bj.1 jF o (by
   rw[<- bO] at hi;exact bG hi)
  simp only[zC1] at h
  cases hy:zCr e o with
  |none=>
   rw[hy] at h;simp only at h;obtain⟨e1,h1,h2⟩:=bm.1 h;cases h2;exact zDY (zMh jL hnm jF hf hi h1) fun a' w' yw=>⟨g,rfl,jQ,hk,w1,U1,Φ1,yw,ju⟩
  | some yP =>
   obtain⟨h0,args⟩:=yP;rw[hy] at h;simp only at h;obtain⟨Φ,rv,E,L,S,hb⟩:=hf;have kO:=zI4 yY;simp only[zCr] at hy;split at hy
   ·rename_i c hc;split at hy
    ·rename_i tc yc;split at hy
     ·rename_i h0' kQ;simp only[ba,bw] at hy;obtain⟨rfl,rfl⟩:=hy;have yE:zAZ nt (.tmp tc)=true/\∀ x∈c.args.toList,zAZ nt x=true:=by
       have h1:=yY;simp only[zTd,hc,bb,yc] at h1;obtain⟨_,h2,h3⟩:=h1;exact⟨by simpa using h3,bj.1 (by simpa using h2)⟩
      have htc:tc<nt:=zCh yE.1;have yu:tc<zAa:=bH htc (bF S.small (by decide));have vr:a.eval (.tmp tc) = .func (.yield h0') #[] #[]:=by
       have:=S.conf.rep tc;rw[S.env tc yu,kQ] at this;show a.tmps.getD tc undef=_
       rw[S.tmps tc htc];exact this.2
      simp only[zB4] at h
      cases hw:zMq ops e o with
      |none=>rw[hw] at h;cases h
      | some b =>
       have uZ:=zUm jF S hw;simp only[wpOpIn,hi,uZ]
       cases b with
       |false=>
        rw[hw] at h;simp only at h;obtain⟨e1,h1,h2⟩:=bm.1 h;cases h2;exact⟨fun _ _=>trivial,g,rfl,jQ,hk,w1,U1,Φ1,zAE S hb kO h1 (p := .und) ⟨rfl,rfl⟩,ju⟩
       | true =>
        rw[hw] at h;simp only at h;rcases zBt h with⟨jK,h⟩|⟨_,h⟩
        ·simp only[bb] at jK;obtain⟨⟨jx,hkn⟩,vt⟩:=jK;have vt:=bc vt;rw[jQ] at vt;subst vt;have hkn:g.k≠0:=by simpa using hkn
         obtain⟨e1,h1,h2⟩:=bm.1 h;cases h2;rcases ju with⟨_,B,hJ,hBU,hBΦ⟩|⟨h0,_⟩
         ·
          have hvals:c.args.map a.eval=((c.args.toList.map (zQR e)).map zCZ).toArray:=by
           have key:∀ l:List Operand,(∀ x∈l,zAZ nt x=true)->(l.map (zQR e)).all PV.flat=true->l.map a.eval=(l.map (zQR e)).map zCZ:=by
            intro l
            induction l with
            |nil=>intro _ _;rfl|cons x l ih=>
             intro h1 h2;simp only[bM,cO,bb] at h2;simp only[bM];rw[zUh (zU0 S (h1 x (by simp))) h2.1,ih (fun y hy=>h1 y (by simp[hy])) h2.2]
           have:=key c.args.toList yE.2 jx;rw[<- this];apply Array.toList_inj.1;simp
          have hJw:J g.xs w B:=by
           refine hC.abide hJ S.conf.size (fun b hb=>S.conf.kept b (hC.small hJ b hb) (hBU b hb)) ⟨S.conf.os,S.conf.tape,S.conf.output⟩
          have hLB:∀ s,∀ b∈L s,¬ B b:=by
           intro s b jT qP;rcases(S.conf.own s b jT).2.2 with h3|h3
           ·exact hBU b qP h3
           ·have:=hC.small hJ b qP;omega
          have hΦB:∀ b,Φ b->Ψ b\/¬ B b:=by
           intro b hbΦ;rcases(S.conf.frz b hbΦ).2 with h3|h3|h3
           ·exact hBΦ b h3
           ·exact .inr fun qP=>hBU b qP h3
           ·exact .inr fun qP=>by have:=hC.small hJ b qP;omega
          have gX:g.xs++[c.args.toList.map (zQR e)] <+: plan:=by
           obtain⟨g2,u6,hp⟩:=yM;cases u6;exact hp
          have hexec:(execOp a.eval o).run P w=(Instr.yield h0' (c.args.map a.eval)).run P w:=by
           simp only[execOp,hc,Go.resolve,yc,vr,Deferred.ofValue,bo,bx,bh,invoke];simp
          have kw:∀ {R:Ending->World->Prop},YieldAt (FF none) 0 P h0' ((c.args.toList.map (zQR e)).map zCZ).toArray w R->(∀ en w',R en w'->∃ v,en = .returned v/\GJ nt val h0' k0 Ψ J Jx (a.put o.dst v) w' e' (some ⟨g.xs++[c.args.toList.map (zQR e)],g.k-1,g.at_⟩)) ->
            o.wpIn (FF none) 0 P a w (fun a' w'=>GJ nt val h0' k0 Ψ J Jx a' w' e' (some ⟨g.xs++[c.args.toList.map (zQR e)],g.k-1,g.at_⟩)) Q:=by
           intro R ⟨fn,tmps,ca,cb,yA,yU⟩ hR;refine⟨fun _ _=>trivial,?_⟩;rw[Oper.semAt_eq (FF none).round a.eval o (fun c' hc'=>by rw[hc] at hc';cases hc'),hexec,hvals,yA];refine⟨fun h=>(by cases h),yU.mono fun en w' v6=>?_⟩;obtain⟨v,rfl,hv⟩:=hR en w' v6;exact hv
          have hZ:g.k-1=k0-((g.xs++[c.args.toList.map (zQR e)]).length:Int):=by rw[hk];simp;omega
          rcases zBt h1 with⟨jX,h1⟩|⟨jX,h1⟩
          ·
           have jX:g.k=1:=by simpa using jX
           refine kw (hC.last hJw gX (by rw[<- hk];exact jX) jx) fun en w' ⟨v6,hx⟩=>⟨_,v6,?_⟩;refine⟨_,rfl,jQ,hZ,w',fun _=>False,fun _=>False,?_,.inr ⟨by rw[jX];rfl,hx,fun _ h=>h⟩⟩;have C':Conf w' (fun _=>False) (fun _=>False) w' (fun _=>False) rv (fun s=>if (E s).num then E s else .bad) (fun _=>[]):=by
            refine⟨fun s=>?_,fun _=>b4,fun _ _ _ b hb=>(by cases hb),fun s b hb=>(by cases hb),fun b hb=>hb.elim,fun b hb=>hb,bi _,fun _ _ _=>rfl,rfl,rfl,rfl⟩;have:=S.conf.rep s;split
            ·rename_i hn;revert this hn;cases E s<;>intro this hn<;>first|(cases hn;done)|exact⟨this.1,rfl⟩
            ·rfl
           have S':St w' (fun _=>False) (fun _=>False) nt ⟨val,[]⟩ a w' (e.forget zAa) (fun _=>False) rv (fun s=>if (E s).num then E s else .bad) (fun _=>[]):=by
            refine⟨C',fun s hs=>?_,S.size,S.small,S.tmps,fun d ps j hd hp hj=>?_,S.hid,S.dfr⟩
            ·rw[zEZ,S.env s hs];have:s≠zAa:=by omega
             simp[this]
            ·split at hp
             ·rename_i hn;rw[hp] at hn;cases hn
             ·cases hp
           exact zAE S' (fun s hs=>by show(if (E s).num then E s else bad) = .bad;rw[hb s hs];rfl) kO h1 (p := .bool false) ⟨rfl,rfl⟩
          ·
           have jX:g.k≠1:=by simpa using jX
           refine kw (hC.round hJw gX (by rw[<- hk];exact jX) jx) fun en w' ⟨v6,hap,B',hJ',hB'⟩=>⟨_,v6,?_⟩;have hLk:∀ s,∀ b∈L s,w'.heap[b]? = w.heap[b]?:=fun s b hb=>hap.kept b (S.conf.own s b hb).1 (hLB s b hb);have hΦk:∀ b,Φ b->w'.heap[b]? = w.heap[b]?:=fun b hb=>(hΦB b hb).elim (fun h=>hap.seen b h) (fun h=>hap.kept b (S.conf.frz b hb).1 h);have C1:=S.conf.arrive (w':=w') hap.size hLk hΦk;have S':=S.with C1;refine⟨_,rfl,jQ,hZ,w',_,_,zAE S' hb kO h1 (p := .bool true) ⟨rfl,rfl⟩,.inl ⟨by simp only;omega,B',hJ',fun b qP ⟨s,jT⟩=>?_,fun b hbΦ=>?_⟩⟩
           ·rcases hB' b qP with h3|h3
            ·exact hLB s b jT h3
            ·have:=(S.conf.own s b jT).1;omega
           ·rcases hΦB b hbΦ with h3|h3
            ·exact .inl h3
            ·refine .inr fun qP=>?_;rcases hB' b qP with h4|h4
             ·exact h3 h4
             ·have:=(S.conf.frz b hbΦ).1;omega
         ·exact absurd h0 hkn
        ·cases h
     ·cases hy
    ·cases hy
   ·cases hy
 ·intro a w e e' lg ⟨g,h1,h2,h3,w1,U1,Φ1,hf,hc⟩ hg;exact⟨g,h1,h2,h3,w1,U1,Φ1,hf.get' hg,hc⟩
 ·intro a w e lg d ⟨g,h1,h2,h3,w1,U1,Φ1,hf,hc⟩;exact⟨g,h1,h2,h3,w1,U1,Φ1,hf.tick d,hc⟩
 ·intro a w e lg l ⟨g,h1,h2,h3,w1,U1,Φ1,hf,hc⟩;exact⟨g,h1,h2,h3,w1,U1,Φ1,hf.drop l,hc⟩
 ·intro a w e lg l ⟨g,h1,h2,h3,w1,U1,Φ1,hf,hc⟩;exact⟨g,h1,h2,h3,w1,U1,Φ1,hf.ice,hc⟩
 ·intro a w e lg t b ⟨g,h1,h2,h3,w1,U1,Φ1,⟨Φ,rv,E,L,S,hb⟩,hc⟩ ht he;have yu:t<zAa:=bH ht (bF S.small (by decide));have:=S.conf.rep t;rw[S.env t yu,he] at this;rw[S.tmps t ht];exact this.1
theorem zWB(zFr:P.follows .mixedOrders=true)(jL:zGH P orc)(hnm:zE3 P)(hC:Client P l plan k0 Ψ J Jx){m:Nat}{f:FuncId}{fn:Func}{body:Code}{args:List PV}(hf:P.funcs[f]? = some fn)(y1:fn.body=some body)(jR:zCT P fn.ntmps body=true)
  (uz:fn.ntmps<=2000000) (yP:args.length<=fn.ntmps) (vB:args.all (fun p=>!p.isTup)=true) (yi:fn.results.isEmpty=true) {x:X} {e1:Env} {g:Log}
  (hx:exec P H orc yo al fn.ntmps (H f) m body (zBg args []) (some ⟨[],k0,l⟩)=some (x,e1,some g)) (hxn:x = .norm\/x = .ret) (hg:g.xs=plan) (hk:k0≠0)
  {w:World} {Φ:Nat->Prop} {rv:Nat->Value} {E:Nat->PV} {L:Nat->LN} {vs:Array Value} (hE:∀ s,s<zAa->E s=(zBg args []).get s) (kR:∀ s,zAa<=s->E s = .bad) (C:Conf w (fun b=>∃ s,b∈L s) Φ w Φ rv E L)
  (yG:vs.size=args.length) (yj:∀ i,i<args.length->vs[i]? = some (rv i)) (j3:∀ s,args.length<=s->s<zAk->rv s=undef) {B:Nat->Prop} (hJ:J [] w B) (hBL:∀ b,B b->∀ s,b∉L s) (hBΦ:∀ b,Φ b->Ψ b\/¬ B b) :
  CallsIn (FF none) 0 P f vs w fun en w'=>(∃ v,en = .returned v)/\((k0-plan.length≠0/\∃ B',J plan w' B')\/(k0-plan.length=0/\Jx w')):=by
 have ho:zAI=60000000:=rfl;have hh:zAk=50000000:=rfl;have qM:zAa=1000000000:=rfl;refine callsIn_of_wp hf y1 trivial ?_;have S:St w (fun b=>∃ s,b∈L s) Φ fn.ntmps ⟨rv,[]⟩ {tmps:=vs++Array.replicate (fn.ntmps-vs.size) undef,defers:=[]} w (zBg args []) Φ rv E L:=by
  refine⟨C,hE,by simp;omega,uz,fun t ht=>?_,fun d ps i hd hp hi=>?_,fun _ _ _=>rfl,rfl⟩
  ·simp only[da,Array.getElem?_append];by_cases h1:t<vs.size
   ·rw[if_pos h1,yj t (by omega)];rfl
   ·rw[if_neg h1,iv,if_pos (by omega),j3 t (by omega) (by omega)];rfl
  ·rw[hE d (by omega),zDs (by omega)] at hp;split at hp
   ·rename_i wN;have:(args.getD d .bad)∈args:=by
     simp only[List.getD,bk wN,de];exact cC wN
    have:=bj.1 vB _ this;rw[hp] at this;cases this
   ·split at hp
    ·rename_i h2;simp at h2;omega
    ·cases hp
 have yM:zZy plan (some g):=⟨g,rfl,by rw[hg];exact fO _⟩
 have hw:=zIe (zYh (val:=rv) jL hnm hC) zFr m body (.inr fun m' _ t ps ca cb a w e x e' _ hG _=>by obtain⟨g,h,_⟩:=hG;cases h) jR (fun _ _=>trivial) yM
  (⟨_,rfl,rfl,by simp,w,_,_,⟨Φ,rv,E,L,S,kR⟩,.inl ⟨hk,B,hJ,fun b hb ⟨s,hs⟩=>hBL b hb s hs,hBΦ⟩⟩:GJ fn.ntmps rv l k0 Ψ J Jx _ w (zBg args []) (some ⟨[],k0,l⟩)) hx
 refine wpIn_mono hw fun ex a' w' ⟨qr,g',hg',_,qO,w1,U1,Φ1,uj,ju⟩=>?_;cases hg';rw[hg] at qO;rw[qO] at ju;obtain⟨Φ2,rv2,E2,L2,S2,jS⟩:=uj;have yA:=zNg (P:=P) (w:=w') (fn:=fn) (a:=a') yi;have wc:bodyPost P fn (fun en w'=>(∃ v,en = .returned v)/\((k0-plan.length≠0/\∃ B',J plan w' B')\/(k0-plan.length=0/\Jx w'))) .normal a' w':=by
  refine⟨S2.dfr,_,yA,⟨_,rfl⟩,?_⟩;rcases ju with⟨h1,B1,hJ1,hBU,_⟩|⟨h1,jg,hU⟩
  ·rw[hg] at hJ1;exact .inl ⟨h1,B1,hC.abide hJ1 S2.conf.size (fun b hb=>S2.conf.kept b (hC.small hJ1 b hb) (hBU b hb)) ⟨S2.conf.os,S2.conf.tape,S2.conf.output⟩⟩
  ·exact .inr ⟨h1,hC.abideX jg S2.conf.size (fun b hb=>S2.conf.kept b hb (hU b)) ⟨S2.conf.os,S2.conf.tape,S2.conf.output⟩⟩
 subst qr;rcases hxn with rfl|rfl<;>exact wc
end
end Go.Eng
namespace Go.Eng
open Go
section
variable {w0 w w' w1 w2:World} {U Φ0 Φ U1 Φ1 U2 Φ2:Nat->Prop} {nt:Nat} {hv:Hid} {a:Act} {e e':Env} {rv rv':Nat->Value} {E E':Nat->PV} {L L':Nat->LN}
theorem zPX{f:Nat->PV->PV}:∀ (e:Env) (s:Nat),f s .bad = .bad->Env.get (e.map fun x=>(x.1,f x.1 x.2)) s=f s (e.get s)
 |[],s,h=>h.symm|(k,v)::e,s,h=>by
  simp only[bM,Env.get]
  cases hb:beq k s with
  |true=>rw[bc hb];rfl|false=>exact zPX e s h
def zDz(nt:Nat)(R ds:LN)(e:Env)(s:Nat)(p:PV):PV :=
 bif R.contains s || !p.heavy&&p.ways.all (fun w=>R.contains w.1) then p else bif !(blt s nt && !ds.contains s||ble zAk s&&blt s zAI) then .bad else bif (R.isEmpty||(e.get s).free) && !(e.get s).isTup then e.get s else .bad
theorem zTN(nt:Nat)(R ds:LN)(e0 e:Env)(s:Nat):(after nt R ds e0 e).get s=zDz nt R ds e s (e0.get s) :=
 zPX (f:=fun s p=>zDz nt R ds e s p) e0 s (by simp[zDz,PV.heavy,PV.ways])
theorem zLZ(nt:Nat)(R ds:LN)(e:Env)(s:Nat)(p:PV) :
  (zDz nt R ds e s p=p/\s∈R)\/(zDz nt R ds e s p=p/\p.heavy=false/\∀ x∈p.ways,x.1∈R)\/zDz nt R ds e s p = .bad \/
  (zDz nt R ds e s p=e.get s/\s∉R/\((s<nt/\s∉ds)\/(zAk<=s/\s<zAI))/\(R=[]\/(e.get s).free=true)/\(e.get s).isTup=false):=by
 simp only[zDz]
 cases h1:(R.contains s || !p.heavy&&p.ways.all (fun w=>R.contains w.1)) with
 |true=>
  simp only[bV,bb,bD,dq,bj] at h1;rcases h1 with h1|⟨h1,h2⟩
  ·exact .inl ⟨rfl,h1⟩
  ·exact .inr (.inl ⟨rfl,h1,h2⟩)
 | false =>
  simp only[cond_false];have hs:s∉R:=by
   simp only[cD] at h1;intro hm;rw[dq.2 hm] at h1;cases h1.1
  cases h2:(!(blt s nt && !ds.contains s||ble zAk s&&blt s zAI)) with
  |true=>exact .inr (.inr (.inl rfl))
  | false =>
   simp only[cond_false]
   cases h3:((R.isEmpty||(e.get s).free) && !(e.get s).isTup) with
   |false=>exact .inr (.inr (.inl rfl))
   | true =>
    simp only[bB,bV,bb,bD] at h2 h3;refine .inr (.inr (.inr ⟨rfl,hs,?_,?_,h3.2⟩))
    ·rcases h2 with⟨h4,h5⟩|⟨h4,h5⟩
     ·refine .inl ⟨zCh h4,fun hm=>?_⟩;rw[dq.2 hm] at h5;cases h5
     ·exact .inr ⟨br h4,zCh h5⟩
    ·rcases h3.1 with h4|h4
     ·exact .inl (by simpa using h4)
     ·exact .inr h4
theorem zQz{p:PV}(h:p.flat=true):p.isTup=false/\p.heavy=false:=by
 cases p<;>first|(cases h;done)|exact⟨rfl,rfl⟩|skip
 rename_i cs;refine⟨rfl,?_⟩;have key:∀ cs:List PV,cs.all PV.num=true->zDj cs=false:=by
  intro cs
  induction cs with
  |nil=>intro _;rfl|cons c cs ih=>
   intro h;simp only[cO,bb] at h;simp only[zDj,ih h.2,ie];cases c<;>first|(cases h.1;done)|rfl
 exact key cs h
theorem zXB{A:Al}{p:PV}(h:p.num=true):Rep w Φ A p (zLk p) []:=by
 cases p<;>first|(cases h;done)|exact⟨rfl,rfl⟩
theorem zPs{A:Al}:∀ (ps:List PV),ps.all PV.num=true->zBa w Φ A ps (ps.map zLk) []
 |[],_=>⟨rfl,rfl⟩|p::ps,h=>by
  simp only[cO,bb] at h;exact⟨_,_,[],[],rfl,rfl,zXB h.1,zPs ps h.2⟩
theorem zUi{A:Al}{p:PV}(h:p.flat=true):Rep w Φ A p (zCZ p) []:=by
 cases p<;>first|(cases h;done)|exact⟨rfl,rfl⟩|skip
 exact⟨_,rfl,by simpa using zPs _ h⟩
theorem zIx:∀ (ps:List Tmp) (x:List PV) {a:Act} {e e1:Env},Fr w0 U Φ0 nt hv a w e->(∀ t∈ps,t<nt)->x.all PV.flat=true->zCI ps x e=some e1 ->
  ps.length=x.length/\Fr w0 U Φ0 nt hv {a with tmps:=(ps.zip (x.map zCZ)).foldl (fun t (p,v)=>t.setIfInBounds p v) a.tmps} w e1 /\
  ∀ t,t∉ps->((ps.zip (x.map zCZ)).foldl (fun t (p,v)=>t.setIfInBounds p v) a.tmps).getD t undef=a.tmps.getD t undef
 |[],[],a,e,e1,hf,_,_,h=>by
  simp only[zCI,ba] at h;subst h;exact⟨rfl,hf,fun _ _=>rfl⟩
 |[],_::_,a,e,e1,hf,_,_,h=>by cases h|_::_,[],a,e,e1,hf,_,_,h=>by cases h
 | t :: ts,v::vs,a,e,e1,hf,ht,hx,h=>by
  simp only[zCI] at h;split at h
  ·cases h
  ·simp only[cO,bb] at hx;obtain⟨Φ,rv,E,L,S,hb⟩:=hf;have hl:=zQz hx.1;have yA:(put (some t) v).run (fun _ _ _=>none) e=some (e.set t v):=by
    simp only[put,hl.1,cond_false,lay,hl.2,PM.run]
   have hf1:=zAE (d:=some t) S hb (fun y hy=>by cases hy;exact ht t (by simp)) yA (zUi hx.1);obtain⟨h1,h2,h3⟩:=zIx ts vs hf1 (fun y hy=>ht y (by simp[hy])) hx.2 h;refine⟨by simp[h1],h2,fun y hy=>?_⟩;simp only[bv,not_or] at hy;have:=h3 y hy.2;simp only[bM,List.zip_cons_cons,bZ];refine fv this ?_;show(a.tmps.setIfInBounds t (zCZ v)).getD y undef=_
   simp only[da,dN];rw[if_neg (fun e=>hy.1 e.symm)]
end
theorem zOu{F:Fence}{n:Nat}{P:Program}{ops:Array Oper}{Q:Exit->Act->World->Prop}{i:Nat}{K:Act->World->Prop}{T:Act->Prop}{a:Act}{w:World}{o:Oper}(hi:ops[i]? = some o)(hT:∀ v ds,T ({a with defers:=ds}.put o.dst v))
  (h:wpOpIn F n P ops Q i K a w):wpOpIn F n P ops Q i (fun a' w'=>K a' w'/\T a') a w:=by
 have hT0:∀ v,T (a.put o.dst v):=fun v=>hT v a.defers;simp only[wpOpIn,hi] at h ⊢;split
 ·rename_i hw;rw[if_pos hw] at h;refine⟨h.1,?_⟩;have h:=h.2;revert h;generalize (o.semAt F.round a.eval).run P w=r;intro h
  cases r with
  | ok x w' =>
   cases x<;>simp only[Oper.uponIn] at h ⊢ <;> first
    |exact⟨h,hT0 _⟩
    |exact⟨h,hT _ _⟩
    |exact⟨h.1,h.2.mono fun e w'' he=>by cases e<;>first|exact⟨he,hT0 _⟩|exact he⟩
    |exact⟨h.1,h.2.mono fun v w'' he=>⟨he,hT0 _⟩⟩
    |exact h
  |halt x w'=>cases x<;>simp only[Oper.uponIn] at h ⊢ <;> exact h
 ·rename_i hw;rw[if_neg hw] at h;exact⟨h.1,h.2,hT0 _⟩
def GR(wb:World)(Ub Φb:Nat->Prop)(nt:Nat)(val:Nat->Value)(ds:LN)(tm:Array Value)(a:Act)(w:World)(e:Env)(lg:Option Log):Prop :=
 lg=none/\Fr wb Ub Φb nt ⟨val,[]⟩ a w e/\∀ t,t∉ds->a.tmps.getD t undef=tm.getD t undef
theorem zVX{P:Program}{H:zBh}{orc:zAM}{nt l:Nat}{wb:World}{Ub Φb:Nat->Prop}{val:Nat->Value}{ds:LN}{tm:Array Value}(jL:zGH P orc)(hnm:zE3 P) :
  Frame P H orc nt (some l) 0 (fun d=>d∈ds) (fun lg=>lg=none) (GR wb Ub Φb nt val ds tm):=by
 refine⟨?_,?_,?_,?_,?_,?_,?_⟩
 ·intro ops o fz tk nl e e' lg lg' h hf
  cases lg with
  |none=>rfl|some g=>obtain⟨g',h2,_⟩:=zHZ h;rw[h2] at hf;cases hf
 ·intro ops i o fz tk nl a w e e' lg lg' Q jF hi hd yM ⟨uc,hf,ht⟩ h;subst uc;simp only[zC1] at h;obtain⟨e1,h1,h2⟩:=bm.1 h;cases h2;refine zDY (zOu (T:=fun a'=>∀ t,t∉ds->a'.tmps.getD t undef=tm.getD t undef) hi (fun v ds' t vT=>?_) (zMh jL hnm jF hf hi h1)) fun a' w' ⟨yw,ht'⟩=>⟨rfl,yw,ht'⟩;rw[<- ht t vT]
  cases kO:o.dst with
  |none=>rfl|some d=>
   have hI:t≠d:=by rintro rfl;exact vT (hd t kO)
   simp only[Act.put,da,dN];rw[if_neg (fun e=>hI e.symm)]
 ·intro a w e e' lg ⟨h1,hf,ht⟩ hg;exact⟨h1,hf.get' hg,ht⟩
 ·intro a w e lg d ⟨h1,hf,ht⟩;exact⟨h1,hf.tick d,ht⟩
 ·intro a w e lg l ⟨h1,hf,ht⟩;exact⟨h1,hf.drop l,ht⟩
 ·intro a w e lg l ⟨h1,hf,ht⟩;exact⟨h1,hf.ice,ht⟩
 ·intro a w e lg t b ⟨_,⟨Φ,rv,E,L,S,hb⟩,_⟩ ht he;have yu:t<zAa:=bH ht (bF S.small (by decide));have:=S.conf.rep t;rw[S.env t yu,he] at this;rw[S.tmps t ht];exact this.1
def X.isNorm:X->Bool
 |.norm=>true|_=>false
def zI3:X->Code
 |.ret=>.ret|.ex id=>.exit id|.norm=>.skip
def zJE(run:Code->Env->Option (X×Env))(ps:List Tmp)(ca cb:Code)(x:List PV)(e:Env):Option (X×Env) :=
 match zCI ps x e with
 |some e1=>match run ca e1 with
  |some (.norm,e2)=>run cb e2|_=>none
 |none=>none
section
variable {w0 w w' w1 w2:World} {U Φ0 Φ U1 Φ1 U2 Φ2:Nat->Prop} {nt:Nat} {hv:Hid} {a:Act} {e e':Env} {rv rv':Nat->Value} {E E':Nat->PV} {L L':Nat->LN}
theorem zMK{p:PV}(h:p.heavy=false):p.unlock=p:=by cases p<;>first|rfl|cases h
open Classical in
theorem Conf.behind{wb w4:World}{Ub Φb Φ3:Nat->Prop}{rv3:Nat->Value}{E3:Nat->PV}{L3:Nat->LN}{e3:Env}{R ds:LN}(C:Conf w0 U Φ0 w Φ rv E L)(hE:∀ s,s<zAa->E s=e.get s)(kR:zBz E)
  (C3:Conf wb Ub Φb w4 Φ3 rv3 E3 L3) (hE3:∀ s,s<zAa->E3 s=e3.get s) (yO:∀ r∈R,∀ x∈(E r).ways,x.1∈R)
  (ja:∀ s,(s<nt/\s∉ds)\/(zAk<=s/\s<zAI)->rv3 s=rv s)
  (hs:w.heap.size<=w4.heap.size) (hk:∀ b,b<w.heap.size->(Φ b\/(∃ r∈R,b∈L r)\/b<w0.heap.size/\¬ U b)->w4.heap[b]? = w.heap[b]?)
  (hΦ3:∀ b,Φ b->Φ3 b) (hΦb:∀ b,Φ3 b->Φ b\/(∃ s,b∈L s)\/w.heap.size<=b) (hΦR:∀ r∈R,∀ b∈L r,Φ3 b) (hL3:∀ s,∀ b∈L3 s,(∃ t,b∈L t)\/w.heap.size<=b) (ho:w4.os=w.os/\w4.tape=w.tape/\w4.output=w.output) :
  ∃ E' L',(∀ s,s<zAa->E' s=zDz nt R ds e3 s (e.get s))/\zBz E'/\Conf w0 U Φ0 w4 (fun b=>Φ3 b/\∀ r∈R,b∉L r) rv E' L'/\(∀ r∈R,L' r=L r)/\(∀ s,∀ b∈L' s,(∃ r∈R,b∈L r)\/∃ t,b∈L3 t) /\
   ∀ d ps,d<zAa->E' d = .tup ps->E d = .tup ps:=by
 let Tk:Nat->Prop:=fun s=>s<zAa/\zDz nt R ds e3 s (e.get s)=e3.get s/\((s<nt/\s∉ds)\/(zAk<=s/\s<zAI))/\(R=[]\/(e3.get s).free=true)/\(e3.get s).isTup=false
 let E':Nat->PV:=fun s=>if s<zAa then zDz nt R ds e3 s (e.get s) else .bad
 let L':Nat->LN:=fun s=>if s∈R then L s else if Tk s then L3 s else[]
 have hE':∀ s,s<zAa->E' s=zDz nt R ds e3 s (e.get s):=fun s hs=>if_pos hs;have hEb':zBz E':=fun g hg=>if_neg (by omega);have gY:∀ s,s∈R->L' s=L s:=fun s hs=>if_pos hs;have hLT:∀ s,s∉R->Tk s->L' s=L3 s:=fun s hs ht=>by show(if s∈R then L s else if Tk s then L3 s else[])=_;rw[if_neg hs,if_pos ht]
 have gZ:∀ s,s∉R->¬ Tk s->L' s=[]:=fun s hs ht=>by show(if s∈R then L s else if Tk s then L3 s else[])=_;rw[if_neg hs,if_neg ht]
 have fate:∀ s,(s∈R/\E' s=E s)\/(s∉R/\Tk s/\E' s=E3 s)\/(s∉R/\¬ Tk s/\E' s=E s/\(E s).heavy=false/\∀ x∈(E s).ways,x.1∈R)\/(s∉R/\¬ Tk s/\E' s = .bad):=by
  intro s;by_cases yn:s<zAa
  ·rw[hE' s yn,hE s yn];by_cases jH:s∈R
   ·have:zDz nt R ds e3 s (e.get s)=e.get s:=by
     simp only[zDz,dq.2 jH,Bool.true_or,cond_true]
    exact .inl ⟨jH,this⟩
   ·by_cases ht:Tk s
    ·exact .inr (.inl ⟨jH,ht,by rw[hE3 s yn];exact ht.2.1⟩)
    ·rcases zLZ nt R ds e3 s (e.get s) with⟨_,h2⟩|⟨h1,h2,h3⟩|h1|⟨h1,h2,h3,h4,h5⟩
     ·exact absurd h2 jH
     ·exact .inr (.inr (.inl ⟨jH,ht,h1,h2,h3⟩))
     ·exact .inr (.inr (.inr ⟨jH,ht,h1⟩))
     ·exact absurd ⟨yn,h1,h3,h4,h5⟩ ht
  ·have hb:E' s = .bad:=hEb' s (by omega);have ht:¬ Tk s:=fun ht=>yn ht.1;by_cases jH:s∈R
   ·exact .inl ⟨jH,by rw[hb,kR s (by omega)]⟩
   ·exact .inr (.inr (.inr ⟨jH,ht,hb⟩))
 have hΦ:zDq w w4 Φ (fun b=>Φ3 b/\∀ r∈R,b∉L r):=fun b hb=>⟨⟨hΦ3 b hb,fun r _ qF=>(C.own r b qF).2.1 hb⟩,hk b (C.frz b hb).1 (.inl hb)⟩;have hLk:∀ r∈R,∀ b∈L r,w4.heap[b]? = w.heap[b]?:=fun r hr b hb=>hk b (C.own r b hb).1 (.inr (.inl ⟨r,hr,hb⟩));have hA:∀ b v,b.isWay=true->(zBb w rv E b v/\∀ x∈b.ways,x.1∈R)->zBb w4 rv E' b v:=by
  intro b v hw ⟨ha,hR⟩;have hr:(zBf b).1∈R:=by
   have:=hR (zBf b);cases b<;>first|(cases hw;done)|(exact ha.elim)|skip
   all_goals exact this (by simp[PV.ways,zBf])
  have hg:=zC7 ha;rcases fate (zBf b).1 with⟨_,h1⟩|⟨h1,_⟩|⟨h1,_⟩|⟨h1,_⟩
  ·exact zCX C zCw ha (by rw[h1,zBq]) rfl (hLk _ hr)
  all_goals exact absurd hr h1
 have keepRep:∀ s,(∀ x∈(E s).ways,x.1∈R)->(∀ b∈L s,w4.heap[b]? = w.heap[b]?)->Rep w4 (fun b=>Φ3 b/\∀ r∈R,b∉L r) (zBb w4 rv E') (E s) (rv s) (L s):=by
  intro s hx hL;have h1:=Rep.ways (A':=fun b v=>zBb w rv E b v/\∀ x∈b.ways,x.1∈R) (E s) (rv s) (L s) (fun b v _ gr ha=>⟨ha,fun x hxb=>hx x (gr x hxb)⟩) (C.rep s);exact h1.mono (Φ':=fun b=>Φ3 b/\∀ r∈R,b∉L r) hΦ hA hL
 refine⟨E',L',hE',hEb',⟨fun s=>?_,fun s=>?_,fun s s' hI b hb yJ=>?_,fun s b hb=>?_,fun b ⟨hb,_⟩=>?_,fun b hb=>⟨hΦ3 b (C.frz0 b hb),fun r _ qF=>(C.own r b qF).2.1 (C.frz0 b hb)⟩,bF C.size hs,
  fun b hb hu=>(hk b (bH hb C.size) (.inr (.inr ⟨hb,hu⟩))).trans (C.kept b hb hu),ho.1.trans C.os,ho.2.1.trans C.tape,ho.2.2.trans C.output⟩,gY,fun s b hb=>?_,fun d ps hd hp=>?_⟩
 ·rcases fate s with⟨h1,h2⟩|⟨h1,h2,h3⟩|⟨h1,h2,h3,h4,h5⟩|⟨h1,h2,h3⟩
  ·rw[h2,gY s h1];exact keepRep s (yO s h1) (hLk s h1)
  ·rw[h3,hLT s h1 h2];have jP:=ja s h2.2.2.1;rw[<- jP];rcases h2.2.2.2.1 with hR|wj
   ·subst hR;refine(C3.rep s).mono (Φ':=fun b=>Φ3 b/\∀ r∈([]:LN),b∉L r) (fun b hb=>⟨⟨hb,fun r hr=>by cases hr⟩,rfl⟩) (fun b v hw ha=>?_) (fun _ _=>rfl);have hg:=zC7 ha;rcases fate (zBf b).1 with⟨h1,_⟩|⟨_,h4,h5⟩|⟨_,_,h5,h6,_⟩|⟨_,_,h5⟩
    ·cases h1
    ·exact zCX C3 zCw ha (by rw[h5,zBq]) (ja _ h4.2.2.1).symm (fun _ _=>rfl)
    ·exact zMd ha (by rw[h5,zMK h6];exact h6)
    ·exact zMd ha (by rw[h5];rfl)
   ·exact Rep.free _ _ _ (by rw[hE3 s h2.1];exact wj) (C3.rep s)
  ·rw[h3,gZ s h1 h2];have qt:=zDy _ _ _ h4 (C.rep s);have:=keepRep s h5 (by rw[qt];simp);rwa[qt] at this
  ·rw[h3,gZ s h1 h2];rfl
 ·by_cases h1:s∈R
  ·rw[gY s h1];exact C.nodup s
  ·by_cases h2:Tk s
   ·rw[hLT s h1 h2];exact C3.nodup s
   ·rw[gZ s h1 h2];exact b4
 ·by_cases h1:s∈R
  ·rw[gY s h1] at hb;by_cases jc:s'∈R
   ·rw[gY s' jc] at yJ;exact C.disj s s' hI b hb yJ
   ·by_cases jo:Tk s'
    ·rw[hLT s' jc jo] at yJ;exact(C3.own s' b yJ).2.1 (hΦR s h1 b hb)
    ·rw[gZ s' jc jo] at yJ;cases yJ
  ·by_cases h2:Tk s
   ·rw[hLT s h1 h2] at hb;by_cases jc:s'∈R
    ·rw[gY s' jc] at yJ;exact(C3.own s b hb).2.1 (hΦR s' jc b yJ)
    ·by_cases jo:Tk s'
     ·rw[hLT s' jc jo] at yJ;exact C3.disj s s' hI b hb yJ
     ·rw[gZ s' jc jo] at yJ;cases yJ
   ·rw[gZ s h1 h2] at hb;cases hb
 ·by_cases h1:s∈R
  ·rw[gY s h1] at hb;have:=C.own s b hb;exact⟨bH this.1 hs,fun⟨_,h2⟩=>h2 s h1 hb,this.2.2⟩
  ·by_cases h2:Tk s
   ·rw[hLT s h1 h2] at hb;have:=C3.own s b hb;refine⟨this.1,fun⟨h3,_⟩=>this.2.1 h3,?_⟩;rcases hL3 s b hb with⟨t,h3⟩|h3
    ·exact(C.own t b h3).2.2
    ·exact .inr (bF C.size h3)
   ·rw[gZ s h1 h2] at hb;cases hb
 ·refine⟨(C3.frz b hb).1,?_⟩;rcases hΦb b hb with h3|⟨t,h3⟩|h3
  ·exact(C.frz b h3).2
  ·exact .inr (C.own t b h3).2.2
  ·exact .inr (.inr (bF C.size h3))
 ·by_cases h1:s∈R
  ·rw[gY s h1] at hb;exact .inl ⟨s,h1,hb⟩
  ·by_cases h2:Tk s
   ·rw[hLT s h1 h2] at hb;exact .inr ⟨s,hb⟩
   ·rw[gZ s h1 h2] at hb;cases hb
 ·rcases fate d with⟨h1,h2⟩|⟨h1,h2,h3⟩|⟨h1,h2,h3,_⟩|⟨h1,h2,h3⟩
  ·rw[<- h2];exact hp
  ·rw[h3,hE3 d hd] at hp;have:=h2.2.2.2.2;rw[hp] at this;cases this
  ·rw[<- h3];exact hp
  ·rw[h3] at hp;cases hp
end
section
variable {P:Program} {H:zBh} {orc:zAM} {yo:zC2} {al:All} {w0 w:World} {U Φ0 Φ:Nat->Prop} {nt:Nat} {hv:Hid} {aM:Act} {e ef e3:Env} {rv:Nat->Value} {E:Nat->PV} {L:Nat->LN} {hh:FHint} {m:Nat}
def zKQ(P:Program)(H:zBh)(orc:zAM)(yo:zC2)(al:All)(nt:Nat)(hh:FHint)(m:Nat)(c:Code)(e:Env):Option (X×Env) :=
 match exec P H orc yo al nt hh m c e none with
 |some (x,e',none)=>some (x,e')|_=>none
theorem zLo{c:Code}{e e':Env}{x:X}(h:zKQ P H orc yo al nt hh m c e=some (x,e')):exec P H orc yo al nt hh m c e none=some (x,e',none):=by
 simp only[zKQ] at h;split at h
 ·rename_i hx;cases h;exact hx
 ·cases h
theorem zKZ:∀ (R:LN) {e ef:Env},zEK R e=some ef->∀ r∈R,r<zAa
 |[],_,_,_,r,hr=>by cases hr
 | t :: R,e,ef,h,r,hr=>by
  simp only[zEK] at h;rcases zBt h with⟨h1,h⟩|⟨_,h⟩
  ·split at h
   ·rcases bv.1 hr with rfl|hr
    ·exact zCh h1
    ·exact zKZ R h r hr
   ·cases h
  ·cases h
theorem zPa (zFr:P.follows .mixedOrders=true) (jL:zGH P orc) (hnm:zE3 P) {ps:Array Tmp} {ca cb:Code} {ds:LN} {x:List PV} {r:X} (y6:∀ t∈ps.toList,t<nt) (hca:zCT P nt ca=true) (hcb:zCT P nt cb=true) (hna:zDd ca=true) (vu:zDd cb=true)
  (hdp:∀ t∈ps.toList,t∈ds) (wN:∀ d∈zB3 ca,d∈ds) (hdb:∀ d∈zB3 cb,d∈ds) (hx:x.all PV.flat=true) (S:St w0 U Φ0 nt hv aM w e Φ rv E L) (hb:zBz E)
  {l:Nat} {rc:Go.Loop} (um:rc.params=ps) (ui:rc.assign=ca) (hrb:rc.body=cb) (qQ:rc.tmps=aM.tmps) (jP:rc.state = .ready) (hl:w.heap[l]? = some (.loop rc)) (hlL:∀ s,l∉L s) (hlΦ:¬ Φ l) (wZ:w0.heap.size<=l)
  {R:LN} (hR:(R=[]/\ef=e)\/(zGz e R=true/\zEK R e=some ef)) (yU:zJE (zKQ P H orc yo al nt hh m) ps.toList ca cb x ef=some (r,e3)) :
  YieldAt (FF none) 0 P l (x.map zCZ).toArray w fun en w4=>en = .returned (.bool r.isNorm)/\w.heap.size<=w4.heap.size/\(w4.os=w.os/\w4.tape=w.tape/\w4.output=w.output) /\
   w4.heap[l]? = some (.loop {rc with state:=bif r.isNorm then .ready else .done,pending:=bif r.isNorm then none else some (zI3 r)})/\(∀ b,b<w.heap.size->b≠l->(∀ s,s∉R->b∉L s)->w4.heap[b]? = w.heap[b]?) /\
   ∃ Φ4 E4 L4,St w0 U Φ0 nt hv aM w4 (after nt R ds e e3) Φ4 rv E4 L4/\zBz E4/\(∀ b,Φ b->Φ4 b)/\(∀ b,Φ4 b->Φ b\/(∃ s,b∈L s)\/w.heap.size<=b)/\(∀ r∈R,L4 r=L r)/\∀ s,∀ b∈L4 s,(∃ t,b∈L t)\/w.heap.size<=b:=by
 subst ui;subst hrb;have qM:zAa=1000000000:=rfl;have kB:=S.small;have hlw:l<w.heap.size:=(bS.1 hl).1;obtain⟨Φr,Er,Lr,Sr,qF,f1,f2,f3,f4⟩:∃ Φr Er Lr,St w (fun b=>∃ s,b∈L s) Φ nt hv aM w ef Φr rv Er Lr/\zBz Er/\(∀ b,Φ b->Φr b)/\(∀ b,Φr b->Φ b\/∃ r∈R,b∈L r)/\(∀ r∈R,∀ b∈L r,Φr b)/\∀ s,∀ b∈Lr s,b∈L s:=by
  rcases hR with⟨rfl,rfl⟩|⟨_,hf⟩
  ·exact⟨Φ,E,L,S.with S.conf.fresh,hb,fun _ h=>h,fun _ h=>.inl h,fun _ h=>(by cases h),fun _ _ h=>h⟩
  ·exact zJJ R (S.with S.conf.fresh) hb hf
 have yO:∀ r∈R,∀ x∈(E r).ways,x.1∈R:=by
  rcases hR with⟨rfl,_⟩|⟨hc,hf⟩
  ·intro r hr;cases hr
  ·intro r hr x hx;have:=bj.1 hc r hr;rw[S.env r (zKZ R hf r hr)] at hx;exact dq.1 (bj.1 this x hx)
 have hlr:∀ s,l∉Lr s:=fun s hs=>hlL s (f4 s l hs);have hlΦr:¬ Φr l:=fun h=>(f2 l h).elim hlΦ fun⟨t,_,ht⟩=>hlL t ht;simp only[zJE] at yU
 cases jm:zCI ps.toList x ef with
 |none=>rw[jm] at yU;cases yU
 | some e1 =>
  rw[jm] at yU;simp only at yU;split at yU
  ·rename_i e2 hra1;have jg:=zLo hra1;have j6:=zLo yU
   have S0:St w (fun b=>∃ s,b∈Lr s) Φr nt ⟨hv.val,[]⟩ {tmps:=aM.tmps,defers:=[]} w ef Φr rv Er Lr :=
    ⟨Sr.conf.fresh,Sr.env,Sr.size,Sr.small,Sr.tmps,Sr.parts,Sr.hid,rfl⟩
   obtain⟨g1,g2,g3⟩:=zIx ps.toList x ⟨_,_,_,_,S0,qF⟩ y6 hx jm;have kw:=run_yield (P:=P) (args:=(x.map zCZ).toArray) hl (by rw[um];simpa using g1.symm);have hfold:(rc.params.zip (x.map zCZ).toArray).foldl (fun tmps (t,a)=>tmps.setIfInBounds t a) rc.tmps=(ps.toList.zip (x.map zCZ)).foldl (fun t (p,v)=>t.setIfInBounds p v) aM.tmps:=by
    rw[um,qQ,<- Array.foldl_toList];simp
   refine⟨_,_,_,_,kw,roundIn_of_wpIn trivial ?_⟩;rw[hfold];refine wpIn_mono (zIe (zVX (l:=l) (tm:=aM.tmps) jL hnm) zFr m rc.assign (.inl hna) hca wN rfl ⟨rfl,g2,fun t ht=>g3 t (fun h=>ht (hdp t h))⟩ jg) fun ex a1 w1 ⟨qr,_,hf1,ht1⟩=>?_;subst qr;obtain⟨Φa,rva,Ea,La,Sa,hba⟩:=hf1;have wE:w1.heap[l]? = some (.loop rc):=(Sa.conf.kept l hlw (fun⟨s,hs⟩=>hlr s hs)).trans hl;have u3:∀ s,l∉La s:=fun s hs=>by rcases(Sa.conf.own s l hs).2.2 with⟨t,ht⟩|h2<;>first|exact hlr t ht|omega
   have hlΦa:¬ Φa l:=fun h=>by rcases(Sa.conf.frz l h).2 with h2|⟨t,ht⟩|h2<;>first|exact hlΦr h2|exact hlr t ht|omega
   refine⟨_,run_beginRound wE jP,?_⟩;obtain⟨w2,vw⟩:∃ w2,w1.putObj l (.loop {rc with state := .busy})=w2:=⟨_,rfl⟩;rw[vw];have hlw1:l<w1.heap.size:=(bS.1 wE).1;have ga:∀ b,b≠l->w2.heap[b]? = w1.heap[b]?:=fun b hb=>by rw[<- vw];exact World.putObj_heap_other hb
   have h2l:w2.heap[l]? = some (.loop {rc with state := .busy}):=by rw[<- vw];exact World.putObj_heap_same hlw1
   have h2s:w1.heap.size<=w2.heap.size:=by rw[<- vw];simp
   have wk:w2.os=w1.os/\w2.tape=w1.tape/\w2.output=w1.output:=by rw[<- vw];exact⟨rfl,rfl,rfl⟩
   have C2:=Sa.conf.arrive h2s (fun s b hb=>ga b fun e=>u3 s (e▸hb)) (fun b hb=>ga b fun e=>hlΦa (e▸hb));refine wpIn_mono (zIe (zVX (l:=l) (tm:=aM.tmps) jL hnm) zFr m rc.body (.inl vu) hcb hdb rfl ⟨rfl,⟨_,_,_,_,Sa.with C2,hba⟩,ht1⟩ j6) fun ex a3 w3 ⟨qr,_,hf3,ht3⟩=>?_;obtain⟨Φ3,rv3,E3,L3,S3,gU⟩:=hf3;have hlw2:l<w2.heap.size:=by omega
   have hl3:w3.heap[l]? = some (.loop {rc with state := .busy}):=(S3.conf.kept l hlw2 (fun⟨s,hs⟩=>u3 s hs)).trans h2l;have hl3L:∀ s,l∉L3 s:=fun s hs=>by rcases(S3.conf.own s l hs).2.2 with⟨t,ht⟩|h2<;>first|exact u3 t ht|omega
   have hl3Φ:¬ Φ3 l:=fun h=>by rcases(S3.conf.frz l h).2 with h2|⟨t,ht⟩|h2<;>first|exact hlΦa h2|exact u3 t ht|omega
   have hlw3:l<w3.heap.size:=(bS.1 hl3).1;have hws:w.heap.size<=w1.heap.size:=Sa.conf.size;have hws3:w2.heap.size<=w3.heap.size:=S3.conf.size;have hLa:∀ s,∀ b∈La s,(∃ t,b∈L t)\/w.heap.size<=b:=fun s b hb=>(Sa.conf.own s b hb).2.2.imp (fun⟨t,ht⟩=>⟨t,f4 t b ht⟩) id;have hL3:∀ s,∀ b∈L3 s,(∃ t,b∈L t)\/w.heap.size<=b:=fun s b hb=>by
    rcases(S3.conf.own s b hb).2.2 with⟨t,ht⟩|h2
    ·exact hLa t b ht
    ·exact .inr (by omega)
   have hΦ3:∀ b,Φr b->Φ3 b:=fun b hb=>S3.conf.frz0 b (Sa.conf.frz0 b hb);have hΦb:∀ b,Φ3 b->Φ b\/(∃ s,b∈L s)\/w.heap.size<=b:=fun b hb=>by
    rcases(S3.conf.frz b hb).2 with h2|⟨t,ht⟩|h2
    ·rcases(Sa.conf.frz b h2).2 with h4|⟨t,ht⟩|h4
     ·rcases f2 b h4 with h5|⟨t,_,ht⟩
      ·exact .inl h5
      ·exact .inr (.inl ⟨t,ht⟩)
     ·exact .inr (.inl ⟨t,f4 t b ht⟩)
     ·exact .inr (.inr h4)
    ·exact .inr (hLa t b ht)
    ·exact .inr (.inr (by omega))
   have hkept:∀ b,b<w.heap.size->b≠l->(∀ s,b∉Lr s)->w3.heap[b]? = w.heap[b]?:=by
    intro b hbw hbl jT;have e1:=Sa.conf.kept b hbw (fun⟨s,hs⟩=>jT s hs);have e3:=S3.conf.kept b (by omega) (fun⟨s,hs⟩=>by
     rcases(Sa.conf.own s b hs).2.2 with⟨t,ht⟩|h2
     ·exact jT t ht
     ·omega)
    rw[e3,ga b hbl,e1]
   have hRr:∀ t∈R,∀ b∈L t,∀ s,b∉Lr s:=fun t ht b jz s hs=>(Sr.conf.own s b hs).2.1 (f3 t ht b jz)
   have fin:∀ (w4:World),(∀ b,b≠l->w4.heap[b]? = w3.heap[b]?)->w4.heap.size=w3.heap.size->(w4.os=w3.os/\w4.tape=w3.tape/\w4.output=w3.output)->w4.heap[l]? = some (.loop {rc with state:=bif r.isNorm then .ready else .done,pending:=bif r.isNorm then none else some (zI3 r)}) ->
     w.heap.size<=w4.heap.size/\(w4.os=w.os/\w4.tape=w.tape/\w4.output=w.output) /\
     w4.heap[l]? = some (.loop {rc with state:=bif r.isNorm then .ready else .done,pending:=bif r.isNorm then none else some (zI3 r)})/\(∀ b,b<w.heap.size->b≠l->(∀ s,s∉R->b∉L s)->w4.heap[b]? = w.heap[b]?) /\
     ∃ Φ4 E4 L4,St w0 U Φ0 nt hv aM w4 (after nt R ds e e3) Φ4 rv E4 L4/\zBz E4/\(∀ b,Φ b->Φ4 b)/\(∀ b,Φ4 b->Φ b\/(∃ s,b∈L s)\/w.heap.size<=b)/\(∀ r∈R,L4 r=L r)/\∀ s,∀ b∈L4 s,(∃ t,b∈L t)\/w.heap.size<=b:=by
    intro w4 gb h4s wm h4l;have u7:w4.os=w.os/\w4.tape=w.tape/\w4.output=w.output:=⟨wm.1.trans (S3.conf.os.trans (wk.1.trans Sa.conf.os)),wm.2.1.trans (S3.conf.tape.trans (wk.2.1.trans Sa.conf.tape)),wm.2.2.trans (S3.conf.output.trans (wk.2.2.trans Sa.conf.output))⟩;have C4:=S3.conf.arrive (w':=w4) (by omega) (fun s b hb=>gb b fun e=>hl3L s (e▸hb)) (fun b hb=>gb b fun e=>hl3Φ (e▸hb));have hk4:∀ b,b<w.heap.size->b≠l->(∀ s,b∉Lr s)->w4.heap[b]? = w.heap[b]?:=fun b h1 h2 h3=>(gb b h2).trans (hkept b h1 h2 h3);obtain⟨E',L',q1,q2,q3,q4,q5,q6⟩:=S.conf.behind (nt:=nt) (R:=R) (ds:=ds) (e3:=e3) S.env hb C4 S3.env yO (fun s hs=>by
      rcases hs with⟨h1,h2⟩|⟨h1,h2⟩
      ·rw[<- S3.tmps s h1,ht3 s h2,S.tmps s h1]
      ·exact(S3.hid s h1 h2).trans (S.hid s h1 h2).symm) (by omega) (fun b hbw hc=>hk4 b hbw (fun e=>by
       subst e;rcases hc with h1|⟨t,_,h1⟩|⟨h1,_⟩
       ·exact hlΦ h1
       ·exact hlL t h1
       ·omega) (fun s hs=>by
       rcases hc with h1|⟨t,ht,h1⟩|⟨h1,h2⟩
       ·exact(S.conf.own s b (f4 s b hs)).2.1 h1
       ·exact hRr t ht b h1 s hs
       ·rcases(S.conf.own s b (f4 s b hs)).2.2 with h3|h3
        ·exact h2 h3
        ·omega)) (fun b hb=>hΦ3 b (f1 b hb)) hΦb (fun t ht b jz=>hΦ3 b (f3 t ht b jz)) hL3 u7
    refine⟨by omega,u7,h4l,fun b h1 h2 h3=>hk4 b h1 h2 fun s hs=>?_,_,E',L',⟨q3,fun s hs=>by rw[q1 s hs,zTN],S.size,S.small,S.tmps,fun d ps i hd hp hi=>?_,S.hid,S.dfr⟩,q2,fun b hb=>⟨hΦ3 b (f1 b hb),fun t _ ht=>(S.conf.own t b ht).2.1 hb⟩,fun b hb=>hΦb b hb.1,q4,fun s b hb=>?_⟩
    ·by_cases jH:s∈R
     ·exact hRr s jH b (f4 s b hs) s hs
     ·exact h3 s jH (f4 s b hs)
    ·exact S.parts d ps i hd (q6 d ps (by omega) hp) hi
    ·rcases q5 s b hb with⟨t,_,ht⟩|⟨t,ht⟩
     ·exact .inl ⟨t,ht⟩
     ·exact hL3 t b ht
   have put_o:∀ o:Obj,(∀ b,b≠l->(w3.putObj l o).heap[b]? = w3.heap[b]?)/\(w3.putObj l o).heap.size=w3.heap.size/\((w3.putObj l o).os=w3.os/\(w3.putObj l o).tape=w3.tape/\(w3.putObj l o).output=w3.output)/\(w3.putObj l o).heap[l]? = some o :=
    fun o=>⟨fun b hb=>World.putObj_heap_other hb,by simp,⟨rfl,rfl,rfl⟩,World.putObj_heap_same hlw3⟩
   subst qr
   cases r with
   |norm=>
    have he:(Instr.endRound l none).run P w3 = .ok (.bool true) (w3.putObj l (.loop {rc with state := .ready,pending:=none})):=by rw[run_endRound none hl3];rfl
    refine⟨_,_,he,?_⟩;obtain⟨p1,p2,p3,p4⟩:=put_o (.loop {rc with state := .ready,pending:=none});exact⟨rfl,fin _ p1 p2 p3 p4⟩
   |ret=>
    have he:(Instr.endRound l (some .ret)).run P w3 = .ok (.bool false) (w3.putObj l (.loop {rc with state := .done,pending:=some .ret})):=by rw[run_endRound (some .ret) hl3];rfl
    refine⟨_,_,he,?_⟩;obtain⟨p1,p2,p3,p4⟩:=put_o (.loop {rc with state := .done,pending:=some .ret});exact⟨rfl,fin _ p1 p2 p3 p4⟩
   |ex id=>
    have he:(Instr.endRound l (some (.exit id))).run P w3 = .ok (.bool false) (w3.putObj l (.loop {rc with state := .done,pending:=some (.exit id)})):=by rw[run_endRound (some (.exit id)) hl3];rfl
    refine⟨_,_,he,?_⟩;obtain⟨p1,p2,p3,p4⟩:=put_o (.loop {rc with state := .done,pending:=some (.exit id)});exact⟨rfl,fin _ p1 p2 p3 p4⟩
  ·cases yU
end
end Go.Eng
namespace Go.Eng
open Go
section
variable {P:Program} {H:zBh} {orc:zAM} {yo:zC2} {al:All} {w0 w w':World} {U Φ0 Φ:Nat->Prop} {nt:Nat} {hv:Hid} {aM a:Act} {e e' ef e3:Env} {rv:Nat->Value} {E:Nat->PV} {L:Nat->LN} {hh:FHint} {m:Nat}
structure Side (w0:World) (U Φ0:Nat->Prop) (nt:Nat) (hv:Hid) (aM:Act) (rv:Nat->Value) (l D size2:Nat) (rc:Go.Loop) (Φs:Nat->Prop) (Ls:Nat->LN) (R:LN) (w:World) (e:Env) (Φ:Nat->Prop) (E:Nat->PV) (L:Nat->LN) (B:Nat->Prop):Prop where
 st:St w0 U Φ0 nt hv aM w e Φ rv E L
 emp:zBz E
 recd:w.heap[l]? = some (.loop rc)
 mark:w.heap[D]? = some (.deferred (some []))
 lL:∀ s,l∉L s
 dL:∀ s,D∉L s
 lΦ:¬ Φ l
 dΦ:¬ Φ D
 BL:∀ s,∀ b∈L s,B b
 BΦ:∀ b,Φ b->B b
 old:∀ b,b<size2->B b
 small:∀ b,B b->b<w.heap.size
 see:∀ b,Φs b->Φ b
 Rs:∀ r∈R,L r=Ls r
structure Left (w0:World) (U Φ0:Nat->Prop) (nt:Nat) (hv:Hid) (aM:Act) (rv:Nat->Value) (l D:Nat) (rc:Go.Loop) (r:X) (w:World) (e:Env) (Φ:Nat->Prop) (E:Nat->PV) (L:Nat->LN):Prop where
 st:St w0 U Φ0 nt hv aM w e Φ rv E L
 emp:zBz E
 recd:w.heap[l]? = some (.loop {rc with state := .done,pending:=some (zI3 r)})
 mark:w.heap[D]? = some (.deferred (some []))
 lL:∀ s,l∉L s
 dL:∀ s,D∉L s
 lΦ:¬ Φ l
 dΦ:¬ Φ D
theorem zJr{run:Code->Env->Option (X×Env)}{ps:List Tmp}{ca cb:Code}{R ds:LN}{x:List PV}{xs:List (List PV)}{j:Nat} :
  zDn nt run ps ca cb R ds (x::xs) e j=match zJE run ps ca cb x e with
   | some (.norm,e3)=>(match R with
    |[]=>zDn nt run ps ca cb R ds xs (after nt [] ds e e3) (j+1)
    | r :: R=>match (bif zGz e (zC5 e (r::R)) then zEK (zC5 e (r::R)) e else none) with
     |some e1=>match zJE run ps ca cb x e1 with
      |some (.norm,e3)=>zDn nt run ps ca cb (r::R) ds xs (after nt (zC5 e (r::R)) ds e e3) (j+1)|_=>none
     |none=>none)
   |some (r,e3)=>some (some (j+1,r),after nt [] ds e e3)|none=>none:=rfl
theorem zVq{rc:Go.Loop}(h1:rc.state = .ready)(h2:rc.pending=none):{rc with state := .ready,pending:=none}=rc:=by
 cases rc;simp only at h1 h2;subst h1;subst h2;rfl
theorem zT1(zFr:P.follows .mixedOrders=true)(jL:zGH P orc)(hnm:zE3 P){ps:Array Tmp}{ca cb:Code}{ds:LN}(y6:∀ t∈ps.toList,t<nt)(hca:zCT P nt ca=true)(hcb:zCT P nt cb=true)(hna:zDd ca=true)(vu:zDd cb=true)
  (hdp:∀ t∈ps.toList,t∈ds) (wN:∀ d∈zB3 ca,d∈ds) (hdb:∀ d∈zB3 cb,d∈ds) {l D size2:Nat} {rc:Go.Loop} (um:rc.params=ps) (ui:rc.assign=ca) (hrb:rc.body=cb) (qQ:rc.tmps=aM.tmps) (jP:rc.state = .ready) (hrn:rc.pending=none)
  (wZ:w0.heap.size<=l) (qR:l<size2) (hd2:D<size2) (h02:w0.heap.size<=size2) (hld:l≠D) {Φs:Nat->Prop} {Ls:Nat->LN} {R:LN} {plan:List (List PV)} {k0:Int} {res:Option (Nat×X)×Env}
  (yi:(res.1=none/\k0 = -1)\/∃ r,res.1=some (plan.length,r)/\k0=plan.length) :
  Client P l plan k0 (fun b=>Φs b\/∃ r∈R,b∈Ls r)
   (fun xs w B=>∃ rest e Φ E L,plan=xs++rest/\zDn nt (zKQ P H orc yo al nt hh m) ps.toList ca cb R ds rest e xs.length=some res/\Side w0 U Φ0 nt hv aM rv l D size2 rc Φs Ls R w e Φ E L B)
   (fun w=>∃ r Φ E L,(∃ j,res.1=some (j,r))/\r.isNorm=false/\Left w0 U Φ0 nt hv aM rv l D rc r w res.2 Φ E L):=by
 refine⟨?_,?_,?_,?_,?_⟩
 ·rintro xs w w' B ⟨rest,e,Φ,E,L,h1,h2,S⟩ hs hB ho
  refine⟨rest,e,Φ,E,L,h1,h2,⟨S.st.with (S.st.conf.moved hs (fun s b hb=>hB b (S.BL s b hb)) (fun b hb=>hB b (S.BΦ b hb)) (fun b hb _=>hB b (S.old b (by omega))) ho),S.emp,(hB l (S.old l qR)).trans S.recd,(hB D (S.old D hd2)).trans S.mark,
   S.lL,S.dL,S.lΦ,S.dΦ,S.BL,S.BΦ,S.old,fun b hb=>bH (S.small b hb) hs,S.see,S.Rs⟩⟩
 ·rintro xs w B ⟨rest,e,Φ,E,L,h1,h2,S⟩;exact S.small
 ·rintro xs x w B ⟨rest,e,Φ,E,L,h1,h2,S⟩ vC hk jx;have hlw:l<w.heap.size:=S.small l (S.old l qR);have hdw:D<w.heap.size:=S.small D (S.old D hd2);obtain⟨rest',rfl⟩:∃ rest',rest=x::rest':=by
   obtain⟨t,ht⟩:=vC;rw[h1,cx] at ht;exact⟨t,(iA ht).symm⟩
  rw[zJr] at h2
  have go:∀ (R':LN) (ef e3:Env),(∀ r∈R,r∈R')->((R'=[]/\ef=e)\/(zGz e R'=true/\zEK R' e=some ef))->zJE (zKQ P H orc yo al nt hh m) ps.toList ca cb x ef=some (.norm,e3) ->
    zDn nt (zKQ P H orc yo al nt hh m) ps.toList ca cb R ds rest' (after nt R' ds e e3) (xs.length+1)=some res ->
    YieldAt (FF none) 0 P l (x.map zCZ).toArray w fun en w'=>en = .returned (.bool true)/\Apart w w' B (fun b=>Φs b\/∃ r∈R,b∈Ls r) /\
     ∃ B',(∃ rest e Φ E L,plan=(xs++[x])++rest/\zDn nt (zKQ P H orc yo al nt hh m) ps.toList ca cb R ds rest e (xs++[x]).length=some res/\Side w0 U Φ0 nt hv aM rv l D size2 rc Φs Ls R w' e Φ E L B')/\∀ b,B' b->B b\/w.heap.size<=b:=by
   intro R' ef e3 hRR hR' vR yr;obtain⟨fn,tm,c1,c2,hy,yU⟩:=zPa zFr jL hnm y6 hca hcb hna vu hdp wN hdb jx S.st S.emp um ui hrb qQ jP S.recd S.lL S.lΦ wZ hR' vR;refine⟨fn,tm,c1,c2,hy,yU.mono fun en w4 ⟨v6,g1,g2,g3,g4,Φ4,E4,L4,S4,hb4,g5,g6,g7,g8⟩=>?_⟩;have keepL:∀ b,b<w.heap.size->b≠l->(∀ s,b∉L s)->w4.heap[b]? = w.heap[b]?:=fun b h1 h2 h3=>g4 b h1 h2 fun s _=>h3 s;refine⟨v6,⟨g1,g2.1,g2.2.1,g2.2.2,fun b hb hnB=>keepL b hb (fun e=>hnB (e▸S.old l qR)) (fun s hs=>hnB (S.BL s b hs)),fun b hb=>?_⟩,fun b=>B b\/(w.heap.size<=b/\b<w4.heap.size),⟨rest',_,Φ4,E4,L4,by rw[h1];simp,by simpa using yr,?_⟩,fun b hb=>hb.imp id (fun h=>h.1)⟩
   ·rcases hb with hb|⟨r,hr,hb⟩
    ·have hΦ:=S.see b hb;exact keepL b (S.st.conf.frz b hΦ).1 (fun e=>S.lΦ (e▸hΦ)) (fun s hs=>(S.st.conf.own s b hs).2.1 hΦ)
    ·rw[<- S.Rs r hr] at hb;exact g4 b (S.st.conf.own r b hb).1 (fun e=>S.lL r (e▸hb)) (fun s hs kN=>S.st.conf.disj s r (fun e=>hs (e▸hRR r hr)) b kN hb)
   ·refine⟨S4,hb4,?_,(keepL D hdw (dA hld) S.dL).trans S.mark,fun s hs=>?_,fun s hs=>?_,fun h=>?_,fun h=>?_,fun s b hs=>?_,fun b hb=>?_,fun b hb=>.inl (S.old b hb),fun b hb=>?_,fun b hb=>g5 b (S.see b hb),fun r hr=>(g7 r (hRR r hr)).trans (S.Rs r hr)⟩
    ·rw[g3];simp only[X.isNorm,cond_true];rw[zVq jP hrn]
    ·rcases g8 s l hs with⟨t,ht⟩|h<;>first|exact S.lL t ht|omega
    ·rcases g8 s D hs with⟨t,ht⟩|h<;>first|exact S.dL t ht|omega
    ·rcases g6 l h with h|⟨t,ht⟩|h<;>first|exact S.lΦ h|exact S.lL t ht|omega
    ·rcases g6 D h with h|⟨t,ht⟩|h<;>first|exact S.dΦ h|exact S.dL t ht|omega
    ·rcases g8 s b hs with⟨t,ht⟩|h
     ·exact .inl (S.BL t b ht)
     ·exact .inr ⟨h,(S4.conf.own s b hs).1⟩
    ·rcases g6 b hb with h|⟨t,ht⟩|h
     ·exact .inl (S.BΦ b h)
     ·exact .inl (S.BL t b ht)
     ·exact .inr ⟨h,(S4.conf.frz b hb).1⟩
    ·rcases hb with h|h
     ·exact bH (S.small b h) g1
     ·exact h.2
  split at h2
  ·rename_i e3 vR
   cases R with
   |nil=>exact go [] e e3 (fun r hr=>hr) (.inl ⟨rfl,rfl⟩) vR h2
   | cons r R =>
    simp only at h2;split at h2
    ·rename_i e1 hf;rcases zBt hf with⟨hc,hf⟩|⟨_,hf⟩
     ·split at h2
      ·rename_i e4 hro2;exact go _ e1 e4 (fun t ht=>bt _ ht) (.inr ⟨hc,hf⟩) hro2 h2
      ·cases h2
     ·cases hf
    ·cases h2
  ·rename_i r e3 hI vR;simp only[ba] at h2;subst h2;rcases yi with⟨hr,_⟩|⟨r',hr,vo⟩
   ·cases hr
   ·simp only[ba,bw] at hr;exfalso;apply hk;omega
  ·cases h2
 ·rintro xs x w B ⟨rest,e,Φ,E,L,h1,h2,S⟩ vC hk jx;have hlw:l<w.heap.size:=S.small l (S.old l qR);have hdw:D<w.heap.size:=S.small D (S.old D hd2);obtain⟨rest',rfl⟩:∃ rest',rest=x::rest':=by
   obtain⟨t,ht⟩:=vC;rw[h1,cx] at ht;exact⟨t,(iA ht).symm⟩
  have qt:rest'=[]/\res.1≠none:=by
   rcases yi with⟨_,vo⟩|⟨r,hr,vo⟩
   ·omega
   ·rw[h1] at vo;simp at vo;exact⟨bq (by omega),by rw[hr];simp⟩
  obtain⟨rfl,vP⟩:=qt;rw[zJr] at h2;have none_:∀ {f:Env} {j:Nat} {R':LN},zDn nt (zKQ P H orc yo al nt hh m) ps.toList ca cb R' ds [] f j=some res->False:=by
   intro f j R' h;simp only[zDn,ba] at h;rw[<- h] at vP;exact vP rfl
  split at h2
  ·cases R with
   |nil=>exact(none_ h2).elim
   | cons r R =>
    simp only at h2;split at h2
    ·split at h2
     ·exact(none_ h2).elim
     ·cases h2
    ·cases h2
  ·rename_i r e3 hI vR;simp only[ba] at h2;have hrn':r.isNorm=false:=by cases r<;>first|rfl|exact(hI rfl).elim
   obtain⟨fn,tm,c1,c2,hy,yU⟩:=zPa (R:=[]) zFr jL hnm y6 hca hcb hna vu hdp wN hdb jx S.st S.emp um ui hrb qQ jP S.recd S.lL S.lΦ wZ (.inl ⟨rfl,rfl⟩) vR;refine⟨fn,tm,c1,c2,hy,yU.mono fun en w4 ⟨v6,g1,g2,g3,g4,Φ4,E4,L4,S4,hb4,g5,g6,g7,g8⟩=>?_⟩;rw[hrn'] at v6 g3;have keepL:∀ b,b<w.heap.size->b≠l->(∀ s,b∉L s)->w4.heap[b]? = w.heap[b]?:=fun b h1 h2 h3=>g4 b h1 h2 fun s _=>h3 s;refine⟨v6,r,Φ4,E4,L4,⟨xs.length+1,by rw[<- h2]⟩,hrn',by rw[<- h2];exact S4,hb4,g3,(keepL D hdw (dA hld) S.dL).trans S.mark,fun s hs=>?_,fun s hs=>?_,fun h=>?_,fun h=>?_⟩
   ·rcases g8 s l hs with⟨t,ht⟩|h<;>first|exact S.lL t ht|omega
   ·rcases g8 s D hs with⟨t,ht⟩|h<;>first|exact S.dL t ht|omega
   ·rcases g6 l h with h|⟨t,ht⟩|h<;>first|exact S.lΦ h|exact S.lL t ht|omega
   ·rcases g6 D h with h|⟨t,ht⟩|h<;>first|exact S.dΦ h|exact S.dL t ht|omega
  ·cases h2
 ·rintro w w' ⟨r,Φ,E,L,h1,h2,S⟩ hs hk ho;have hlw:l<w.heap.size:=(bS.1 S.recd).1;have hdw:D<w.heap.size:=(bS.1 S.mark).1
  exact⟨r,Φ,E,L,h1,h2,S.st.with (S.st.conf.moved hs (fun s b hb=>hk b (S.st.conf.own s b hb).1) (fun b hb=>hk b (S.st.conf.frz b hb).1) (fun b hb _=>hk b (bH hb S.st.conf.size)) ho),S.emp,(hk l hlw).trans S.recd,(hk D hdw).trans S.mark,
   S.lL,S.dL,S.lΦ,S.dΦ⟩
structure Marks (z:Nat) (w1:World) (U1 Φ1:Nat->Prop) (ds:List Deferred):Prop where
 each:∀ d∈ds,∃ D,d.target = .collected D/\z<=D/\D<w1.heap.size/\w1.heap[D]? = some (.deferred (some []))/\¬ U1 D/\¬ Φ1 D
 apart:ds.Pairwise fun d d'=>∀ D D',d.target = .collected D->d'.target = .collected D'->D≠D'
def FrB(w0:World)(U Φ0:Nat->Prop)(nt:Nat)(val:Nat->Value)(a:Act)(w:World)(e:Env):Prop :=
 ∃ w1 U1 Φ1 ds,Rel w0 U Φ0 w1 U1 Φ1/\Marks w0.heap.size w1 U1 Φ1 ds/\Fr w1 U1 Φ1 nt ⟨val,ds⟩ a w e
def GB(w0:World)(U Φ0:Nat->Prop)(nt:Nat)(val:Nat->Value)(a:Act)(w:World)(e:Env)(lg:Option Log):Prop:=lg=none/\FrB w0 U Φ0 nt val a w e
theorem zYJ{val:Nat->Value}(jL:zGH P orc)(hnm:zE3 P):Frame P H orc nt none 0 (fun _=>True) (fun lg=>lg=none) (GB w0 U Φ0 nt val):=by
 refine⟨?_,?_,?_,?_,?_,?_,?_⟩
 ·intro ops o fz tk nl e e' lg lg' h hf
  cases lg with
  |none=>rfl|some g=>obtain⟨g',h2,_⟩:=zHZ h;rw[h2] at hf;cases hf
 ·intro ops i o fz tk nl a w e e' lg lg' Q jF hi hd yM ⟨uc,w1,U1,Φ1,ds,h1,h2,hf⟩ h;subst uc;simp only[zC1] at h;obtain⟨e1,h3,h4⟩:=bm.1 h;cases h4;exact zDY (zMh jL hnm jF hf hi h3) fun a' w' yw=>⟨rfl,w1,U1,Φ1,ds,h1,h2,yw⟩
 ·intro a w e e' lg ⟨h1,w1,U1,Φ1,ds,h2,h3,hf⟩ hg;exact⟨h1,w1,U1,Φ1,ds,h2,h3,hf.get' hg⟩
 ·intro a w e lg d ⟨h1,w1,U1,Φ1,ds,h2,h3,hf⟩;exact⟨h1,w1,U1,Φ1,ds,h2,h3,hf.tick d⟩
 ·intro a w e lg l ⟨h1,w1,U1,Φ1,ds,h2,h3,hf⟩;exact⟨h1,w1,U1,Φ1,ds,h2,h3,hf.drop l⟩
 ·intro a w e lg l ⟨h1,w1,U1,Φ1,ds,h2,h3,hf⟩;exact⟨h1,w1,U1,Φ1,ds,h2,h3,hf.ice⟩
 ·intro a w e lg t b ⟨_,_,_,_,_,_,_,⟨Φ,rv,E,L,S,hb⟩⟩ ht he;have yu:t<zAa:=bH ht (bF S.small (by decide));have:=S.conf.rep t;rw[S.env t yu,he] at this;rw[S.tmps t ht];exact this.1
def zNB(P:Program)(yo:zC2):Prop:=∀ g first i caps k plan,yo g first i caps k=some plan->Callable P g/\(first++PV.yld i::caps).length<=zAk /\
 ∀ (J:List (List PV)->World->(Nat->Prop)->Prop) (Jx:World->Prop) (Ψ:Nat->Prop),Client P i plan k Ψ J Jx->∀ (w:World) (Φ:Nat->Prop) (rv:Nat->Value) (E:Nat->PV) (L:Nat->LN) (vs:Array Value) (B:Nat->Prop),
  (∀ s,s<zAa->E s=(zBg (first++PV.yld i::caps) []).get s)->(∀ s,zAa<=s->E s = .bad)->Conf w (fun b=>∃ s,b∈L s) Φ w Φ rv E L->vs.size=(first++PV.yld i::caps).length->(∀ j,j<(first++PV.yld i::caps).length->vs[j]? = some (rv j)) ->
  (∀ s,(first++PV.yld i::caps).length<=s->s<zAk->rv s=undef)->J [] w B->(∀ b,B b->∀ s,b∉L s)->(∀ b,Φ b->Ψ b\/¬ B b) ->
  CallsIn (FF none) 0 P g vs w fun en w'=>(∃ v,en = .returned v)/\((k-plan.length≠0/\∃ B',J plan w' B')\/(k-plan.length=0/\Jx w'))
theorem zJN{x:Nat->Option (List (List PV))}{r:List (List PV)}(h:zCe x=some r)(i:Nat):x i=some r:=by
 simp only[zCe] at h;split at h
 ·rename_i hx;have:=dU hx i;simp only[ba] at h;rw[h] at this;exact this
 ·cases h
theorem zQ6(S:St w0 U Φ0 nt hv a w e Φ rv E L){t g:Nat}(ht:t<nt){first caps:List PV}{R:LN}(h:zD1 e t=some (g,first,caps,R)){Ψ:Nat->Prop}(h1:∀ b,Φ b->Ψ b)(h2:∀ r∈R,∀ b∈L r,Ψ b) :
  ∃ fs cs:Array Value,rv t = .func (.func g) fs cs/\zBa w Ψ zCp first fs.toList []/\zBa w Ψ zCp caps cs.toList []:=by
 have yu:t<zAa:=bH ht (bF S.small (by decide));have hX:=S.conf.view yu;rw[S.env t yu] at hX;simp only[zD1] at h;split at h
 ·rename_i e' wn;obtain⟨q,l,h3,h4,h5⟩:=zPT S hX wn;simp only[PM.run,ba] at h3;subst h3;have g0:(((e.set 0 (.tup [q])).set 1 (.tup (l.map fun x=>int .i64 x.1))).get 0) = .tup [q]:=by rw[Env.get_set,if_neg (by decide),Env.get_set,if_pos rfl]
  have g1:(((e.set 0 (.tup [q])).set 1 (.tup (l.map fun x=>int .i64 x.1))).get 1) = .tup (l.map fun x=>int .i64 x.1):=by rw[Env.get_set,if_pos rfl]
  rw[g0,g1] at h;split at h
  ·rename_i g' f' c' l' hq hl;simp only[PV.tup.injEq,ff,and_true] at hq hl;subst hq;subst hl;simp only[ba,bw] at h;obtain⟨rfl,rfl,rfl,rfl⟩:=h;have kG:∀ x∈l,Cov w Φ rv E Ψ x:=by
    intro x hx nv q Li A hf hr b hb;refine h2 x.1 ?_ b ?_
    ·refine List.mem_eraseDups.2 (List.mem_filterMap.2 ⟨_,bT.2 ⟨x,hx,rfl⟩,?_⟩);simp
    ·obtain⟨nv',Li',h6,h7,h8⟩:=zB1 (zCf (S.conf.rep x.1)) (zEM hf);rw[hf] at h6;cases h6;have:=Rep.uniq _ _ _ _ hr h8;subst this;exact h7 b hb
   obtain⟨_,fs,cs,h6,h7,h8⟩:=h5 Ψ h1 kG (by simp);exact⟨fs,cs,h6,h7,h8⟩
  ·cases h
 ·cases h
theorem zL9{A:Al}:∀ {ps:List PV} {vs:List Value},zBa w Φ A ps vs []->vs.length=ps.length/\∀ (i:Nat) (p:PV),ps[i]? = some p->∃ v,vs[i]? = some v/\Rep w Φ A p v []
 |[],vs,h=>by rw[h.1];exact⟨rfl,fun i p hp=>by simp at hp⟩
 |p::ps,vs,⟨v,vs',L1,L2,h1,h2,h3,h4⟩=>by
  obtain⟨rfl,rfl⟩:L1=[]/\L2=[]:=by simpa using h2.symm
  obtain⟨g1,g2⟩:=zL9 h4;subst h1;refine⟨by simp[g1],fun i q hq=>?_⟩
  cases i with
  |zero=>simp only[bJ,ba] at hq;subst hq;exact⟨v,rfl,h3⟩|succ i=>simp only[fb] at hq;exact g2 i q hq
theorem zJw(w:World)(o:Obj){k:Nat}(h:k<w.heap.size):(w.alloc o).heap[k]? = w.heap[k]?:=by
 simp only[World.alloc];rw[d9,if_neg (by omega)]
theorem zSI {val:Nat->Value} (zFr:P.follows .mixedOrders=true) (jL:zGH P orc) (hnm:zE3 P) (gc:zNB P yo) {t:Nat} {ps:Array Tmp} {ca cb:Code} {x:X} (jR:zCT P nt (.rangeFunc (.tmp t) ps ca cb)=true) (hG:FrB w0 U Φ0 nt val a w e)
    (h:zHl nt yo zCe (zKQ P H orc yo zCe nt hh m) t ps.toList ca cb e=some (x,e')):(Code.rangeFunc (.tmp t) ps ca cb).wpIn (FF none) 0 P (fun ex a' w'=>ex=x.exit/\GB w0 U Φ0 nt val a' w' e' none) a w:=by
  have qM:zAa=1000000000:=rfl;have hhh:zAk=50000000:=rfl;simp only[zCT,bb] at jR;obtain⟨⟨⟨⟨⟨htn,y6⟩,hca⟩,hcb⟩,hna⟩,vu⟩:=jR;have htn:t<nt:=zCh htn;have y6:∀ t∈ps.toList,t<nt:=fun t ht=>zCh (bj.1 y6 t ht);obtain⟨w1,U1,Φ1,ds,qu,wJ,Φ,rv,E,L,S,hb⟩:=hG;have kB:=S.small;simp only[zHl] at h
  cases yO:zD1 e t with
  |none=>rw[yO] at h;cases h
  | some cl =>
    obtain⟨gf,first,caps,R⟩:=cl;rw[yO] at h;simp only at h
    obtain⟨plan,k0,res,hplan,qv,yi,hx⟩:∃ (plan:List (List PV)) (k0:Int) (res:Option (Nat×X)×Env),(∀ i,yo gf first i caps k0=some plan)/\zDn nt (zKQ P H orc yo zCe nt hh m) ps.toList ca cb R (ps.toList++zB3 ca++zB3 cb) plan e 0=some res /\
        ((res.1=none/\k0 = -1)\/∃ r,res.1=some (plan.length,r)/\k0=plan.length)/\((res.1=none/\x = .norm)\/∃ j,res.1=some (j,x))/\e'=res.2:=by
      cases kH:zCe fun i=>yo gf first i caps (-1) with
      |none=>rw[kH] at h;cases h
      | some xs =>
        rw[kH] at h;simp only at h;split at h
        · rename_i e1 hr;cases h;exact⟨xs,-1,_,zJN kH,hr,.inl ⟨rfl,rfl⟩,.inl ⟨rfl,rfl⟩,rfl⟩
        · rename_i j x1 e1 hr
          cases hal2:zCe fun i=>yo gf first i caps j with
          |none=>rw[hal2] at h;cases h
          | some ys =>
            rw[hal2] at h;simp only at h;split at h
            · rename_i j' r e2 uF;split at h
              · rename_i hj;cases h;exact⟨ys,j,_,zJN hal2,uF,.inr ⟨x,by rw[hj.1,hj.2],by rw[hj.2]⟩,.inr ⟨j',rfl⟩,rfl⟩
              · cases h
            · cases h
        · cases h
    obtain⟨hx,rfl⟩:=hx;refine wpIn_rangeFunc ?_;intro fn _;obtain⟨rc,kX⟩:∃ rc:Go.Loop,rc={state := .ready,pending:=none,fn,tmps:=a.tmps,params:=ps,assign:=ca,body:=cb,defers:=w.heap.size}:=⟨_,rfl⟩;obtain⟨w2,vw⟩:∃ w2,(w.alloc (.deferred (some []))).alloc (.loop rc)=w2:=⟨_,rfl⟩;have hsz2:w2.heap.size=w.heap.size+2:=by rw[<- vw];simp
    have ga:∀ b,b<w.heap.size->w2.heap[b]? = w.heap[b]?:=fun b hb=>by
      rw[<- vw];exact(zJw _ _ (by simp;omega)).trans (zJw _ _ hb)
    have h2D:w2.heap[w.heap.size]? = some (.deferred (some [])):=by
      rw[<- vw];exact(zJw _ _ (by simp)).trans (World.alloc_heap_new w _)
    have h2l:w2.heap[w.heap.size+1]? = some (.loop rc):=by
      rw[<- vw];have:=World.alloc_heap_new (w.alloc (.deferred (some []))) (.loop rc);rwa[World.size_alloc] at this
    have wk:w2.os=w.os/\w2.tape=w.tape/\w2.output=w.output:=by rw[<- vw];exact⟨rfl,rfl,rfl⟩
    obtain⟨jh,kH,wo⟩:=gc gf first (w.heap.size+1) caps k0 plan (hplan _)
    obtain⟨fn',kq,y1⟩:=jh;have hΨs:∀ b,(Φ b\/∃ r∈R,b∈L r)->b<w.heap.size:=fun b hb=>hb.elim (fun h=>(S.conf.frz b h).1) (fun⟨r,_,h⟩=>(S.conf.own r b h).1);obtain⟨fs,cs,hv,vO,j5⟩:=zQ6 S htn yO (Ψ:=fun b=>Φ b\/∃ r∈R,b∈L r) (fun b hb=>.inl hb) (fun r hr b hb=>.inr ⟨r,hr,hb⟩);have je:a.eval (.tmp t) = .func (.func gf) fs cs:=by
      show a.tmps.getD t undef=_
      rw[S.tmps t htn,hv]
    refine⟨w.heap.size+1,[{target := .collected w.heap.size,args:=#[]}],w2,{target := .fn (.func gf) cs,args:=fs++#[.func (.yield (w.heap.size+1)) #[] #[]]},w2,gf,(fs++#[.func (.yield (w.heap.size+1)) #[] #[]])++cs,w2,?_,?_,?_,?_,fun h=>(by cases h),?_⟩
    · rw[<- vw,kX];exact run_enterLoop_outer _ _ _ _ _
    · simp only[Go.resolve,je,Deferred.ofValue];simp[bx,Act.eval]
    · intro f' _;trivial
    · have hn:=hnm gf fn' kq;have qK:¬ fn'.body=none:=by intro hb;rw[hb] at y1;cases y1
      have wG : ¬ fn'.name = "runtime.NumGoroutine" := by simpa using hn
      simp[invoke,callFunc,kq,qK,wG]
    ·
      have yP:zBa w2 (fun b=>Φ b\/∃ r∈R,b∈L r) zCp (first++PV.yld (w.heap.size+1)::caps) (fs.toList ++ .func (.yield (w.heap.size+1)) #[] #[]::cs.toList) []:=by
        have hs:zDq w w2 (fun b=>Φ b\/∃ r∈R,b∈L r) (fun b=>Φ b\/∃ r∈R,b∈L r):=fun b hb=>⟨hb,ga b (hΨs b hb)⟩;have h1:=vO.mono hs (fun _ _ _ h=>h) (by simp);have h2:=j5.mono hs (fun _ _ _ h=>h) (by simp);have h3:zBa w2 (fun b=>Φ b\/∃ r∈R,b∈L r) zCp (PV.yld (w.heap.size+1)::caps) (.func (.yield (w.heap.size+1)) #[] #[]::cs.toList) []:=⟨_,_,[],[],rfl,rfl,⟨rfl,rfl⟩,h2⟩;have:=h1.append h3;simpa using this
      obtain⟨hZ,jQ⟩:=zL9 yP;obtain⟨vs,yj⟩:∃ vs:Array Value,vs=(fs++#[.func (.yield (w.heap.size+1)) #[] #[]])++cs:=⟨_,rfl⟩;have kI:vs.toList=fs.toList ++ .func (.yield (w.heap.size+1)) #[] #[]::cs.toList:=by rw[yj];simp
      obtain⟨args,hargs_⟩:∃ args,first++PV.yld (w.heap.size+1)::caps=args:=⟨_,rfl⟩
      rw[hargs_] at jQ hZ wo kH;rw[<- kI] at jQ hZ;have hvz:vs.size=args.length:=by rw[<- hZ];simp
      have hdp:∀ t∈ps.toList,t∈ps.toList++zB3 ca++zB3 cb:=fun t ht=>by simp[ht]
      have wN:∀ d∈zB3 ca,d∈ps.toList++zB3 ca++zB3 cb:=fun t ht=>by simp[ht]
      have hdb:∀ d∈zB3 cb,d∈ps.toList++zB3 ca++zB3 cb:=fun t ht=>by simp[ht]
      have gl:=S.conf.size
      have qw:=zT1 (hv:=⟨val,{target := .collected w.heap.size,args:=#[]}::ds⟩) (aM:={a with defers:=[{target := .collected w.heap.size,args:=#[]}]++a.defers}) (w0:=w1) (U:=U1) (Φ0:=Φ1) (rv:=rv) (yo:=yo) (al:=zCe) (hh:=hh) (m:=m) (H:=H) zFr jL hnm y6 hca hcb hna vu hdp wN hdb
        (l:=w.heap.size+1) (D:=w.heap.size) (size2:=w2.heap.size) (rc:=rc) (by rw[kX]) (by rw[kX]) (by rw[kX]) (by rw[kX]) (by rw[kX]) (by rw[kX]) (by omega) (by omega) (by omega) (by omega) (by omega) (Φs:=Φ) (Ls:=L) (R:=R) (plan:=plan) (k0:=k0) (res:=res) yi
      have p1:∀ s,zAa<=s->(zBg args []).get s = .bad:=fun s hs=>by
        rw[zDs (by omega),if_neg (by omega),if_neg (by simp only[cN];omega)]
      have p2:Conf w2 (fun b=>∃ s,b∈((fun _=>[]):Nat->LN) s) (fun b=>Φ b\/∃ r∈R,b∈L r) w2 (fun b=>Φ b\/∃ r∈R,b∈L r) (fun s=>(vs[s]?).getD undef) (fun s=>(zBg args []).get s) (fun _=>[]):=by
        refine⟨fun s=>?_,fun _=>b4,fun _ _ _ _ h=>(by cases h),fun _ _ h=>(by cases h),fun b hb=>⟨by have:=hΨs b hb;omega,.inl hb⟩,fun _ h=>h,bi _,fun _ _ _=>rfl,rfl,rfl,rfl⟩;show Rep _ _ _ ((zBg args []).get s) _ _
        rw[zDs (by omega)];by_cases h1:s<args.length
        · rw[if_pos h1];obtain⟨v,uC,uE⟩:=jQ s args[s] (bk h1);have:vs[s]? = some v:=by rw[<- bO];exact uC
          rw[this];simp only[List.getD,bk h1,de];exact uE.mono (fun b hb=>⟨hb,rfl⟩) (fun _ _ _ h=>h.elim) (by simp)
        · rw[if_neg h1,if_neg (by simp only[cN];omega)];rfl
      have p3:∀ j,j<args.length->vs[j]? = some ((vs[j]?).getD undef):=fun j hj=>by rw[cU (by omega)];rfl
      have p4:∀ s,args.length<=s->s<zAk->(vs[s]?).getD undef=undef:=fun s hs _=>by rw[fh (by omega)];rfl
      have uM:∀ s,∀ b∈L s,b<w.heap.size:=fun s b hb=>(S.conf.own s b hb).1;have hΦo:∀ b,Φ b->b<w.heap.size:=fun b hb=>(S.conf.frz b hb).1;have hC2:Conf w1 U1 Φ1 w2 Φ rv E L:=S.conf.moved (by omega) (fun s b hb=>ga b (uM s b hb)) (fun b hb=>ga b (hΦo b hb)) (fun b hb _=>ga b (by omega)) wk;have hSide:Side w1 U1 Φ1 nt ⟨val,{target := .collected w.heap.size,args:=#[]}::ds⟩ {a with defers:=[{target := .collected w.heap.size,args:=#[]}]++a.defers} rv (w.heap.size+1) w.heap.size w2.heap.size rc Φ L R w2 e Φ E L (fun b=>b<w2.heap.size):=by
        refine⟨⟨hC2,S.env,S.size,S.small,S.tmps,S.parts,S.hid,by simp[S.dfr]⟩,hb,h2l,h2D,fun s h=>?_,fun s h=>?_,fun h=>?_,fun h=>?_,fun s b hb=>?_,fun b hb=>?_,fun b hb=>hb,fun b hb=>hb,fun b hb=>hb,fun r _=>rfl⟩
        · have:=uM s _ h;omega
        · have:=uM s _ h;omega
        · have:=hΦo _ h;omega
        · have:=hΦo _ h;omega
        · have:=uM s b hb;show b<w2.heap.size;omega
        · have:=hΦo b hb;show b<w2.heap.size;omega
      have ku:=wo _ _ _ qw w2 (fun b=>Φ b\/∃ r∈R,b∈L r) (fun s=>(vs[s]?).getD undef) (fun s=>(zBg args []).get s) (fun _=>[]) vs (fun b=>b<w2.heap.size) (fun _ _=>rfl) p1 p2 hvz p3 p4
        ⟨plan,e,Φ,E,L,rfl,qv,hSide⟩ (fun _ _ _=>by simp) (fun b hb=>.inl hb)
      rw[yj] at ku;refine ku.mono fun en w3 ⟨⟨v,v6⟩,hend⟩=>?_;subst v6
      have behind:∀ (rc3:Go.Loop) (e3:Env) (Φ3:Nat->Prop) (E3:Nat->PV) (L3:Nat->LN),w3.heap[w.heap.size+1]? = some (.loop rc3)->rc3.state ≠ .busy->w3.heap[w.heap.size]? = some (.deferred (some []))->(∀ s,w.heap.size+1∉L3 s)->(∀ s,w.heap.size∉L3 s)->¬ Φ3 (w.heap.size+1)->¬ Φ3 w.heap.size ->
          St w1 U1 Φ1 nt ⟨val,{target := .collected w.heap.size,args:=#[]}::ds⟩ {a with defers:=[{target := .collected w.heap.size,args:=#[]}]++a.defers} w3 e3 Φ3 rv E3 L3->zBz E3 ->
          ∃ w4,(Instr.endLoop (w.heap.size+1)).run P w3 = .ok rc3.pending w4/\GB w0 U Φ0 nt val {a with defers:=[{target := .collected w.heap.size,args:=#[]}]++a.defers} w4 e3 none:=by
        intro rc3 e3 Φ3 E3 L3 vt yC gd hlL hdL hlΦ hdΦ S3 gU;obtain⟨w4,hw4⟩:∃ w4,w3.putObj (w.heap.size+1) (.loop {rc3 with state := .exhausted})=w4:=⟨_,rfl⟩;have gb:∀ b,b≠w.heap.size+1->w4.heap[b]? = w3.heap[b]?:=fun b hb=>by rw[<- hw4];exact World.putObj_heap_other hb
        have h4s:w4.heap.size=w3.heap.size:=by rw[<- hw4];simp
        have wm:w4.os=w3.os/\w4.tape=w3.tape/\w4.output=w3.output:=by rw[<- hw4];exact⟨rfl,rfl,rfl⟩
        have hC4:Conf w1 U1 Φ1 w4 Φ3 rv E3 L3:=S3.conf.moved (by omega) (fun s b hb=>gb b fun h=>hlL s (h▸hb)) (fun b hb=>gb b fun h=>hlΦ (h▸hb)) (fun b hb _=>gb b (by omega)) wm;have hdw:w.heap.size<w3.heap.size:=(bS.1 gd).1;have hsz4:=hC4.size;refine⟨w4,by rw[<- hw4];exact run_endLoop vt yC,rfl,w4,_,Φ3,{target := .collected w.heap.size,args:=#[]}::ds,qu.trans hC4.rel,⟨fun d hd=>?_,?_⟩,Φ3,rv,E3,L3,S3.with hC4.fresh,gU⟩
        · rcases bv.1 hd with rfl|hd
          · exact⟨_,rfl,by have:=qu.size;omega,by omega,(gb _ (by omega)).trans gd,fun⟨s,hs⟩=>hdL s hs,hdΦ⟩
          · obtain⟨D,q1,q0,q2,q3,q4,q5⟩:=wJ.each d hd;refine⟨D,q1,q0,by omega,(hC4.kept D q2 q4).trans q3,fun⟨s,hs⟩=>?_,fun h=>?_⟩
            · rcases(hC4.own s D hs).2.2 with h|h
              · exact q4 h
              · omega
            · rcases(hC4.frz D h).2 with h|h|h
              · exact q5 h
              · exact q4 h
              · omega
        · refine cL.2 ⟨fun d hd D D' h1 h2=>?_,wJ.apart⟩;obtain⟨D2,q1,_,q2,_⟩:=wJ.each d hd;rw[h2] at q1;cases q1;cases h1;omega
      rcases hend with⟨hk,B',rest,e3,Φ3,E3,L3,r1,r2,S3⟩|⟨hk,r,Φ3,E3,L3,⟨j,r1⟩,r2,S3⟩
      · have:rest=[]:=by simpa using r1
        subst this;simp only[zDn,ba] at r2;subst r2;have hxn:x = .norm:=by
          rcases hx with⟨_,h⟩|⟨j,h⟩
          · exact h
          · cases h
        subst hxn;obtain⟨w4,g1,g2⟩:=behind rc e3 Φ3 E3 L3 S3.recd (by rw[kX];simp) S3.mark S3.lL S3.dL S3.lΦ S3.dΦ S3.st S3.emp;rw[show rc.pending=none by rw[kX]] at g1;exact⟨none,w4,g1,rfl,g2⟩
      · have wS:x=r:=by
          rcases hx with⟨h,_⟩|⟨j',h⟩
          · rw[h] at r1;cases r1
          · rw[h] at r1;cases r1;rfl
        subst wS;obtain⟨w4,g1,g2⟩:=behind _ _ Φ3 E3 L3 S3.recd (by simp) S3.mark S3.lL S3.dL S3.lΦ S3.dΦ S3.st S3.emp;refine⟨_,w4,g1,?_⟩
        cases x with
        |norm=>cases r2|ret=>exact wpIn_ret ⟨rfl,g2⟩|ex id=>exact wpIn_exit ⟨rfl,g2⟩
theorem zXZ{val:Nat->Value}(zFr:P.follows .mixedOrders=true)(jL:zGH P orc)(hnm:zE3 P)(gc:zNB P yo):zEm P H orc yo zCe nt hh none 0 (GB w0 U Φ0 nt val) m:=by
 intro m' _ t ps ca cb a w e x e' jR hG h;simp only[exec] at h;obtain⟨⟨x1,e1⟩,h1,h2⟩:=bm.1 h;simp only[ba,bw,and_true] at h2;obtain⟨rfl,rfl⟩:=h2;exact zSI zFr jL hnm gc jR hG.2 h1
end
end Go.Eng
