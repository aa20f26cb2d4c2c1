/- Just those ye are left with an earlier notice alone that are told; who jN a notice has it by a path; and with the further cries that are told nobody is left, or gaps are told that no cry mends; for every list of numbers, evening and stands. -/
import Derived.Test.YtppbomajegnkeaaGreatPa
import Derived.Laws.AppendOwn
set_option linter.unusedVariables false
set_option linter.unusedSimpArgs false
set_option linter.unusedSectionVars false
open Nat (beq ble blt)
open List (map replicate take drop range length filter)
open Go.Eng.PV (own agg addr func sl bor tup omap bad bool int)
namespace Go.Eng
open Go
section
variable {P:Program} {w0 w w':World} {U Φ0 Φ:Nat->Prop} {nt:Nat} {hv:Hid} {a:Act} {e e':Env} {rv rv':Nat->Value} {E E':Nat->PV} {L L':Nat->LN} {o:zAM} {A:Al}
def Cov(w:World)(Φ:Nat->Prop)(rv:Nat->Value)(E:Nat->PV)(Φ1:Nat->Prop)(x:Nat×zA4):Prop :=
 ∀ nv q Li A,zA3 w (rv x.1) (E x.1).unlock x.2=some (nv,q)->Rep w Φ A q nv Li->∀ b∈Li,Φ1 b
def zNJ(hb:Nat)(A:Al):Al:=fun a v=>A a v/\∀ x∈a.ways,hb<=x.1
structure Shown (w:World) (Φ:Nat->Prop) (rv:Nat->Value) (E:Nat->PV) (hb:Nat) (p:PV) (v:Value) (Lp:LN) (q:PV) (l:List (Nat×zA4)):Prop where
 low:∀ x∈l,x.1<zAa/\x.1<hb
 agg:q.isAgg=p.isAgg
 len:q.cells.length=p.cells.length
 rep:∀ Φ1:Nat->Prop,(∀ b,Φ b->Φ1 b)->(∀ x∈l,Cov w Φ rv E Φ1 x)->(∀ b∈Lp,Φ1 b)->Rep w Φ1 (zNJ hb (zBb w rv E)) q v []
structure Showns (w:World) (Φ:Nat->Prop) (rv:Nat->Value) (E:Nat->PV) (hb:Nat) (ps:List PV) (vs:List Value) (Lp:LN) (qs:List PV) (l:List (Nat×zA4)):Prop where
 low:∀ x∈l,x.1<zAa/\x.1<hb
 len:qs.length=ps.length
 rep:∀ Φ1:Nat->Prop,(∀ b,Φ b->Φ1 b)->(∀ x∈l,Cov w Φ rv E Φ1 x)->(∀ b∈Lp,Φ1 b)->zBa w Φ1 (zNJ hb (zBb w rv E)) qs vs []
theorem zBW{r:Nat}{pre:zA4}{k:PV->PM}(h:(PM.deep r pre k).run o e=some e'):∃ q,zAC (e.get r).unlock pre=some q/\(k q).run o e=some e':=by
 simp only[PM.run] at h
 cases hq:zAC (e.get r).unlock pre with
 |none=>rw[hq] at h;cases h|some q=>rw[hq] at h;exact⟨q,rfl,h⟩
theorem zFz{hb:Nat}{res:PV->(PV->List (Nat×zA4)->PM)->PM}
  (yi:∀ p v Lp k,Rep w Φ (zBb w rv E) p v Lp->(res p k).run o e=some e'->∃ q l,(k q l).run o e=some e'/\Shown w Φ rv E hb p v Lp q l) :
  ∀ (ps:List PV) (vs:List Value) (Lp:LN) (k:List PV->List (Nat×zA4)->PM),zBa w Φ (zBb w rv E) ps vs Lp->(zED res ps k).run o e=some e'->∃ qs l,(k qs l).run o e=some e'/\Showns w Φ rv E hb ps vs Lp qs l
 |[],vs,Lp,k,h,hr=>⟨[],[],hr,⟨by simp,rfl,fun _ _ _ _=>⟨h.1,rfl⟩⟩⟩
 |p::ps,vs,Lp,k,h,hr=>by
  obtain⟨v,vs',L1,L2,rfl,rfl,h1,h2⟩:=h;simp only[zED] at hr;obtain⟨q,l,h3,h4⟩:=yi p v L1 _ h1 hr;obtain⟨qs,m,h5,h6⟩:=zFz yi ps vs' L2 _ h2 h3;refine⟨q::qs,l++m,h5,⟨fun x hx=>?_,by simp[h6.len],fun Φ1 g1 g2 g3=>⟨v,vs',[],[],rfl,rfl,h4.rep Φ1 g1 (fun x hx=>g2 x (by simp[hx])) (fun b hb=>g3 b (by simp[hb])),h6.rep Φ1 g1 (fun x hx=>g2 x (by simp[hx])) (fun b hb=>g3 b (by simp[hb]))⟩⟩⟩;rcases bg.1 hx with hx|hx
  ·exact h4.low x hx
  ·exact h6.low x hx
theorem zN4{hb:Nat}{p:PV}{v:Value}{Lp:LN}(hp:Rep w Φ (zBb w rv E) p v Lp)(hw:∀ x∈p.ways,hb<=x.1):Shown w Φ rv E hb p v Lp (zA2 p) [] :=
 ⟨by simp,zDk p,zDm p,fun Φ1 g1 _ g3=>(zEh g1 p v Lp g3 hp).ways _ _ _ fun a v _ hx ha=>⟨ha,fun x gr=>hw x (zGV p x (hx x gr))⟩⟩
theorem zIf{hb:Nat}{p:PV}{v:Value}(hp:Rep w Φ (zBb w rv E) p v [])(hw:∀ x∈p.ways,hb<=x.1):Shown w Φ rv E hb p v [] p [] :=
 ⟨by simp,rfl,rfl,fun Φ1 g1 _ g3=>(hp.mono (fun b hb=>⟨g1 b hb,rfl⟩) (fun _ _ _ h=>h) (by simp)).ways _ _ _ fun a v _ hx ha=>⟨ha,fun x gr=>hw x (hx x gr)⟩⟩
theorem zH5{hb:Nat}{l:List (Nat×zA4)}(h:l.isEmpty=true):∀ x∈l,hb<=x.1:=by
 cases l with
 |nil=>simp|cons _ _=>cases h
theorem zK1 (S:St w0 U Φ0 nt hv a w e Φ rv E L) {hb:Nat}:∀ (n:Nat) (p:PV) (v:Value) (Lp:LN) (k:PV->List (Nat×zA4)->PM),Rep w Φ (zBb w rv E) p v Lp->(resolve hb n p k).run o e=some e' ->
  ∃ q l,(k q l).run o e=some e'/\Shown w Φ rv E hb p v Lp q l
 |0,p,v,Lp,k,hp,h=>by cases h
 | n + 1, p, v,Lp,k,hp,h=>by
  have ih:=zK1 S (hb:=hb) n;have node:∀ r pre x,r<zAa->zAC (e.get r).unlock pre=some x->∃ nv Li,zA3 w (rv r) (E r).unlock pre=some (nv,x)/\Rep w Φ (zBb w rv E) x nv Li/\∀ Φ1,Cov w Φ rv E Φ1 (r,pre)->∀ b∈Li,Φ1 b:=by
   intro r pre x hr hx;rw[<- S.env r hr] at hx;obtain⟨nv,Li,h1,_,h3⟩:=zB1 (zCf (S.conf.rep r)) hx;exact⟨nv,Li,h1,h3.mono zDq.refl (fun _ _ _ h=>zEO h) (fun _ _=>rfl),fun Φ1 hc b hb=>hc nv x Li _ h1 h3 b hb⟩
  have dflt:(∀ x∈p.ways,hb<=x.1)->(k (zA2 p) []).run o e=some e'->∃ q l,(k q l).run o e=some e'/\Shown w Φ rv E hb p v Lp q l :=
   fun hw h=>⟨_,_,h,zN4 hp hw⟩
  have dflt2:(bif p.ways.all (fun w=>ble hb w.1) then k (zA2 p) [] else .fail).run o e=some e'->∃ q l,(k q l).run o e=some e'/\Shown w Φ rv E hb p v Lp q l:=by
   intro h;obtain⟨h1,h2⟩:=zAR h;exact dflt (fun x hx=>br (bj.1 h1 x hx)) h2
  have keep:∀ r,(∀ x∈p.ways,x.1=r)->Lp=[]->(k p []).run o e=some e'->ble hb r=true->∃ q l,(k q l).run o e=some e'/\Shown w Φ rv E hb p v Lp q l:=by
   intro r hw hL hk hr;subst hL;exact⟨_,_,hk,zIf hp fun x hx=>by rw[hw x hx];exact br hr⟩
  have jD:∀ r,ble hb r=false->r<hb:=by
   intro r hr;exact Nat.lt_of_not_le fun yR=>by rw[cP yR] at hr;cases hr
  cases p<;>simp only[resolve] at h<;>try (exact dflt2 h)
  case agg cs=>
   cases hw:(agg cs).ways.isEmpty with
   |true=>rw[hw] at h;exact dflt (zH5 hw) h|false=>
    rw[hw] at h;simp only[cond_false] at h;obtain⟨vs,rfl,hr⟩:=hp;obtain⟨qs,l,h1,h2⟩:=zFz ih cs _ Lp _ hr h;exact⟨_,_,h1,⟨h2.low,rfl,by simpa[PV.cells] using h2.len,fun Φ1 g1 g2 g3=>⟨vs,rfl,h2.rep Φ1 g1 g2 g3⟩⟩⟩
  case ref q=>
   have hL:=hp.1;subst hL
   cases hw:q.ways.isEmpty with
   |true=>rw[hw] at h;exact⟨_,_,h,zIf hp (zH5 hw)⟩|false=>
    rw[hw] at h;simp only[cond_false] at h;obtain⟨_,b,c,u,h1,h2,h3,h4,h5,h6,h7⟩:=hp;obtain⟨q',l,h8,h9⟩:=ih q u [] _ h7 h;refine⟨_,_,h8,⟨h9.low,rfl,rfl,fun Φ1 g1 g2 g3=>⟨rfl,b,c,u,h1,h2,g1 _ h3,h4,by rw[h9.len];exact h5,by rw[h9.len,h9.agg];exact h6,h9.rep Φ1 g1 g2 (by simp)⟩⟩⟩
  case func f x y=>
   have hL:=hp.1;subst hL
   cases hw:(func f x y).ways.isEmpty with
   |true=>rw[hw] at h;exact⟨_,_,h,zIf hp (zH5 hw)⟩|false=>
    rw[hw] at h;simp only[cond_false] at h;obtain⟨_,fs,cs,h1,h2,h3⟩:=hp;obtain⟨qs,l,h4,h5⟩:=zFz ih x _ [] _ h2 h;obtain⟨qs',m,h6,h7⟩:=zFz ih y _ [] _ h3 h4;refine⟨_,_,h6,⟨fun z hz=>?_,rfl,rfl,fun Φ1 g1 g2 g3=>⟨rfl,fs,cs,h1,h5.rep Φ1 g1 (fun z hz=>g2 z (by simp[hz])) (by simp),h7.rep Φ1 g1 (fun z hz=>g2 z (by simp[hz])) (by simp)⟩⟩⟩;rcases bg.1 hz with hz|hz
    ·exact h5.low z hz
    ·exact h7.low z hz
  case addr r pre i c sh =>
   have hL:=hp.1;have ha:=hp.2
   cases kC:ble hb r with
   |true=>rw[kC] at h;exact keep r (by simp[PV.ways]) hL h kC
   | false =>
    rw[kC] at h;simp only[cond_false] at h;obtain⟨x,hx,h1⟩:=zBW h;obtain⟨hg,ad,rfl,y9,hn⟩:=ha;obtain⟨nv,Li,hf,wS,kG⟩:=node r pre x hg hx
    cases hh:zBm x with
    |none=>rw[hh] at h1;cases h1
    | some xs =>
     rw[hh] at h1;simp only at h1
     cases hi:xs[i]? with
     |none=>rw[hi] at h1;cases h1
     | some y =>
      rw[hi] at h1;simp only at h1;obtain⟨ux,row,ad0,Lx,k1,k2,k3,k4,k5,k6,k7,k8,k9⟩:=zMb wS hh hi;have jO:=hn nv x hf _ (k5 c);subst jO;have k9':=k9.mono (A':=zBb w rv E) zDq.refl (fun _ _ _ h=>zGv h) (fun _ _=>rfl)
      cases sh with
      | some m =>
       simp only at h1;obtain⟨hc,h2⟩:=zAR h1;simp only[bb] at hc;have yR:=br hc.1;cases hya:y<;>rw[hya] at hc<;>try (simp[PV.isAgg] at hc;done)
       rename_i cs;subst hya;obtain⟨vs,rfl,hr⟩:=k9';obtain⟨Ly,hly,qY⟩:=zHa hr c m;have hZ:=hr.length;obtain⟨q',l,h3,h4⟩:=ih (.agg ((cs.drop c).take m)) (.agg ((vs.toList.drop c).take m).toArray) Ly _ ⟨_,rfl,by simpa using qY⟩ h2;have jp:q'.cells.length=m:=by rw[h4.len];simp[PV.cells] at yR ⊢;omega
       refine⟨_,_,h3,⟨fun z hz=>?_,rfl,rfl,fun Φ1 g1 g2 g3=>?_⟩⟩
       ·rcases bv.1 hz with rfl|hz
        ·exact⟨hg,jD r kC⟩
        ·exact h4.low z hz
       ·have jK:=kG Φ1 (g2 _ (by simp));refine⟨rfl,zAx ad0 c,row,_,rfl,rfl,jK _ k1,k3.any,?_,⟨?_,?_⟩,h4.rep Φ1 g1 (fun z hz=>g2 z (by simp[hz])) fun b hb=>jK b (k4 b (hly b hb))⟩
        ·rw[jp];simp only[zAx,Value.cells];rw[k6 c m yR];rfl
        ·rw[jp];simp[Value.cells,PV.cells] at yR hZ ⊢;omega
        ·rw[h4.agg];rfl
      | none =>
       simp only at h1
       cases hc:y.cells[c]? with
       |none=>rw[hc] at h1;cases h1
       | some z =>
        rw[hc] at h1;simp only at h1;obtain⟨vi,h2⟩:=zAR h1;obtain⟨u,La,Lu,Lb,hu,wQ,uI,_,_⟩:=k9'.cell hc k7;obtain⟨q',l,h3,h4⟩:=ih z u Lu _ uI h2;have kF:=zBX (zCq (fun a v hw h=>zDo hw h) uI vi);have wR:=zBu vi;have yO:c<y.cells.length:=(bf.1 hc).1;refine⟨_,_,h3,⟨fun z hz=>?_,rfl,rfl,fun Φ1 g1 g2 g3=>?_⟩⟩
        ·rcases bv.1 hz with rfl|hz
         ·exact⟨hg,jD r kC⟩
         ·exact h4.low z hz
        ·have jK:=kG Φ1 (g2 _ (by simp));refine⟨rfl,zAx ad0 c,row,u,rfl,rfl,jK _ k1,k3.any,?_,⟨?_,?_⟩,h4.rep Φ1 g1 (fun z hz=>g2 z (by simp[hz])) fun b hb=>jK b (k4 b (by rw[wQ];simp[hb]))⟩
         ·rw[h4.len,wR.1,kF.1];have:=k6 c 1 (by omega);simp only[zAx,bW];rw[this];have yL:c<ux.cells.toList.length:=by simpa[k8] using yO
          rw[bX yL];have:ux.cells.toList[c]=u:=by rw[bk yL] at hu;simpa using hu
          simp[this]
         ·rw[h4.len,wR.1,kF.1];rfl
         ·rw[h4.agg,wR.2,kF.2]
  case bor r pre z lo m =>
   have hL:=hp.1;have ha:=hp.2
   cases kC:ble hb r with
   |true=>rw[kC] at h;exact keep r (by simp[PV.ways]) hL h kC
   | false =>
    rw[kC] at h;simp only[cond_false] at h;obtain⟨x,hx,h1⟩:=zBW h;obtain⟨hg,_,hn⟩:=ha;obtain⟨nv,Li,hf,wS,kG⟩:=node r pre x hg hx;split at h1
    ·rename_i sz xs;obtain⟨hc,h2⟩:=zAR h1;refine⟨_,_,h2,⟨fun z hz=>?_,rfl,rfl,fun Φ1 g1 g2 g3=>?_⟩⟩
     ·simp only[bl] at hz;subst hz;exact⟨hg,jD r kC⟩
     ·have:=zIo (A':=zNJ hb (zBb w rv E)) g1 wS (kG Φ1 (g2 _ (by simp))) (z:=z) (lo:=lo) (n:=m) (v:=v) fun sz' xs' ue=>by
       obtain⟨sz2,xs2,h7,h8,h9⟩:=hn nv _ hf rfl;cases h7;cases ue;exact⟨h8,h9⟩
      simp only[zCl,hc,cond_true] at this;exact this
    ·cases h1
  case bmap r pre=>
   have hL:=hp.1;have ha:=hp.2
   cases kC:ble hb r with
   |true=>rw[kC] at h;exact keep r (by simp[PV.ways]) hL h kC
   | false =>
    rw[kC] at h;simp only[cond_false] at h;obtain⟨x,hx,h1⟩:=zBW h;obtain⟨hg,_,hn⟩:=ha;obtain⟨nv,Li,hf,wS,kG⟩:=node r pre x hg hx;split at h1
    ·rename_i es;refine⟨_,_,h1,⟨fun z hz=>?_,rfl,rfl,fun Φ1 g1 g2 g3=>?_⟩⟩
     ·simp only[bl] at hz;subst hz;exact⟨hg,jD r kC⟩
     ·exact zHu (A':=zNJ hb (zBb w rv E)) g1 wS (kG Φ1 (g2 _ (by simp))) (v:=v) fun es' ue=>hn nv _ hf _ ue
    ·cases h1
  case bsl r pre i c sz ag m=>
   have hL:=hp.1;have ha:=hp.2
   cases kC:ble hb r with
   |true=>rw[kC] at h;exact keep r (by simp[PV.ways]) hL h kC
   | false =>
    rw[kC] at h;simp only[cond_false] at h;obtain⟨x,hx,h1⟩:=zBW h;obtain⟨hg,ad,cap,rfl,yT,y9,hn⟩:=ha;obtain⟨nv,Li,hf,wS,kG⟩:=node r pre x hg hx
    cases hh:zBm x with
    |none=>rw[hh] at h1;cases h1
    | some xs =>
     rw[hh] at h1;simp only at h1
     cases hi:xs[i]? with
     |none=>rw[hi] at h1;cases h1|some y=>
      rw[hi] at h1;simp only at h1;obtain⟨hc,h2⟩:=zAR h1;refine⟨_,_,h2,⟨fun z hz=>?_,rfl,rfl,fun Φ1 g1 g2 g3=>?_⟩⟩
      ·simp only[bl] at hz;subst hz;exact⟨hg,jD r kC⟩
      ·have:=zHI (A':=zNJ hb (zBb w rv E)) (fun a v hw h=>zJ2 hw h) g1 wS (kG Φ1 (g2 _ (by simp))) (i:=i) (c:=c) (sz:=sz) (ag:=ag) (m:=m) (v := .slice (some ad) m cap) rfl yT fun a' ke=>hn nv x hf a' ke;simp only[zCH,hh,hi,hc,cond_true] at this;exact this
theorem zPT(S:St w0 U Φ0 nt hv a w e Φ rv E L){p:PV}{v:Value}{Lp:LN}{k:PV->List (Nat×zA4)->PM}(hp:Rep w Φ (zBb w rv E) p v Lp)(h:(zQW p k).run o e=some e') :
  ∃ q l,(k q l).run o e=some e'/\(∀ x∈l,x.1<zAa)/\∀ Φ1:Nat->Prop,(∀ b,Φ b->Φ1 b)->(∀ x∈l,Cov w Φ rv E Φ1 x)->(∀ b∈Lp,Φ1 b)->Rep w Φ1 zCp q v []:=by
 obtain⟨q,l,h1,h2⟩:=zK1 S (hb:=zAa) depth p v Lp k hp h;refine⟨q,l,h1,fun x hx=>(h2.low x hx).1,fun Φ1 g1 g2 g3=>(h2.rep Φ1 g1 g2 g3).mono zDq.refl (fun a v hw ha=>?_) (fun _ _=>rfl)⟩;have hr:=zC7 ha.1;have:=ha.2 (zBf a);cases a<;>first|(cases hw;done)|(exact ha.1.elim)|skip
 all_goals
  have:=this (by simp[PV.ways,zBf]);omega
theorem zNk{p q' p':PV}{i c:Nat}(hp:zCd p i c q'=some p'):p'.unlock=p'/\p'.isTup=false:=by
 simp only[zCd] at hp;cases p<;>simp only[zA9,dM,bd] at hp<;>try cases hp
 case own sz xs=>
  cases hx:xs[i]?<;>rw[hx] at hp<;>simp[zAK] at hp;subst hp;exact⟨rfl,rfl⟩
 case box q=>
  cases i with
  |zero=>simp[zAK] at hp;subst hp;exact⟨rfl,rfl⟩|succ i=>simp at hp
 case agg cs=>
  cases i with
  |zero=>simp[zAK,zAF] at hp;subst hp;exact⟨rfl,rfl⟩|succ i=>simp at hp
theorem zB0{q' p p':PV}(h1:q'.unlock=q')(h2:q'.isTup=false):∀ {pre:zA4},zAz (fun _=>some q') p pre=some p'->p'.unlock=p'/\p'.isTup=false
 |[],h=>by simp only[zAz,ba] at h;subst h;exact⟨h1,h2⟩
 | (i,c)::rest,h=>by
  rw[zBA] at h
  cases hc:Eng.child p i c with
  |none=>rw[hc] at h;cases h|some q=>
   rw[hc] at h;simp only[bd] at h
   cases hm:zAz (fun _=>some q') q rest with
   |none=>rw[hm] at h;cases h|some q1=>rw[hm] at h;exact zNk (by simpa using h)
theorem zFx(q:PV):(zA2 q).unlock=zA2 q/\(zA2 q).isTup=false:=by cases q<;>exact⟨rfl,rfl⟩
theorem zBQ{p:PV}(h:p.isLock=false):p.unlock=p:=by cases p<;>first|rfl|cases h
theorem zS5(r:Nat)(pre:zA4)(q p:PV)(hp:p.isWay=true):(inl r pre q p).isTup=false:=by
 have h:=(zI1 r pre q).dull p hp;have h1 : ∀ i c sh x,(zDO i c sh x).isTup=false:=by
  intro i c sh x;simp only[zDO];split
  ·split
   ·split
    ·cases (ble _ _&&PV.isAgg _)<;>rfl
    ·split
     ·rename_i q _;cases q.oneCell<;>rfl
     ·rfl
   ·rfl
  ·rfl
 have h2:∀ lo n x,(zCl lo n x).isTup=false:=by
  intro lo n x;cases x<;>try rfl
  simp only[zCl];cases ble _ _<;>rfl
 have h5:∀ i c sz ag m x,(zCH i c sz ag m x).isTup=false:=by
  intro i c sz ag m x;simp only[zCH];split
  ·split
   ·cases (zCA ag sz m _&&_)<;>rfl
   ·rfl
  ·rfl
 have h3:∀ x,(zE7 x).isTup=false:=by intro x;cases x<;>rfl
 have h4:∀ (o:Option PV) (f:PV->PV),(∀ x,(f x).isTup=false)->(zFH o f).isTup=false:=by
  intro o f hf;cases o with
  |none=>rfl|some x=>exact hf x
 cases p<;>first|(cases hp;done)|skip
 all_goals
  simp only[inl]
  first|rfl|skip
 all_goals
  cases zAT r pre _ _<;>first|rfl|exact h4 _ _ (h1 _ _ _)|exact h4 _ _ (h2 _ _)|exact h4 _ _ h3|exact h4 _ _ (h5 _ _ _ _ _)
theorem zYq(S:St w0 U Φ0 nt hv a w e Φ rv E L)(M:Nat->Bool){r:Nat}{pre:zA4}{q:PV}(hr:r<zAa)(hq:zAC (e.get r).unlock pre=some q){k:PM}(h:(PM.frz r pre k).run o e=some e') :
  ∃ e1 Φ1 E1 L1,k.run o e1=some e'/\St w0 U Φ0 nt hv a w e1 Φ1 rv E1 L1/\(∀ b,Φ b->Φ1 b)/\(∀ s,zAa<=s->E1 s=(if M s then(E s).mapW (inl r pre q) else E s)/\L1 s=L s):=by
 simp only[PM.run] at h
 cases hf:e.frz r pre with
 |none=>rw[hf] at h;cases h
 | some e1 =>
  rw[hf] at h;simp only at h;obtain⟨q0,root,hl,hn,hm,yY⟩:=Env.frz_eq hf;have yF:=zBQ hl;rw[yF,hn] at hq;simp only[ba] at hq;subst hq;have hE:=S.env r hr;obtain⟨k1,k2⟩:=zB0 (zFx q0).1 (zFx q0).2 hm;obtain⟨nv,Li,L',h1,h2,h3,h4⟩:=S.conf.ice M hr (pre:=pre) (q:=q0) (root':=root) (by rw[hE];exact yF) (by rw[hE];exact hn) (by rw[hE];exact hm) k1;refine⟨e1,_,_,L',h,S.turn h4 (fun s hs=>?_) (fun _ _=>rfl) (fun d ps hd hp=>?_),fun b hb=>.inl hb,fun s hs=>⟨?_,h3 s (by omega)⟩⟩
  ·simp only[hs,true_or,if_true];rw[yY s];by_cases yW:s=r
   ·subst yW;simp
   ·rw[if_neg yW,if_neg yW,S.env s hs]
  ·have vI:d<zAa:=by simp only[zAa];omega
   simp only[vI,true_or,if_true] at hp;obtain⟨ps',h5,h6⟩:=zEg (zS5 r pre q0) hp;by_cases js:d=r
   ·rw[if_pos js] at h5;rw[h5] at k2;cases k2
   ·rw[if_neg js] at h5;exact⟨ps',h5,h6⟩
  ·have:¬ s<zAa:=by omega
   simp only[this,false_or];have yW:s≠r:=by omega
   rw[if_neg yW]
theorem zRw{l:List (Nat×zA4)}{hb:Nat}(h:l.find? (fun w=>blt w.1 hb)=none):∀ x∈l,hb<=x.1:=by
 intro x hx;have:=List.find?_eq_none.1 h x hx;exact d5 fun yL=>this (cP yL)
theorem zH0{hb g:Nat}(hg:zAa<=g)(kC:hb<=zAa){k:PV->PM}:∀ (n:Nat) {e:Env} {Φ:Nat->Prop} {E:Nat->PV} {L:Nat->LN},St w0 U Φ0 nt hv a w e Φ rv E L->(zLy hb n (E g) k).run o e=some e' ->
  ∃ e1 Φ1 E1 L1,(k (E1 g)).run o e1=some e'/\St w0 U Φ0 nt hv a w e1 Φ1 rv E1 L1/\(∀ b,Φ b->Φ1 b)/\(∀ s,zAa<=s->s≠g->E1 s=E s)/\(∀ s,zAa<=s->L1 s=L s) /\
   (∀ x∈(E1 g).ways,hb<=x.1)/\(E1 g).isAgg=(E g).isAgg/\(E1 g).cells.length=(E g).cells.length
 |0,e,Φ,E,L,S,h=>by cases h
 | n + 1,e,Φ,E,L,S,h=>by
  simp only[zLy] at h;split at h
  ·rename_i hf;exact⟨e,Φ,E,L,h,S,fun _ h=>h,fun _ _ _=>rfl,fun _ _=>rfl,zRw hf,rfl,rfl⟩
  ·rename_i r pre hf;have hr:r<zAa:=by
    have:=List.find?_some hf;have:r<hb:=br this;omega
   obtain⟨q,hq,h1⟩:=zBW h;obtain⟨e1,Φ1,E1,L1,h2,S1,h3,h4⟩:=zYq S (fun s=>s==g) hr hq h1;have ul:E1 g=(E g).mapW (inl r pre q):=by simpa using(h4 g hg).1
   rw[<- ul] at h2;obtain⟨e2,Φ2,E2,L2,h5,S2,h6,h7,h8,h9,jZ,vg⟩:=zH0 hg kC n S1 h2;refine⟨e2,Φ2,E2,L2,h5,S2,fun b hb=>h6 b (h3 b hb),fun s hs hI=>?_,fun s hs=>(h8 s hs).trans (h4 s hs).2,h9,?_,?_⟩
   ·rw[h7 s hs hI,(h4 s hs).1];simp[hI]
   ·rw[jZ,ul,zGp (zI1 r pre q).agg]
   ·rw[vg,ul,zIj (zI1 r pre q).agg]
end
end Go.Eng
namespace Go.Eng
open Go
section
variable {w w':World} {Φ Φ':Nat->Prop} {A A':Al}
theorem zBa.append:∀ {ps qs:List PV} {us vs:List Value} {L M:LN},zBa w Φ A ps us L->zBa w Φ A qs vs M->zBa w Φ A (ps++qs) (us++vs) (L++M)
 |[],qs,us,vs,L,M,h,h'=>by obtain⟨rfl,rfl⟩:=h;simpa using h'
 |p::ps,qs,us,vs,L,M,h,h'=>by
  obtain⟨v,us',L1,L2,rfl,rfl,h1,h2⟩:=h;exact⟨v,us'++vs,L1,L2++M,rfl,by simp,h1,h2.append h'⟩
theorem zBa.cut:∀ {ps:List PV} {us:List Value} {L:LN} (n:Nat),zBa w Φ A ps us L->∃ L1 L2,L=L1++L2/\zBa w Φ A (ps.take n) (us.take n) L1/\zBa w Φ A (ps.drop n) (us.drop n) L2
 |ps,us,L,0,h=>⟨[],L,rfl,by simp[zBa],by simpa using h⟩|[],us,L,n+1,h=>by obtain⟨rfl,rfl⟩:=h;exact⟨[],[],rfl,by simp[zBa],by simp[zBa]⟩
 |p::ps,us,L,n+1,h=>by
  obtain⟨v,us',L1,L2,rfl,rfl,h1,h2⟩:=h;obtain⟨M1,M2,rfl,h3,h4⟩:=h2.cut n;exact⟨L1++M1,M2,by simp,⟨v,_,L1,M1,rfl,rfl,h1,h3⟩,by simpa using h4⟩
theorem zBa.replace{ps:List PV}{us:List Value}{L:LN}(h:zBa w Φ A ps us L)(c n:Nat):∃ L1 L2 L3,L=L1++L2++L3 /\
  ∀ {w':World} {Φ':Nat->Prop} {A':Al} {qs:List PV} {vs:List Value} {Lq:LN},(∀ a v,a.isWay=true->A a v->A' a v)->zDq w w' Φ Φ'->(∀ b∈L1++L3,w'.heap[b]? = w.heap[b]?)->zBa w' Φ' A' qs vs Lq ->
   zBa w' Φ' A' (ps.take c++qs++ps.drop (c+n)) (us.take c++vs++us.drop (c+n)) (L1++Lq++L3):=by
 obtain⟨L1,L23,rfl,h1,h2⟩:=h.cut c;obtain⟨L2,L3,rfl,_,h3⟩:=h2.cut n;rw[dB,dB] at h3;refine⟨L1,L2,L3,by simp,fun hA hs hb hq=>?_⟩;exact((h1.mono hs hA fun b h=>hb b (by simp[h])).append hq).append (h3.mono hs hA fun b h=>hb b (by simp[h]))
end
def zBp(c:Array Value)(o:Nat)(vs:List Value):Array Value:=(c.toList.take o++vs++c.toList.drop (o+vs.length)).toArray
theorem zG8{c:Array Value}{o:Nat}{vs:List Value}(h:o+vs.length<=c.size):(zBp c o vs).size=c.size:=by
 simp[zBp];omega
theorem zDf{α:Type}{l:List α}{o:Nat}{vs:List α}(h:o+vs.length<=l.length)(k:Nat) :
  (l.take o++vs++l.drop (o+vs.length))[k]? = if k<o then l[k]? else if k<o+vs.length then vs[k-o]? else l[k]?:=by
 have ho:(l.take o).length=o:=by simp;omega
 have hov:(l.take o++vs).length=o+vs.length:=by simp;omega
 by_cases h1:k<o
 ·rw[if_pos h1,cn (by omega),cn (by omega),ck,if_pos h1]
 ·rw[if_neg h1];by_cases h2:k<o+vs.length
  ·rw[if_pos h2,cn (by omega),cQ (by omega),ho]
  ·rw[if_neg h2,cQ (by omega),hov,cf,show o+vs.length+(k-(o+vs.length))=k by omega]
theorem zH4{c:Array Value}{o off m:Nat}{vs:List Value}(h1:off<=o)(h2:o+vs.length<=off+m)(h3:off+m<=c.size) :
  seg (zBp c o vs) off m=(seg c off m).take (o-off)++vs++(seg c off m).drop (o-off+vs.length):=by
 have yy:(seg c off m).length=m:=by simp[seg];omega
 apply dk;intro k;rw[zDf (by rw[yy];omega)];simp only[seg,zBp,ck,cf];rw[zDf (by simp;omega)];by_cases hk:k<m
 ·simp only[hk,if_true];by_cases h4:off+k<o
  ·have h6:k<o-off:=by omega
   simp only[h4,h6,if_true]
  ·have h6:¬ k<o-off:=by omega
   simp only[h4,h6,if_false];by_cases h5:off+k<o+vs.length
   ·have h7:k<o-off+vs.length:=by omega
    simp only[h5,h7,if_true];rw[show off+k-o=k-(o-off) by omega]
   ·have h7:¬ k<o-off+vs.length:=by omega
    simp only[h5,h7,if_false]
 ·have h6:¬ k<o-off:=by omega
  have h7:¬ k<o-off+vs.length:=by omega
  simp only[hk,h6,h7,if_false]
theorem zXy{c:Array Value}{off m:Nat}{l:List Value}(h:seg c off m=l)(hl:l.length=m)(hm:m≠0):off+m<=c.size:=by
 rw[<- h] at hl;simp[seg] at hl;omega
theorem zC8(us vs:List Value):flat (us++vs)=flat us++flat vs:=by simp[flat]
section
variable {w w':World} {Φ Φ':Nat->Prop} {A A':Al}
theorem zPo{x:PV}{u:Value}{L:LN}(h:Rep w Φ A x u L)(hn:zCu u=x.isAgg){c:Nat}{qs:List PV}{vs:List Value}(hq:∀ q∈qs,q.oneCell=true)(yj:∀ v∈vs,v.oneCell'=true)(hZ:vs.length=qs.length)(hc:c+qs.length<=x.cells.length) :
  ∃ u' L1 L2 L3,u'.cells.toList=u.cells.toList.take c++vs++u.cells.toList.drop (c+vs.length)/\zCu u'=zCu u/\L=L1++L2++L3/\(zAF x c qs).isAgg=x.isAgg/\(zAF x c qs).cells.length=x.cells.length /\
   ∀ {w':World} {Φ':Nat->Prop} {A':Al} {Lq:LN},(∀ a v,a.isWay=true->A a v->A' a v)->zDq w w' Φ Φ'->(∀ b∈L1++L3,w'.heap[b]? = w.heap[b]?)->zBa w' Φ' A' qs vs Lq ->
    Rep w' Φ' A' (zAF x c qs) u' (L1++Lq++L3):=by
 cases hx:x.isAgg with
 |true=>
  cases x<;>simp[PV.isAgg] at hx;rename_i cs;obtain⟨us,rfl,hr⟩:=h;obtain⟨L1,L2,L3,rfl,hk⟩:=hr.replace c qs.length;have jG:=hr.length;refine⟨.agg (us.toList.take c++vs++us.toList.drop (c+vs.length)).toArray,L1,L2,L3,by simp[Value.cells],rfl,rfl,rfl,?_,fun hA hs hb hq=>⟨_,rfl,?_⟩⟩
  ·simp[zAF,PV.cells] at hc ⊢;omega
  ·have:=hk hA hs hb hq;rw[hZ];simpa using this
 | false =>
  have j5:x.cells=[x]:=by cases x<;>first|rfl|simp[PV.isAgg] at hx
  have hv:u.cells=#[u]:=by rw[hx] at hn;cases u<;>first|rfl|simp[zCu] at hn
  rw[j5] at hc ⊢
  match qs,vs,hZ,hq,yj with
  |[],[],_,_,_=>
   have he:zAF x c []=x:=by cases x<;>first|rfl|simp[PV.isAgg] at hx
   refine⟨u,L,[],[],by simp,rfl,by simp,by rw[he];exact hx,by rw[he,j5],fun hA hs hb hq=>?_⟩;obtain⟨_,rfl⟩:=hq;rw[he];simpa using h.mono hs hA (fun b yJ=>hb b (by simp[yJ]))
  |[q],[v],_,hq,yj=>
   have wF:c=0:=by simp at hc;exact hc
   subst wF;have he:zAF x 0 [q]=q:=by cases x<;>first|rfl|simp[PV.isAgg] at hx
   have h1:=zBu (hq q (by simp));have h2:=zBX (yj v (by simp));refine⟨v,[],L,[],by simp[hv,h2.1],by rw[h2.2,hn,hx],by simp,by rw[he];exact h1.2,by rw[he,h1.1];rfl,fun hA hs hb hq=>?_⟩;obtain⟨v',vs',L1,L2,h3,h4,h5,h6⟩:=hq;obtain⟨h7,h8⟩:=h6;cases h3;subst h8;rw[he,h4];simpa using h5
  |_::_::_,_,_,_,_=>simp only[b9,cN] at hc;omega
theorem zE2{α:Type}{l:List α}{i:Nat}{x:α}(h:i<l.length):l.set i x=l.take i++[x]++l.drop (i+1):=by
 rw[cg,if_pos h];simp
theorem zUb{np q':PV}{nv:Value}{Li:LN}(h:Rep w Φ A np nv Li){xs:List PV}(hx:zBm np=some xs){i c:Nat}{x:PV}(hi:xs[i]? = some x){qs:List PV}{vs:List Value}
  (hq:∀ q∈qs,q.oneCell=true) (yj:∀ v∈vs,v.oneCell'=true) (hZ:vs.length=qs.length) (hI:qs.length≠0) (hc:c+qs.length<=x.cells.length) (hw:zAK np (xs.set i (zAF x c qs))=some q') :
  ∃ ad row La Lm Lb,zBe nv np i c=some ad/\ad.spot=none/\zEw w ad.block row/\ad.off+vs.length<=row.size/\Li=ad.block::(La++Lm++Lb) /\
   ∀ {w':World} {Φ':Nat->Prop} {A':Al} {Lq:LN},(∀ a v,a.isWay=true->A a v->A' a v)->zDq w w' Φ Φ'->(∀ b∈La++Lb,w'.heap[b]? = w.heap[b]?)->zEw w' ad.block (zBp row ad.off vs)->zBa w' Φ' (zG2 A' np) qs vs Lq ->
    Rep w' Φ' A' q' nv (ad.block::(La++Lq++Lb)):=by
 have yH:i<xs.length:=(bf.1 hi).1;cases np<;>simp only[zBm] at hx<;>try cases hx
 case own sz=>
  obtain⟨h1,h2,h3⟩|⟨a,n,r,us,L',rfl,h1,h2,h3,h4,h5,h6,⟨h7,u5⟩,h8,h9⟩:=h
  ·subst h1;simp at hi
  ·simp only[zAK,ba] at hw;subst hw;have husl:us.length=xs.length:=by have:=congrArg length u5;simpa using this
   obtain⟨Ka,K23,rfl,hA1,hB⟩:=h9.cut i;have qb:i<us.length:=by omega
   have hxe:xs[i]=x:=by rw[bk yH] at hi;simpa using hi
   rw[bX yH,bX qb,hxe] at hB;obtain⟨u,us2,Lx,Kb,hue,rfl,hr,hB⟩:=hB;simp only[ff] at hue;obtain⟨hu0,rfl⟩:=hue;have hu:us[i]? = some u:=by rw[bk qb,hu0]
   have hg:zCu u=x.isAgg:=by
    have h1:(us.map zCu)[i]? = some (zCu u):=by simp[hu]
    have h2:(xs.map PV.isAgg)[i]? = some x.isAgg:=by simp[hi]
    rw[u5] at h1;rw[h1] at h2;simpa using h2
   have vh:=h6 x (bG hi);have jG:=h7 u (bG hu);obtain⟨u',L1,L2,L3,k1,k2,rfl,k4,k5,k6⟩:=zPo hr hg hq yj hZ hc;have qc:i*sz+sz<=xs.length*sz:=by rw[<- cW];exact cS _ yH
   have hnsz:xs.length*sz<=n*sz:=cS _ h3;have yD:a.off+(i*sz+c)+vs.length<=r.size:=by rw[hZ];omega
   refine⟨zAx a (i*sz+c),r,Ka++L1,L2,L3++Kb,by rw[h1];rfl,rfl,h4,yD,by simp[zAx],@fun w' Φ' A' Lq hA hs hb yB gG=>?_⟩;have yf:xs.set i (zAF x c qs)=xs.take i++([zAF x c qs]++xs.drop (i+1)):=by rw[zE2 yH];simp
   have gH:us.set i u'=us.take i++([u']++us.drop (i+1)):=by rw[zE2 qb];simp
   refine .inr ⟨a,n,_,us.set i u',(Ka++(L1++Lq++L3)++Kb),by simp[zAx],by simpa using h1,h2,by simpa using h3,yB,?_,?_,⟨?_,?_⟩,?_,?_⟩
   ·show a.off+n*sz<=(zBp r (a.off+(i*sz+c)) vs).size
    rw[zG8 yD];exact h5
   ·intro y hy;rcases dm hy with hy|hy
    ·exact h6 y hy
    ·rw[hy,k5];exact vh
   ·intro y hy;rcases dm hy with hy|hy
    ·exact h7 y hy
    ·rw[hy];have:=congrArg length k1;simp at this;omega
   ·rw[zEH hi k4,zEH hu k2,u5]
   ·have uK:flat us=flat (us.take i)++(u.cells.toList++flat (us.drop (i+1))):=by
     conv=>lhs;rw[<- cm i us,bX qb,hu0]
     rw[zC8,zCD]
    have jU:(flat (us.take i)).length=i*sz:=by
     rw[zBy (fun y hy=>h7 y (cE hy)),bY,fU (by omega)]
    have qd:u.cells.toList.length=sz:=by simpa using jG
    rw[fS];show seg (zBp r (zAx a (i*sz+c)).off vs) a.off (xs.length*sz)=_
    simp only[zAx];rw[zH4 (by omega) (by rw[hZ];omega) (by omega),h8,show a.off+(i*sz+c)-a.off=i*sz+c by omega];rw[gH,zC8,zC8,uK];have e1:(flat (us.take i)++(u.cells.toList++flat (us.drop (i+1)))).take (i*sz+c)=flat (us.take i)++u.cells.toList.take c:=by
     rw[ip,jU,bz (by omega),show i*sz+c-i*sz=c by omega,cI (by omega)]
    have e2:(flat (us.take i)++(u.cells.toList++flat (us.drop (i+1)))).drop (i*sz+c+vs.length)=u.cells.toList.drop (c+vs.length)++flat (us.drop (i+1)):=by
     rw[fM,jU,fI (by omega),show i*sz+c+vs.length-i*sz=c+vs.length by omega,List.drop_append_of_le_length (by omega)];rfl
    rw[e1,e2];have e3:flat [u']=u'.cells.toList:=by simp[flat]
    rw[e3,k1];simp
   ·rw[yf,gH];have ue:=k6 (fun a v _ h=>h) (Φ':=_) hs (fun b h=>hb b (by simp at h ⊢;rcases h with h|h<;>simp[h])) gG;have:=(hA1.mono hs (fun _ _ _ h=>h) (fun b h=>hb b (by simp[h]))).append ((show zBa _ _ zCp [zAF x c qs] [u'] _ from⟨u',[],_,[],rfl,rfl,ue,rfl,rfl⟩).append (hB.mono hs (fun _ _ _ h=>h) (fun b h=>hb b (by simp[h]))));simpa using this
 case box q0=>
  obtain⟨a,r,u0,L',rfl,h1,h2,h4,h5,⟨h6,vF⟩,h7⟩:=h;have jY:i=0:=by simpa using yH
  subst jY;simp at hi;subst hi;simp only[cy,zAK,ba] at hw;subst hw;obtain⟨u',L1,L2,L3,k1,k2,rfl,k4,k5,k6⟩:=zPo h7 vF hq yj hZ hc;have jG:u0.cells.toList.length=q0.cells.length:=by simpa using h6
  have jd:a.off+q0.cells.length<=r.size:=zXy h5 jG (by omega);refine⟨zAx a c,r,L1,L2,L3,by rw[h1];rfl,rfl,h4,by simp only[zAx];omega,by simp[zAx],fun hA hs hb yB gG=>?_⟩;refine⟨a,_,u',_,rfl,h1,h2,yB,?_,⟨?_,?_⟩,k6 hA hs hb gG⟩
  ·rw[k5];simp only[zAx];rw[zH4 (by omega) (by omega) (by omega),h5,show a.off+c-a.off=c by omega,k1]
  ·rw[k5];have:=congrArg length k1;simp at this jG;omega
  ·rw[k2,k4,vF]
theorem zTg{np:PV}{nv:Value}{Li:LN}(h:Rep w Φ A np nv Li){xs:List PV}(hx:zBm np=some xs){i:Nat}{x:PV}(hi:xs[i]? = some x) :
  ∃ M ux Lx ad,Li=ad.block::M/\(∀ c,zBe nv np i c=some (zAx ad c))/\Rep w Φ (zG2 A np) x ux Lx/\(∀ b∈Lx,b∈M)/\zCu ux=x.isAgg/\∀ k u,ux.cells.toList[k]? = some u->kid w nv np i k=some u:=by
 cases np<;>simp only[zBm] at hx<;>try cases hx
 case own sz=>
  obtain⟨h1,h2,h3⟩|⟨a,n,r,us,L',rfl,h1,h2,h3,h4,h5,h6,⟨h7,u5⟩,h8,h9⟩:=h
  ·subst h1;simp at hi
  ·obtain⟨ux,La,Lx,Lb,hu,rfl,hr,_,_⟩:=h9.split hi;have hg:zCu ux=x.isAgg:=by
    have h1:(us.map zCu)[i]? = some (zCu ux):=by simp[hu]
    have h2:(xs.map PV.isAgg)[i]? = some x.isAgg:=by simp[hi]
    rw[u5] at h1;rw[h1] at h2;simpa using h2
   subst h1;refine⟨_,ux,Lx,zAx a (i*sz),rfl,fun c=>by simp[zBe,zAx,b7],hr,fun b hb=>by simp[hb],hg,fun k u hk=>?_⟩;have hf:=zDT h7 hu hk;rw[<- h8] at hf;have:=zCY hf;simp only[kid,zAx];rw[zCy h4.any];exact this
 case box q0=>
  obtain⟨a,r,u0,L',rfl,h1,h2,h4,h5,⟨h6,vF⟩,h7⟩:=h;have jY:i=0:=by
   cases i with
   |zero=>rfl|succ i=>simp at hi
  subst jY;simp at hi;subst hi;subst h1;refine⟨L',u0,L',a,rfl,fun c=>rfl,h7,fun b hb=>hb,vF,fun k u hk=>?_⟩;have:=zCY (c:=r) (o:=a.off) (n:=q0.cells.length) (k:=k) (u:=u) (by rw[h5];exact hk);simp only[kid,zAx];rw[zCy h4.any];exact this
end
mutual
theorem zE1{f g:PV->PV}:∀ p:PV,(p.mapW f).mapW g=p.mapW fun a=>(f a).mapW g
 |.agg cs=>by rw[PV.mapW,PV.mapW,PV.mapW,zE4]|.tup cs=>by rw[PV.mapW,PV.mapW,PV.mapW,zE4]|.func h a b=>by rw[PV.mapW,PV.mapW,PV.mapW,zE4,zE4]|.ref q=>by rw[PV.mapW,PV.mapW,PV.mapW,zE1]|.box q=>by rw[PV.mapW,PV.mapW,PV.mapW,zE1]|.lock q=>by rw[PV.mapW,PV.mapW,PV.mapW,zE1]|.addr .. => rfl|.bor .. => rfl|.bsl .. => rfl|.bmap .. => rfl|.yld .. => rfl|.log .. => rfl|.bad=>rfl|.und=>rfl|.int .. => rfl|.bool .. => rfl|.nilp=>rfl|.nilf=>rfl|.nilm=>rfl|.nn=>rfl|.nils _=>rfl|.sl _=>rfl|.own .. => rfl|.map _=>rfl|.omap _=>rfl
theorem zE4{f g:PV->PV}:∀ ps:List PV,zCB g (zCB f ps)=zCB (fun a=>(f a).mapW g) ps
 |[]=>rfl|p::ps=>by rw[zCB,zCB,zCB,zE1,zE4]
end
mutual
theorem zDG{f g:PV->PV}(h:∀ a,a.isWay=true->f a=g a):∀ p:PV,p.mapW f=p.mapW g
 |.agg cs=>by rw[PV.mapW,PV.mapW,zEl h]|.tup cs=>by rw[PV.mapW,PV.mapW,zEl h]|.func k a b=>by rw[PV.mapW,PV.mapW,zEl h,zEl h b]|.ref q=>by rw[PV.mapW,PV.mapW,zDG h]|.box q=>by rw[PV.mapW,PV.mapW,zDG h]|.lock q=>by rw[PV.mapW,PV.mapW,zDG h]|.addr .. => h _ rfl|.bor .. => h _ rfl|.bsl .. => h _ rfl|.bmap .. => h _ rfl|.yld .. => rfl|.log .. => h _ rfl|.bad=>rfl|.und=>rfl|.int .. => rfl|.bool .. => rfl|.nilp=>rfl|.nilf=>rfl|.nilm=>rfl|.nn=>rfl|.nils _=>rfl|.sl _=>rfl|.own .. => rfl|.map _=>rfl|.omap _=>rfl
theorem zEl{f g:PV->PV}(h:∀ a,a.isWay=true->f a=g a):∀ ps:List PV,zCB f ps=zCB g ps
 |[]=>rfl|p::ps=>by rw[zCB,zCB,zDG h,zEl h]
end
def zDU(r:Nat)(pre:zA4)(i:Nat):Nat->List PV->PV->PV
 |_,[],a=>a|c,q::qs,a=>bif q.heavy then(if (lose r (pre++[(i,c)]) a).isWay=true then zDU r pre i (c+1) qs a else lose r (pre++[(i,c)]) a) else zDU r pre i (c+1) qs a
theorem zLX(r:Nat)(pre:zA4)(i:Nat):∀ (qs:List PV) (c:Nat) (p:PV),zDU r pre i c qs p=p\/(p.isWay=true/\zDU r pre i c qs p = .bad)
 |[],c,p=>.inl rfl
 | q :: qs,c,p=>by
  simp only[zDU]
  cases hq:q.heavy with
  |false=>exact zLX r pre i qs (c+1) p|true=>
   simp only[cond_true];split
   ·exact zLX r pre i qs (c+1) p
   ·exact zG6 r (pre++[(i,c)]) p
theorem zGT{o:zAM}{r:Nat}{pre:zA4}{i:Nat}{k:PM}{e':Env}:∀ (qs:List PV) (c:Nat) {e:Env},(zD4 r pre i c qs k).run o e=some e' ->
  ∃ e1,k.run o e1=some e'/\∀ s,e1.get s=(e.get s).mapW (zDU r pre i c qs)
 |[],c,e,h=>⟨e,h,fun s=>by rw[show zDU r pre i c []=fun x=>x from rfl,zBq]⟩
 | q :: qs,c,e,h=>by
  simp only[zD4] at h
  cases hq:q.heavy with
  |false=>
   rw[hq] at h;obtain⟨e1,h1,h2⟩:=zGT qs (c+1) h;refine⟨e1,h1,fun s=>?_⟩;rw[h2 s];exact zDG (fun a _=>by simp[zDU,hq]) _
  |true=>
   rw[hq] at h;simp only[cond_true,PM.run] at h;obtain⟨e1,h1,h2⟩:=zGT qs (c+1) h;refine⟨e1,h1,fun s=>?_⟩;rw[h2 s,Env.get_kill,zE1];refine zDG (fun a ha=>?_) _;simp only[zDU,hq,cond_true];rcases zG6 r (pre++[(i,c)]) a with h3|⟨_,h3⟩
   ·rw[h3,if_pos ha,zGy ha]
   ·rw[h3];rfl
theorem zJ1{r:Nat}{pre:zA4}{i:Nat}:∀ (qs:List PV) (c j:Nat) {q:PV},qs[j]? = some q->q.heavy=true->∀ a,a.isWay=true->∀ rest,zBf a=(r,pre++(i,c+j)::rest)->(∀ h,a ≠ .yld h)->(∀ xs k,a ≠ .log xs k)->zDU r pre i c qs a≠a
 |[],_,_,_,h,_,_,_,_,_,_,_=>by simp at h
 | q0::qs,c,0,q,h,hh,a,ha,rest,hr,hy,hl=>by
  simp at h;subst h;simp only[zDU,hh,cond_true];have hlose:lose r (pre++[(i,c)]) a = .bad:=by
   have hp:(pre++[(i,c)]).isPrefixOf (pre++(i,c)::rest)=true:=by
    rw[fx];exact⟨rest,by simp⟩
   cases a<;>first|(cases ha;done)|(exact absurd rfl (hy _))|(exact absurd rfl (hl _ _))|skip
   all_goals
    simp only[zBf,bL,bw] at hr;obtain⟨rfl,rfl⟩:=hr;simp[lose,hp]
  rw[hlose];simp only[PV.isWay,bp,if_false];intro he;rw[<- he] at ha;cases ha
 | q0::qs,c,j+1,q,h,hh,a,ha,rest,hr,hy,hl=>by
  have ih:=zJ1 (r:=r) (pre:=pre) (i:=i) qs (c+1) j (by simpa using h) hh a ha rest (by rw[hr];congr 4;omega) hy hl;simp only[zDU]
  cases hq:q0.heavy with
  |false=>exact ih|true=>
   simp only[cond_true];rcases zG6 r (pre++[(i,c)]) a with h3|⟨_,h3⟩
   ·rw[h3,if_pos ha];exact ih
   ·rw[h3];simp only[PV.isWay,bp,if_false];intro he;rw[<- he] at ha;cases ha
theorem zJB{r:Nat}{pre:zA4}{i:Nat}:∀ (qs:List PV) (c:Nat) {a:PV},(∀ x∈a.ways,zAT r pre x.1 x.2=false\/x.2.length<=pre.length)->zDU r pre i c qs a=a
 |[],_,_,_=>rfl
 | q :: qs,c,a,h=>by
  have ih:=zJB (r:=r) (pre:=pre) (i:=i) qs (c+1) h;have hl : lose r (pre++[(i,c)]) a=a:=by
   have key:∀ r' p,(zAT r pre r' p=false\/p.length<=pre.length)->(beq r' r&&(pre++[(i,c)]).isPrefixOf p)=false:=by
    intro r' p hp
    cases hb:(beq r' r&&(pre++[(i,c)]).isPrefixOf p) with
    |false=>rfl|true=>
     simp only[bb,fx] at hb;obtain⟨h1,rest,h2⟩:=hb;rcases hp with hp|hp
     ·have:zAT r pre r' p=true:=zEp.2 ⟨bc h1,(i,c)::rest,by rw[<- h2];simp⟩;rw[this] at hp;cases hp
     ·rw[<- h2] at hp;simp at hp;omega
   cases a<;>first|rfl|skip
   all_goals
    simp only[lose];rw[key _ _ (h (_,_) (bl.2 rfl))];rfl
  simp only[zDU]
  cases hq:q.heavy with
  |false=>exact ih|true=>simp only[cond_true,hl];split<;>first|exact ih|rfl
theorem zMC{f:PV->Option PV}:∀ {pre:zA4} {p p':PV},zAz f p pre=some p'->∃ q q',zAC p pre=some q/\f q=some q'/\zAz (fun _=>some q') p pre=some p'
 |[],p,p',h=>⟨p,p',rfl,h,rfl⟩
 | (i, c)::rest,p,p',h=>by
  rw[zBA] at h
  cases hc:Eng.child p i c with
  |none=>rw[hc] at h;cases h
  | some q =>
   rw[hc] at h;simp only[bd] at h
   cases hm:zAz f q rest with
   |none=>rw[hm] at h;cases h|some q1=>
    rw[hm] at h;simp only[bd] at h;obtain⟨x,x',h1,h2,h3⟩:=zMC hm;exact⟨x,x',by rw[zCk,hc];exact h1,h2,by rw[zBA,hc];simp only[bd];rw[h3];exact h⟩
theorem zKP:∀ {pre:zA4} {p q:PV},zAC p pre=some q->q.unlock=q->p.unlock=p
 |[],p,q,h,hq=>by simp only[zAC,ba] at h;subst h;exact hq|(i,c)::rest,p,q,h,_=>by
  rw[zCk] at h;cases p<;>first|rfl|(simp[Eng.child,zA9] at h;done)
theorem zJS{r:Nat}{pre:zA4}{i:Nat}{p:PV}(hh:p.heavy=false->∀ q∈p.cells,q.heavy=false)(h:p.heavy=false){c:Nat}(a:PV):zDU r pre i c p.cells a=a:=by
 have key:∀ (qs:List PV) (c:Nat),(∀ q∈qs,q.heavy=false)->zDU r pre i c qs a=a:=by
  intro qs
  induction qs with
  |nil=>intro c _;rfl|cons q qs ih=>intro c h;simp only[zDU,h q (by simp),cond_false];exact ih (c+1) fun x hx=>h x (by simp[hx])
 exact key _ _ (hh h)
theorem zQC{p:PV}{x:Nat×zA4}(h:x∈zBE p.cells):x∈p.ways:=by
 cases p<;>simp only[PV.cells,zBE,dn] at h<;>exact h
theorem zLS(p:PV)(i c:Nat)(rest:zA4):zDR p ((i,c)::rest)=match p with
  |.own .. => true|p=>match Eng.child p i c with|some q=>zDR q rest|none=>false:=by
 cases p<;>simp only[zDR,Eng.child,zA9,dM,bd]
 ·cases i with
  |zero=>simp only[bJ,bd];split<;>simp_all
  |succ i=>simp
 ·cases i with
  |zero=>simp only[bJ,bd];split<;>simp_all
  |succ i=>simp
theorem zMN:∀ {pre:zA4} {p q:PV} {A:Al},zDR p pre=false->zAC p pre=some q->∀ a v,A a v->zG2 (zI0 A p pre) q a v
 |[],p,q,A,hc,hq,a,v,h=>by
  simp only[zAC,ba] at hq;subst hq;simp only[zI0];cases p<;>first|exact h|(simp[zDR] at hc;done)
 | (i,c)::rest,p,q,A,hc,hq,a,v,h=>by
  rw[zCk] at hq;rw[zLS] at hc
  cases y7:Eng.child p i c with
  |none=>rw[y7] at hq;cases hq|some q1=>
   rw[y7] at hq;simp only[bd] at hq;simp only[zI0,y7];cases p<;>simp only[y7] at hc<;>first|(cases hc;done)|exact zMN hc hq a v h
section
variable {P:Program} {w0 w:World} {U Φ0 Φ:Nat->Prop} {nt:Nat} {hv:Hid} {a:Act} {e e':Env} {rv:Nat->Value} {E:Nat->PV} {L:Nat->LN} {o:zAM}
theorem zKX{p:PV}(h:p.heavy=false):∀ q∈p.cells,q.heavy=false:=by
 intro q hq;cases p<;>simp only[PV.cells,bl] at hq<;>try (subst hq;exact h)
 obtain⟨i,hi⟩:=cj hq;exact zEA h hi
theorem zGQ{x:PV}{c:Nat}{qs:List PV}(hq:∀ q∈qs,q.oneCell=true)(hI:qs.length≠0)(yR:c+qs.length<=x.cells.length):(zAF x c qs).cells=x.cells.take c++qs++x.cells.drop (c+qs.length):=by
 cases hx:x.isAgg with
 |true=>cases x<;>simp[PV.isAgg] at hx;rfl
 | false =>
  have j5:x.cells=[x]:=by cases x<;>first|rfl|simp[PV.isAgg] at hx
  rw[j5] at yR ⊢
  match qs,hq,hI with
  |[],_,hI=>exact absurd rfl hI|[q],hq,_=>
   have wF:c=0:=by simp at yR;exact yR
   subst wF;have he:zAF x 0 [q]=q:=by cases x<;>first|rfl|simp[PV.isAgg] at hx
   rw[he,(zBu (hq q (by simp))).1];simp
  |_::_::_,_,_=>simp only[b9,cN] at yR;omega
theorem zKp{b o k:Nat}{row:Array Value}{vs:List Value}(yB:zEw w b row)(yD:o+vs.length<=row.size)(hk:k<o\/o+vs.length<=k):(w.setRow b (zBp row o vs)).cell? ⟨b,k,none⟩=w.cell? ⟨b,k,none⟩:=by
 obtain⟨el,yp⟩:=yB;have jM:zKe (w.setRow b (zBp row o vs)) b (zBp row o vs):=⟨el,_,setRow_heap w _ _ _ el _ yp⟩;rw[zCy jM,zCy ⟨el,_,yp⟩];have:(zBp row o vs)[k]? = (row.toList.take o++vs++row.toList.drop (o+vs.length))[k]?:=by simp[zBp]
 rw[this,zDf (by simpa using yD)];rcases hk with hk|hk
 ·rw[if_pos hk];simp
 ·rw[if_neg (by omega),if_neg (by omega)];simp
theorem zMv {A:Al} {np q':PV} {nv:Value} {Li:LN} (h:Rep w Φ A np nv Li) (yV:Li.Nodup) {xs:List PV} (hx:zBm np=some xs) {i c:Nat} {x:PV} (hi:xs[i]? = some x) {qs:List PV} {vs:List Value}
  (hq:∀ q∈qs,q.oneCell=true) (hZ:vs.length=qs.length) (hI:qs.length≠0) (hc:c+qs.length<=x.cells.length) (hw:zAK np (xs.set i (zAF x c qs))=some q') {ad:Addr} {row:Array Value}
  (jO:zBe nv np i c=some ad) (yB:zEw w ad.block row) (yD:ad.off+vs.length<=row.size) :
  ∀ (rest:zA4) (nv2:Value) (np2:PV),zA3 (w.setRow ad.block (zBp row ad.off vs)) nv q' rest=some (nv2,np2)->np2.heavy0=true ->
   (∃ j q rest',qs[j]? = some q/\q.heavy=true/\rest=(i,c+j)::rest')\/∃ np0,zA3 w nv np rest=some (nv2,np0)/\zCv np0 np2:=by
 intro rest nv2 np2 hf hh;have kH:zCv np q'/\zA9 q'=some (xs.set i (zAF x c qs)):=by
  cases np<;>simp only[zBm] at hx<;>try cases hx
  ·simp only[zAK,ba] at hw;subst hw;exact⟨rfl,rfl⟩
  ·have jY:i=0:=by have:=(bf.1 hi).1;simpa using this
   subst jY;simp only[cy,zAK,ba] at hw ⊢;subst hw;exact⟨trivial,rfl⟩
 cases rest with
 |nil=>
  simp only[zA3,ba,bw] at hf;obtain⟨rfl,rfl⟩:=hf;exact .inr ⟨np,rfl,kH.1⟩
 | cons y rest =>
  obtain⟨i2,c2⟩:=y;rw[zBc] at hf
  cases y7:Eng.child q' i2 c2 with
  |none=>rw[y7] at hf;cases hf
  | some q2 =>
   rw[y7] at hf;simp only[bd] at hf
   cases hk:kid (w.setRow ad.block (zBp row ad.off vs)) nv q' i2 c2 with
   |none=>rw[hk] at hf;cases hf
   | some u2 =>
    rw[hk] at hf;simp only[bd] at hf;have yH:i<xs.length:=(bf.1 hi).1;simp only[Eng.child,kH.2,bd] at y7;by_cases hin:i2=i/\c<=c2/\c2<c+qs.length
    ·obtain⟨rfl,h1,h2⟩:=hin;rw[ci yH] at y7;simp only[bd] at y7;rw[zGQ hq hI hc,zDf hc,if_neg (by omega),if_pos h2] at y7
     cases gI:q2.heavy with
     |true=>exact .inl ⟨c2-c,q2,rest,y7,gI,by rw[show c+(c2-c)=c2 by omega]⟩|false=>
      have:=zEB gI hf;rw[zFY hh] at this;cases this
    ·
     have hold:∃ x2,xs[i2]? = some x2/\x2.cells[c2]? = some q2:=by
      by_cases uB:i2=i
      ·subst uB;rw[ci yH] at y7;simp only[bd] at y7;rw[zGQ hq hI hc,zDf hc] at y7;refine⟨x,hi,?_⟩;by_cases h1:c2<c
       ·rw[if_pos h1] at y7;exact y7
       ·rw[if_neg h1,if_neg (fun h2=>hin ⟨rfl,by omega,h2⟩)] at y7;exact y7
      ·rw[dd (dA uB)] at y7
       cases j6:xs[i2]? with
       |none=>rw[j6] at y7;cases y7|some x2=>rw[j6] at y7;exact⟨x2,rfl,y7⟩
     obtain⟨x2,j6,jk⟩:=hold;obtain⟨M,ux,Lx,ad2,g1,g2,g3,g4,g5,g6⟩:=zTg h hx j6;obtain⟨u,La,Lu,Lb,hu,hLx,uI,_,_⟩:=g3.cell jk g5;have jj:=g6 c2 u hu;have hblk:ad2.block=ad.block:=by
      have:=g2;cases np<;>simp only[zBm] at hx<;>try cases hx
      ·cases nv<;>try (simp[zBe] at jO;done)
       rename_i sa _ _
       cases sa with
       |none=>cases jO|some sa=>
        simp only[zBe,ba] at jO;have:=this 0;simp only[zBe,ba] at this;rw[<- jO];exact(congrArg Addr.block this).symm
      ·cases nv<;>try (cases i<;>simp[zBe] at jO;done)
       rename_i sa
       cases sa with
       |none=>cases i<;>cases jO
       |some sa=>
        have jY:i=0:=by have:=(bf.1 hi).1;simpa using this
        have gu:i2=0:=by have:=(bf.1 j6).1;simpa using this
        subst jY;subst gu;simp only[zBe,ba] at jO;have:=this 0;simp only[zBe,ba] at this;rw[<- jO];exact(congrArg Addr.block this).symm
     have yk:kid (w.setRow ad.block (zBp row ad.off vs)) nv q' i2 c2=kid w nv np i2 c2:=by
      have hc2l:c2<x2.cells.length:=(bf.1 jk).1;cases np<;>simp only[zBm] at hx<;>try cases hx
      case own sz=>
       simp only[zAK,ba] at hw;subst hw;cases nv<;>try (simp[zBe] at jO;done)
       rename_i sa _ _
       cases sa with
       |none=>cases jO
       | some sa =>
        simp only[zBe,ba] at jO;subst jO;simp only[kid];refine zKp yB yD ?_;obtain⟨gv,_⟩|⟨_,_,_,_,_,_,_,_,_,_,_,yG,_⟩:=h
        ·subst gv;simp at hi
        ·have e1:=yG x (bG hi);have e2:=yG x2 (bG j6);simp only[zAx];rw[hZ];by_cases uB:i2=i
         ·subst uB;have:¬ (c<=c2/\c2<c+qs.length):=fun h=>hin ⟨rfl,h⟩;omega
         ·rcases Nat.lt_or_gt_of_ne uB with yL|hgt
          ·have:=cS x.cells.length (Nat.succ_le_of_lt yL);rw[cW,e1] at this;left;omega
          ·have:=cS x.cells.length (Nat.succ_le_of_lt hgt);rw[cW,e1] at this;right;omega
      case box q0=>
       have jY:i=0:=by have:=(bf.1 hi).1;simpa using this
       have gu:i2=0:=by have:=(bf.1 j6).1;simpa using this
       subst jY;subst gu;simp only[cy,zAK,ba] at hw;subst hw;cases nv<;>try (simp[zBe] at jO;done)
       rename_i sa
       cases sa with
       |none=>cases jO|some sa=>
        simp only[zBe,ba] at jO;subst jO;simp only[kid];refine zKp yB yD ?_;simp only[zAx];rw[hZ];have:¬ (c<=c2/\c2<c+qs.length):=fun h=>hin ⟨rfl,h⟩;omega
     rw[yk,jj] at hk;cases hk;have vO:=zFf (w':=w.setRow ad.block (zBp row ad.off vs)) (pre:=rest) uI fun t ht=>setRow_other w _ t _ fun hc=>by
      rw[g1,hblk] at yV;exact(cv.1 yV).1 (g4 _ (by rw[hLx,<- hc];simp[ht]))
     rw[vO] at hf;refine .inr ⟨np2,?_,zCv.refl hh⟩;rw[zBc];have:Eng.child np i2 c2=some q2:=by simp only[Eng.child,zHK hx,bd,j6,jk]
     rw[this];simp only[bd];rw[jj];exact hf
theorem St.write (S:St w0 U Φ0 nt hv a w e Φ rv E L) {g r:Nat} {pre:zA4} {i c:Nat} {sh:ON} (hg:zAa<=g) {va:Value} (ha:Rep w Φ (zBb w rv E) (.addr r pre i c sh) va [])
  (jK:(E g).heavy=false\/∀ x∈(E g).ways,zAT r pre x.1 x.2=false\/x.2.length<=pre.length) (yN:∀ q∈(E g).cells,q.oneCell=true) (hI:(E g).cells.length≠0)
  (hva:zCu (rv g)=(E g).isAgg) {k:PM} (h:(zD4 r pre i c (E g).cells (.wcells r pre i c (E g).cells k)).run o e=some e') :
  ∃ b row e1 E1 L1,va = .pointer (some b)/\b.spot=none/\zEw w b.block row/\b.off+(rv g).cells.size<=row.size/\(∀ v∈(rv g).cells.toList,v.oneCell'=true)/\k.run o e1=some e' /\
   St w0 U Φ0 nt hv a (w.setRow b.block (zBp row b.off (rv g).cells.toList)) e1 Φ rv E1 L1/\E1 g = .bad/\(∀ s,zAa<=s->s≠g->E s = .bad->E1 s = .bad)/\(∀ s,zAa<=s->s≠g->E1 s=(E s).mapW (zDU r pre i c (E g).cells))/\b.block∈L r:=by
 obtain⟨e1,h1,yY⟩:=zGT _ _ h;have hf:=zLX r pre i (E g).cells c;have uL:=ha.2;obtain⟨hr,b,rfl,y9,hn⟩:=ha.2;simp only[PM.run] at h1
 cases qe:zBO (e1.get r) pre i c (E g).cells with
 |none=>rw[qe] at h1;cases h1
 | some root =>
  rw[qe] at h1;simp only at h1;have wT:e1.get r=(E r).mapW (zDU r pre i c (E g).cells):=by rw[yY r,S.env r hr]
  rw[wT] at qe;simp only[zBO] at qe
  cases yO:(zDR ((E r).mapW (zDU r pre i c (E g).cells)) pre && !(zBE (E g).cells).isEmpty) with
  |true=>rw[yO] at qe;cases qe
  | false =>
   rw[yO] at qe;simp only[cond_false] at qe;obtain⟨np,q',hnp,kP,yq⟩:=zMC qe
   cases hx:zBm np with
   |none=>rw[hx] at kP;cases kP
   | some xs =>
    rw[hx] at kP;simp only at kP
    cases hi:xs[i]? with
    |none=>rw[hi] at kP;cases kP
    | some x =>
     rw[hi] at kP;simp only at kP
     cases yR:ble (c+(E g).cells.length) x.cells.length with
     |false=>rw[yR] at kP;cases kP
     | true =>
      rw[yR] at kP;simp only[cond_true] at kP;have yR:=br yR;have j1:((E r).mapW (zDU r pre i c (E g).cells)).unlock=(E r).mapW (zDU r pre i c (E g).cells):=zKP hnp (by cases np<;>first|rfl|cases hx);obtain⟨nv,Li,ug,hX,gw,vQ,wU⟩:=S.conf.mod hr hf j1 hnp;have j2:=(S.conf.rep g).cellsAll hva;have kI:(rv g).cells.toList.length=(E g).cells.length:=j2.length;have gJ:∀ v∈(rv g).cells.toList,v.oneCell'=true:=by
       intro v hv;obtain⟨j,hj⟩:=cj hv;have y5:j<(E g).cells.length:=by rw[<- kI];exact(bf.1 hj).1
       obtain⟨v',La,Li',Lb,yI,_,jd,_⟩:=j2.split (i:=j) (bk y5);rw[hj] at yI;cases yI;exact zCq (fun a v hw h=>zDo hw h) jd (yN _ (cC y5))
      have gx:=zKX (p:=E g);have qf:q'.isAgg=false/\q'.unlock=q'/\q'.isTup=false/\np.isAgg=false/\zCv np q':=by
       cases np<;>simp only[zBm] at hx<;>try cases hx
       ·simp only[zAK,ba] at kP;subst kP;exact⟨rfl,rfl,rfl,rfl,rfl⟩
       ·simp only[zAK] at kP;split at kP<;>first|(cases kP;done)|skip
        ·simp_all
        ·cases kP;exact⟨rfl,rfl,rfl,rfl,trivial⟩
        ·simp_all
      obtain⟨ad,row,La,Lm,Lb,k1,k2,k3,k4,uJ,kJ⟩:=zUb hX hx hi yN gJ kI hI yR kP;have hfo':∃ np0,zA3 w (rv r) (E r).unlock pre=some (nv,np0)/\zCv np0 np:=by
       rw[<- j1,zDN (zDM hf)] at ug;exact zDc (zDM hf) ug (by cases np<;>first|rfl|cases hx)
      obtain⟨np0,hfo0,kH⟩:=hfo';have vj:=hn nv np0 hfo0 ad (by rw[zEC kH];exact k1);subst vj;have jT:b.block∈L r:=vQ _ (by rw[uJ];simp);have gy:r≠g:=by omega
      have yv:∀ t,t≠b.block->(w.setRow b.block (zBp row b.off (rv g).cells.toList)).heap[t]? = w.heap[t]?:=fun t ht=>setRow_other w _ t _ ht;have jM:zEw (w.setRow b.block (zBp row b.off (rv g).cells.toList)) b.block (zBp row b.off (rv g).cells.toList):=by
       obtain⟨el,yp⟩:=k3;exact⟨el,setRow_heap w _ _ _ el _ yp⟩
      have hnotL:∀ t,t≠r->b.block∉L t:=fun t ht hm=>S.conf.disj t r ht _ hm jT;have hΦ:zDq w (w.setRow b.block (zBp row b.off (rv g).cells.toList)) Φ Φ:=fun t ht=>⟨ht,yv t fun hc=>(S.conf.own r _ jT).2.1 (hc▸ht)⟩;have wV:=gw;rw[uJ] at wV;have gz:∀ t∈La++Lb,t≠b.block:=by
       intro t ht hc;subst hc;refine(cv.1 wV).1 ?_;simp at ht ⊢;rcases ht with h|h<;>simp[h]
      have hstay:∀ a v,a.isWay=true->(∀ x∈a.ways,x∈(E g).ways)->zBb w rv E a v->Eng.stays (zDU r pre i c (E g).cells) (zBb w rv E) a v:=by
       intro a v hw hx ha;refine⟨ha,?_⟩;rcases jK with jK|jK
       ·exact zJS gx jK a
       ·exact zJB _ _ fun x gr=>jK x (hx x gr)
      have hcont:∀ A:Al,(∀ a u,a.isWay=true->Eng.stays (zDU r pre i c (E g).cells) (zBb w rv E) a u->A a u) ->
        zBa (w.setRow b.block (zBp row b.off (rv g).cells.toList)) Φ (zG2 (zI0 A ((E r).mapW (zDU r pre i c (E g).cells)) pre) np) (E g).cells (rv g).cells.toList (L g):=by
       intro A hA
       have h1:zBa (w.setRow b.block (zBp row b.off (rv g).cells.toList)) Φ (zBb w rv E) (E g).cells (rv g).cells.toList (L g) :=
        j2.mono hΦ (fun _ _ _ h=>h) fun t ht=>yv t fun hc=>hnotL g (dA gy) (hc▸ht)
       refine h1.ways _ _ _ fun a v hw hx ha=>?_;simp only[fP] at yO;rcases yO with yO|yO
       ·exact zMN yO hnp a v (hA a v hw (hstay a v hw (fun y hy=>zQC (hx y hy)) ha))
       ·have h0:zBE (E g).cells=[]:=by simpa using yO
        rw[h0] at hx;have h1:=zJ2 hw ha
        cases vK:a.ways with
        |nil=>exact absurd vK h1|cons z zs=>have:=hx z (by rw[vK];simp);cases this
      obtain⟨kk1,kk2⟩:=zB0 qf.2.1 qf.2.2.1 yq
      obtain⟨L1,hL1,hconf⟩:=wU (fun s=>s==g) (w.setRow b.block (zBp row b.off (rv g).cells.toList)) q' root (b.block::(La++L g++Lb)) (fun s hs=>by have:=eq_of_beq hs;omega)
       (fun _=>by rw[qf.1,qf.2.2.2.1]) yq kk1
       (fun A hA=>kJ (zNi hA) hΦ (fun t ht=>yv t (gz t ht)) jM (hcont A hA))
       (by
        have vI:∀ t∈L g,t∉L r:=fun t ht=>S.conf.disj g r (dA gy) t ht;have hin:∀ t,t=b.block\/t∈La++Lb->t∈L r:=by
         intro t ht;rcases ht with rfl|ht
         ·exact jT
         ·exact vQ t (by rw[uJ];simp at ht ⊢;rcases ht with h|h<;>simp[h])
        have vM:=(cv.1 wV).2;simp only[bI] at vM;refine cv.2 ⟨fun hm=>?_,?_⟩
        ·simp only[bg] at hm;rcases hm with(hm|hm)|hm
         ·exact gz _ (by simp[hm]) rfl
         ·exact vI _ hm jT
         ·exact gz _ (by simp[hm]) rfl
        ·simp only[bI];refine⟨⟨vM.1.1,S.conf.nodup g,fun x hx y hy e=>vI y hy (e▸hin x (.inr (by simp[hx])))⟩,vM.2.1,fun x hx y hy e=>?_⟩;simp only[bg] at hx;rcases hx with hx|hx
         ·exact vM.2.2 x (by simp[hx]) y hy e
         ·exact vI x hx (e▸hin y (.inr (by simp[hy]))))
       (fun t ht=>by
        simp only[bv,bg] at ht;rcases ht with rfl|(ht|ht)|ht
        ·exact .inl (by rw[uJ];simp)
        ·exact .inl (by rw[uJ];simp[ht])
        ·exact .inr (.inl ⟨g,ht,by simp⟩)
        ·exact .inl (by rw[uJ];simp[ht]))
       (by rw[setRow_size];exact bi _)
       (fun t _ ht _=>yv t fun hc=>ht (by rw[uJ,hc];simp))
       (fun rest nv2 np2 kE gI=>by
        rcases zMv hX gw hx hi yN kI hI yR kP k1 k3 k4 rest nv2 np2 kE gI with⟨j,q,rest',h1,h2,h3⟩|h3
        ·refine .inl fun a ha vR=>?_;subst h3;refine zJ1 _ _ _ h1 h2 a ha rest' vR (fun y hy=>?_) (fun ys k hy=>?_)
         ·subst hy;simp only[zBf,bw] at vR;have:=vR.2;simp at this
         ·subst hy;simp only[zBf,bw] at vR;have:=vR.2;simp at this
        ·exact .inr h3)
       ⟨rfl,rfl,rfl⟩
      refine⟨b,row,e1.set r root,_,L1,rfl,y9,k3,by rw[show(rv g).cells.size=(rv g).cells.toList.length by simp];exact k4,gJ,h1,S.turn hconf (fun s hs=>?_) (fun _ _=>rfl) (fun d ps hd hp=>?_),?_,?_⟩
      ·rw[Env.get_set];by_cases yW:s=r
       ·subst yW;simp
       ·have:(s==g)=false:=by simp;omega
        simp only[yW,if_false,this,bp];rw[yY s,S.env s hs]
      ·by_cases js:d=r
       ·simp only[js,if_true] at hp;rw[hp] at kk2;cases kk2
       ·have:(d==g)=false:=by simp only[zAa] at hg;simp;omega
        simp only[js,if_false,this,bp] at hp;refine zEg (fun p hp=>?_) hp;rcases hf p with h|⟨_,h⟩
        ·rw[h];cases p<;>first|rfl|cases hp
        ·rw[h];rfl
      ·simp[dA gy]
      ·refine⟨fun s hs yn hb=>?_,fun s hs yn=>?_,jT⟩
       ·have:s≠r:=by omega
        simp[this,yn,hb,PV.mapW]
       ·have:s≠r:=by omega
        simp[this,yn]
end
end Go.Eng
namespace Go.Eng
open Go
section
variable {P:Program} {w0 w:World} {U Φ0 Φ:Nat->Prop} {nt:Nat} {hv:Hid} {a:Act} {e e':Env} {rv:Nat->Value} {E:Nat->PV} {L:Nat->LN} {o:zAM}
theorem zCa{r:Nat}{pre:zA4}{q:PV}{k:PM}(h:(PM.wnode r pre q k).run o e=some e'):∃ root,(e.get r).isLock=false/\zAz (fun _=>some q) (e.get r) pre=some root/\k.run o (e.set r root)=some e':=by
 simp only[PM.run] at h
 cases hl:(e.get r).isLock with
 |true=>rw[hl] at h;cases h|false=>
  rw[hl] at h;simp only[cond_false] at h
  cases hm:zAz (fun _=>some q) (e.get r) pre with
  |none=>rw[hm] at h;cases h|some root=>rw[hm] at h;exact⟨root,rfl,rfl,h⟩
theorem zOX(S:St w0 U Φ0 nt hv a w e Φ rv E L){p:PV}{v:Value}(hp:Rep w Φ (zBb w rv E) p v []){k:PV->PM}{k2:PM}(h:(zN0 p k k2).run o e=some e') :
  k2.run o e=some e'\/(k p).run o e=some e'\/∃ r pre q root,r<zAa/\(E r).unlock=E r/\zAC (E r) pre=some q/\q.oneCell=true/\p.oneCell=true/\zAz (fun _=>some .bad) (E r) pre=some root/\root.unlock=root/\root.isTup=false /\
   (k q).run o (e.set r root)=some e'/\∀ nv,zA3 w (rv r) (E r) pre=some (nv,q)->nv=v:=by
 cases p<;>simp only[zN0] at h<;>try (exact .inr (.inl h))
 case bor r pre z lo n=>
  obtain⟨q,hq,h1⟩:=zBW h;obtain⟨_,hr,⟨b,cap,yI,_⟩,hn⟩:=hp;split at h1
  ·rename_i sz xs
   cases hc:(beq lo 0&&beq n xs.length) with
   |false=>rw[hc] at h1;exact .inl h1
   | true =>
    rw[hc] at h1;simp only[cond_true] at h1;simp only[bb] at hc;have uM:=bc hc.1;have qI:=bc hc.2;subst uM;obtain⟨root,hl,hm,h2⟩:=zCa h1;have yF:=zBQ hl;rw[yF,<- S.env r hr] at hq;rw[<- S.env r hr] at yF hm;obtain⟨k1,k2'⟩:=zB0 (q' := .bad) rfl rfl hm;refine .inr (.inr ⟨r,pre,_,root,hr,yF,hq,rfl,rfl,hm,k1,k2',h2,fun nv hf=>?_⟩);obtain⟨sz2,xs2,g1,g2,g3⟩:=hn nv _ (by rw[yF];exact hf) rfl;cases g1;subst g2;obtain⟨nv',Li,yw,_,hX⟩:=zB1 (S.conf.rep r) hq;rw[hf] at yw;cases yw;obtain⟨q1,q2,q3⟩|⟨x,m,c,us,M,q0,q1,q2,_⟩:=hX
    ·subst q3;exact g3.1.symm
    ·subst q1;simp only[zBU] at g3;rw[g3.1,qI];congr 2
     ·cases x;simp_all[zAx]
  ·exact .inl h1
 case bmap r pre=>
  obtain⟨q,hq,h1⟩:=zBW h;obtain⟨_,hr,⟨b,yI⟩,hn⟩:=hp;split at h1
  ·rename_i es;obtain⟨root,hl,hm,h2⟩:=zCa h1;have yF:=zBQ hl;rw[yF,<- S.env r hr] at hq;rw[<- S.env r hr] at yF hm;obtain⟨k1,k2'⟩:=zB0 (q' := .bad) rfl rfl hm;exact .inr (.inr ⟨r,pre,_,root,hr,yF,hq,rfl,rfl,hm,k1,k2',h2,fun nv hf=>(hn nv _ (by rw[yF];exact hf) _ rfl).symm⟩)
  ·exact .inl h1
theorem St.taken(S:St w0 U Φ0 nt hv a w e Φ rv E L){g r:Nat}(hg:zAa<=g)(hr:r<zAa){pre:zA4}{q root:PV}(yF:(E r).unlock=E r)(hq:zAC (E r) pre=some q)(h1:q.oneCell=true)
  (hm:zAz (fun _=>some .bad) (E r) pre=some root) (hk:root.unlock=root) (vd:root.isTup=false) :
  ∃ nv Li,zA3 w (rv r) (E r) pre=some (nv,q)/\Rep w Φ (zBb w rv E) q nv Li/\Li.Nodup/\(∀ b∈Li,b∉L g)/\∀ (p':PV) (v':Value) (Lg:LN),Rep w Φ (zBb w rv E) p' v' Lg->Lg.Nodup->(∀ b∈Lg,b∈Li\/b∈L g) ->
   ∃ L',St w0 U Φ0 nt hv a w (e.set r root) Φ (upd rv g v') (upd (upd E r root) g p') L'/\∀ s,zAa<=s->s≠g->L' s=L s:=by
 obtain⟨nv,Li,g1,g2,g3,g4,g5⟩:=S.conf.takeNode hr hg yF hq (zBu h1).2 hm hk;refine⟨nv,Li,g1,g2,g3,fun b hb jS=>S.conf.disj r g (by omega) b (g4 b hb) jS,fun p' v' Lg q1 q2 q3=>?_⟩;obtain⟨L',hc,hL⟩:=g5 p' v' Lg q1 q2 q3;refine⟨L',S.turn hc (fun s hs=>?_) (fun s hs=>zAf (by omega)) (fun d ps hd hp=>?_),fun s hs yn=>hL s (by omega) yn⟩
 ·rw[zAf (by omega),Env.get_set];by_cases yW:s=r
  ·subst yW;rw[zAi,if_pos rfl]
  ·rw[zAf yW,if_neg yW];exact S.env s hs
 ·rw[zAf (by simp only[zAa] at hg;omega)] at hp;by_cases js:d=r
  ·subst js;rw[zAi] at hp;rw[hp] at vd;cases vd
  ·rw[zAf js] at hp;exact⟨ps,hp,rfl⟩
structure Worked (w0:World) (U Φ0:Nat->Prop) (nt:Nat) (hv:Hid) (a:Act) (w:World) (rv:Nat->Value) (E:Nat->PV) (g:Nat) (e1:Env) (rv1:Nat->Value) (E1:Nat->PV):Prop where
 st:∃ Φ1 L1,St w0 U Φ0 nt hv a w e1 Φ1 rv1 E1 L1
 val:rv1 g=rv g
 low:∀ s,s<zAa->rv1 s=rv s
 rest:∀ s,zAa<=s->s≠g->E1 s=E s/\rv1 s=rv s
 agg:(E1 g).isAgg=(E g).isAgg
 len:(E1 g).cells.length=(E g).cells.length
theorem zNa{p:PV}(h:p.isWay=true):p.heavy=false:=by cases p<;>first|rfl|cases h
theorem zPm(S:St w0 U Φ0 nt hv a w e Φ rv E L){g:Nat}(hg:zAa<=g){k:PV->PM}(h:(zM6 (E g) k).run o e=some e'):∃ e1 rv1 E1,(k (E1 g)).run o e1=some e'/\Worked w0 U Φ0 nt hv a w rv E g e1 rv1 E1:=by
 have gK:Worked w0 U Φ0 nt hv a w rv E g e rv E:=⟨⟨Φ,L,S⟩,rfl,fun _ _=>rfl,fun _ _ _=>⟨rfl,rfl⟩,rfl,rfl⟩;by_cases kK:(E g).isWay=true
 ·have hX:=S.conf.rep g;have hL:L g=[]:=zDy _ _ _ (zNa kK) hX;rw[hL] at hX;rcases zOX S hX h with h1|h1|⟨r,pre,q,root,c1,c2,c3,c4,c5,c6,c7,c8,c9,c10⟩
  ·obtain⟨e1,Φ1,E1,L1,h2,S1,_,h3,_,_,h4,h5⟩:=zH0 hg (bi _) zDp S h1;exact⟨e1,rv,E1,h2,⟨Φ1,L1,S1⟩,rfl,fun _ _=>rfl,fun s hs hI=>⟨h3 s hs hI,rfl⟩,h4,h5⟩
  ·exact⟨e,rv,E,h1,gK⟩
  ·obtain⟨nv,Li,g1,g2,g3,g4,g5⟩:=S.taken hg c1 c2 c3 c4 c6 c7 c8;have hnv:=c10 nv g1;obtain⟨L',S',wQ⟩:=g5 q nv Li g2 g3 (fun b hb=>.inl hb);have j2:r≠g:=by omega
   refine⟨_,_,_,by rw[zAi];exact c9,⟨Φ,L',S'⟩,by rw[zAi,hnv],fun s hs=>zAf (by omega),fun s hs hI=>?_,?_,?_⟩
   ·rw[zAf hI,zAf hI,zAf (by omega)];exact⟨rfl,rfl⟩
   ·rw[zAi,(zBu c4).2,(zBu c5).2]
   ·rw[zAi,(zBu c4).1,(zBu c5).1];rfl
 ·have:(k (E g)).run o e=some e':=by
   revert h;simp only[zM6,zN0];cases hE:E g<;>first|(rw[hE] at kK;exact absurd rfl kK)|exact fun h=>h
  exact⟨e,rv,E,this,gK⟩
theorem Worked.self(S:St w0 U Φ0 nt hv a w e Φ rv E L){g:Nat}:Worked w0 U Φ0 nt hv a w rv E g e rv E:=⟨⟨Φ,L,S⟩,rfl,fun _ _=>rfl,fun _ _ _=>⟨rfl,rfl⟩,rfl,rfl⟩
theorem Worked.trans{g:Nat}{e1 e2:Env}{rv1 rv2:Nat->Value}{E1 E2:Nat->PV}(h1:Worked w0 U Φ0 nt hv a w rv E g e1 rv1 E1)(h2:Worked w0 U Φ0 nt hv a w rv1 E1 g e2 rv2 E2):Worked w0 U Φ0 nt hv a w rv E g e2 rv2 E2 :=
 ⟨h2.st,h2.val.trans h1.val,fun s hs=>(h2.low s hs).trans (h1.low s hs),fun s hs hI=>⟨(h2.rest s hs hI).1.trans (h1.rest s hs hI).1,(h2.rest s hs hI).2.trans (h1.rest s hs hI).2⟩,h2.agg.trans h1.agg,h2.len.trans h1.len⟩
theorem zOW(S:St w0 U Φ0 nt hv a w e Φ rv E L){g:Nat}(hg:zAa<=g){k:PV->PM}(h:(zLy zAa zDp (E g) k).run o e=some e'):∃ e1 rv1 E1,(k (E1 g)).run o e1=some e'/\Worked w0 U Φ0 nt hv a w rv E g e1 rv1 E1:=by
 obtain⟨e1,Φ1,E1,L1,h2,S1,_,h3,_,_,h4,h5⟩:=zH0 hg (bi _) zDp S h;exact⟨e1,rv,E1,h2,⟨Φ1,L1,S1⟩,rfl,fun _ _=>rfl,fun s hs hI=>⟨h3 s hs hI,rfl⟩,h4,h5⟩
theorem zHO{g:Nat}(hg:zAa<=g){k:PV->PM}:∀ (ps done:List PV) {e:Env} {Φ:Nat->Prop} {rv:Nat->Value} {E:Nat->PV} {L:Nat->LN},St w0 U Φ0 nt hv a w e Φ rv E L->E g = .agg (done++ps) ->
  (zJs ps fun qs=>k (.agg (done++qs))).run o e=some e'->∃ e1 rv1 E1,(k (E1 g)).run o e1=some e'/\Worked w0 U Φ0 nt hv a w rv E g e1 rv1 E1
 |[],done,e,Φ,rv,E,L,S,hE,h=>by
  refine⟨e,rv,E,?_,.self S⟩;rw[hE];exact h
 | p :: ps,done,e,Φ,rv,E,L,S,hE,h=>by
  have hX:=S.conf.rep g;rw[hE] at hX;obtain⟨vs,yI,hr⟩:=hX;have hpi:(done++p::ps)[done.length]? = some p:=by simp
  obtain⟨v,La,Lp,Lb,hvi,hL,um,yf,_⟩:=hr.split hpi;simp only[zJs] at h;by_cases kK:p.isWay=true
  ·have hLp:=zDy _ _ _ (zNa kK) um;subst hLp;rcases zOX S um h with h1|h1|⟨r,pre,q,root,c1,c2,c3,c4,c5,c6,c7,c8,c9,c10⟩
   ·cases h1
   ·exact zHO hg ps (done++[p]) S (by rw[hE];simp) (by simpa using h1)
   ·obtain⟨nv,Li,g1,g2,g3,g4,g5⟩:=S.taken hg c1 c2 c3 c4 c6 c7 c8;have hnv:=c10 nv g1;subst hnv;have yV:=S.conf.nodup g;rw[hL] at yV;simp only[dn,bI] at yV;have jM:=yf w Φ (zBb w rv E) q Li (fun _ _ _ h=>h) zDq.refl (fun _ _=>rfl) g2;have jE:∀ b∈La++Lb,b∈L g:=fun b hb=>by rw[hL];simpa using hb
    obtain⟨L',S',wQ⟩:=g5 (.agg ((done++p::ps).set done.length q)) (rv g) (La++Li++Lb) ⟨vs,yI,jM⟩
     (by
      simp only[bI];refine⟨⟨yV.1,g3,fun x hx y hy e=>g4 y hy (jE y (by rw[<- e];simp[hx]))⟩,yV.2.1,fun x hx y hy e=>?_⟩;rcases bg.1 hx with hx|hx
      ·exact yV.2.2 x hx y hy e
      ·exact g4 x hx (jE x (by rw[e];simp[hy])))
     (fun b hb=>by
      simp only[bg] at hb;rcases hb with(hb|hb)|hb
      ·exact .inr (jE b (by simp[hb]))
      ·exact .inl hb
      ·exact .inr (jE b (by simp[hb])))
    have j2:r≠g:=by omega
    have hEq:(done++p::ps).set done.length q=done++q::ps:=by simp
    obtain⟨e1,rv1,E1,h2,W⟩:=zHO hg ps (done++[q]) S' (by rw[zAi,hEq];simp) (by simpa using c9);refine⟨e1,rv1,E1,h2,?_⟩;have W0:Worked w0 U Φ0 nt hv a w rv E g (e.set r root) (upd rv g (rv g)) (upd (upd E r root) g (.agg ((done++p::ps).set done.length q))):=by
     refine⟨⟨Φ,L',S'⟩,zAi,fun s hs=>zAf (by omega),fun s hs hI=>?_,?_,?_⟩
     ·rw[zAf hI,zAf hI,zAf (by omega)];exact⟨rfl,rfl⟩
     ·rw[zAi,hE];rfl
     ·rw[zAi,hE];simp[PV.cells]
    exact W0.trans W
  ·have:(zJs ps fun qs=>k (.agg (done++p::qs))).run o e=some e':=by
    revert h;cases p<;>first|(exact absurd rfl kK)|exact fun h=>h
   exact zHO hg ps (done++[p]) S (by rw[hE];simp) (by simpa using this)
theorem zMu(S:St w0 U Φ0 nt hv a w e Φ rv E L){g:Nat}(hg:zAa<=g){tk:Bool}{k:PV->PM}(h:(zF1 tk (E g) k).run o e=some e'):∃ e1 rv1 E1,(k (E1 g)).run o e1=some e'/\Worked w0 U Φ0 nt hv a w rv E g e1 rv1 E1:=by
 have plain:(k (E g)).run o e=some e'->∃ e1 rv1 E1,(k (E1 g)).run o e1=some e'/\Worked w0 U Φ0 nt hv a w rv E g e1 rv1 E1:=fun h=>⟨e,rv,E,h,.self S⟩;have ice:(zLy zAa zDp (E g) k).run o e=some e'->∃ e1 rv1 E1,(k (E1 g)).run o e1=some e'/\Worked w0 U Φ0 nt hv a w rv E g e1 rv1 E1:=zOW S hg;have take:(zM6 (E g) k).run o e=some e'->∃ e1 rv1 E1,(k (E1 g)).run o e1=some e'/\Worked w0 U Φ0 nt hv a w rv E g e1 rv1 E1:=zPm S hg;cases hE:E g<;>rw[hE] at h plain ice take<;>simp only[zF1] at h<;>try (exact plain h)
 case agg cs=>
  cases tk with
  |true=>exact zHO hg cs [] S (by rw[hE];rfl) (by simpa using h)|false=>
   simp only[cond_false] at h;revert h
   cases cs.any _ with
   |true=>exact ice|false=>exact plain
 case bor=>cases tk<;>first|exact take h|exact ice h
 case bmap=>cases tk<;>first|exact take h|exact ice h
 case bsl=>exact ice h
theorem St.iced(S:St w0 U Φ0 nt hv a w e Φ rv E L){g:Nat}(hg:zAa<=g):∃ Φ1 L1,St w0 U Φ0 nt hv a w e Φ1 rv (upd E g (zA2 (E g))) L1:=by
 have hA:∀ a u,a.isWay=true->zBb w rv E a u->zBb w rv (upd E g (zA2 (E g))) a u:=by
  intro a u _ ha;have:=zC7 ha;exact zCX S.conf zCw ha (by rw[zAf (by omega),zBq]) rfl (fun _ _=>rfl)
 have hΦ:zDq w w Φ (fun b=>Φ b\/b∈L g):=fun b hb=>⟨.inl hb,rfl⟩;have hc:Conf w0 U Φ0 w (fun b=>Φ b\/b∈L g) rv (upd E g (zA2 (E g))) (upd L g []):=by
  refine⟨fun s=>?_,fun s=>?_,fun s s' hI b hb yJ=>?_,fun s b hb=>?_,fun b hb=>?_,fun b hb=>.inl (S.conf.frz0 b hb),S.conf.size,S.conf.kept,S.conf.os,S.conf.tape,S.conf.output⟩
  ·by_cases hs:s=g
   ·subst hs;rw[zAi,zAi];exact(zEh (fun b hb=>.inl hb) _ _ _ (fun b hb=>.inr hb) (S.conf.rep s)).mono zDq.refl hA (by simp)
   ·rw[zAf hs,zAf hs];exact(S.conf.rep s).mono hΦ hA (fun _ _=>rfl)
  ·by_cases hs:s=g
   ·subst hs;rw[zAi];exact b4
   ·rw[zAf hs];exact S.conf.nodup s
  ·by_cases hs:s=g
   ·subst hs;rw[zAi] at hb;cases hb
   ·rw[zAf hs] at hb;by_cases yz:s'=g
    ·subst yz;rw[zAi] at yJ;cases yJ
    ·rw[zAf yz] at yJ;exact S.conf.disj s s' hI b hb yJ
  ·by_cases hs:s=g
   ·subst hs;rw[zAi] at hb;cases hb
   ·rw[zAf hs] at hb;have:=S.conf.own s b hb;exact⟨this.1,fun hp=>hp.elim this.2.1 fun hbg=>S.conf.disj s g hs b hb hbg,this.2.2⟩
  ·rcases hb with hb|hb
   ·exact S.conf.frz b hb
   ·have:=S.conf.own g b hb;exact⟨this.1,.inr this.2.2⟩
 exact⟨_,_,S.turn hc (fun s hs=>by rw[zAf (by omega)];exact S.env s hs) (fun _ _=>rfl) fun d ps hd hp=>by
  rw[zAf (by simp only[zAa] at hg;omega)] at hp;exact⟨ps,hp,rfl⟩⟩
theorem St.clear(S:St w0 U Φ0 nt hv a w e Φ rv E L):Fr w0 U Φ0 nt hv a w e:=by
 have hc:=S.conf.drop fun s=>decide (zAa<=s);refine⟨_,_,_,_,S.turn hc (fun s hs=>?_) (fun _ _=>rfl) (fun d ps hd hp=>?_),fun s hs=>?_⟩
 ·have:decide (zAa<=s)=false:=by simp;omega
  simp only[this,bp,if_false];exact S.env s hs
 ·have:decide (zAa<=d)=false:=decide_eq_false (by simp only[zAa];omega);simp only[this,bp,if_false] at hp;exact⟨ps,hp,rfl⟩
 ·simp[hs]
theorem zIP{A:Al}{sz lo n:Nat}{xs:List PV}{nv v:Value}{Li:LN}(h:Rep w Φ A (.own sz xs) nv Li)(yR:lo+n<=xs.length)(hs:zBU v nv sz lo n) :
  ∃ Lg,Rep w Φ A (.own sz ((xs.drop lo).take n)) v Lg/\(∀ b∈Lg,b∈Li)/\(Li.Nodup->Lg.Nodup):=by
 obtain⟨h1,h2,h3⟩|⟨x,m,c,us,M,rfl,h1,h2,h3,h4,h5,h6,⟨h7,u5⟩,h8,h9⟩:=h
 ·subst h1;subst h3;exact⟨[],.inl ⟨by simp,rfl,hs.1⟩,by simp,fun _=>b4⟩
 ·subst h1;simp only[zBU] at hs;obtain⟨rfl,yT⟩:=hs;have jG:us.length=xs.length:=by have:=congrArg length u5;simpa using this
  obtain⟨M1,M23,rfl,_,hB⟩:=h9.cut lo;obtain⟨M2,M3,rfl,hC,_⟩:=hB.cut n;have hZ:((xs.drop lo).take n).length=n:=by simp;omega
  refine⟨x.block::M2,.inr ⟨zAx x (lo*sz),m-lo,c,(us.drop lo).take n,M2,rfl,by rw[hZ],rfl,by rw[hZ];omega,h4,?_,fun y hy=>h6 y (cq (cE hy)),⟨fun u hu=>h7 u (cq (cE hu)),zBa.map_isAgg u5 lo n⟩,?_,hC⟩,?_,?_⟩
  ·simp only[zAx];have:lo*sz+(m-lo)*sz=m*sz:=by rw[<- cK];congr 1;omega
   omega
  ·rw[hZ];exact zIZ h7 jG h8 yR
  ·intro b hb;simp only[bv,bg] at hb ⊢;rcases hb with h|h<;>simp[h]
  ·intro hn;simp only[cv,bg,not_or,bI] at hn ⊢;exact⟨hn.1.2.1,hn.2.2.1.1⟩
theorem zMV{t:TypeId}{n:Nat}(hn:szT P t=some n){b:Addr}(y9:b.spot=none){row:Array Value}(yB:zEw w b.block row){v:Value}(hv:v.cells.size=n)(yD:b.off+v.cells.size<=row.size)(yN:∀ u∈v.cells.toList,u.oneCell'=true) :
  (Instr.storeAt t (.pointer (some b)) v).run P w = .ok () (w.setRow b.block (zBp row b.off v.cells.toList)):=by
 obtain⟨ti,jU,yG⟩:=zCx hn;obtain⟨el,yp⟩:=yB;have hb:b=⟨b.block,b.off,none⟩:=by cases b;simp_all
 simp only[Instr.storeAt,Instr.sureAddr,bo,bx,bh,storeVar,zA8 jU];rw[if_neg (by simp only[ne_eq,fk];omega)];have:=run_storeCells_at (P:=P) b.block b.off el v.cells.toList 0 row w yp (by simpa using yD) yN;rw[<- hb] at this;simp only[bL] at this;exact this
theorem zLH(S:St w0 U Φ0 nt hv a w e Φ rv E L){g r:Nat}(hg:zAa<=g){pre:zA4}{i c:Nat}{sh:ON}{t:TypeId}{va:Value}(ha:Rep w Φ (zBb w rv E) (.addr r pre i c sh) va [])
  (hn:szT P t=some (E g).cells.length) (h:(zIs r pre i c (E g)).run o e=some e') :
  ∃ w',(Instr.storeAt t va (rv g)).run P w = .ok () w'/\Fr w0 U Φ0 nt hv a w' e':=by
 simp only[zIs] at h;obtain⟨hc,h1⟩:=zAR h;simp only[bb,bV,bD] at hc;obtain⟨⟨jK,jJ⟩,uo⟩:=hc;have yN:∀ q∈(E g).cells,q.oneCell=true:=fun q hq=>bj.1 jJ q hq;have hva:zCu (rv g)=(E g).isAgg:=by
  have hX:=S.conf.rep g
  cases hx:(E g).isAgg with
  |true=>
   cases hE:E g<;>rw[hE] at hx<;>simp[PV.isAgg] at hx;rw[hE] at hX;obtain⟨vs,yI,_⟩:=hX;rw[yI];rfl
  |false=>
   have j5:(E g).cells=[E g]:=by cases hE:E g<;>first|rfl|(rw[hE] at hx;simp[PV.isAgg] at hx)
   have:=yN (E g) (by rw[j5];simp);exact(zBX (zCq (fun a v hw h=>zDo hw h) hX this)).2
 have jD:(E g).heavy=false\/∀ x∈(E g).ways,zAT r pre x.1 x.2=false\/x.2.length<=pre.length:=by
  rcases jK with h|h
  ·exact .inl h
  ·refine .inr fun x hx=>?_;have:=bj.1 h x hx;simp only[bD,fP] at this;rcases this with h|h
   ·exact .inl h
   ·refine .inr (d5 fun yL=>?_);rw[show blt pre.length x.2.length=true from cP yL] at h;cases h
 have hI:(E g).cells.length≠0:=by
  intro h0;rw[bq h0] at uo;cases uo
 obtain⟨b,row,e1,E1,L1,rfl,k1,k2,k3,k4,k5,k6,_,_⟩:=S.write hg ha jD yN hI hva h1;simp only[PM.run,ba] at k5;subst k5;have yG:(rv g).cells.size=(E g).cells.length:=by
  have:=((S.conf.rep g).cellsAll hva).length;simpa using this
 exact⟨_,zMV hn k1 k2 yG k3 k4,k6.clear⟩
theorem zHx(S:St w0 U Φ0 nt hv a w e Φ rv E L){g:Nat}(hg:zAa<=g)(hE2:E (g+1) = .bad){r:Nat}{pre:zA4}{i c:Nat}{sh:ON}{t:TypeId}{va:Value}(ha:Rep w Φ (zBb w rv E) (.addr r pre i c sh) va [])
  (hn:szT P t=some (E g).cells.length) {tk:Bool} (h:(zIE tk r pre i c (E g)).run o e=some e') :
  ∃ w',(Instr.storeAt t va (rv g)).run P w = .ok () w'/\Fr w0 U Φ0 nt hv a w' e':=by
 have S1:=S.hold (g:=g+1) (by omega) ha;have jh:g≠g+1:=by omega
 simp only[zIE] at h;split at h
 ·rename_i m kf;cases ul:E g<;>rw[ul] at kf<;>simp only[zRE] at kf<;>try (cases kf;done)
  rename_i r' q z lo n
  cases lo with
  |succ lo=>cases kf
  | zero =>
   simp only[zRE] at kf;split at kf
   ·rename_i hrq;simp only[bb,decide_eq_true_eq] at hrq;obtain⟨rfl,rfl⟩:=hrq;simp only[ba] at kf;subst kf;obtain⟨x,hx,h1⟩:=zBW h;split at h1
    ·rename_i s xs;obtain⟨yR,h2⟩:=zAR h1;have yR:=br yR;obtain⟨root,hl,hm,h3⟩:=zCa h2;have hr:r'<zAa:=ha.2.1;have yF:=zBQ hl;rw[yF,<- S.env r' hr] at hx;rw[<- S.env r' hr] at yF hm;have qJ:r'≠g+1:=by omega
     obtain⟨kk1,kk2⟩:=zB0 (q' := .bad) rfl rfl hm;have wT:upd E (g+1) (.addr r' pre i c sh) r'=E r':=zAf qJ;obtain⟨nv,Li,g1,g2,g3,g4,g5⟩:=S1.taken (g:=g) hg hr (by rw[wT];exact yF) (by rw[wT];exact hx) rfl (by rw[wT];exact hm) kk1 kk2;have gL:=S.conf.rep g;rw[ul] at gL;obtain⟨_,_,_,wG⟩:=gL;have yy:zBU (rv g) nv s 0 n:=by
      obtain⟨s2,xs2,q1,q2,q3⟩:=wG nv _ (by rw[yF];rw[wT,zAf qJ] at g1;exact g1) rfl;cases q1;subst q2;exact q3
     obtain⟨Lg,p1,p2,p3⟩:=zIP g2 (by omega) yy;obtain⟨L',S2,_⟩:=g5 _ (rv g) Lg p1 (p3 g3) (fun b hb=>.inl (p2 b hb));have jn:=S2.conf.rep (g+1);rw[zAf (dA jh),zAf (dA qJ),zAi,zAf (dA jh),zAi] at jn;have vS:L' (g+1)=[]:=jn.1;rw[vS] at jn;have:=zLH (P:=P) (t:=t) S2 hg jn (by rw[zAi];rw[ul] at hn;exact hn) (by rw[zAi];exact h3);rw[zAi] at this;exact this
    ·cases h1
   ·cases kf
 ·have key:(zF1 tk (E g) fun v=>zIs r pre i c v).run o e=some e'\/(zIs r pre i c (E g)).run o e=some e':=by
   simp only[zIQ] at h
   cases hb:(pre.isEmpty && !tk) with
   |false=>rw[hb] at h;exact .inl h|true=>
    rw[hb] at h;simp only[cond_true,PM.run] at h;split at h
    ·exact .inr h
    ·exact .inl h
  rcases key with h|h
  ·have hEg1:upd E (g+1) (.addr r pre i c sh) g=E g:=zAf jh;obtain⟨e1,rv1,E1,h1,W⟩:=zMu S1 (g:=g) hg (by rw[hEg1];exact h);obtain⟨Φ1,L1,S2⟩:=W.st;have jn:=S2.conf.rep (g+1);obtain⟨q1,q2⟩:=W.rest (g+1) (by omega) (dA jh);rw[q1,q2,zAi,zAi] at jn;have vS:L1 (g+1)=[]:=jn.1;rw[vS] at jn;have hZ:=W.len;rw[hEg1] at hZ;have:=zLH (P:=P) (t:=t) S2 hg jn (by rw[hZ];exact hn) h1;rw[W.val,zAf jh] at this;exact this
  ·exact zLH S hg ha hn h
theorem zWP{t el:TypeId}{s:Nat}(h:(zB5 P t).bind (szT P)=some s):∃ el,zB5 P t=some el/\szT P el=some s:=by
 cases he:zB5 P t with
 |none=>rw[he] at h;cases h|some el=>rw[he] at h;exact⟨el,rfl,h⟩
theorem zCO{t:TypeId}{el:TypeId}(h:zB5 P t=some el):P.underlying t=some (.slice el):=by
 simp only[zB5] at h;split at h
 ·cases h;assumption
 ·cases h
theorem zVp(S:St w0 U Φ0 nt hv a w e Φ rv E L)(hb:zBz E){fz tk:Bool}{t:TypeId}{x y:Operand}(hx:zAZ nt x=true)(hy:zAZ nt y=true)(h:(zO9 P fz tk t x y).run o e=some e') :
  ∃ w',(Instr.storeAt t (a.eval x) (a.eval y)).run P w = .ok () w'/\Fr w0 U Φ0 nt hv a w' e':=by
 obtain⟨pa,h1,uk⟩:=zBC S hx h
 have gen:(match pa,shT P t,szT P t with
   |.addr r pre i c _,some sh,some n=>(bif fz&&tk then opd y else zOh y) fun v=>bif beq v.cells.length n&&v.isAgg==sh.isSome then zIE (tk && !fz) r pre i c (bif fz && !tk then zA2 v else v) else .fail
   |_,_,_=>.fail).run o e=some e'->∃ w',(Instr.storeAt t (a.eval x) (a.eval y)).run P w = .ok () w'/\Fr w0 U Φ0 nt hv a w' e':=by
  intro h2;clear h1;split at h2
  ·rename_i r pre i c s' sh n jf hn;have S1:=S.hold (g:=zAa+2) (by omega) uk
   cases hfk:(fz&&tk) with
   |true=>
    rw[bb] at hfk;obtain⟨rfl,rfl⟩:=hfk;simp only[dH,cond_true,dy,dO,cond_false] at h2;obtain⟨v,h2,hv⟩:=zBC S1 hy h2;obtain⟨hc,h5⟩:=zAR h2;simp only[bb] at hc;have hZ:=bc hc.1;have S2:=S1.hold (g:=zAa) (bi _) hv;have jn:=S2.conf.rep (zAa+2);rw[zAf (show zAa+2≠zAa by omega),zAf (show zAa+2≠zAa by omega),zAf (show zAa+2≠zAa by omega),zAi,zAi,zAi] at jn;have:=zHx (P:=P) (t:=t) S2 (bi zAa) (by rw[zAf (show zAa+1≠zAa by omega),zAf (show zAa+1≠zAa+2 by omega)];exact hb _ (by omega)) jn (by rw[zAi,hZ];exact hn) (by rw[zAi];exact h5);rwa[zAi] at this
   |false=>
   rw[hfk,cond_false] at h2;obtain⟨e1,rv1,E1,L1,h2,S2,h3,h4⟩:=zGd S1 hy (g:=zAa) (bi _) h2;obtain⟨hc,h5⟩:=zAR h2;simp only[bb] at hc;have hZ:=bc hc.1;have h6:=h4 (zAa+2) (by omega) (by omega);rw[zAi,zAi,zAi] at h6;have h7:=h4 (zAa+1) (by omega) (by omega);rw[zAf (show zAa+1≠zAa+2 by omega)] at h7;have wT:E1 (zAa+1) = .bad:=by rw[h7.1];exact hb _ (by omega)
   cases fz with
   |false=>
    simp only[cX,cond_false] at h5;have jn:=S2.conf.rep (zAa+2);rw[h6.1,h6.2.1,h6.2.2] at jn;have:=zHx (P:=P) (t:=t) S2 (bi zAa) wT jn (by rw[hZ];exact hn) h5;rwa[h3] at this
   |true=>
    simp only[cR] at hfk;subst hfk;simp only[f8,dH,cond_true] at h5;obtain⟨Φ2,L2,S3⟩:=S2.iced (g:=zAa) (bi _);have jn:=S3.conf.rep (zAa+2);rw[zAf (show zAa+2≠zAa by omega),h6.1,h6.2.1] at jn;have vS:L2 (zAa+2)=[]:=jn.1;rw[vS] at jn;have:=zHx (P:=P) (t:=t) S3 (bi zAa) (by rw[zAf (show zAa+1≠zAa by omega)];exact wT) jn (by rw[zAi,zDm,hZ];exact hn) (by rw[zAi];exact h5);rwa[h3] at this
  ·cases h2
 split at h1
 ·rename_i r pre i c s';obtain⟨s,hs,jo⟩:=zBS h1;obtain⟨yy,h2⟩:=zDt jo;have S1:=S.hold (g:=zAa) (p := .own s []) (v := .slice none 0 0) (bi _) (.inl ⟨rfl,rfl,rfl⟩);have hpa':Rep w Φ (zBb w (upd rv zAa (.slice none 0 0)) (upd E zAa (.own s []))) (.addr r pre i c s') (a.eval x) []:=by
   have hr:=zC7 uk.2;refine⟨rfl,zCX S.conf zCw uk.2 ?_ ?_ (fun _ _=>rfl)⟩
   ·rw[zAf (Nat.ne_of_lt hr),zBq]
   ·rw[zAf (Nat.ne_of_lt hr)]
  have:=zHx (P:=P) (t:=t) S1 (bi zAa) (by rw[zAf (show zAa+1≠zAa by omega)];exact hb _ (by omega)) hpa' (by rw[zAi];exact yy) (by rw[zAi];exact h2);rwa[zAi] at this
 ·exact gen h1
theorem Fr.congr{e1 e2:Env}(h:∀ s,e1.get s=e2.get s)(hf:Fr w0 U Φ0 nt hv a w e1):Fr w0 U Φ0 nt hv a w e2:=by
 obtain⟨Φ,rv,E,L,S,hb⟩:=hf;exact⟨Φ,rv,E,L,{S with env:=fun s hs=>(S.env s hs).trans (h s)},hb⟩
theorem zHV(S:St w0 U Φ0 nt hv a w e Φ rv E L){g:Nat}(hg:zAa<=g){d:ON}(hd:∀ x,d=some x->x<nt)(hb:∀ s,zAa<=s->s≠g->E s = .bad)(h:(zFh d (E g)).run o e=some e'):Fr w0 U Φ0 nt hv (a.put d (rv g)) w e':=by
 have plain:(put d (E g)).run o e=some e'->Fr w0 U Φ0 nt hv (a.put d (rv g)) w e':=fun h=>zF0 S hd hg h hb;have kB:=S.small;simp only[zFh] at h;split at h
 ·rename_i d' r z lo n ul;split at h
  ·rename_i hrd;subst hrd;have hr:r<nt:=hd r rfl;have j2:r<zAa:=by simp only[zAa];omega
   simp only[PM.run] at h;split at h
   ·cases h
   ·rename_i root qI;split at h
    ·rename_i sz xs uN;obtain⟨yR,h1⟩:=zAR h;have yR:=br yR;simp only[PM.run,ba] at h1;have hE:E r = .own sz xs:=by rw[S.env r j2,uN]
     obtain⟨nv,Li,g1,g2,g3,g4,g5⟩:=S.taken (g:=g) hg j2 (pre:=[]) (q := .own sz xs) (root := .bad) (by rw[hE];rfl) (by rw[hE];rfl) rfl rfl rfl rfl;have hX:=S.conf.rep g;rw[ul] at hX;obtain⟨_,_,_,hn⟩:=hX;have yy:zBU (rv g) nv sz lo n:=by
      obtain⟨s2,xs2,q1,q2,q3⟩:=hn nv _ (by rw[hE];rw[hE] at g1;exact g1) rfl;cases q1;subst q2;exact q3
     obtain⟨Lg,p1,p2,p3⟩:=zIP g2 yR yy;obtain⟨L',S2,_⟩:=g5 _ (rv g) Lg p1 (p3 g3) (fun b hb=>.inl (p2 b hb));have kJ:(put (some r) (upd (upd E r .bad) g (.own sz ((xs.drop lo).take n)) g)).run o (e.set r .bad)=some (((e.set r .bad).kill r []).set r (.own sz ((xs.drop lo).take n))):=by
      rw[zAi];rfl
     have:=zF0 S2 hd hg kJ (fun s hs hI=>by rw[zAf hI,zAf (by omega)];exact hb s hs hI);rw[zAi] at this;refine this.congr fun s=>?_;rw[<- h1,Env.get_set,Env.get_set,Env.get_kill,Env.get_kill,Env.get_set];by_cases hs:s=r
     ·simp[hs]
     ·simp[hs]
    ·cases h
  ·exact plain h
 ·exact plain h
theorem zSA(S:St w0 U Φ0 nt hv a w e Φ rv E L)(hb:zBz E){d:ON}(hd:∀ x,d=some x->x<nt){tk nl:Bool}{t:TypeId}{x:Operand}(hx:zAZ nt x=true)(h:(zGn P tk nl d t x).run o e=some e'):Fr w0 U Φ0 nt hv (a.put d (a.eval x)) w e':=by
 have gen:(zOh x fun p=>bif tk then zM6 p (zFh d) else zFh d p).run o e=some e'->Fr w0 U Φ0 nt hv (a.put d (a.eval x)) w e':=by
  intro h;obtain⟨e1,rv1,E1,L1,h1,S1,h2,h3⟩:=zGd S hx (g:=zAa) (bi _) h;have y8:∀ s,zAa<=s->s≠zAa->E1 s = .bad:=fun s hs hI=>by rw[(h3 s hs hI).1];exact hb s hs
  cases tk with
  |false=>
   have:=zHV S1 (bi zAa) hd y8 h1;rwa[h2] at this
  |true=>
   obtain⟨e2,rv2,E2,h4,W⟩:=zPm S1 (bi zAa) h1;obtain⟨Φ2,L2,S2⟩:=W.st;have:=zHV S2 (bi zAa) hd (fun s hs hI=>by rw[(W.rest s hs hI).1];exact y8 s hs hI) h4;rw[W.val,h2] at this;exact this
 simp only[zGn] at h;split at h
 ·have nilR:∀ s,Rep w Φ (zBb w rv E) (.own s []) (.slice none 0 0) []:=fun s=>.inl ⟨rfl,rfl,rfl⟩
  cases nl with
  |true=>obtain⟨s,_,h1⟩:=zBS h;exact zAE S hb hd h1 ⟨rfl,rfl⟩
  |false=>
   simp only[cond_false,zUe] at h;split at h
   ·exact zAE S hb hd h (nilR _)
   ·cases h
 ·exact gen h
theorem zTf(S:St w0 U Φ0 nt hv a w e Φ rv E L)(hb:zBz E){d:ON}(hd:∀ x,d=some x->x<nt){x:Operand}(hx:zAZ nt x=true)(h:(zVj d x).run o e=some e'):Fr w0 U Φ0 nt hv (a.put d (a.eval x)) w e':=by
 obtain⟨e1,rv1,E1,L1,h1,S1,h2,h3⟩:=zGd S hx (g:=zAa) (bi _) h;have y8:∀ s,zAa<=s->s≠zAa->E1 s = .bad:=fun s hs hI=>by rw[(h3 s hs hI).1];exact hb s hs
 obtain⟨e2,Φ2,E2,L2,h4,S2,_,h5,_,_,h6,h7⟩:=zH0 (bi zAa) (bi _) zDp S1 h1;have:=zHV S2 (bi zAa) hd (fun s hs hI=>by rw[h5 s hs hI];exact y8 s hs hI) h4;rwa[h2] at this
theorem zHo{d i d' i':Nat}(h:zBD d i=zBD d' i')(hi:i<16)(LA:i'<16):d=d'/\i=i':=by
 simp only[zBD] at h;omega
theorem zQ9(S:St w0 U Φ0 nt hv a w e Φ rv E L)(hb:zBz E){d:ON}(hd:∀ x,d=some x->x<nt){s i:Nat}(hs:s<nt)(h:(zKr d s i).run o e=some e') :
  ∃ v,(Instr.extract (a.eval (.tmp s)) i).run P w = .ok v w/\Fr w0 U Φ0 nt hv (a.put d v) w e':=by
 have kB:=S.small;have yn:s<zAa:=by simp only[zAa];omega
 simp only[zKr,PM.run] at h;split at h
 ·cases h
 ·rename_i m qI;split at h
  ·rename_i ps y6;obtain⟨hi,h1⟩:=zAR h;have hi:=zCh hi;have hE:E s = .tup ps:=by rw[S.env s yn,y6]
   obtain⟨LB,vs,uC,uE⟩:=S.parts s ps i hs hE hi;have hvg:zBD s i<zAa:=by simp only[zBD,zAa];omega
   have je:a.eval (.tmp s) = .tuple vs:=by rw[<- uC];exact S.tmps s hs
   have yA:(Instr.extract (a.eval (.tmp s)) i).run P w = .ok (rv (zBD s i)) w:=by
    rw[je];simp only[Instr.extract,uE];rfl
   refine⟨_,yA,?_⟩;simp only[PM.run] at h1;split at h1
   ·cases h1
   ·rename_i p hnl2;have hX:=S.conf.rep (zBD s i);rw[S.env _ hvg] at hX
    cases hh:(e.get (zBD s i)).heavy with
    |false=>
     rw[hh] at h1;simp only[cond_false] at h1;rw[zDy _ _ _ hh hX] at hX;exact zAE S hb hd h1 hX
    | true =>
     rw[hh] at h1;simp only[cond_true,PM.run] at h1;have hc:=S.conf.take (s:=zBD s i) (g:=zAa) hvg (bi _);have S1:=S.turn (e':=e.set (zBD s i) .bad) hc (fun t ht=>by
      rw[zAf (by omega),Env.get_set];by_cases vT:t=zBD s i
      ·subst vT;rw[zAi,if_pos rfl]
      ·rw[zAf vT,if_neg vT];exact S.env t ht) (fun t ht=>zAf (by omega)) (fun d ps hd hp=>by
      rw[zAf (by simp only[zAa];omega),zAf (by simp only[zBD];omega)] at hp;exact⟨ps,hp,rfl⟩)
     have:=zF0 S1 hd (g:=zAa) (bi _) (by rw[zAi,S.env _ hvg];exact h1) (fun t ht hI=>by rw[zAf hI,zAf (by omega)];exact hb t ht);rwa[zAi] at this
  ·cases h
end
end Go.Eng
namespace Go.Eng
open Go
mutual
theorem zD2{f:PV->PV}:∀ p:PV,(∀ a,a.isWay=true->(∀ x∈a.ways,x∈p.ways)->(∀ xs k,a ≠ .log xs k)->f a=a)->(∀ xs k,f (.log xs k) = .log xs k)->p.mapW f=p
 |.agg cs,h,hl=>by rw[PV.mapW,zE6 cs h hl]|.tup cs,h,hl=>by rw[PV.mapW,zE6 cs h hl]|.func k a b,h,hl=>by rw[PV.mapW,zE6 a (fun x hx hw hn=>h x hx (fun y hy=>bg.2 (.inl (hw y hy))) hn) hl,zE6 b (fun x hx hw hn=>h x hx (fun y hy=>bg.2 (.inr (hw y hy))) hn) hl]
 |.ref q,h,hl=>by rw[PV.mapW,zD2 q h hl]|.box q,h,hl=>by rw[PV.mapW,zD2 q h hl]|.lock q,h,hl=>by rw[PV.mapW,zD2 q h hl]|.addr ..,h,_=>h _ rfl (fun _ h=>h) (fun _ _=>by simp)
 |.bor ..,h,_=>h _ rfl (fun _ h=>h) (fun _ _=>by simp)
 |.bsl ..,h,_=>h _ rfl (fun _ h=>h) (fun _ _=>by simp)
 |.bmap ..,h,_=>h _ rfl (fun _ h=>h) (fun _ _=>by simp)
 |.yld ..,_,_=>rfl|.log ..,_,hl=>hl _ _|.bad,_,_=>rfl|.und,_,_=>rfl|.int ..,_,_=>rfl|.bool ..,_,_=>rfl|.nilp,_,_=>rfl|.nilf,_,_=>rfl|.nilm,_,_=>rfl|.nn,_,_=>rfl|.nils _,_,_=>rfl|.sl _,_,_=>rfl|.own ..,_,_=>rfl|.map _,_,_=>rfl|.omap _,_,_=>rfl
theorem zE6{f:PV->PV}:∀ ps:List PV,(∀ a,a.isWay=true->(∀ x∈a.ways,x∈zBE ps)->(∀ xs k,a ≠ .log xs k)->f a=a)->(∀ xs k,f (.log xs k) = .log xs k)->zCB f ps=ps
 |[],_,_=>rfl|p::ps,h,hl=>by
  rw[zCB,zD2 p (fun x hx hw hn=>h x hx (fun y hy=>bg.2 (.inl (hw y hy))) hn) hl,zE6 ps (fun x hx hw hn=>h x hx (fun y hy=>bg.2 (.inr (hw y hy))) hn) hl]
end
theorem zNe{p:PV}{x:Nat×zA4}:∀ {ps:List PV},p∈ps->x∈p.ways->x∈zBE ps
 |y::ys,h,hx=>by
  simp only[zBE,bg];rcases bv.1 h with rfl|hm
  ·exact .inl hx
  ·exact .inr (zNe hm hx)
theorem zTE{r:Nat}{p:PV}(h:∀ x∈p.ways,x.1≠r):p.mapW (lose r [])=p:=by
 refine zD2 p (fun a ha hw hn=>?_) (fun _ _=>rfl);have key:∀ r',(∀ x∈a.ways,x.1=r')->a.ways≠[]->beq r' r=false:=by
  intro r' h1 h2
  cases hb:beq r' r with
  |false=>rfl
  | true =>
   have hr:=bc hb
   cases hy:a.ways with
   |nil=>exact absurd hy h2|cons z zs=>
    have hz:z∈a.ways:=by rw[hy];simp
    exact absurd ((h1 z hz).trans hr) (h z (hw z hz))
 cases a<;>first|(cases ha;done)|(exact absurd rfl (hn _ _))|skip
 all_goals
  simp only[lose];rw[key _ (by simp[PV.ways];done) (by simp[PV.ways])];rfl
section
variable {P:Program} {w0 w:World} {U Φ0 Φ:Nat->Prop} {nt:Nat} {hv:Hid} {a:Act} {e e':Env} {rv:Nat->Value} {E:Nat->PV} {L:Nat->LN} {o:zAM}
theorem zR5(S:St w0 U Φ0 nt hv a w e Φ rv E L)(hb:zBz E){d:ON}(hd:∀ x,d=some x->x<nt){tk:Bool}{t:TypeId}{x:Operand}(hx:zAZ nt x=true)(h:(zPj P tk d t x).run o e=some e') :
  ∃ v,(Instr.loadAt t (a.eval x)).run P w = .ok v w/\Fr w0 U Φ0 nt hv (a.put d v) w e':=by
 obtain⟨sh,jf,h1⟩:=zBS h;obtain⟨p,h2,hp⟩:=zBC S hx h1
 cases tk with
 |false=>exact zO4 S hb hd jf hp h2|true=>
  simp only[cond_true] at h2;split at h2
  ·rename_i r pre i c s';obtain⟨b,u,q,yJ,h3,h4,h5⟩:=zLF S jf hp h2;have S1:=S.hold (bi zAa) h5;obtain⟨e1,rv1,E1,h6,W⟩:=zOW S1 (g:=zAa) (bi _) (by rw[zAi];exact h4);obtain⟨Φ1,L1,S2⟩:=W.st;have:=zF0 S2 hd (g:=zAa) (bi _) h6 (fun s hs hI=>by rw[(W.rest s hs hI).1,zAf hI];exact hb s hs);rw[W.val,zAi] at this;refine⟨u,?_,this⟩;rw[yJ];simp only[Instr.loadAt,Instr.sureAddr,bo,bx,bh];exact h3
  ·exact zO4 S hb hd jf hp h2
theorem St.layPart(S:St w0 U Φ0 nt hv a w e Φ rv E L){d i g:Nat}(hd:d<nt)(hi:i<16)(hg:zAa<=g)(hEd:∀ ps,E d ≠ .tup ps){k:PM}(h:(lay (zBD d i) (E g) k).run o e=some e') :
  ∃ e1 E1 L1,k.run o e1=some e'/\St w0 U Φ0 nt hv a w e1 Φ (upd rv (zBD d i) (rv g)) E1 L1/\(∀ ps,E1 d ≠ .tup ps)/\E1 g = .bad/\∀ s,zAa<=s->s≠g->(∀ x∈(E s).ways,x.1≠zBD d i)->E1 s=E s:=by
 have kB:=S.small;have yj:zBD d i<zAk:=by simp only[zBD,zAk];omega
 obtain⟨e1,E1,L1,h1,h2,h3,h4,h5,h6,h7⟩:=zWf S yj hg h;have gM:∀ d' ps,d'<2000000->E1 d' = .tup ps->∃ ps',E d' = .tup ps'/\ps'.length=ps.length:=by
  intro d' ps qH hp;have hI:d'≠zBD d i:=by simp only[zBD];omega
  rcases h4 d' hI (by simp only[zAa];omega) with h8|h8
  ·exact⟨ps,by rw[<- h8];exact hp,rfl⟩
  ·rw[h8] at hp;exact zEg (zIO _ _) hp
 refine⟨e1,E1,L1,h1,⟨h2,h3,S.size,S.small,fun t ht=>?_,fun d' ps j qH hp hj=>?_,fun s vJ uH=>?_,S.dfr⟩,fun ps hp=>?_,h6,fun s hs hI hw=>?_⟩
 ·rw[zAf (by simp only[zBD];omega)];exact S.tmps t ht
 ·obtain⟨ps',h8,h9⟩:=gM d' ps (by omega) hp;obtain⟨jZ,vs,vg,h12⟩:=S.parts d' ps' j qH h8 (by omega);have qE:d'≠d:=fun hc=>hEd ps' (hc▸h8);refine⟨jZ,vs,by rw[zAf (by simp only[zBD];omega)];exact vg,?_⟩;rw[zAf fun hc=>qE (zHo hc jZ hi).1];exact h12
 ·rw[zAf (by omega)];exact S.hid s vJ uH
 ·obtain⟨ps',h8,_⟩:=gM d ps (by omega) hp;exact hEd ps' h8
 ·rcases h7 s hs hI with h8|h8
  ·exact h8
  ·rw[h8];exact zTE hw
theorem St.empty(S:St w0 U Φ0 nt hv a w e Φ rv E L){d:Nat}(hd:d<nt):∃ L',St w0 U Φ0 nt hv a w (e.set d .bad) Φ rv (upd E d .bad) L':=by
 have kB:=S.small;have hc:=S.conf.drop fun s=>s==d;have hE:(fun s=>if (s==d)=true then bad else E s)=upd E d .bad:=by
  funext s;by_cases hs:s=d<;>simp[upd,hs]
 rw[hE] at hc;refine⟨_,S.turn hc (fun s hs=>?_) (fun _ _=>rfl) (fun d' ps qH hp=>?_)⟩
 ·rw[Env.get_set];by_cases LC:s=d
  ·subst LC;rw[zAi,if_pos rfl]
  ·rw[zAf LC,if_neg LC];exact S.env s hs
 ·by_cases qE:d'=d
  ·subst qE;rw[zAi] at hp;cases hp
  ·rw[zAf qE] at hp;exact⟨ps,hp,rfl⟩
theorem St.mark(S:St w0 U Φ0 nt hv a w e Φ rv E L)(hb:zBz E){d n:Nat}(hd:d<nt)(hn:n<=16){vs:Array Value}(hs:vs.size=n)(hp:∀ i,i<n->vs[i]? = some (rv (zBD d i))) :
  Fr w0 U Φ0 nt hv (a.put (some d) (.tuple vs)) w (e.set d (.tup (replicate n .bad))):=by
 have kB:=S.small;have hX:Rep w Φ (zBb w rv E) (.tup (replicate n .bad)) (.tuple vs) []:=by
  refine⟨vs,rfl,?_⟩;have key:∀ (n:Nat) (us:List Value),us.length=n->zBa w Φ (zBb w rv E) (replicate n .bad) us []:=by
   intro n
   induction n with
   |zero=>intro us h;rw[bq h];exact⟨rfl,rfl⟩|succ n ih=>
    intro us h
    match us,h with
    |u::us,h=>exact⟨u,us,[],[],rfl,rfl,rfl,ih us (by simpa using h)⟩
  exact key n vs.toList (by simpa using hs)
 have kg:(tup (replicate n .bad)).heavy=false:=by
  have key:∀ n,zDj (replicate n .bad)=false:=by
   intro n
   induction n with
   |zero=>rfl|succ n ih=>simp[fZ,zDj,PV.heavy,ih]
  exact key n
 have hc:=S.conf.put (s:=d) kg hX;have hds:d<a.tmps.size:=by rw[S.size];exact hd
 refine⟨_,_,_,_,⟨hc,fun s hs=>?_,by simp only[Act.put,iq];exact S.size,S.small,fun t ht=>?_,fun d' ps j qH jq hj=>?_,fun s vJ uH=>?_,S.dfr⟩,fun g hg=>?_⟩
 ·rw[Env.get_set];by_cases LC:s=d
  ·subst LC;rw[zAi,if_pos rfl]
  ·rw[zAf LC,if_neg LC];exact S.env s hs
 ·rw[Act.put_tmps a hds];by_cases vN:t=d
  ·subst vN;simp[zAi]
  ·rw[if_neg vN,zAf vN];exact S.tmps t ht
 ·by_cases qE:d'=d
  ·subst qE;rw[zAi] at jq;simp only[PV.tup.injEq] at jq;rw[<- jq] at hj;simp only[fQ] at hj;exact⟨by omega,vs,zAi,by rw[zAf (by simp only[zBD];omega)];exact hp j hj⟩
  ·rw[zAf qE] at jq;obtain⟨jZ,us,vg,h12⟩:=S.parts d' ps j qH jq hj;exact⟨jZ,us,by rw[zAf qE];exact vg,by rw[zAf (by simp only[zBD];omega)];exact h12⟩
 ·rw[zAf (by simp only[zAk] at vJ;omega)];exact S.hid s vJ uH
 ·rw[zAf (by simp only[zAa] at hg;omega)];exact hb g hg
theorem zIy{s d:Nat}(hd:d<nt)(hs:s<nt){vs:Array Value}:∀ (n i:Nat) {e:Env} {rv:Nat->Value} {E:Nat->PV} {L:Nat->LN},St w0 U Φ0 nt hv a w e Φ rv E L->zBz E->(∀ ps,E d ≠ .tup ps)->i+n<=16->vs.size=i+n ->
  (∀ j,j<i->vs[j]? = some (rv (zBD d j)))->(∀ j,i<=j->j<i+n->vs[j]? = some (rv (zBD s j)))->(zF7 s d i n).run o e=some e'->Fr w0 U Φ0 nt hv (a.put (some d) (.tuple vs)) w e'
 |0,i,e,rv,E,L,S,hb,hE,LB,yG,h1,h2,h=>by
  simp only[zF7,PM.run,ba] at h;subst h;exact S.mark hb hd (by omega) (by simpa using yG) h1
 | n + 1,i,e,rv,E,L,S,hb,hE,LB,yG,h1,h2,h=>by
  have kB:=S.small;have hvg:zBD s i<zAa:=by simp only[zBD,zAa];omega
  simp only[zF7,PM.run] at h;split at h
  ·cases h
  ·have hc:=S.conf.take (s:=zBD s i) (g:=zAa) hvg (bi _);have S1:=S.turn (e':=e.set (zBD s i) .bad) hc (fun t ht=>by
    rw[zAf (by omega),Env.get_set];by_cases vT:t=zBD s i
    ·subst vT;rw[zAi,if_pos rfl]
    ·rw[zAf vT,if_neg vT];exact S.env t ht) (fun t ht=>zAf (by omega)) (fun d ps hd hp=>by
    rw[zAf (by simp only[zAa];omega),zAf (by simp only[zBD];omega)] at hp;exact⟨ps,hp,rfl⟩)
   obtain⟨e2,E2,L2,k1,S2,k2,k3,k4⟩:=S1.layPart (i:=i) (g:=zAa) hd (by omega) (bi _) (fun ps hp=>by
    rw[zAf (by simp only[zAa];omega),zAf (by simp only[zBD];omega)] at hp;exact hE ps hp) (by rw[zAi,S.env _ hvg];exact h)
   have ja:∀ t,t<zAa->upd (upd rv zAa (rv (zBD s i))) (zBD d i) (upd rv zAa (rv (zBD s i)) zAa) t=if t=zBD d i then rv (zBD s i) else rv t:=by
    intro t ht;by_cases vN:t=zBD d i
    ·subst vN;rw[zAi,zAi,if_pos rfl]
    ·rw[zAf vN,zAf (by omega),if_neg vN]
   have yL:∀ x j,x<nt->j<16->zBD x j<zAa:=by intro x j hx hj;simp only[zBD,zAa];omega
   refine zIy hd hs n (i+1) S2 (fun t ht=>?_) k2 (by omega) (by omega) (fun j hj=>?_) (fun j hj1 hj2=>?_) k1
   ·by_cases yu:t=zAa
    ·subst yu;exact k3
    ·rw[k4 t ht yu (by rw[zAf yu,zAf (by omega),hb t ht];simp[PV.ways]),zAf yu,zAf (by omega)];exact hb t ht
   ·rw[ja _ (yL d j hd (by omega))];by_cases wW:j=i
    ·subst wW;rw[if_pos rfl];exact h2 j (by omega) (by omega)
    ·rw[if_neg fun hc=>wW (zHo hc (by omega) (by omega)).2];exact h1 j (by omega)
   ·rw[ja _ (yL s j hs (by omega)),if_neg fun hc=>by have:=(zHo hc (by omega) (by omega)).2;omega];exact h2 j (by omega) (by omega)
theorem zWX(S:St w0 U Φ0 nt hv a w e Φ rv E L)(hb:zBz E){d:ON}(hd:∀ x,d=some x->x<nt){t:TypeId}{x:Operand}(hx:zAZ nt x=true)(h:(zSd P d t x).run o e=some e'):Fr w0 U Φ0 nt hv (a.put d (a.eval x)) w e':=by
 have gen:(opd x (put d)).run o e=some e'->Fr w0 U Φ0 nt hv (a.put d (a.eval x)) w e':=by
  intro h;obtain⟨p,h1,h2⟩:=zBC S hx h;exact zAE S hb hd h1 h2
 simp only[zSd] at h;split at h
 ·simp only[zUe] at h;split at h
  ·exact zAE S hb hd h (.inl ⟨rfl,rfl,rfl⟩)
  ·cases h
 ·rename_i s;have hs:s<nt:=zCh hx;have kB:=S.small;have yn:(s:Nat)<zAa:=bH hs (bF S.small (by decide));simp only[zNq] at h;split at h
  ·rename_i ts d' _;simp only[PM.run] at h;split at h
   ·cases h
   ·split at h
    ·rename_i ps y6;obtain⟨⟨hZ,LB⟩,h1⟩:=zDt h;simp only[PM.run] at h1;have hE:E s = .tup ps:=by rw[S.env s yn,y6]
     have hX:=S.conf.rep s;rw[hE] at hX;obtain⟨vs,uC,hr⟩:=hX;have kI:vs.size=ps.length:=by have:=hr.length;simpa using this
     have je:a.eval (.tmp s) = .tuple vs:=by rw[<- uC];exact S.tmps s hs
     obtain⟨L',S1⟩:=S.empty (hd d' rfl);rw[je];refine zIy (vs:=vs) (hd d' rfl) hs ts.size 0 S1 (fun g hg=>?_) (fun ps hp=>by rw[zAi] at hp;cases hp) (by omega) (by omega) (fun j hj=>by omega) (fun j _ hj=>?_) h1
     ·rw[zAf (by have:=hd d' rfl;simp only[zAa] at hg;omega)];exact hb g hg
     ·obtain⟨_,us,g1,g2⟩:=S.parts s ps j hs hE (by omega);rw[uC] at g1;cases g1;exact g2
    ·cases h
  ·exact gen h
 ·exact gen h
theorem zFk{d:Nat}(hd:d<nt){vs:Array Value}:∀ (ps:List PV) (i:Nat) {e:Env} {rv:Nat->Value} {E:Nat->PV} {L:Nat->LN},St w0 U Φ0 nt hv a w e Φ rv E L->(∀ ps,E d ≠ .tup ps)->i+ps.length<=16->vs.size=i+ps.length ->
  (∀ j p,ps[j]? = some p->E (zAa+i+j)=p/\vs[i+j]? = some (rv (zAa+i+j)))->(∀ g,zAa<=g->(∀ j,j<ps.length->g≠zAa+i+j)->E g = .bad)->(∀ x∈zBE ps,zJO d x.1=false) ->
  (∀ j,j<i->vs[j]? = some (rv (zBD d j)))->(zFe d i ps .ok).run o e=some e'->Fr w0 U Φ0 nt hv (a.put (some d) (.tuple vs)) w e'
 |[],i,e,rv,E,L,S,hE,LB,yG,hp,hb,hw,h1,h=>by
  simp only[zFe,PM.run,ba] at h;subst h;exact S.mark (fun g hg=>hb g hg (by simp)) hd (by simpa using LB) (by simpa using yG) h1
 | p :: ps,i,e,rv,E,L,S,hE,LB,yG,hp,hb,hw,h1,h=>by
  have kB:=S.small;simp only[b9] at LB yG;obtain⟨q1,q2⟩:=hp 0 p rfl;simp only[bL] at q1 q2;simp only[zFe] at h;rw[<- q1] at h;obtain⟨e2,E2,L2,k1,S2,k2,k3,k4⟩:=S.layPart (i:=i) (g:=zAa+i) hd (by omega) (by omega) hE h;have hvd:zBD d i<zAa:=by simp only[zBD,zAa];omega
  have hinp:∀ j,j<16->zJO d (zBD d j)=true:=by
   intro j hj;simp only[zJO,bb];exact⟨cP (by simp only[zBD];omega),cP (by simp only[zBD];omega)⟩
  have hkeep:∀ j p',ps[j]? = some p'->E2 (zAa+(i+1)+j)=p':=by
   intro j p' hj;obtain⟨q3,_⟩:=hp (j+1) p' (by simpa using hj);have e1:zAa+i+(j+1)=zAa+(i+1)+j:=by omega
   rw[e1] at q3;rw[k4 _ (by omega) (by omega) (fun x hx hc=>?_),q3];rw[q3] at hx;have:=hw x (by
    simp only[zBE,bg];exact .inr (zNe (bG hj) hx))
   rw[hc,hinp i (by omega)] at this;cases this
  refine zFk hd ps (i+1) S2 k2 (by omega) (by omega) (fun j p' hj=>⟨hkeep j p' hj,?_⟩) (fun g hg hI=>?_) (fun x hx=>hw x (by simp[zBE,hx])) (fun j hj=>?_) k1
  ·obtain⟨_,q4⟩:=hp (j+1) p' (by simpa using hj);have e1:zAa+i+(j+1)=zAa+(i+1)+j:=by omega
   have e2:i+(j+1)=i+1+j:=by omega
   rw[e1,e2] at q4;rw[zAf (by omega)];exact q4
  ·by_cases vU:g=zAa+i
   ·subst vU;exact k3
   ·have vj:E g = .bad:=hb g hg fun j hj hc=>by
     cases j with
     |zero=>exact vU (by simpa using hc)|succ j=>exact hI j (by simpa using hj) (by omega)
    rw[k4 g hg vU (by rw[vj];simp[PV.ways]),vj]
  ·by_cases wW:j=i
   ·subst wW;rw[zAi];exact q2
   ·rw[zAf fun hc=>wW (zHo hc (by omega) (by omega)).2];exact h1 j (by omega)
end
end Go.Eng
namespace Go.Eng
open Go
section
variable {P:Program} {w0 w:World} {U Φ0 Φ:Nat->Prop} {nt:Nat} {hv:Hid} {a:Act} {e e':Env} {rv:Nat->Value} {E:Nat->PV} {L:Nat->LN} {o:zAM} {A:Al}
theorem zP3{r:Nat}{pre:zA4}{z lo n i:Nat}{sh:ON}{v:Value}(hp:Rep w Φ (zBb w rv E) (.bor r pre z lo n) v [])(yL:i<n) :
  ∃ b cap,v = .slice (some b) n cap/\b.spot=none/\Rep w Φ (zBb w rv E) (.addr r pre (lo+i) 0 sh) (.pointer (some (b.add (i*z)))) []:=by
 obtain⟨_,hg,⟨x,cap,rfl,yT,yX,yd⟩,hn⟩:=hp
 cases x with
 |none=>have:=yX rfl;omega
 | some b =>
  refine⟨b,cap,rfl,yd b rfl,rfl,hg,b.add (i*z),rfl,by rw[zCb (yd b rfl)];rfl,fun nv np hf a' ha=>?_⟩;have hh:np.heavy0=true:=by cases np<;>first|rfl|(simp[zBe] at ha;done)
  obtain⟨sz,xs,h3,h4,h5⟩:=hn nv np hf hh;subst h3;subst h4;cases nv<;>simp only[zBU] at h5;rename_i y l c
  cases y with
  |none=>cases ha|some y=>
   simp only[zBU,dl,ba] at h5;simp only[zBe,ba] at ha;rw[<- ha,zCb (yd b rfl),h5.1.1];simp[zAx,cK,b7]
theorem zKw{p:PV}(h:p.plain=true):∀ q∈p.cells,q.oneCell=true:=by
 have h0:∀ p:PV,p.plain0=true->p.oneCell=true:=by intro p h;cases p<;>first|rfl|cases h
 cases p<;>first|(intro q hq;simp only[PV.cells,bl] at hq;subst hq;exact h0 _ h)|skip
 rename_i cs;intro q hq;simp only[PV.plain,bj] at h;exact h0 q (h q hq)
theorem zLA{row:Array Value}{o:Nat}{xs ys:List Value}(h:o+xs.length+ys.length<=row.size):zBp (zBp row o xs) (o+xs.length) ys=zBp row o (xs++ys):=by
 apply Array.ext';simp only[zBp,bA];rw[cI (by simp;omega),bz (by simp;omega)];have:drop (o+xs.length+ys.length) (take o row.toList++xs++drop (o+xs.length) row.toList)=drop (o+(xs.length+ys.length)) row.toList:=by
  rw[fM,fI (by simp;omega)];simp;congr 1;omega
 rw[this];simp
theorem zLC{p:PV}(h:p.plain=true):p.heavy=false/\p.ways=[]:=by
 have h0:∀ p:PV,p.plain0=true->p.heavy=false/\p.ways=[]:=by
  intro p h;cases p<;>first|(cases h;done)|exact⟨rfl,rfl⟩|skip
  simp only[PV.plain0] at h;exact⟨rfl,by simpa[PV.ways] using h⟩
 cases p<;>first|exact h0 _ h|skip
 rename_i cs;simp only[PV.plain] at h;have key:∀ cs:List PV,cs.all PV.plain0=true->zDj cs=false/\zBE cs=[]:=by
  intro cs
  induction cs with
  |nil=>intro _;exact⟨rfl,rfl⟩|cons c cs ih=>
   intro h;simp only[cO,bb] at h;obtain⟨h1,h2⟩:=h0 c h.1;obtain⟨h3,h4⟩:=ih h.2;exact⟨by simp[zDj,h1,h3],by simp[zBE,h2,h4]⟩
 exact key cs h
theorem zMf{r:Nat}{pre:zA4}{z lo n:Nat}{v:Value}{k:PM}(hz:0<z):∀ (ys:List PV) (us:List Value) (j:Nat) {w:World} {e:Env} {rv:Nat->Value} {E:Nat->PV} {L:Nat->LN},St w0 U Φ0 nt hv a w e Φ rv E L->E (zAa+2) = .bor r pre z lo n->rv (zAa+2)=v->(∀ s,zAa<=s->s≠zAa+2->E s = .bad) ->
  (∀ y∈ys,y.plain=true/\y.cells.length=z)->(us.map zCu=ys.map PV.isAgg)->zBa w Φ zCp ys us []->j+ys.length<=n->(zGL r pre (lo+j) ys k).run o e=some e' ->
  ∃ w1 e1 rv1 E1 L1,k.run o e1=some e'/\St w0 U Φ0 nt hv a w1 e1 Φ rv1 E1 L1/\(∀ s,zAa<=s->s≠zAa+2->E1 s = .bad)/\(E1 (zAa+2) = .bor r pre z lo n/\rv1 (zAa+2)=v) /\
   (ys=[]/\w1=w\/∃ b cap row,v = .slice (some b) n cap/\b.spot=none/\zEw w b.block row/\b.off+j*z+(flat us).length<=row.size/\(∀ u∈flat us,u.oneCell'=true)/\w1=w.setRow b.block (zBp row (b.off+j*z) (flat us)))
 |[],us,j,w,e,rv,E,L,S,hE,ja,hb,hy,jl,hr,hl,h=>⟨w,e,rv,E,L,h,S,hb,⟨hE,ja⟩,.inl ⟨rfl,rfl⟩⟩
 | y :: ys,us,j,w,e,rv,E,L,S,hE,ja,hb,hy,jl,hr,hl,h=>by
  obtain⟨u,us',L1,L2,rfl,hL,uI,jP⟩:=hr;have wQ:=dw.1 hL.symm;obtain⟨rfl,rfl⟩:=wQ;simp only[bM,ff] at jl;simp only[zGL] at h;obtain⟨vV,hyz⟩:=hy y (by simp);obtain⟨kg,jB⟩:=zLC vV;have qg:=S.conf.rep (zAa+2);rw[hE,ja] at qg;have vS:L (zAa+2)=[]:=qg.1;rw[vS] at qg;obtain⟨b,cap,hv,y9,uO⟩:=zP3 (sh:=none) qg (i:=j) (by simp at hl;omega);have S1:=S.hold (g:=zAa) (bi _) (p:=y) (v:=u) (uI.mono zDq.refl (fun _ _ _ h=>h.elim) (by simp));have gN:=S1.conf.rep (zAa+2);rw[zAf (show zAa+2≠zAa by omega),zAf (show zAa+2≠zAa by omega),zAf (show zAa+2≠zAa by omega),hE,ja,vS] at gN;obtain⟨b0,cap0,ub,_,wX⟩:=zP3 (sh:=none) gN (i:=j) (by simp at hl;omega);rw[hv] at ub;simp only[dl,ba] at ub;rw[<- ub.1] at wX;obtain⟨b',row,e1,E1,L1,yJ,hsp',yB,yD,yN,h1,S2,jh,u6,hg3,jT⟩:=S1.write (g:=zAa) (bi _) wX (.inl (by rw[zAi];exact kg)) (by rw[zAi];exact zKw vV) (by rw[zAi,hyz];omega) (by rw[zAi,zAi];exact jl.1) (k:=zGL r pre (lo+(j+1)) ys k) (by rw[zAi];exact h);cases yJ;have hub:u.cells.size=z:=by
   have h1:us'.length=ys.length:=jP.length;have:=((uI.mono (A':=zCp) zDq.refl (fun _ _ _ h=>h) (by simp)).cellsAll jl.1).length;simpa[hyz] using this
  have jS:b.add (j*z)=⟨b.block,b.off+j*z,none⟩:=by rw[zCb y9];rfl
  rw[jS] at yB yD jT S2;rw[zAi] at yD yN S2;simp only at yB yD jT S2;have hnΦ:¬ Φ b.block:=(S1.conf.own _ _ jT).2.1;have wT:E1 (zAa+2) = .bor r pre z lo n:=by
   rw[hg3 _ (by omega) (by omega),zAf (show zAa+2≠zAa by omega),zAi,hE];show zDU _ _ _ _ _ _=_
   exact zJS (zKX) kg _
  obtain⟨w1,e2,rv2,E2,L2,k1,k2,k3,k3',k4⟩:=zMf hz ys us' (j+1) S2 wT (by rw[zAf (show zAa+2≠zAa by omega),ja]) (fun s hs hI=>by
   by_cases yn:s=zAa
   ·subst yn;exact jh
   ·exact u6 s hs yn (by rw[zAf yn];exact hb s hs hI)) (fun y u9=>hy y (by simp[u9])) jl.2 (jP.mono (fun b' yJ=>⟨yJ,setRow_other w _ _ _ (fun hc:b'=b.block=>hnΦ (hc▸yJ))⟩) (fun _ _ _ h=>h) (by simp)) (by simp at hl;omega) h1
  refine⟨w1,e2,rv2,E2,L2,k1,k2,k3,k3',.inr ⟨b,cap,row,hv,y9,yB,?_⟩⟩;have uK:flat (u::us')=u.cells.toList++flat us':=by simp[flat]
  have qd:u.cells.toList.length=z:=by simpa using hub
  rcases k4 with⟨rfl,rfl⟩|⟨b2,cap2,row2,uE,_,hrow2,uq,hone2,rfl⟩
  ·have:us'=[]:=bq (by have:=jP.length;simpa using this);subst this;rw[uK];simp only[flat,List.flatMap_nil,dn];refine⟨by rw[qd];omega,yN,?_⟩;first|rfl|trivial
  ·rw[hv] at uE;simp only[dl,ba] at uE;obtain⟨rfl,_⟩:=uE;have jM:zEw (w.setRow b.block (zBp row (b.off+j*z) u.cells.toList)) b.block (zBp row (b.off+j*z) u.cells.toList):=by
    obtain⟨el,yp⟩:=yB;exact⟨el,setRow_heap w _ _ _ el _ yp⟩
   have:row2=zBp row (b.off+j*z) u.cells.toList:=by
    obtain⟨e1,h1⟩:=jM;obtain⟨e2,h2⟩:=hrow2;rw[h1] at h2;cases h2;rfl
   subst this;rw[zG8 (by rw[qd];omega)] at uq;have uP:b.off+(j+1)*z=b.off+j*z+u.cells.toList.length:=by rw[qd,cK];omega
   rw[uP] at uq ⊢;refine⟨by rw[uK,bA];omega,fun x hx=>?_,?_⟩
   ·rw[uK] at hx;rcases bg.1 hx with h|h
    ·exact yN x h
    ·exact hone2 x h
   ·rw[setRow_setRow,zLA uq,uK]
end
end Go.Eng
namespace Go.Eng
open Go
section
variable {P:Program} {w:World}
theorem zEk{t t2 ty el e2:TypeId}{i:TypeInfo}(ht:P.underlying t=some (.slice el))(kh:P.underlying t2=some (.slice e2))(hi:P.info? el=some i){a xb:Option Addr}{sLen sCap n xc:Nat}{news:List Value}
  (vW:(Builtin.firstCells i.size n (.slice xb n xc)).run P w = .ok news.toArray w) (yD:sLen+n<=sCap) (w':World) (yC:∀ b,a=some b->(storeCells (b.add (sLen*i.size)) news).run P w = .ok () w') (jA:a=none->w'=w) :
  (Builtin.append_ #[t,t2] ty #[.slice a sLen sCap,.slice xb n xc]).run P w = .ok (.slice a (sLen+n) sCap) w':=by
 cases a with
 |none=>
  rw[jA rfl];simp[Builtin.append_,run_underlying ht,run_underlying kh,sizeOf,typeInfo,hi,Builtin.lenOf,yD,vW]
 |some b=>
  have:=yC b rfl;simp[Builtin.append_,run_underlying ht,run_underlying kh,sizeOf,typeInfo,hi,Builtin.lenOf,yD,vW,this]
theorem zGl{t t2 ty el e2:TypeId}{i:TypeInfo}{z:Value}(ht:P.underlying t=some (.slice el))(kh:P.underlying t2=some (.slice e2))(hi:P.info? el=some i)(hz:i.zero=some z){a xb:Option Addr}{sLen sCap n xc:Nat}{old news:List Value}
  (hold:(Builtin.firstCells i.size sLen (.slice a sLen sCap)).run P w.drew = .ok old.toArray w.drew) (vW:(Builtin.firstCells i.size n (.slice xb n xc)).run P w.drew = .ok news.toArray w.drew)
  (yD:¬ sLen+n<=sCap) (h32:sLen+n<=4294967296) (qh:i.bytes<=16384) :
  (Builtin.append_ #[t,t2] ty #[.slice a sLen sCap,.slice xb n xc]).run P w =
   .ok (.slice (some ⟨w.heap.size,0,none⟩) (sLen+n) (grownCap w (sLen+n) sCap el)) (w.drew.alloc (.cells (old.toArray++news.toArray++Builtin.zeroCells z.cells (grownCap w (sLen+n) sCap el-(sLen+n))) el)):=by
 have hgr':¬ (281474976710656<Builtin.nextslicecap (sLen+n) sCap*i.bytes):=by
  have h1:(sLen+n)*i.bytes<=4294967296*16384:=f9 h32 qh;have:=growslice_fits (need:=sLen+n) (old:=sCap) (bytes:=i.bytes) (by omega) (by omega);omega
 have h63':¬ (9223372036854775807<((sLen:Int)+(n:Int))):=by omega
 simp[Builtin.append_,run_underlying ht,run_underlying kh,sizeOf,typeInfo,zeroValue,hi,hz,Builtin.lenOf,yD,h63',hgr',Question.forced,hold,vW,newRow,grownCap];congr 2;apply Array.ext';simp[cx]
end
section
variable {P:Program} {w0 w:World} {U Φ0 Φ:Nat->Prop} {nt:Nat} {hv:Hid} {a:Act} {e e':Env} {rv:Nat->Value} {E:Nat->PV} {L:Nat->LN} {o:zAM}
structure Listed (w:World) (Φ:Nat->Prop) (v:Value) (ys:List PV) (us:List Value) (Ly:LN):Prop where
 val:∃ xb xc,v = .slice xb ys.length xc/\∀ sz,(∀ y∈ys,y.cells.length=sz)->∀ (P:Program) (w1:World),(∀ t,w1.cell? t=w.cell? t)->(Builtin.firstCells sz ys.length v).run P w1 = .ok (flat us).toArray w1
 reps:zBa w Φ zCp ys us Ly
 size:∀ sz,(∀ y∈ys,y.cells.length=sz)->∀ u∈us,u.cells.size=sz
 agg:us.map zCu=ys.map PV.isAgg
theorem zIU{b:Addr}{n xc sz:Nat}{us:List Value}(y9:b.spot=none){row:Array Value}(yB:zKe w b.block row)(hl:us.length=n)(yG:∀ u∈us,u.cells.size=sz)(h:seg row b.off (n*sz)=flat us)(P:Program)(w1:World)(hw:∀ t,w1.cell? t=w.cell? t) :
  (Builtin.firstCells sz n (.slice (some b) n xc)).run P w1 = .ok (flat us).toArray w1:=by
 refine run_firstCells_some w1 sz n b n xc (flat us) (by rw[zBy yG,hl]) fun j v hj=>?_;rw[hw];exact zIp y9 yB (by rw[zBy yG,hl];exact h) j v hj
theorem zEV{v:Value}{xb:Option Addr}{xc:Nat}(hv:v = .slice xb 0 xc):Listed w Φ v [] [] []:=by
 refine⟨⟨xb,xc,hv,fun sz _ P w1 _=>?_⟩,⟨rfl,rfl⟩,by simp,rfl⟩;subst hv
 cases xb with
 |none=>exact run_firstCells_none w1 sz 0 0 xc|some b=>exact run_firstCells_some w1 sz 0 b 0 xc [] (by simp) (by simp)
theorem zGs{A:Al}:∀ {ys:List PV} {us:List Value} {Ly:LN},(∀ y∈ys,y.plain=true)->zBa w Φ A ys us Ly->Ly=[]
 |[],_,_,_,h=>h.2|y::ys,us,Ly,hp,h=>by
  obtain⟨v,vs,L1,L2,rfl,rfl,h1,h2⟩:=h;rw[zDy _ _ _ (zLC (hp y (by simp))).1 h1,zGs (fun z hz=>hp z (by simp[hz])) h2];rfl
theorem zQt{c:Array Value}{o m n:Nat}(h:m<=n):seg c o m=(seg c o n).take m:=by
 simp only[seg,fF];rw[fU h]
theorem zMS (S:St w0 U Φ0 nt hv a w e Φ rv E L) {p:PV} {v:Value} (hp:Rep w Φ (zBb w rv E) p v []) {k:List PV->PM} (h:(zHM p k).run o e=some e'):∃ ys us Ly,(k ys).run o e=some e'/\Listed w Φ v ys us Ly:=by
  cases p<;>simp only[zHM] at h<;>try (cases h;done)
  case nils=>exact⟨[],[],[],h,zEV hp.1⟩
  case nn=>
    obtain⟨_,b,n,yI⟩:=hp;exact⟨[],[],[],h,zEV yI⟩
  case sl xs =>
    obtain⟨_,⟨rfl,b,n,yI,_⟩|⟨b,n,c,us,sz,yI,y9,yR,hΦ,yB,j7,⟨kF,wD⟩,ya,hr⟩⟩:=hp
    · exact⟨[],[],[],h,zEV yI⟩
    · have hl:us.length=xs.length:=by have:=congrArg length wD;simpa using this
      refine⟨xs,us,[],h,⟨some b,n,yI,fun sz' jV P w1 hw=>?_⟩,hr,fun sz' jV u hu=>?_,wD⟩
      · by_cases hx:xs=[]
        · subst hx;have:us=[]:=bq (by simpa using hl);subst this;subst yI;exact run_firstCells_some w1 sz' 0 b 0 n [] (by simp) (by simp)
        · obtain⟨y,ys,rfl⟩:=List.exists_cons_of_ne_nil hx;have:sz'=sz:=by rw[<- jV y (by simp),j7 y (by simp)]
          subst this;subst yI;exact zIU y9 yB hl kF ya P w1 hw
      · cases xs with
        | nil => have h0:us=[]:=bq (by simpa using hl)
                 rw[h0] at hu;cases hu
        |cons y ys=>rw[kF u hu,<- jV y (by simp),j7 y (by simp)]
  case bor r pre z lo n=>
    obtain⟨_,hr,_,hn⟩:=hp;obtain⟨q,hq,h1⟩:=zBW h;split at h1
    · rename_i sz xs;obtain⟨yR,h2⟩:=zAR h1;have yR:=br yR;rw[<- S.env r hr] at hq;obtain⟨nv,Li,hf,_,hX⟩:=zB1 (zCf (S.conf.rep r)) hq;obtain⟨sz2,xs2,g1,g2,g3⟩:=hn nv _ hf rfl;cases g1;subst g2;obtain⟨q1,q2,q3⟩|⟨x,m,c,us,M,q0,q1,q2,q3,q4,q5,q6,⟨q7,q7'⟩,q8,q9⟩:=hX
      · subst q1;subst q3;have kZ:n=0:=by simp at yR;omega
        subst kZ;simp only[zBU] at g3;refine⟨_,[],[],h2,?_⟩;simp only[List.drop_nil,List.take_nil];exact zEV g3.1
      · subst q1;simp only [zBU] at g3;obtain ⟨yI,yT⟩:=g3;have jG:us.length=xs.length:=by have:=congrArg length q7';simpa using this
        obtain⟨Ly,_,qY⟩:=zHa q9 lo n;have hZ:((xs.drop lo).take n).length=n:=by simp;omega
        have gO:((us.drop lo).take n).length=n:=by simp;omega
        refine⟨_,(us.drop lo).take n,Ly,h2,⟨_,_,by rw[hZ];exact yI,fun sz' jV P w1 hw=>?_⟩,qY,fun sz' jV u hu=>?_,zBa.map_isAgg q7' lo n⟩
        · rw[hZ,yI];by_cases kZ:n=0
          · subst kZ;simp only[dP];exact run_firstCells_some w1 sz' 0 _ 0 _ [] (by simp) (by simp)
          · have:sz'=z:=by
              cases j7:(xs.drop lo).take n with
              |nil=>rw[j7] at hZ;simp at hZ;omega
              | cons y ys =>
                have hy:y∈(xs.drop lo).take n:=by rw[j7];simp
                rw[<- jV y hy,q6 y (cq (cE hy))]
            subst this;exact zIU (b:=zAx x (lo*sz')) rfl q4.any gO (fun u hu=>q7 u (cq (cE hu))) (zIZ q7 jG q8 yR) P w1 hw
        · cases j7:(xs.drop lo).take n with
          | nil =>
            rw[j7] at hZ;have h0:(us.drop lo).take n=[]:=bq (by rw[gO];simpa using hZ.symm);rw[h0] at hu;cases hu
          | cons y ys =>
            have hy:y∈(xs.drop lo).take n:=by rw[j7];simp
            rw[q7 u (cq (cE hu)),<- jV y hy,q6 y (cq (cE hy))]
    · cases h1
  case bsl r pre i c sz ag n=>
    obtain⟨_,hr,b,cap,yI,yT,y9,hn⟩:=hp;simp only[PM.run] at h;split at h
    · rename_i g cs hq;rw[<- S.env r hr] at hq;obtain⟨nv,np,ad,us,h1,h2,h3,h4,h5,h6⟩:=S.conf.cells hr hq;have:=hn nv np h1 ad h2;subst this;obtain⟨hc,h7⟩:=zAR h;simp only[bb,zCA] at hc;obtain⟨⟨yO,kA⟩,vV⟩:=hc;have yO:=bc yO;have hw0:∀ (cs:List PV),cs.all (fun q=>q.plain0)=true->zBE cs=[]:=by
        intro cs
        induction cs with
        |nil=>intro _;rfl
        | cons c cs ih =>
          intro h;simp only[cO,bb] at h;have wF:c.ways=[]:=by
            have h0:=h.1;cases c<;>first|(cases h0;done)|rfl|skip
            simpa[PV.plain0,PV.ways] using h0
          simp[zBE,wF,ih h.2]
      have ur:zBa w Φ zCp cs us []:=h6.ways _ _ _ fun a v hw hx ha=>by
        rw[hw0 cs vV] at hx;have h1:=zJ2 hw ha
        cases vK:a.ways with
        |nil=>exact absurd vK h1|cons z zs=>have:=hx z (by rw[vK];simp);cases this
      obtain⟨us',q1,q2,q3,q4,q5⟩:=zGx (ag:=ag) (sz:=sz) (fun a v _ h=>h.elim) n cs us yO (fun jl=>by
        simp only[jl,co,bb] at kA;exact⟨bc kA.1,fun q hq=>bj.1 kA.2 q hq⟩) ur
      have hZ:=zEe ag sz n cs;refine⟨_,us',[],h7,⟨some b,cap,by rw[hZ];exact yI,fun sz' jV P w1 hw=>?_⟩,q1,fun sz' jV u hu=>?_,q4⟩
      · rw[hZ,yI,q2];by_cases kZ:n=0
        · subst kZ;have:us=[]:=bq (by rw[h4];simp);subst this;exact run_firstCells_some w1 sz' 0 b 0 cap [] (by simp) (by simp)
        · have:sz'=sz:=by
            cases j7:zCz ag sz n cs with
            |nil=>rw[j7] at hZ;simp at hZ;omega
            | cons y ys =>
              have hy:y∈zCz ag sz n cs:=by rw[j7];simp
              rw[<- jV y hy,q5 y hy]
          subst this;exact run_firstCells_some w1 sz' n b n cap us h4 (fun j v hj=>by rw[hw];exact h5 j v hj)
      · cases j7:zCz ag sz n cs with
        | nil =>
          have jG:us'.length=(zCz ag sz n cs).length:=q1.length;rw[j7] at jG;have h0:us'=[]:=bq (by simpa using jG);rw[h0] at hu;cases hu
        | cons y ys =>
          have hy:y∈zCz ag sz n cs:=by rw[j7];simp
          rw[q3 u hu,<- jV y hy,q5 y hy]
    · cases h
theorem zVN(S:St w0 U Φ0 nt hv a w e Φ rv E L){g:Nat}(hg:zAa<=g)(ul:E g = .bad){x:Operand}(hx:zAZ nt x=true){k:List PV->PM}(h:(zOp x k).run o e=some e') :
  ∃ e1 rv1 E1 L1 ys us Ly,(k ys).run o e1=some e'/\St w0 U Φ0 nt hv a w e1 Φ rv1 E1 L1/\zXM g rv rv1 E E1 L L1/\Listed w Φ (a.eval x) ys us Ly/\Ly.Nodup/\∀ b∈Ly,b∈L1 g:=by
 have hLg:L g=[]:=by have:=S.conf.rep g;rw[ul] at this;exact this
 have copy:∀ {p:PV},Rep w Φ (zBb w rv E) p (a.eval x) []->(zHM p fun xs=>if xs.all (fun x=>x.plain) then k xs else .fail).run o e=some e' ->
   ∃ e1 rv1 E1 L1 ys us Ly,(k ys).run o e1=some e'/\St w0 U Φ0 nt hv a w e1 Φ rv1 E1 L1/\zXM g rv rv1 E E1 L L1/\Listed w Φ (a.eval x) ys us Ly/\Ly.Nodup/\∀ b∈Ly,b∈L1 g:=by
  intro p hp h;obtain⟨ys,us,Ly,h1,h2⟩:=zMS S hp h;obtain⟨h3,h4⟩:=zDt h1;have:Ly=[]:=zGs (fun y hy=>bj.1 h3 y hy) h2.reps;subst this;exact⟨e,rv,E,L,ys,us,[],h4,S,fun _ _ _=>⟨rfl,rfl,rfl⟩,h2,b4,by simp⟩
 cases x with
 |const v=>simp only[zOp] at h;obtain⟨p,h1,h2⟩:=zBC S hx h;exact copy h2 h1
 |func f=>simp only[zOp] at h;obtain⟨p,h1,h2⟩:=zBC S hx h;exact copy h2 h1
 |global f=>cases h
 | tmp t =>
  have ht:(t:Nat)<nt:=zCh hx;have yu:(t:Nat)<zAa:=bH ht (bF S.small (by decide));have je:a.eval (.tmp t)=rv t:=S.tmps t ht;simp only[zOp,PM.run] at h;split at h
  ·cases h
  ·split at h
   ·rename_i sz xs uN;simp only[PM.run] at h;have hE:E t = .own sz xs:=by rw[S.env t yu,uN]
    have hc:=S.conf.take (s:=t) (g:=g) yu hg;have hgt:t≠g:=by intro hc;subst hc;exact absurd yu (Nat.not_lt.2 hg)
    have S1:=S.turn (e':=e.set t .bad) hc (fun s hs=>by
     rw[zAf (by omega),Env.get_set];by_cases yC:s=t
     ·subst yC;rw[zAi,if_pos rfl]
     ·rw[zAf yC,if_neg yC];exact S.env s hs) (fun s hs=>zAf (by omega)) (fun d ps hd hp=>by
     rw[zAf (by simp only[zAa] at hg;omega)] at hp;by_cases hdt:d=t
     ·subst hdt;rw[zAi] at hp;cases hp
     ·rw[zAf hdt] at hp;exact⟨ps,hp,rfl⟩)
    have hX:=S.conf.rep t;rw[hE] at hX;have yV:=S.conf.nodup t;have uQ:zXM g rv (upd rv g (rv t)) E (upd (upd E t .bad) g (E t)) L (upd (upd L t []) g (L t)):=by
     intro s hs hI;have yC:s≠t:=by intro hc;subst hc;exact absurd yu (Nat.not_lt.2 hs)
     rw[zAf hI,zAf hI,zAf hI,zAf yC,zAf yC];exact⟨rfl,rfl,rfl⟩
    rw[je];obtain⟨q1,q2,q3⟩|⟨x,m,c,us,M,q0,q1,q2,q3,q4,q5,q6,⟨q7,q7'⟩,q8,q9⟩:=hX
    ·subst q1;exact⟨_,_,_,_,[],[],[],h,S1,uQ,zEV q3,b4,by simp⟩
    ·have jG:us.length=xs.length:=by have:=congrArg length q7';simpa using this
     rw[q0] at yV;refine⟨_,_,_,_,xs,us,M,h,S1,uQ,⟨⟨some x,m,q1,fun sz' jV P w1 hw=>?_⟩,q9,fun sz' jV u hu=>?_,q7'⟩,(cv.1 yV).2,fun b hb=>by rw[zAi,q0];simp[hb]⟩
     ·rw[q1]
      cases xs with
      |nil=>
       have h0:us=[]:=bq (by simpa using jG);subst h0;exact run_firstCells_some w1 sz' 0 x 0 m [] (by simp) (by simp)
      |cons y ys=>
       have:sz'=sz:=by rw[<- jV y (by simp),q6 y (by simp)]
       subst this;exact zIU q2 q4.any jG q7 q8 P w1 hw
     ·cases xs with
      |nil=>
       have h0:us=[]:=bq (by simpa using jG);rw[h0] at hu;cases hu
      |cons y ys=>rw[q7 u hu,<- jV y (by simp),q6 y (by simp)]
   ·simp only[PM.run] at h;have hv:=S.conf.view yu;rw[S.env t yu] at hv;exact copy (by rw[je];exact hv) h
theorem zR7{A:Al}{w':World}{z:Value}{sz len m cap:Nat}{xs ys:List PV}{us uys:List Value}{M Ly:LN}(hz:z.cells.size=sz)(hZ:us.length=len)(hm:uys.length=m)(vh:xs.length=len)(kQ:ys.length=m)
  (j7:∀ x∈xs,x.cells.length=sz) (gP:∀ y∈ys,y.cells.length=sz) (wH:∀ u∈us,u.cells.size=sz) (qi:∀ u∈uys,u.cells.size=sz) (jl:us.map zCu=xs.map PV.isAgg) (LD:uys.map zCu=ys.map PV.isAgg)
  (hr:zBa w' Φ zCp xs us M) (qY:zBa w' Φ zCp ys uys Ly) (yT:len+m<=cap) {b:Nat} (yB:zEw w' b ((flat us).toArray++(flat uys).toArray++Builtin.zeroCells z.cells (cap-(len+m)))) :
  Rep w' Φ A (.own sz (xs++ys)) (.slice (some ⟨b,0,none⟩) (len+m) cap) (b::(M++Ly)):=by
 have uK:(flat us++flat uys).length=(len+m)*sz:=by rw[bA,zBy wH,zBy qi,hZ,hm,cK]
 refine .inr ⟨⟨b,0,none⟩,cap,_,us++uys,M++Ly,rfl,by simp[vh,kQ],rfl,by simp[vh,kQ,yT],yB,?_,fun x hx=>?_,⟨fun u hu=>?_,by simp[jl,LD]⟩,?_,hr.append qY⟩
 ·simp only[Array.size_append,size_zeroCells,hz];have h1:=congrArg (·) uK;simp at uK;have:(len+m)*sz+(cap-(len+m))*sz=cap*sz:=by rw[<- cK];congr 1;omega
  simp;omega
 ·rcases bg.1 hx with h|h
  ·exact j7 x h
  ·exact gP x h
 ·rcases bg.1 hu with h|h
  ·exact wH u h
  ·exact qi u h
 ·rw[zC8,bA,vh,kQ];simp only[seg,dY,Array.toList_append];rw[<- uK];exact List.take_left
theorem zPH:∀ {ys:List PV} {us:List Value} {Ly:LN},zBa w Φ zCp ys us Ly->us.map zCu=ys.map PV.isAgg->(∀ y∈ys,∀ q∈y.cells,q.oneCell=true)->∀ u∈flat us,u.oneCell'=true
 |[],us,Ly,h,_,_,u,hu=>by rw[h.1] at hu;cases hu
 | y :: ys,us,Ly,h,ha,ho,u,hu=>by
  obtain⟨v,vs,L1,L2,rfl,rfl,h1,h2⟩:=h;simp only[bM,ff] at ha;rw[zCD] at hu;rcases bg.1 hu with hu|hu
  ·have hc:=h1.cellsAll ha.1;obtain⟨j,hj⟩:=cj hu;have y5:j<y.cells.length:=by rw[<- hc.length];exact(bf.1 hj).1
   obtain⟨v',La,Li',Lb,yI,_,jd,_⟩:=hc.split (i:=j) (bk y5);rw[hj] at yI;cases yI;exact zCq (fun a v _ h=>h.elim) jd (ho y (by simp) _ (cC y5))
  ·exact zPH h2 ha.2 (fun z hz=>ho z (by simp[hz])) u hu
theorem St.made(S:St w0 U Φ0 nt hv a w e Φ rv E L)(hb:∀ s,zAa+3<=s->E s = .bad){d:ON}(hd:∀ x,d=some x->x<nt){w':World}{p:PV}{v:Value}{Lp:LN}(hr:∀ A:Al,Rep w' Φ A p v Lp)(ua:Lp.Nodup)
  (ho:∀ b∈Lp,(∃ t,zAa<=t/\t<zAa+3/\b∈L t)\/(w.heap.size<=b/\b<w'.heap.size)) (hw:w.heap.size<=w'.heap.size)
  (hk:∀ b,b<w.heap.size->(∀ t,zAa<=t->t<zAa+3->b∉L t)->w'.heap[b]? = w.heap[b]?) (u7:w'.os=w.os/\w'.tape=w.tape/\w'.output=w.output) (h:(put d p).run o e=some e') :
  Fr w0 U Φ0 nt hv (a.put d v) w' e':=by
 have hG:∀ s,decide (zAa<=s/\s<zAa+3)=true↔zAa<=s/\s<zAa+3:=fun s=>decide_eq_true_iff
 have hc:=S.conf.make (w':=w') (fun s=>decide (zAa<=s/\s<zAa+3)) (fun s hs=>((hG s).1 hs).1) (g:=zAa+3) (by omega) (fun A _=>hr A) ua
  (fun b hb=>(ho b hb).imp (fun⟨t,h1,h2,h3⟩=>⟨t,h3,(hG t).2 ⟨h1,h2⟩⟩) id) hw
  (fun b hb hn=>hk b hb fun t h1 h2 h3=>by have:=hn t h3;rw[(hG t).2 ⟨h1,h2⟩] at this;cases this) u7
 have S1:=S.turn (e':=e) hc (fun s hs=>by
  rw[zAf (by omega)];have:decide (zAa<=s/\s<zAa+3)=false:=decide_eq_false (by omega);simp only[this,bp,if_false];exact S.env s hs) (fun s hs=>zAf (by omega)) (fun d ps hd hp=>by
  rw[zAf (by simp only[zAa];omega)] at hp;have:decide (zAa<=d/\d<zAa+3)=false:=decide_eq_false (by simp only[zAa];omega);simp only[this,bp,if_false] at hp;exact⟨ps,hp,rfl⟩)
 have:=zF0 S1 hd (g:=zAa+3) (by omega) (by rw[zAi];exact h) (fun s hs hI=>by
  rw[zAf hI];by_cases h3:s<zAa+3
  ·have:decide (zAa<=s/\s<zAa+3)=true:=(hG s).2 ⟨hs,h3⟩;simp[this]
  ·have:decide (zAa<=s/\s<zAa+3)=false:=decide_eq_false (by omega);simp only[this,bp,if_false];exact hb s (by omega))
 rwa[zAi] at this
theorem St.regrown(S:St w0 U Φ0 nt hv a w e Φ rv E L)(hb:∀ s,zAa+3<=s->E s = .bad){d:ON}(hd:∀ x,d=some x->x<nt){z:Value}{el:TypeId}{sz len m cap:Nat}{xs ys:List PV}{us uys:List Value}{M Ly:LN}(hz:z.cells.size=sz)(hZ:us.length=len)(hm:uys.length=m)(vh:xs.length=len)(kQ:ys.length=m)
  (j7:∀ x∈xs,x.cells.length=sz) (gP:∀ y∈ys,y.cells.length=sz) (wH:∀ u∈us,u.cells.size=sz) (qi:∀ u∈uys,u.cells.size=sz) (jl:us.map zCu=xs.map PV.isAgg) (LD:uys.map zCu=ys.map PV.isAgg)
  (hr:zBa w Φ zCp xs us M) (qY:zBa w Φ zCp ys uys Ly) (yT:len+m<=cap) (gQ:∀ b∈M,b∈L (zAa+1)) (gR:∀ b∈Ly,b∈L zAa) (hMn:M.Nodup) (hLn:Ly.Nodup) (h:(put d (.own sz (xs++ys))).run o e=some e') :
  Fr w0 U Φ0 nt hv (a.put d (.slice (some ⟨w.heap.size,0,none⟩) (len+m) cap)) (w.drew.alloc (.cells ((flat us).toArray++(flat uys).toArray++Builtin.zeroCells z.cells (cap-(len+m))) el)) e':=by
 have hold:∀ t,t<w.heap.size->(w.drew.alloc (.cells ((flat us).toArray++(flat uys).toArray++Builtin.zeroCells z.cells (cap-(len+m))) el)).heap[t]? = w.heap[t]?:=fun t ht=>by
  show(w.heap.push _)[t]? = _
  rw[d9,if_neg (by omega)]
 have hΦ:zDq w (w.drew.alloc (.cells ((flat us).toArray++(flat uys).toArray++Builtin.zeroCells z.cells (cap-(len+m))) el)) Φ Φ:=fun t ht=>⟨ht,hold t (S.conf.frz t ht).1⟩;refine S.made hb hd (Lp:=w.heap.size::(M++Ly)) (fun A=>zR7 hz hZ hm vh kQ j7 gP wH qi jl LD (hr.mono hΦ (fun _ _ _ h=>h) fun b hb=>hold b (S.conf.own _ b (gQ b hb)).1) (qY.mono hΦ (fun _ _ _ h=>h) fun b hb=>hold b (S.conf.own _ b (gR b hb)).1) yT ⟨el,?_⟩) ?_ (fun b hb=>?_) ?_ (fun b hb _=>hold b hb) ⟨rfl,rfl,rfl⟩ h
 ·show(w.heap.push _)[w.heap.size]? = _
  simp
 ·refine cv.2 ⟨fun hm=>?_,?_⟩
  ·rcases bg.1 hm with hm|hm
   ·exact absurd (S.conf.own _ _ (gQ _ hm)).1 (fK _)
   ·exact absurd (S.conf.own _ _ (gR _ hm)).1 (fK _)
  ·rw[bI];exact⟨hMn,hLn,fun x hx y hy e=>S.conf.disj (zAa+1) zAa (by omega) x (gQ x hx) (e▸gR y hy)⟩
 ·rcases bv.1 hb with rfl|hb
  ·exact .inr ⟨bi _,by show _<(w.heap.push _).size;simp⟩
  ·rcases bg.1 hb with hb|hb
   ·exact .inl ⟨zAa+1,by omega,by omega,gQ b hb⟩
   ·exact .inl ⟨zAa,by omega,by omega,gR b hb⟩
 ·show _<=(w.heap.push _).size
  simp
theorem zOq(S1:St w0 U Φ0 nt hv a w e Φ rv E L)(yr:∀ s,zAa<=s->s≠zAa->s≠zAa+2->E s = .bad){d:ON}(hd:∀ x,d=some x->x<nt){t t2 ty el e2:TypeId}{i:TypeInfo}{vx vy:Value}{r:Nat}{pre:zA4}{zz lo n s sz:Nat}{xs ys:List PV}{uys:List Value}{Ly:LN}{xb:Option Addr}{xc:Nat}
  (hE2:E (zAa+2) = .bor r pre zz lo n) (hrv2:rv (zAa+2)=vx) (LE:(Builtin.firstCells sz ys.length (.slice xb ys.length xc)).run P w = .ok (flat uys).toArray w) (jW:zBa w Φ zCp ys uys Ly) (kL:∀ y∈ys,y.cells.length=sz) (kM:uys.map zCu=ys.map PV.isAgg)
  (hq:zAC (E r).unlock pre=some (.own s xs)) (hs:s=sz) (ht:P.underlying t=some (.slice el)) (kh:P.underlying t2=some (.slice e2)) (hi:P.info? el=some i) (yx:i.size=sz) (vk:vy = .slice xb ys.length xc) (uo:beq (lo+n) xs.length=false)
  (h:(zLR d r pre zz lo n s xs ys).run o e=some e'):∃ v w',(Builtin.append_ #[t,t2] ty #[vx,vy]).run P w = .ok v w'/\Fr w0 U Φ0 nt hv (a.put d v) w' e':=by
 subst hs;obtain⟨hc,h1⟩:=zAR h;simp only[bb,bj] at hc;obtain⟨⟨⟨c1,c2⟩,c3⟩,c4⟩:=hc;have c1:=zCh c1;have c2:=bc c2;have c3:=br c3;subst c2;have gR:Ly=[]:=zGs c4 jW;subst gR;have h2:=S1.conf.drop fun s=>s==zAa;have S2:=S1.turn (e':=e) h2 (fun s hs=>by
  have:(s==zAa)=false:=by simp;omega
  simp only[this,bp,if_false];exact S1.env s hs) (fun _ _=>rfl) (fun d ps hd hp=>by
  have:(d==zAa)=false:=by simp only[zAa,beq_eq_false_iff_ne];omega
  simp only[this,bp,if_false] at hp;exact⟨ps,hp,rfl⟩)
 have hp:=S2.conf.rep (zAa+2);have u6:((zAa+2:Nat)==zAa)=false:=by simp
 simp only[u6,bp,if_false] at hp;rw[hE2,hrv2] at hp;obtain⟨_,hr,⟨b,cap,yI,yT,qK,kN⟩,hn⟩:=hp;have j2:(r==zAa)=false:=by simp;omega
 obtain⟨nv,Li,hf,_,hX⟩:=zB1 (zCf (S2.conf.rep r)) (by simp only[j2,bp,if_false];exact hq);obtain⟨sz2,xs2,g1,g2,g3⟩:=hn nv _ hf rfl;cases g1;obtain⟨q1,q2,q3⟩|⟨x,m,c,us,M,q0,q1,q2,q3,q4,q5,q6,⟨q7,q7'⟩,q8,q9⟩:=hX
 ·subst q1;have:lo+n=0:=by simp at c3;omega
  rw[this] at uo;cases uo
 ·subst q1;simp only[zBU] at g3;obtain⟨g3,g4⟩:=g3;have hZ:lo+n+ys.length<=m:=by omega
  have hw:Rep w Φ (zBb w rv fun s=>if (s==zAa)=true then .bad else E s) (.bor r pre zz lo (n+ys.length)) (.slice (some (zAx x (lo*zz))) (n+ys.length) (m-lo)) []:=by
   refine⟨rfl,hr,⟨_,_,rfl,by omega,by simp,fun b hb=>by simp only[ba] at hb;rw[<- hb];rfl⟩,fun nv' np' yw hh=>?_⟩;rw[hf] at yw;cases yw;exact⟨_,_,rfl,rfl,rfl,by omega⟩
  have S3:=S2.hold (g:=zAa+2) (by omega) hw;obtain⟨w1,e1,rv1,E1,L1,k1,S4,k3,⟨k5,k6⟩,k4⟩:=zMf (z:=zz) (lo:=lo) (n:=n+ys.length) (v := .slice (some (zAx x (lo*zz))) (n+ys.length) (m-lo)) c1 ys uys n S3 zAi zAi (fun s hs hI=>by
   rw[zAf hI];by_cases yn:s=zAa
   ·subst yn;simp
   ·have:(s==zAa)=false:=by simpa using yn
    simp only[this,bp,if_false];exact yr s hs yn hI) (fun y hy=>⟨c4 y hy,kL y hy⟩) kM jW (bi _) h1
  have yM:=zF0 S4 hd (g:=zAa+2) (by omega) (by rw[k5];exact k1) k3;rw[k6] at yM;refine⟨_,w1,?_,yM⟩;rw[g3,vk];have yD:n+ys.length<=m-lo:=by omega
  rcases k4 with⟨rfl,rfl⟩|⟨b',cap',row,uE,y9,yB,hrm,yN,rfl⟩
  ·have jG:uys=[]:=bq (by have:=jW.length;simpa using this);subst jG;exact zEk (i:=i) ht kh hi (by rw[yx];exact LE) yD w1 (fun b hb=>by simp[storeCells,flat]) (by simp)
  ·simp only[dl,ba] at uE;obtain⟨rfl,_,_⟩:=uE;obtain⟨et,jt⟩:=yB;have yC:=run_storeCells_at (P:=P) (zAx x (lo*zz)).block ((zAx x (lo*zz)).off+n*zz) et (flat uys) 0 row w jt (by simpa using hrm) yN;simp only[bL] at yC;have LF:(zAx x (lo*zz)).add (n*zz)=⟨(zAx x (lo*zz)).block,(zAx x (lo*zz)).off+n*zz,none⟩:=by rw[zCb rfl];rfl
   exact zEk (i:=i) ht kh hi (by rw[yx];exact LE) yD _ (fun b hb=>by cases hb;rw[yx,LF];exact yC) (by simp)
theorem zRR (S:St w0 U Φ0 nt hv a w e Φ rv E L) (hb:zBz E) {d:ON} (hd:∀ x,d=some x->x<nt) {t t2 ty:TypeId} {x y:Operand} (hx:zAZ nt x=true) (hy:zAZ nt y=true)
  (h:(zBB P d .append [t,t2] [x,y]).run o e=some e'):∃ v w',(Builtin.append_ #[t,t2] ty #[a.eval x,a.eval y]).run P w = .ok v w'/\Fr w0 U Φ0 nt hv (a.put d v) w' e':=by
 simp only[zBB] at h
 cases j9:(zB5 P t2).isNone with
 |true=>rw[j9] at h;cases h|false=>
 rw[j9] at h;simp only[cond_false] at h;have kh:∃ e2,P.underlying t2=some (.slice e2):=by
  cases he:zB5 P t2 with
  |none=>rw[he] at j9;cases j9|some e2=>exact⟨e2,zCO he⟩
 obtain⟨e2,kh⟩:=kh;split at h
 ·rename_i sz by_ z yG qh hzz;obtain⟨⟨hby16,kj⟩,h1⟩:=zDt h
  cases yp:zB5 P t with
  |none=>rw[yp] at yG;cases yG
  | some el =>
   rw[yp] at yG qh hzz;simp only[bd] at yG qh hzz;have ht:=zCO yp;obtain⟨i,hi,yx⟩:=zCx yG;have hib:i.bytes=by_:=by simp only[zIn,hi,bu,ba] at qh;exact qh
   obtain⟨i2,z0,wC,kd,_,kb⟩:=zDW hzz;rw[hi] at wC;cases wC;have qj:z0.cells.size=sz:=by rw[(zCt (w:=w) (Φ:=Φ) (A:=zCp) kb).2.1,kj]
   obtain⟨p,h2,hp⟩:=zBC S hx h1;have S0:=S.hold (g:=zAa+2) (by omega) hp;obtain⟨e1,rv1,E1,L1,ys,uys,Ly,h3,S1,uQ,km,qk,hLyg⟩:=zVN S0 (g:=zAa) (bi _) (by rw[zAf (show zAa≠zAa+2 by omega)];exact hb _ (bi _)) hy h2;obtain⟨⟨xb,xc,vk,yS⟩,jW,wY,kM⟩:=km;simp only[zL4] at h3;obtain⟨hc,h4⟩:=zAR h3;simp only[bb] at hc;have kL:∀ q∈ys,q.cells.length=sz:=fun q hq=>by
    have:=bj.1 hc.1 q hq;simp only[bb] at this;exact bc this.1
   have uR:=wY sz kL;have vl:uys.length=ys.length:=jW.length;have j8:=uQ (zAa+2) (by omega) (by omega);rw[zAi,zAi,zAi] at j8;have uS:=S1.conf.rep (zAa+2);rw[j8.1,j8.2.1,j8.2.2] at uS;have kR:∀ s,zAa<=s->s≠zAa->s≠zAa+2->E1 s = .bad:=fun s hs h1 h2=>by rw[(uQ s hs h1).1,zAf h2];exact hb s hs
   have yN:∀ u∈flat uys,u.oneCell'=true:=zPH jW kM fun q hq z hz=>by
    have:=bj.1 hc.1 q hq;simp only[bb] at this;exact bj.1 this.2 z hz
   have yr:∀ s,zAa+3<=s->E1 s = .bad:=fun s hs=>kR s (by omega) (by omega) (by omega);have gS:∀ t,w.drew.cell? t=w.cell? t:=fun t=>rfl;have hfd:=yS sz kL P w.drew gS;have LE:=yS sz kL P w (fun _=>rfl);rw[vk] at hfd LE;split at h4
   ·rename_i r pre zz lo n;obtain⟨q,hq,h5⟩:=zBW h4;split at h5
    ·rename_i s xs;obtain⟨jJ,h6⟩:=zAR h5
     cases uo:beq (lo+n) xs.length with
     |false=>
      rw[uo] at h6;simp only[cond_false] at h6;simp only[bb] at jJ;exact zOq S1 kR hd j8.1 j8.2.1 LE jW kL kM (by rw[S1.env r uS.2.1];exact hq) (bc jJ.1.1) ht kh hi yx vk uo h6
     |true=>
     rw[uo] at h6;have h7:=h6;simp only[cond_true] at h7;obtain⟨hc4,h8⟩:=zAR h7;simp only[bb] at jJ;have hs:=bc jJ.1.1;have jb:=br jJ.2;have qL:=bc uo;have uM:=bc hc4;subst hs;subst uM;have wG:n=xs.length:=by omega
     subst wG;obtain⟨root,hl,hm,h9⟩:=zCa h8;have hr:r<zAa:=uS.2.1;have yF:=zBQ hl;rw[yF,<- S1.env r hr] at hq;rw[<- S1.env r hr] at yF hm;obtain⟨kk1,kk2⟩:=zB0 (q' := .bad) rfl rfl hm;obtain⟨nv,Li,g1,g2,g3,g4,g5⟩:=S1.taken (g:=zAa+1) (by omega) hr yF hq rfl hm kk1 kk2;have yy:zBU (a.eval x) nv s 0 xs.length:=by
      obtain⟨_,_,_,hn⟩:=uS;obtain⟨s2,xs2,q1,q2,q3⟩:=hn nv _ (by rw[yF];exact g1) rfl;cases q1;subst q2;exact q3
     obtain⟨L2,S2,vS⟩:=g5 _ nv Li g2 g3 (fun b hb=>.inl hb);have ut:∀ t,zAa+3<=t->upd (upd E1 r root) (zAa+1) (own s xs) t = .bad:=fun t ht=>by
      rw[zAf (by omega),zAf (by omega)];exact yr t ht
     have vm:∀ b∈Ly,b∈L2 zAa:=fun b hb=>by rw[vS zAa (bi _) (by omega)];exact hLyg b hb
     have hg1r:zAa+1≠r:=by omega
     have hLi2:Rep w Φ (zBb w (upd rv1 (zAa+1) nv) (upd (upd E1 r root) (zAa+1) (.own s xs))) (.own s xs) nv (L2 (zAa+1)):=by
      have:=S2.conf.rep (zAa+1);rwa[zAi,zAi] at this
     have hLiE:Li=L2 (zAa+1):=Rep.uniq _ _ _ _ g2 hLi2;obtain⟨q1,q2,q3⟩|⟨b,cap,c,us,M,q0,q1,q2,q3,q4,q5,q6,⟨q7,q7'⟩,q8,q9⟩:=g2
     ·
      subst q1;subst q3;have ub:a.eval x = .slice none 0 0:=yy.1;rw[ub,vk];by_cases hy0:ys.length=0
      ·have hyn:ys=[]:=bq hy0;subst hyn;have hun:uys=[]:=bq (by simpa using vl);subst hun;refine⟨_,w,zEk (i:=i) ht kh hi (by rw[yx];exact LE) (by simp) w (by simp) (fun _=>rfl),?_⟩;exact zAE (S2.clear.choose_spec.choose_spec.choose_spec.choose_spec.1) (S2.clear.choose_spec.choose_spec.choose_spec.choose_spec.2) hd h9 (v := .slice none (0+0) 0) (.inl ⟨rfl,rfl,rfl⟩)
      ·have yT:0+ys.length<=grownCap w (0+ys.length) 0 el:=grownCap_ge w _ _ _;refine⟨_,_,zGl (a:=none) (old:=[]) (news:=flat uys) ht kh hi kd (by rw[yx];exact run_firstCells_none _ _ _ _ _) (by rw[yx];exact hfd) (by omega) (by simp only[zAJ,cN] at jb;omega) (by omega),?_⟩;have:=S2.regrown ut hd (z:=z0) (el:=el) (sz:=s) (len:=0) (m:=ys.length) (xs:=[]) (us:=[]) (M:=[]) qj rfl vl rfl rfl (by simp) kL (by simp) uR rfl kM ⟨rfl,rfl⟩ jW yT (by simp) vm b4 qk (by simpa using h9);simpa[flat] using this
     ·have jG:us.length=xs.length:=by have:=congrArg length q7';simpa using this
      subst q1;simp only[zBU] at yy;have ql:zAx b (0*s)=b:=by cases b;simp_all[zAx]
      have qW:a.eval x = .slice (some b) xs.length cap:=by rw[yy.1,ql];rfl
      have gQ:∀ t∈M,t∈L2 (zAa+1):=fun t ht=>by rw[<- hLiE,q0];simp[ht]
      have jT:b.block∈L2 (zAa+1):=by rw[<- hLiE,q0];simp
      have hMn:M.Nodup/\b.block∉M:=by rw[q0] at g3;exact⟨(cv.1 g3).2,(cv.1 g3).1⟩
      rw[qW,vk];by_cases yD:xs.length+ys.length<=cap
      ·
       have qc:(xs.length+ys.length)*s<=cap*s:=cS _ yD;rw[cK] at qc;have hful:(flat uys).length=ys.length*s:=by rw[zBy uR,vl]
       have zM7:b.off+xs.length*s+(flat uys).length<=c.size:=by omega
       obtain⟨et,jt⟩:=q4;have yC:=run_storeCells_at (P:=P) b.block (b.off+xs.length*s) et (flat uys) 0 c w jt (by simpa using zM7) yN;simp only[bL] at yC;have LF:b.add (xs.length*s)=⟨b.block,b.off+xs.length*s,none⟩:=by rw[zCb q2];rfl
       refine⟨_,_,zEk (i:=i) ht kh hi (by rw[yx];exact LE) yD (w.setRow b.block (zBp c (b.off+xs.length*s) (flat uys))) (fun b' yJ=>by cases yJ;rw[yx,LF];exact yC) (by simp),?_⟩;have yv:∀ t,t≠b.block->(w.setRow b.block (zBp c (b.off+xs.length*s) (flat uys))).heap[t]? = w.heap[t]?:=fun t ht=>setRow_other w _ t _ ht;have hΦ:zDq w (w.setRow b.block (zBp c (b.off+xs.length*s) (flat uys))) Φ Φ:=fun t ht=>⟨ht,yv t fun hc=>(S2.conf.own _ _ jT).2.1 (hc▸ht)⟩;refine S2.made ut hd (Lp:=b.block::(M++Ly)) (fun A=>?_) ?_ (fun t ht=>?_) (by rw[setRow_size];exact bi _) (fun t _ hn=>yv t fun hc=>hn (zAa+1) (by omega) (by omega) (hc▸jT)) ⟨rfl,rfl,rfl⟩ h9
       ·refine .inr ⟨b,cap,_,us++uys,M++Ly,rfl,by simp,q2,by simpa using yD,⟨et,setRow_heap w _ _ _ et _ jt⟩,?_,fun y hy=>?_,⟨fun u hu=>?_,by simp[q7',kM]⟩,?_,?_⟩
        ·rw[zG8 zM7];exact q5
        ·rcases bg.1 hy with h|h
         ·exact q6 y h
         ·exact kL y h
        ·rcases bg.1 hu with h|h
         ·exact q7 u h
         ·exact uR u h
        ·rw[bA,cK,zC8,zH4 (by omega) (by omega) (by omega),show b.off+xs.length*s-b.off=xs.length*s by omega,<- zQt (by omega),q8];have:(seg c b.off (xs.length*s+ys.length*s)).drop (xs.length*s+(flat uys).length)=[]:=by
          apply fI;simp only[seg,bY];omega
         rw[this];simp
        ·exact(q9.mono hΦ (fun _ _ _ h=>h) fun t ht=>yv t fun hc=>hMn.2 (hc▸ht)).append (jW.mono hΦ (fun _ _ _ h=>h) fun t ht=>yv t fun hc=>S2.conf.disj (zAa+1) zAa (by omega) _ jT (hc▸vm t ht))
       ·refine cv.2 ⟨fun hm=>?_,?_⟩
        ·rcases bg.1 hm with hm|hm
         ·exact hMn.2 hm
         ·exact S2.conf.disj (zAa+1) zAa (by omega) _ jT (vm _ hm)
        ·rw[bI];exact⟨hMn.1,qk,fun t ht y hy e=>S2.conf.disj (zAa+1) zAa (by omega) t (gQ t ht) (e▸vm y hy)⟩
       ·rcases bv.1 ht with rfl|ht
        ·exact .inl ⟨zAa+1,by omega,by omega,jT⟩
        ·rcases bg.1 ht with ht|ht
         ·exact .inl ⟨zAa+1,by omega,by omega,gQ t ht⟩
         ·exact .inl ⟨zAa,by omega,by omega,vm t ht⟩
      ·have yT:xs.length+ys.length<=grownCap w (xs.length+ys.length) cap el:=grownCap_ge w _ _ _;have hold:=zIU (n:=xs.length) (xc:=cap) q2 q4.any jG q7 q8 P w.drew gS;refine⟨_,_,zGl (a:=some b) (old:=flat us) (news:=flat uys) ht kh hi kd (by rw[yx];exact hold) (by rw[yx];exact hfd) yD (by simp only[zAJ] at jb;omega) (by omega),?_⟩;exact S2.regrown ut hd (z:=z0) (el:=el) (sz:=s) (len:=xs.length) (m:=ys.length) qj jG vl rfl rfl q6 kL q7 uR q7' kM q9 jW yT gQ vm hMn.1 qk h9
    ·cases h5
   ·rename_i zz;obtain⟨jb,h5⟩:=zAR h4;have jb:=br jb;have ub:a.eval x = .slice none 0 0:=uS.1;rw[ub,vk];by_cases hy0:ys.length=0
    ·have hyn:ys=[]:=bq hy0;subst hyn;have hun:uys=[]:=bq (by simpa using vl);subst hun;have hf:=yS sz (by simp) P w (fun _=>rfl);rw[vk] at hf;refine⟨_,w,zEk (i:=i) ht kh hi (by rw[yx];exact hf) (by simp) w (by simp) (fun _=>rfl),?_⟩;have:=zAE (S1.clear.choose_spec.choose_spec.choose_spec.choose_spec.1) (S1.clear.choose_spec.choose_spec.choose_spec.choose_spec.2) hd h5 (v := .slice none (0+0) 0) (.inl ⟨rfl,rfl,rfl⟩);exact this
    ·have hL1:L1 (zAa+1)=[]:=by
      have:=S1.conf.rep (zAa+1);rw[kR (zAa+1) (by omega) (by omega) (by omega)] at this;exact this
     have yT:0+ys.length<=grownCap w (0+ys.length) 0 el:=grownCap_ge w _ _ _;refine⟨_,_,zGl (a:=none) (old:=[]) (news:=flat uys) ht kh hi kd (by rw[yx];exact run_firstCells_none _ _ _ _ _) (by rw[yx];exact hfd) (by omega) (by simp only[zAJ] at jb;omega) (by omega),?_⟩;have:=S1.regrown yr hd (z:=z0) (el:=el) (sz:=sz) (len:=0) (m:=ys.length) (xs:=[]) (us:=[]) (M:=[]) qj rfl vl rfl rfl (by simp) kL (by simp) uR rfl kM ⟨rfl,rfl⟩ jW yT (by simp) hLyg b4 qk (by simpa using h5);simpa[flat] using this
   ·cases h4
 ·cases h
end
end Go.Eng
namespace Go.Eng
open Go
section
variable {P:Program} {w0 w:World} {U Φ0 Φ:Nat->Prop} {nt:Nat} {hv:Hid} {a:Act} {e e':Env} {rv:Nat->Value} {E:Nat->PV} {L:Nat->LN} {o:zAM}
theorem zQI(S:St w0 U Φ0 nt hv a w e Φ rv E L)(hb:zBz E){d:ON}(hd:∀ x,d=some x->x<nt){t:TypeId}(h:(put d (.omap [])).run o e=some e') :
  ∃ v w',(Instr.makeMap t none).run P w = .ok v w'/\Fr w0 U Φ0 nt hv (a.put d v) w' e':=by
 refine⟨.map (some w.heap.size),{w with heap:=w.heap.push (.map #[] 0)},by simp[Instr.makeMap],?_⟩;refine S.made (p := .omap []) (v := .map (some w.heap.size)) (fun s hs=>hb s (by omega)) hd (Lp:=[w.heap.size]) (fun A=>⟨w.heap.size,#[],rfl,rfl,by simp,rfl⟩) (by simp) (fun b yJ=>.inr ?_) (by simp) (fun b yJ _=>?_) ⟨rfl,rfl,rfl⟩ h
 ·simp only[bl] at yJ;subst yJ;exact⟨bi _,by simp⟩
 ·show(w.heap.push _)[b]? = _
  rw[d9,if_neg (by omega)]
theorem zGK{z:Value}{s:Nat}(hz:z.cells.size=s){l k:Nat}{u:Value}(h:(flat (replicate l z))[k]? = some u):(madeCells z.cells (k+1))[k]? = some u:=by
 have hZ:(flat (replicate l z)).length=l*s:=by
  rw[zBy (sz:=s) (fun u hu=>by rw[b6 hu];exact hz)];simp
 have hk:k<l*s:=by rw[<- hZ];exact(bf.1 h).1
 have hs:0<s:=Nat.pos_of_ne_zero fun h0=>by subst h0;simp at hk
 have hdm:k / s*s+k % s=k:=Nat.div_add_mod' k s;have hq:k / s<l:=Nat.div_lt_of_lt_mul (by rw [Nat.mul_comm];exact hk);have hr:k % s<s:=Nat.mod_lt _ hs;have hzc : z.cells.toList[k % s]? = some (z.cells[k % s]'(by omega)) := by simp
 have:=zDT (sz:=s) (us:=replicate l z) (fun u hu=>by rw[b6 hu];exact hz) (i:=k / s) (c:=k % s) (x:=z) (by simp[hq]) hzc;rw[hdm,h] at this;simp only[ba] at this;subst this;simp[madeCells,hz,getElem!_pos,hr]
theorem zPr{z:Array Value}{n m k:Nat}(hk:k<n)(hm:k<m):(madeCells z n)[k]? = (madeCells z m)[k]?:=by
 simp[madeCells,hk,hm]
theorem zMw(S:St w0 U Φ0 nt hv a w e Φ rv E L)(hb:zBz E){d:ON}(hd:∀ x,d=some x->x<nt){t:TypeId}{l c:Operand}(hl:zAZ nt l=true)(hc:zAZ nt c=true)(h:(zFg P d t l c).run o e=some e') :
  ∃ v w',(Instr.makeSlice t (a.eval l) (a.eval c)).run P w = .ok v w'/\Fr w0 U Φ0 nt hv (a.put d v) w' e':=by
 obtain⟨p,h1,hp⟩:=zBC S hl h;obtain⟨kl,l,rfl,wZ,h2⟩:=zEi h1;obtain⟨q,h3,hq⟩:=zBC S hc h2;obtain⟨kc,c,rfl,wF,h4⟩:=zEi h3;split at h4
 ·rename_i el yp;split at h4
  ·rename_i z s by_ hz hs qh;obtain⟨⟨w5,jb,hb16,kj⟩,h5⟩:=zDt h4;obtain⟨i,zv,hi,hzv,_,kb⟩:=zDW hz;obtain⟨i2,wC,wI⟩:=zCx hs;rw[hi] at wC;cases wC;have hib:i.bytes=by_:=by simp only[zIn,hi,bu,ba] at qh;exact qh
   have ht:=zCO yp;simp only[zAJ] at jb;have hbb:(i.bytes:Int)*c<=281474976710656:=by
    have h1:i.bytes*c.toNat<=16384*4294967296:=f9 (by omega) jb;have h2:((i.bytes*c.toNat:Nat):Int)=(i.bytes:Int)*c:=by rw[Int.natCast_mul,dK wF]
    omega
   have yA:=run_make (P:=P) w t el i zv ht hi hzv kl kc l c wZ (by omega) hbb (by omega);obtain⟨ur,vi,uD,_⟩:=zCt (w:=w) (Φ:=Φ) (A:=zCp) kb;have vX:zv.cells.size=s:=by rw[vi,kj]
   rw[hp.1,hq.1];refine⟨_,_,yA,?_⟩;refine S.made (p := .own s (replicate l.toNat z)) (fun s hs=>hb s (by omega)) hd (Lp:=[w.heap.size]) (fun A=>?_) (by simp) (fun b yJ=>.inr ?_) (by simp) (fun b yJ _=>?_) ⟨rfl,rfl,rfl⟩ h5
   ·refine .inr ⟨⟨w.heap.size,0,none⟩,c.toNat,_,replicate l.toNat zv,[],rfl,by simp,rfl,by simpa using w5,⟨el,by show(w.heap.push _)[w.heap.size]? = _;simp;rfl⟩,?_,fun x hx=>?_,⟨fun u hu=>?_,?_⟩,?_,?_⟩
    ·rw[size_madeCells,wI];simp
    ·rw[b6 hx];exact kj
    ·rw[b6 hu];exact vX
    ·simp[uD]
    ·rw[fQ];refine zFL ?_ fun k u hk=>?_
     ·rw[zBy (sz:=s) (fun u hu=>by rw[b6 hu];exact vX)];simp
     ·have hZ:(flat (replicate l.toNat zv)).length=l.toNat*s:=by
       rw[zBy (sz:=s) (fun u hu=>by rw[b6 hu];exact vX)];simp
      have w6:k<l.toNat*s:=by rw[<- hZ];exact(bf.1 hk).1
      have yR:l.toNat*s<=c.toNat*s:=cS _ w5;rw[dh,wI,zPr (m:=k+1) (by omega) (by omega)];exact zGK vX hk
    ·have key:∀ n,zBa (w.alloc (.cells (madeCells zv.cells (c.toNat*i.size)) el)) Φ zCp (replicate n z) (replicate n zv) []:=by
      intro n
      induction n with
      |zero=>exact⟨rfl,rfl⟩|succ n ih=>
       exact⟨zv,_,[],[],rfl,rfl,(zCt kb).1,ih⟩
     exact key _
   ·simp only[bl] at yJ;subst yJ;exact⟨bi _,by show _<(w.heap.push _).size;simp⟩
   ·show(w.heap.push _)[b]? = _
    rw[d9,if_neg (by omega)]
  ·cases h4
 ·cases h4
theorem zKx(S:St w0 U Φ0 nt hv a w e Φ rv E L){x:Option Operand}(hx:∀ y,x=some y->zAZ nt y=true){n:Nat}{k:Nat->PM}(h:(zT8 x n k).run o e=some e') :
  ∃ m,(k m).run o e=some e'/\((x=none/\m=n)\/∃ y ik z,x=some y/\a.eval y = .int ik z/\0<=z/\m=z.toNat):=by
 cases x with
 |none=>exact⟨n,h,.inl ⟨rfl,rfl⟩⟩|some y=>
  obtain⟨p,h1,h2⟩:=zBC S (hx y rfl) h;obtain⟨ik,z,rfl,hz,h3⟩:=zEi h1;exact⟨z.toNat,h3,.inr ⟨y,ik,z,rfl,h2.1,hz,rfl⟩⟩
theorem zEU{ik:IntKind}{z:Int}{y:Nat}{cd:BoundsCode}(h0:0<=z)(h:z.toNat<=y):(Instr.sliceBound (.int ik z) y cd).run P w = .ok z.toNat w:=by
 have:z<=y:=by omega
 simp[Instr.sliceBound,asIntOf,h0,this]
theorem zK0{isS:Bool}{len cap l h:Nat}{lo hi:Option Value}(hh:(hi=none/\h=len)\/∃ ik z,hi=some (.int ik z)/\0<=z/\h=z.toNat)(hl:(lo=none/\l=0)\/∃ ik z,lo=some (.int ik z)/\0<=z/\l=z.toNat)
  (hlh:l<=h) (hhc:hi≠none->h<=cap):(Instr.sliceBounds isS len cap lo hi none).run P w = .ok (l,h,cap) w:=by
 rcases hh with⟨rfl,rfl⟩|⟨ik,z,rfl,hz,rfl⟩
 ·simp only[Instr.sliceBounds,bo,bx,bh,dR,bp,if_false];rcases hl with⟨rfl,rfl⟩|⟨ik',z',rfl,hz',rfl⟩
  ·simp
  ·simp only[bo,zEU hz' hlh,bh,bx]
 ·simp only[Instr.sliceBounds,bo,bx,bh,dR,bp,if_false];rw[zEU hz (hhc (by simp))];simp only[bh];rcases hl with⟨rfl,rfl⟩|⟨ik',z',rfl,hz',rfl⟩
  ·simp
  ·simp only[bo,zEU hz' hlh,bh,bx]
theorem zUI (S : St w0 U Φ0 nt hv a w e Φ rv E L) (hb:zBz E) {d:ON} (hd:∀ x,d=some x->x<nt) {t:TypeId} {x:Operand} {lo hi mx:Option Operand} (hx:zAZ nt x=true) (uM:∀ y,lo=some y->zAZ nt y=true) (hhi:∀ y,hi=some y->zAZ nt y=true) (hmx:∀ y,mx=some y->zAZ nt y=true)
  (h:(zJj P d t x lo hi mx).run o e=some e'):∃ v,(Instr.sliceAt t (a.eval x) (lo.map a.eval) (hi.map a.eval) (mx.map a.eval)).run P w = .ok v w/\Fr w0 U Φ0 nt hv (a.put d v) w e':=by
 cases mx with
 | some m =>
  simp only[zJj] at h;obtain⟨p,h1,hp⟩:=zBC S hx h;split at h1
  ·rename_i r pre z a0 n el ht;obtain⟨s,hs,h2⟩:=zBS h1;obtain⟨ti,jU,yG⟩:=zCx hs;obtain⟨mm,h3,h4⟩:=zKx S hmx h2;obtain⟨_,hg,⟨b,cap,yI,yT,qK,kN⟩,vP⟩:=hp;rcases h4 with⟨h4,_⟩|⟨ym,ikm,zm,hym,hem,hzm,rfl⟩
   ·cases h4
   cases hym
   cases hi with
   |none=>cases h3|some hi=>
    obtain⟨hm,h5,h6⟩:=zKx S hhi h3;rcases h6 with⟨h6,_⟩|⟨yh,ikh,zh,hyh,heh,hzh,rfl⟩
    ·cases h6
    cases hyh;obtain⟨lm,h7,h8⟩:=zKx S uM h5;obtain⟨hc,h9⟩:=zAR h7;simp only[bb] at hc;have c1:=br hc.1.1;have c2:=br hc.1.2;have c3:=br hc.2;refine⟨_,?_,zAE S hb hd h9 (p := .bad) (v := .slice (if zm.toNat=lm then b else b.map (·.add (lm*ti.size))) (zh.toNat-lm) (zm.toNat-lm)) rfl⟩;rw[yI];simp only[Instr.sliceAt,Instr.slice,bo,run_underlying ht,bh,bu,hem,heh,Instr.sliceBounds,zEU hzm (show zm.toNat<=cap by omega),zEU hzh c2];rcases h8 with⟨rfl,rfl⟩|⟨yl,ikl,zl,rfl,yp,kj,rfl⟩
    ·simp only[fV,bx,bh,zA8 jU,bo]
    ·simp only[bu,yp,zEU kj c1,bx,bh,zA8 jU,bo]
  ·cases h1
 | none =>
  simp only[zJj] at h;obtain⟨p,h1,hp⟩:=zBC S hx h;have low:∀ {m:Nat},((lo=none/\m=0)\/∃ y ik z,lo=some y/\a.eval y = .int ik z/\0<=z/\m=z.toNat)->(lo.map a.eval=none/\m=0)\/∃ ik z,lo.map a.eval=some (.int ik z)/\0<=z/\m=z.toNat:=by
   rintro m (⟨rfl,rfl⟩|⟨y,ik,z,rfl,h2,h3,h4⟩)
   ·exact .inl ⟨rfl,rfl⟩
   ·exact .inr ⟨ik,z,by simp[h2],h3,h4⟩
  have hgh:∀ {m n:Nat},((hi=none/\m=n)\/∃ y ik z,hi=some y/\a.eval y = .int ik z/\0<=z/\m=z.toNat)->(hi.map a.eval=none/\m=n)\/∃ ik z,hi.map a.eval=some (.int ik z)/\0<=z/\m=z.toNat:=by
   rintro m n (⟨rfl,rfl⟩|⟨y,ik,z,rfl,h2,h3,h4⟩)
   ·exact .inl ⟨rfl,rfl⟩
   ·exact .inr ⟨ik,z,by simp[h2],h3,h4⟩
  split at h1
  ·
   rename_i n el ht;split at h1
   ·rename_i s sh hs jf;obtain⟨hm,h2,h3⟩:=zKx S hhi h1;obtain⟨lm,h4,h5⟩:=zKx S uM h2;obtain⟨hc,h6⟩:=zAR h4;simp only[bb,bV] at hc;obtain⟨⟨c1,c2⟩,c3⟩:=hc;have c1:=br c1;have c2:=br c2;obtain⟨ti,jU,yG⟩:=zCx hs;have hbnd:=zK0 (P:=P) (w:=w) (isS:=false) (len:=n) (cap:=n) (hgh h3) (low h5) c1 (fun _=>c2);have uO:∀ b:Addr,b.spot=none->(if n=lm then b else b.add (lm*ti.size))=zAx b (lm*s):=by
     intro b y9;split
     ·rename_i qI;have wZ:lm=0:=by
       rcases c3 with c3|c3
       ·exact bc c3
       ·have:=zCh c3;omega
      rw[wZ];cases b;simp_all[zAx]
     ·rw[zCb y9,yG]
    split at h6
    ·rename_i r pre i c s';obtain⟨_,hg,b,y8,y9,hn⟩:=hp;refine⟨.slice (some (zAx b (lm*s))) (hm-lm) (n-lm),?_,zAE S hb hd h6 ⟨rfl,hg,zAx b (lm*s),n-lm,rfl,by omega,rfl,fun nv np hf a' ke=>?_⟩⟩
     ·rw[y8];simp only[Instr.sliceAt,bo,run_underlying ht,bh,Instr.sureAddr,bx,fV];rw[hbnd];simp only[bh,zA8 jU,bo,bx];rw[uO b y9]
     ·have key:∃ a0,zBe nv np i c=some a0/\a'=zAx a0 (lm*s):=by
       cases np<;>try (simp[zBe] at ke;done)
       ·cases nv with
        |slice x _ _=>
         cases x with
         |none=>cases ke|some x=>simp only[zBe] at ke ⊢;cases ke;exact⟨_,rfl,by simp[zAx,b7]⟩
        |pointer x=>cases x<;>cases ke
        |_=>cases ke
       ·cases nv with
        |pointer x=>
         cases x with
         |none=>cases i<;>cases ke
         |some x=>cases i<;>simp only[zBe] at ke ⊢ <;> cases ke;exact⟨_,rfl,by simp[zAx,b7]⟩
        |slice x _ _=>cases x<;>cases ke
        |_=>cases ke
      obtain⟨a0,k1,k2⟩:=key;rw[k2,hn nv np hf a0 k1]
    ·rename_i cs;obtain⟨hc4,h7⟩:=zAR h6;simp only[bb,zCA] at hc4;obtain⟨⟨c4,⟨c5,c6⟩⟩,c7⟩:=hc4;have c4:=br c4;have c5:=bc c5;obtain⟨_,b,c,u,y8,y9,hΦ,yB,ya,⟨jG,jl⟩,hr⟩:=hp;obtain⟨vs,rfl,hr⟩:=hr;have kI:=hr.length;have ur:zBa w Φ zCp cs vs.toList []:=hr.ways _ _ _ fun a v hw hx ha=>by
      have h0:zBE cs=[]:=by simpa using c7
      rw[h0] at hx;have h1:=zJ2 hw ha
      cases vK:a.ways with
      |nil=>exact absurd vK h1|cons z zs=>have:=hx z (by rw[vK];simp);cases this
     obtain⟨us',q1,q2,q3,q4,q5⟩:=zGx (ag:=sh.isSome) (sz:=s) (fun a v _ h=>h.elim) (hm-lm) _ _ c5 (fun jl=>by
      simp only[jl,co,bb] at c6;exact⟨bc c6.1,fun q hq=>bj.1 c6.2 q hq⟩) (zCc ur (lm*s) ((hm-lm)*s))
     have yO:=zEe sh.isSome s (hm-lm) ((cs.drop (lm*s)).take ((hm-lm)*s));refine⟨.slice (some (zAx b (lm*s))) (hm-lm) (n-lm),?_,zAE S hb hd h7 ?_⟩
     ·rw[y8];simp only[Instr.sliceAt,bo,run_underlying ht,bh,Instr.sureAddr,bx,fV];rw[hbnd];simp only[bh,zA8 jU,bo,bx];rw[uO b y9]
     ·by_cases LG:hm-lm=0
      ·rw[LG];exact⟨rfl,.inl ⟨rfl,_,_,rfl,fun h=>by cases h⟩⟩
      ·refine⟨rfl,.inr ⟨zAx b (lm*s),n-lm,c,us',s,by rw[yO],rfl,by rw[yO];omega,hΦ,yB,q5,⟨q3,q4⟩,?_,q1⟩⟩;rw[yO,q2];simp only[PV.cells,Value.cells] at ya kI;refine zFL (by simp at c5 kI ⊢;omega) fun k y hk=>?_;simp only[ck,cf] at hk;split at hk
       ·have:(seg c b.off cs.length)[lm*s+k]? = some y:=by rw[ya];exact hk
        have:=zCY this;simp only[zAx,b7];exact this
       ·cases hk
    ·cases h6
   ·cases h1
  ·
   rename_i el ht;split at h1
   ·rename_i s n hs hn;obtain⟨hm,h2,h3⟩:=zKx S hhi h1;obtain⟨lm,h4,h5⟩:=zKx S uM h2;obtain⟨ti,jU,yG⟩:=zCx hs;have yA:∀ (b:Option Addr) (cap:Nat),a.eval x = .slice b n cap->lm<=hm->hm<=cap->(Instr.sliceAt t (a.eval x) (lo.map a.eval) (hi.map a.eval) (Option.map a.eval none)).run P w = .ok (.slice (if cap=lm then b else b.map (·.add (lm*ti.size))) (hm-lm) (cap-lm)) w:=by
     intro b cap yI k1 k2;rw[yI];simp only[Instr.sliceAt,Instr.slice,bo,run_underlying ht,bh,fV];rw[zK0 (hgh h3) (low h5) k1 (fun _=>k2)];simp only[bh,zA8 jU,bo,bx]
    cases p<;>simp only[zO1] at h4<;>try (cases h4;done)
    case sl xs=>
     simp only[lenOf,ba] at hn;obtain⟨hc,h6⟩:=zAR h4;simp only[bb] at hc;obtain⟨⟨c1,c2⟩,c3⟩:=hc;have c1:=br c1;have c2:=br c2;obtain⟨_,⟨rfl,b,n',yI,qK⟩|⟨b,n',c,us,sz,yI,y9,yR,hΦ,yB,j7,⟨kF,wD⟩,ya,hr⟩⟩:=hp
     ·have LG:hm=0:=by simpa using c2
      have wZ:lm=0:=by omega
      subst LG;subst wZ;refine⟨_,yA b n' (by rw[yI,<- hn];rfl) (bi _) (bR _),zAE S hb hd h6 ?_⟩;simp only[List.drop_nil,List.take_nil];exact⟨rfl,.inl ⟨rfl,_,_,rfl,fun h=>by
       have ql:b=none:=by cases b<;>first|rfl|(split at h<;>cases h)
       rw[qK ql]⟩⟩
     ·refine⟨_,yA (some b) n' (by rw[yI,<- hn]) c1 (by omega),zAE S hb hd h6 ?_⟩;have hZ:((xs.drop lm).take (hm-lm)).length=hm-lm:=by simp;omega
      by_cases LG:hm-lm=0
      ·have:(xs.drop lm).take (hm-lm)=[]:=bq (by rw[hZ,LG]);rw[this,LG];exact⟨rfl,.inl ⟨rfl,_,_,rfl,fun h=>by split at h<;>cases h⟩⟩
      ·have jG:us.length=xs.length:=by have:=congrArg length wD;simpa using this
       have uu:∃ x,x∈xs:=by
        cases xs with
        |nil=>simp at c2;omega|cons x _=>exact⟨x,by simp⟩
       obtain⟨x0,uu⟩:=uu;have uv:sz=s:=by
        have:=bc (bj.1 c3 x0 uu);rw[<- j7 x0 uu,this]
       subst uv;rw[if_neg (by omega)];simp only[bu];rw[zCb y9,yG];refine⟨rfl,.inr ⟨zAx b (lm*sz),n'-lm,c,(us.drop lm).take (hm-lm),sz,by rw[hZ],rfl,by rw[hZ];omega,hΦ,yB,fun y hy=>j7 y (cq (cE hy)),⟨fun u hu=>kF u (cq (cE hu)),zBa.map_isAgg wD lm (hm-lm)⟩,?_,zCc hr lm (hm-lm)⟩⟩;rw[hZ];exact zIZ kF jG ya (by omega)
    case bor r pre z a0 n0 =>
     simp only [lenOf,ba] at hn;subst hn;obtain ⟨hc,h6⟩:=zAR h4;simp only [bb] at hc;have vX:=bc hc.1;have c1:=br hc.2;subst vX;obtain ⟨_,hg,⟨b,cap,yI,yT,qK,kN⟩,vP⟩:=hp;have go : hm<=cap->(put d (bif beq lm 0||blt lm hm then .bor r pre z (a0+lm) (hm-lm) else .sl [])).run o e=some e'->∃ v,(Instr.sliceAt t (a.eval x) (lo.map a.eval) (hi.map a.eval) (Option.map a.eval none)).run P w = .ok v w/\Fr w0 U Φ0 nt hv (a.put d v) w e':=by
      intro k1 h6;refine⟨_,yA b cap yI c1 k1,zAE S hb hd h6 ?_⟩
      cases ko:(beq lm 0||blt lm hm) with
      | false =>
       simp only[cD] at ko;have:¬ lm<hm:=fun yL=>by rw[show blt lm hm=true from cP yL] at ko;exact absurd ko.2 (by simp)
       have:hm-lm=0:=by omega
       rw[this];exact⟨rfl,.inl ⟨rfl,_,_,rfl,fun h=>by
        have ql:b=none:=by cases b<;>first|rfl|(split at h<;>cases h)
        have:=qK ql;omega⟩⟩
      | true =>
       simp only[cond_true];have ju:lm=0\/lm<hm:=by
        simp only[bV] at ko;rcases ko with h|h
        ·exact .inl (bc h)
        ·exact .inr (zCh h)
       have uO:(if cap=lm then b else b.map (·.add (lm*ti.size)))=b.map (fun y=>zAx y (lm*z)):=by
        cases b with
        |none=>simp
        | some y =>
         have hy:=kN y rfl;simp only[bu];split
         ·have wZ:lm=0:=by omega
          subst wZ;cases y;simp_all[zAx]
         ·rw[zCb hy,yG]
       rw[uO];refine⟨rfl,hg,⟨_,cap-lm,rfl,by omega,fun ql=>?_,fun y hy=>?_⟩,fun nv np hf hh=>?_⟩
       ·have:b=none:=by cases b<;>first|rfl|cases ql
        have:=qK this;omega
       ·cases b with
        |none=>cases hy|some y0=>simp only[bu,ba] at hy;rw[<- hy];rfl
       ·obtain⟨sz2,xs2,g1,g2,g3⟩:=vP nv np hf hh;refine⟨sz2,xs2,g1,g2,?_⟩;subst g2;rw[yI] at g3;cases nv<;>simp only[zBU] at g3;rename_i y l c
        cases y with
        |none=>
         simp only[zBU,dl] at g3 ⊢;obtain⟨⟨k2,k3,k4⟩,k5⟩:=g3;subst k2;refine⟨⟨rfl,by omega,by omega⟩,by omega⟩
        |some y=>
         simp only[zBU,dl] at g3 ⊢;obtain⟨⟨k2,_,k4⟩,k5⟩:=g3;subst k2;refine⟨⟨?_,trivial,by omega⟩,by omega⟩;simp[zAx,cK,b7]
     cases LH:ble hm n0 with
     |true=>
      rw[LH] at h6;exact go (bF (br LH) yT) h6
     | false =>
      rw[LH] at h6;simp only[cond_false] at h6;obtain⟨q,hq,h7⟩:=zBW h6;split at h7
      ·rename_i sz2 xs2;obtain⟨yR,h8⟩:=zAR h7;have yR:=br yR;refine go ?_ h8;rw[<- S.env r hg] at hq;obtain⟨nv,Li,hf,_,hX⟩:=zB1 (zCf (S.conf.rep r)) hq;obtain⟨sz3,xs3,g1,g2,g3⟩:=vP nv _ hf rfl;cases g1;subst g2;rw[yI] at g3;obtain⟨q1,_,q3⟩|⟨y,m,c,us,M,_,q1,_,q3,_⟩:=hX
       ·subst q1;simp at yR;omega
       ·subst q1;simp only[zBU,dl] at g3;omega
      ·cases h7
   ·cases h1
  ·cases h1
end
end Go.Eng
namespace Go.Eng
open Go
section
variable {w w':World} {Φ Φ':Nat->Prop}
mutual
theorem Rep.free{A A':Al}:∀ (p:PV) (v:Value) (L:LN),p.free=true->Rep w Φ A p v L->Rep w Φ' A' p v L
 |.int ..,_,_,_,h=>h|.bool _,_,_,_,h=>h|.nilp,_,_,_,h=>h|.nilf,_,_,_,h=>h|.nilm,_,_,_,h=>h|.nn,_,_,_,h=>h|.nils _,_,_,_,h=>h|.und,_,_,_,h=>h|.sl [],v,L,_,h=>by
  obtain⟨h0,⟨_,a,n,h1⟩|⟨a,n,c,us,sz,h1,_⟩⟩:=h
  ·exact⟨h0,.inl ⟨rfl,a,n,h1⟩⟩
  ·exact⟨h0,.inl ⟨rfl,_,n,h1,fun h=>by cases h⟩⟩
 |.sl (_::_),_,_,hf,_=>by cases hf|.agg cs,v,L,hf,h=>by
  obtain⟨vs,rfl,h⟩:=h;exact⟨vs,rfl,zBa.free cs _ L hf h⟩
 |.tup cs,v,L,hf,h=>by
  obtain⟨vs,rfl,h⟩:=h;exact⟨vs,rfl,zBa.free cs _ L hf h⟩
 |.own sz xs,v,L,hf,h=>by
  obtain h|⟨a,n,c,us,L',h0,h1,h2,h3,h4,h5,h6,h7,h8,h9⟩:=h
  ·exact .inl h
  ·exact .inr ⟨a,n,c,us,L',h0,h1,h2,h3,h4,h5,h6,h7,h8,zBa.free xs us L' hf h9⟩
 |.box q,v,L,hf,h=>by
  obtain⟨a,c,u,L',h0,h1,h2,h4,h5,h6,h7⟩:=h;exact⟨a,c,u,L',h0,h1,h2,h4,h5,h6,Rep.free q u L' hf h7⟩
 |.omap es,v,L,hf,h=>by
  obtain⟨b,ents,h0,h1,h3,h4⟩:=h;exact⟨b,ents,h0,h1,h3,zD6.free es _ 0 hf h4⟩
 |.bad,_,_,hf,_=>by cases hf|.ref _,_,_,hf,_=>by cases hf|.map _,_,_,hf,_=>by cases hf|.func ..,_,_,hf,_=>by cases hf|.addr ..,_,_,hf,_=>by cases hf|.bor ..,_,_,hf,_=>by cases hf|.bsl ..,_,_,hf,_=>by cases hf|.bmap ..,_,_,hf,_=>by cases hf|.lock _,_,_,hf,_=>by cases hf|.yld _,_,_,hf,_=>by cases hf|.log ..,_,_,hf,_=>by cases hf
theorem zBa.free{A A':Al}:∀ (ps:List PV) (vs:List Value) (L:LN),zEy ps=true->zBa w Φ A ps vs L->zBa w Φ' A' ps vs L
 |[],_,_,_,h=>h|p::ps,vs,L,hf,h=>by
  simp only[zEy,bb] at hf;obtain⟨v,vs',L1,L2,h0,h1,h2,h3⟩:=h;exact⟨v,vs',L1,L2,h0,h1,Rep.free p v L1 hf.1 h2,zBa.free ps vs' L2 hf.2 h3⟩
theorem zD6.free:∀ (es:List (PV×PV)) (ms:List MapEntry) (i:Nat),zO2 es=true->zD6 w Φ es ms i->zD6 w Φ' es ms i
 |[],_,_,_,h=>h|(k,p)::es,ms,i,hf,h=>by
  simp only[zO2,bb] at hf;obtain⟨m,ms',h0,h1,h2,h3,h4⟩:=h;exact⟨m,ms',h0,h1,Rep.free k _ [] hf.1.1 h2,Rep.free p _ [] hf.1.2 h3,zD6.free es ms' (i+1) hf.2 h4⟩
end
end
theorem zDa(m:List (Nat×Nat)):Tame (zEI m):=by
 constructor
 ·intro p;cases p<;>simp only[zEI]<;>first|rfl|(split<;>rfl)
 ·intro p hp;cases p<;>first|(cases hp;done)|skip
  all_goals
   simp only[zEI]
   first|rfl|(split<;>rfl)
section
variable {w w':World} {rv rv':Nat->Value} {E E':Nat->PV}
theorem zM5{m:List (Nat×Nat)}{Φ:Nat->Prop}{a:PV}{v:Value}(ha:zBb w rv E a v)
  (h:∀ r h',m.lookup r=some h'->r<zAa->h'<zAa/\∀ pre nv np,zA3 w' (rv' h') (E' h').unlock pre=some (nv,np)->np.heavy0=true->∃ np0,zA3 w (rv r) (E r).unlock pre=some (nv,np0)/\zCv np0 np) :
  Rep w' Φ (zBb w' rv' E') (zEI m a) v []:=by
 have hr:=zC7 ha;have key:∀ nv np i c a',zBe nv np i c=some a'->np.heavy0=true:=by
  intro nv np i c a' h;cases np<;>first|rfl|(simp[zBe] at h)
 cases a<;>simp only[zEI]<;>try (exact ha.elim)
 case addr r pre i c sh=>
  cases hm:m.lookup r with
  |none=>rfl|some h'=>
   obtain⟨h1,h2⟩:=h r h' hm hr;obtain⟨_,b,h3,h4,h5⟩:=ha;refine⟨rfl,h1,b,h3,h4,fun nv np hn a' ke=>?_⟩;obtain⟨np0,h6,h7⟩:=h2 pre nv np hn (key _ _ _ _ _ ke);exact h5 nv np0 h6 a' (by rw[zEC h7];exact ke)
 case bor r pre z lo n=>
  cases hm:m.lookup r with
  |none=>rfl|some h'=>
   obtain⟨h1,h2⟩:=h r h' hm hr;obtain⟨_,h3,h5⟩:=ha;refine⟨rfl,h1,h3,fun nv np hn hh=>?_⟩;obtain⟨np0,h6,h7⟩:=h2 pre nv np hn hh;obtain⟨sz,xs,g1,g2,g3⟩:=h5 nv np0 h6 (zDV h7);subst g1;cases np<;>simp only[zCv] at h7;subst h7;exact⟨_,_,rfl,g2,g3⟩
 case bsl r pre i c sz ag n=>
  cases hm:m.lookup r with
  |none=>rfl|some h'=>
   obtain⟨h1,h2⟩:=h r h' hm hr;obtain⟨_,b,cap,h3,qC,h4,h5⟩:=ha;refine⟨rfl,h1,b,cap,h3,qC,h4,fun nv np hn a' ke=>?_⟩;obtain⟨np0,h6,h7⟩:=h2 pre nv np hn (key _ _ _ _ _ ke);exact h5 nv np0 h6 a' (by rw[zEC h7];exact ke)
 case bmap r pre=>
  cases hm:m.lookup r with
  |none=>rfl|some h'=>
   obtain⟨h1,h2⟩:=h r h' hm hr;obtain⟨_,h3,h5⟩:=ha;refine⟨rfl,h1,h3,fun nv np hn es he=>?_⟩;subst he;obtain⟨np0,h6,h7⟩:=h2 pre nv _ hn rfl;cases np0<;>simp only[zCv] at h7;exact h5 nv _ h6 _ rfl
end
theorem zIh{f:Nat->Nat->Nat×Nat}:∀ (R:LN) (k x y:Nat),((R.zipIdx k).map fun p=>f p.1 p.2).lookup x=some y->∃ j r,R[j]? = some r/\f r (k+j)=(x,y)
 |[],k,x,y,h=>by simp at h
 | r :: R,k,x,y,h=>by
  simp only[fN,bM] at h
  cases hf:f r k with
  | mk p1 p2 =>
   rw[hf,List.lookup_cons] at h;by_cases hx:x=p1
   ·have:(x==p1)=true:=by simp[hx]
    rw[this] at h;simp only[ba] at h;exact⟨0,r,rfl,by rw[bL,hf,hx,h]⟩
   ·have:(x==p1)=false:=by simp[hx]
    rw[this] at h;obtain⟨j,r',h1,h2⟩:=zIh R (k+1) x y h;exact⟨j+1,r',by simpa using h1,by rw[show k+(j+1)=k+1+j by omega];exact h2⟩
theorem zNO{R:LN}{r h:Nat}(hl:(zDL R).lookup r=some h):∃ j,R[j]? = some r/\h=zAk+j:=by
 obtain⟨j,r',h1,h2⟩:=zIh (f:=fun r j=>(r,zAk+j)) R 0 r h hl;simp only[dh,bw] at h2;exact⟨j,h2.1▸h1,h2.2.symm⟩
theorem zN1{R:LN}{h r:Nat}(hl:(zCs R).lookup h=some r):∃ j,R[j]? = some r/\h=zAk+j:=by
 obtain⟨j,r',h1,h2⟩:=zIh (f:=fun r j=>(zAk+j,r)) R 0 h r hl;simp only[dh,bw] at h2;exact⟨j,h2.2▸h1,h2.1.symm⟩
theorem zGP:∀ {R:LN},zHe R=true->R.Nodup
 |[],_=>b4|r::R,h=>by
  simp only[zHe,bb,bD] at h;exact cv.2 ⟨fun hm=>by have:=dq.2 hm;rw[this] at h;exact absurd h.1 (by simp),zGP h.2⟩
section
variable {o:zAM} {e e':Env}
theorem zJW:∀ {R:LN} {k:List PV->PM},(zOn R k).run o e=some e'->(∀ r∈R,(e.get r).isLock=false)/\(k (R.map e.get)).run o e=some e'
 |[],k,h=>⟨by simp,h⟩
 | r :: R,k,h=>by
  simp only[zOn,PM.run] at h;split at h
  ·cases h
  ·rename_i p hp;obtain⟨h1,h2⟩:=zJW h;refine⟨fun x hx=>?_,h2⟩;rcases bv.1 hx with rfl|hx
   ·cases hl:(e.get x)<;>first|rfl|exact absurd hl (hp _)
   ·exact h1 x hx
theorem zLt:∀ {n:Nat} {R:LN} {k:LN->PM},(zLs n R k).run o e=some e'->∃ R',(k R').run o e=some e'
 |0,R,k,h=>⟨R,h⟩|n+1,R,k,h=>by
  simp only[zLs] at h;obtain⟨_,h1⟩:=zJW h;revert h1
  cases beq _ _ with
  |true=>exact fun h=>⟨_,h⟩
  |false=>exact fun h=>zLt h
def zD0:LN->PV->PV
 |[],a=>a|r::R,a=>if (zBY r [] a).isWay=true then zD0 R a else zBY r [] a
theorem zHG(r:Nat)(p:PV):zBY r [] p=p\/(p.isWay=true/\zBY r [] p = .bad):=by
 cases p<;>first|exact .inl rfl|skip
 all_goals
  simp only[zBY,PV.isWay,true_and];cases (beq _ r&&_)<;>simp
theorem zJx:∀ (R:LN) (p:PV),zD0 R p=p\/(p.isWay=true/\zD0 R p = .bad)
 |[],p=>.inl rfl|r::R,p=>by
  simp only[zD0];split
  ·exact zJx R p
  ·exact zHG r p
theorem zK7{k:PM}:∀ {R:LN} {e:Env},(zLm R k).run o e=some e'->∃ e1,k.run o e1=some e'/\∀ s,e1.get s=(e.get s).mapW (zD0 R)
 |[],e,h=>⟨e,h,fun s=>by rw[show zD0 []=fun x=>x from rfl,zBq]⟩
 |r::R,e,h=>by
  simp only[zLm,PM.run] at h;obtain⟨e1,h1,h2⟩:=zK7 h;refine⟨e1,h1,fun s=>?_⟩;rw[h2 s,Env.get_killEx,zE1];refine zDG (fun a ha=>?_) _;simp only[zD0];rcases zHG r a with h3|⟨_,h3⟩
  ·rw[h3,if_pos ha,zGy ha]
  ·rw[h3];rfl
theorem zYj{pre:zA4}{y:PV}(hI:bad≠y)(h:(bif !pre.isEmpty then bad else y)=y):pre=[]:=by
 cases pre with
 |nil=>rfl|cons x xs=>exact absurd h hI
theorem zJf:∀ {R:LN} {a:PV},a.isWay=true->zD0 R a=a->(∀ k,a ≠ .yld k)->(∀ xs k,a ≠ .log xs k)->(zBf a).1∈R->(zBf a).2=[]
 |[],_,_,_,_,_,h=>by cases h
 | r :: R,a,ha,hk,hy,hl,hm=>by
  simp only[zD0] at hk;by_cases hr:(zBf a).1=r
  ·have uM:zBY r [] a=a:=by
    rcases zHG r a with h3|⟨_,h3⟩
    ·exact h3
    ·rw[h3] at hk;simp only[PV.isWay,bp,if_false] at hk;rw[<- hk] at ha;cases ha
   cases a<;>first|(cases ha;done)|(exact absurd rfl (hy _))|(exact absurd rfl (hl _ _))|skip
   all_goals
    simp only[zBf] at hr ⊢;subst hr;simp only[zBY,cz,cR,List.any_nil,ie] at uM;exact zYj (by simp) uM
  ·have hm':(zBf a).1∈R:=(bv.1 hm).resolve_left hr;rcases zHG r a with h3|⟨_,h3⟩
   ·rw[h3,if_pos ha] at hk;exact zJf ha hk hy hl hm'
   ·rw[h3] at hk;simp only[PV.isWay,bp,if_false] at hk;rw[<- hk] at ha;cases ha
theorem zNR{k:PM}:∀ {R:LN} {os ps:List PV} {e:Env},R.Nodup->(zOH R os ps k).run o e=some e'->∃ e1,k.run o e1=some e'/\ps.length=R.length/\os.length=R.length/\(∀ (j:Nat) (x y:PV),os[j]? = some x->ps[j]? = some y->zGR x y=true) /\
   (∀ s,s∉R->e1.get s=e.get s)/\∀ (j r:Nat) (p:PV),R[j]? = some r->ps[j]? = some p->e1.get r=p
 |[],os,ps,e,hn,h=>by
  cases os<;>cases ps<;>simp only[zOH] at h<;>try (cases h;done)
  exact⟨e,h,rfl,rfl,by simp,fun _ _=>rfl,by simp⟩
 | r :: R,os,ps,e,hn,h=>by
  cases os<;>cases ps<;>simp only[zOH] at h<;>try (cases h;done)
  rename_i x os y ps;obtain⟨h1,h2⟩:=zAR h;obtain⟨root,_,hm,h3⟩:=zCa h2;simp only[zAz,ba] at hm;subst hm;obtain⟨w7,hnR⟩:=cv.1 hn;obtain⟨e1,g1,g2,g3,g4,g5,g6⟩:=zNR hnR h3;refine⟨e1,g1,by simp[g2],by simp[g3],fun j x' y' hx hy=>?_,fun s hs=>?_,fun j r' p hr hp=>?_⟩
  ·cases j with
   |zero=>simp at hx hy;subst hx;subst hy;exact h1|succ j=>exact g4 j x' y' (by simpa using hx) (by simpa using hy)
  ·simp only[bv,not_or] at hs;rw[g5 s hs.2,Env.get_set,if_neg hs.1]
  ·cases j with
   |zero=>
    simp at hr hp;subst hr;subst hp;rw[g5 _ w7,Env.get_set,if_pos rfl]
   |succ j=>exact g6 j r' p (by simpa using hr) (by simpa using hp)
theorem zOQ(k:Nat):∀ (ps:List PV) (i:Nat) (s:Nat),Env.get ((ps.zipIdx i).map fun x=>(k+x.2,x.1)) s=if k+i<=s/\s<k+i+ps.length then ps.getD (s-k-i) .bad else .bad
 |[],i,s=>by simp[Env.get]
 | p :: ps,i,s=>by
  simp only[fN,bM,Env.get,zOQ k ps (i+1) s];by_cases h:s=k+i
  ·subst h;simp
  ·have:beq (k+i) s=false:=by
    cases hb:beq (k+i) s with
    |false=>rfl|true=>exact absurd (bc hb).symm h
   rw[this,cond_false];by_cases h2:k+i<=s/\s<k+i+(p::ps).length
   ·have h3:k+(i+1)<=s/\s<k+(i+1)+ps.length:=by simp at h2;omega
    rw[if_pos h2,if_pos h3];have e1:s-k-i=(s-k-(i+1))+1:=by omega
    rw[e1];simp
   ·have h3:¬ (k+(i+1)<=s/\s<k+(i+1)+ps.length):=by simp at h2 ⊢;omega
    rw[if_neg h2,if_neg h3]
theorem zQn(a b:Env)(s:Nat):Env.get (a++b) s=bif a.any (fun x=>beq x.1 s) then Env.get a s else Env.get b s:=by
 induction a with
 |nil=>rfl|cons x a ih=>
  obtain⟨k,v⟩:=x;simp only[List.cons_append,Env.get,ih,fL];cases beq k s<;>rfl
end
structure Gave (v:PV) (u:Value) (rv:Nat->Value) (E:Nat->PV):Prop where
 one:(∀ ps,v ≠ .tup ps)->E zAI=v/\rv zAI=u
 many:∀ ps,v = .tup ps->∃ us:Array Value,u = .tuple us/\us.size=ps.length/\∀ (j:Nat) (p:PV),ps[j]? = some p->E (zAI+j)=p/\us[j]? = some (rv (zAI+j))
def Means(P:Program)(f:FuncId)(args hid:List PV)(v:PV)(hO:List PV):Prop :=
 ∀ (w:World) (Φ:Nat->Prop) (rv:Nat->Value) (E:Nat->PV) (L:Nat->LN) (vs:Array Value),(∀ s,s<zAa->E s=(zBg args hid).get s)->(∀ s,zAa<=s->E s = .bad)->Conf w (fun b=>∃ s,b∈L s) Φ w Φ rv E L->vs.size=args.length->(∀ i,i<args.length->vs[i]? = some (rv i))->(∀ s,args.length<=s->s<zAk->rv s=undef) ->
  Calls P f vs w fun e w'=>∃ u Φ' rv' E' L',e = .returned u/\Conf w (fun b=>∃ s,b∈L s) Φ w' Φ' rv' E' L'/\hO.length=hid.length /\
   (∀ j,j<hid.length->E' (zAk+j)=hO.getD j .bad/\rv' (zAk+j)=rv (zAk+j))/\Gave v u rv' E'
def Callable(P:Program)(f:FuncId):Prop:=∃ fn,P.funcs[f]? = some fn/\fn.body.isNone=false
def zGH(P:Program)(o:zAM):Prop:=∀ f args hid v hO,o f args hid=some (v,hO)->Callable P f/\Means P f args hid v hO
theorem zDs {args hid:List PV} (ha:args.length<=zAk) (s:Nat):(zBg args hid).get s=if s<args.length then args.getD s .bad else if zAk<=s/\s<zAk+hid.length then hid.getD (s-zAk) .bad else .bad:=by
  have e1:(args.zipIdx.map fun(p,i)=>(i,p))=(args.zipIdx 0).map fun x=>(0+x.2,x.1):=by
    apply dJ;intro x _;simp
  have e2:(hid.zipIdx.map fun(p,j)=>(zAk+j,p))=(hid.zipIdx 0).map fun x=>(zAk+x.2,x.1):=rfl;have hany:∀ (ps:List PV) (i:Nat),((ps.zipIdx i).map fun x=>(0+x.2,x.1)).any (fun x=>beq x.1 s)=decide (i<=s/\s<i+ps.length):=by
    intro ps
    induction ps with
    | nil => intro i;have:¬ (i<=s/\s<i):=by omega
             simp[this]
    | cons p ps ih =>
      intro i;simp only[fN,bM,fL,ih (i+1)];by_cases h:s=i
      · subst h;simp
      · have:beq (0+i) s=false:=by
          cases hb:beq (0+i) s with
          |false=>rfl|true=>exact absurd (bc hb) (by omega)
        rw[this,co];apply decide_eq_decide.2;simp;omega
  simp only[zBg];rw[e1,e2,zQn,hany args 0,zOQ,zOQ];by_cases h:s<args.length
  · have h1:decide (0<=s/\s<0+args.length)=true:=decide_eq_true (by omega);rw[h1,cond_true,if_pos (by omega),if_pos h];simp
  · have h1:decide (0<=s/\s<0+args.length)=false:=decide_eq_false (by omega);rw[h1,cond_false,if_neg h];simp
section
variable {w0 w w':World} {U Φ0 Φ Φ1 Φ' Φ2:Nat->Prop} {rv rv':Nat->Value} {E E':Nat->PV} {L L':Nat->LN}
def zYn(w:World)(rv:Nat->Value)(E:Nat->PV)(Φ1:Nat->Prop)(i:Nat)(x:Arg):Prop :=
 (x.byref=true/\x.p=E (zAa+i))\/(x.byref=false/\x.p=E (zAa+i)/\(E (zAa+i)).ways=[])\/(x.byref=false/\Rep w Φ1 zCp x.p (rv (zAa+i)) [])
def zOc(R:LN)(x:Arg):PV:=if x.byref then zGZ (zDL R) x.p else x.p
theorem zV7{A A':Al}{p:PV}{v:Value}{M:LN}(hp:p.ways=[])(hA:∀ a v,a.isWay=true->A a v->a.ways≠[])(h:Rep w Φ A p v M):Rep w Φ A' p v M :=
 h.ways _ _ _ fun a v hw hx ha=>by
  rw[hp] at hx;have h1:=hA a v hw ha
  cases vK:a.ways with
  |nil=>exact absurd vK h1|cons z zs=>have:=hx z (by rw[vK];simp);cases this
open Classical in
theorem zQB(C:Conf w0 U Φ0 w Φ rv E L){R:LN}(hR:R.Nodup)(LI:∀ r∈R,(E r).isLock=false)(w8:∀ r∈R,r<zAa)(hRn:R.length<=1000){as:List Arg}(hAn:as.length<=1000)(hΦ:∀ b,Φ b->Φ1 b)(hΦs:∀ b,Φ1 b->b<w.heap.size)
  (hΦR:∀ r∈R,∀ b∈L r,¬ Φ1 b) (hΦa:∀ i,i<as.length->∀ b∈L (zAa+i),¬ Φ1 b) (hA:∀ i x,as[i]? = some x->zYn w rv E Φ1 i x) :
  ∃ rvc Ec Lc,(∀ s,s<zAa->Ec s=(zBg (as.map (zOc R)) (R.map fun r=>zGZ (zDL R) (E r))).get s)/\(∀ s,zAa<=s->Ec s = .bad)/\Conf w (fun b=>∃ s,b∈Lc s) Φ1 w Φ1 rvc Ec Lc /\
   (∀ i,i<as.length->rvc i=rv (zAa+i))/\(∀ (j r:Nat),R[j]? = some r->rvc (zAk+j)=rv r)/\(∀ s,as.length<=s->s<zAk->rvc s=undef)/\∀ b,(∃ s,b∈Lc s)->(∃ r∈R,b∈L r)\/∃ i,i<as.length/\b∈L (zAa+i):=by
 let K:Nat->Prop:=fun i=>∃ x,as[i]? = some x/\x.byref=false/\Rep w Φ1 zCp x.p (rv (zAa+i)) []
 let src:Nat->ON:=fun s=>if s<as.length then(if K s then none else some (zAa+s)) else if zAk<=s then R[s-zAk]? else none
 let rvc:Nat->Value:=fun s=>if s<as.length then rv (zAa+s) else match src s with|some t=>rv t|none=>undef
 let Lc:Nat->LN:=fun s=>match src s with|some t=>L t|none=>[]
 let Ec:Nat->PV:=fun s=>if s<zAa then(zBg (as.map (zOc R)) (R.map fun r=>zGZ (zDL R) (E r))).get s else .bad
 have hh:zAk=50000000:=rfl;have qM:zAa=1000000000:=rfl;have yY:∀ s,s<zAa->Ec s=if s<as.length then(as.map (zOc R)).getD s .bad else if zAk<=s/\s<zAk+R.length then(R.map fun r=>zGZ (zDL R) (E r)).getD (s-zAk) .bad else .bad:=by
  intro s hs;simp only[Ec,if_pos hs];rw[zDs (by simp;omega)];simp
 have hEh:∀ (j r:Nat),R[j]? = some r->Ec (zAk+j)=(E r).mapW (zEI (zDL R)):=by
  intro j r hj;have y5:j<R.length:=(bf.1 hj).1;rw[yY _ (by omega),if_neg (by omega),if_pos (by omega)];simp[List.getD,hj,zGZ]
 have hrh:∀ (j r:Nat),R[j]? = some r->rvc (zAk+j)=rv r:=by
  intro j r hj;have y5:j<R.length:=(bf.1 hj).1;have:src (zAk+j)=some r:=by
   simp only[src];rw[if_neg (by omega),if_pos (by omega),dI,hj]
  simp only[rvc,this];rw[if_neg (by omega)]
 have LJ:∀ s t,src s=some t->(t∈R/\∃ j,s=zAk+j/\R[j]? = some t)\/(s<as.length/\t=zAa+s/\¬ K s):=by
  intro s t h;simp only[src] at h;split at h
  ·rename_i hs;split at h
   ·cases h
   ·rename_i hk;cases h;exact .inr ⟨hs,rfl,hk⟩
  ·split at h
   ·rename_i hs;exact .inl ⟨bG h,s-zAk,by omega,h⟩
   ·cases h
 have hinj:∀ s s' t,src s=some t->src s'=some t->s=s':=by
  intro s s' t h h';rcases LJ s t h with⟨h1,j,h2,h3⟩|⟨h1,h2,_⟩<;>rcases LJ s' t h' with⟨jc,j',jo,qC⟩|⟨jc,jo,_⟩
  ·have hj:j<R.length:=(bf.1 h3).1;have:j=j':=(List.getElem?_inj hj hR).1 (h3.trans qC.symm);omega
  ·have:=w8 t h1;omega
  ·have:=w8 t jc;omega
  ·omega
 have kH:∀ a v,a.isWay=true->zBb w rv E a v->Rep w Φ1 (zBb w rvc Ec) (zEI (zDL R) a) v []:=by
  intro a v _ ha;refine zM5 ha fun r h' hl hr=>?_;obtain⟨j,hj,rfl⟩:=zNO hl;have y5:j<R.length:=(bf.1 hj).1;refine⟨by omega,fun pre nv np hn hh=>?_⟩;rw[hrh j r hj,hEh j r hj,zDN (zDa _)] at hn;exact zDc (zDa _) hn hh
 have hS:zDq w w Φ Φ1:=fun b hb=>⟨hΦ b hb,rfl⟩;have hLs:∀ s b,b∈Lc s->∃ t,src s=some t/\b∈L t:=by
  intro s b hb;simp only[Lc] at hb
  cases h:src s with
  |none=>rw[h] at hb;cases hb|some t=>rw[h] at hb;exact⟨t,rfl,hb⟩
 have hU:∀ b,(∃ s,b∈Lc s)->(∃ r∈R,b∈L r)\/∃ i,i<as.length/\b∈L (zAa+i):=by
  rintro b ⟨s,hb⟩;obtain⟨t,h1,h2⟩:=hLs s b hb;rcases LJ s t h1 with⟨h3,_⟩|⟨h3,rfl,_⟩
  ·exact .inl ⟨t,h3,h2⟩
  ·exact .inr ⟨s,h3,h2⟩
 have hnΦ:∀ b,(∃ s,b∈Lc s)->¬ Φ1 b:=by
  intro b hb;rcases hU b hb with⟨r,h1,h2⟩|⟨i,h1,h2⟩
  ·exact hΦR r h1 b h2
  ·exact hΦa i h1 b h2
 refine⟨rvc,Ec,Lc,fun s hs=>if_pos hs,fun s hs=>if_neg (by omega),⟨fun s=>?_,fun s=>?_,fun s s' hI b hb yJ=>?_,fun s b hb=>?_,fun b hb=>⟨hΦs b hb,.inl hb⟩,fun b hb=>hb,bi _,fun _ _ _=>rfl,rfl,rfl,rfl⟩,fun i hi=>if_pos hi,hrh,fun s h1 h2=>by simp only[rvc,src,if_neg (by omega:¬ s<as.length),if_neg (by omega:¬ zAk<=s)],hU⟩
 ·by_cases hs:s<as.length
  ·have hx:as[s]? = some (as[s]):=bk hs;have hE:Ec s=zOc R as[s]:=by rw[yY s (by omega),if_pos hs];simp[List.getD,hx]
   have hrvs:rvc s=rv (zAa+s):=if_pos hs;rw[hE,hrvs];by_cases hk:K s
   ·have hL:Lc s=[]:=by simp only[Lc,src,if_pos hs,if_pos hk]
    rw[hL];obtain⟨x,h1,h2,h3⟩:=hk;rw[hx] at h1;cases h1;simp only[zOc,h2,bp,if_false];exact h3.mono zDq.refl (fun _ _ _ h=>h.elim) (by simp)
   ·have hL:Lc s=L (zAa+s):=by simp only[Lc,src,if_pos hs,if_neg hk]
    rw[hL];rcases hA s _ hx with⟨h1,h2⟩|⟨h1,h2,h3⟩|⟨h1,h2⟩
    ·simp only[zOc,h1,if_true,h2];exact Rep.map (zDa _).agg hS kH _ _ _ (fun _ _=>rfl) (C.rep (zAa+s))
    ·simp only[zOc,h1,bp,if_false,h2];exact(zV7 h3 (fun a v hw h=>zJ2 hw h) (C.rep (zAa+s))).mono (A:=zCp) hS (fun _ _ _ h=>h.elim) (fun _ _=>rfl)
    ·exact absurd ⟨_,hx,h1,h2⟩ hk
  ·by_cases hhs:zAk<=s/\s<zAk+R.length
   ·obtain⟨j,rfl⟩:∃ j,s=zAk+j:=⟨s-zAk,by omega⟩;have y5:j<R.length:=by omega
    obtain⟨r,hj⟩:∃ r,R[j]? = some r:=⟨_,bk y5⟩;have hL:Lc (zAk+j)=L r:=by simp only[Lc,src,if_neg hs,if_pos hhs.1,dI,hj]
    rw[hL,hEh j r hj,hrh j r hj];exact Rep.map (zDa _).agg hS kH _ _ _ (fun _ _=>rfl) (C.rep r)
   ·have hL:Lc s=[]:=by
     simp only[Lc,src,if_neg hs];by_cases hb:zAk<=s
     ·rw[if_pos hb,dp (by omega)]
     ·rw[if_neg hb]
    have hE:Ec s = .bad:=by
     by_cases hg:s<zAa
     ·rw[yY s hg,if_neg hs,if_neg hhs]
     ·exact if_neg hg
    rw[hL,hE];rfl
 ·simp only[Lc]
  cases h:src s with
  |none=>exact b4|some t=>exact C.nodup t
 ·obtain⟨t,h1,h2⟩:=hLs s b hb;obtain⟨t',jc,jo⟩:=hLs s' b yJ;have:t=t':=cA fun h=>C.disj t t' h b h2 jo;subst this;exact hI (hinj s s' t h1 jc)
 ·obtain⟨t,h1,h2⟩:=hLs s b hb;exact⟨(C.own t b h2).1,hnΦ b ⟨s,hb⟩,.inl ⟨s,hb⟩⟩
theorem zMz{x y:PV}(h:zGR x y=true)(hx:x.isLock=false)(hh:y.unlock.heavy0=true):y.unlock=y/\zCv x.unlock y:=by
 cases y<;>simp only[PV.unlock,PV.heavy0] at hh<;>try (cases hh;done)
 ·cases x<;>simp only[zGR] at h<;>try (cases h;done)
  exact⟨rfl,(bc h).symm⟩
 ·cases x<;>simp only[zGR] at h<;>try (cases h;done)
  exact⟨rfl,trivial⟩
 ·cases x<;>simp only[zGR] at h<;>try (cases h;done)
  exact⟨rfl,trivial⟩
 ·cases x<;>simp only[zGR] at h<;>cases h
theorem zLa (C:Conf w0 U Φ0 w Φ rv E L) {R:LN} (hR:R.Nodup) (LI:∀ r∈R,(E r).isLock=false) (w8:∀ r∈R,r<zAa) (hRn:R.length<=1000) {m:Nat} {Uc:Nat->Prop}
    (hUc:∀ b,Uc b->(∃ r∈R,b∈L r)\/∃ i,i<m/\b∈L (zAa+i)) (C':Conf w Uc Φ1 w' Φ' rv' E' L') (ja:∀ (j r:Nat),R[j]? = some r->rv' (zAk+j)=rv r)
    (yE:∀ (j r:Nat),R[j]? = some r->zGR (E r) (zGZ (zCs R) (E' (zAk+j)))=true) {n:Nat} (hn:n<=1000)
    (hΦ2:∀ b,Φ b->Φ2 b) (hΦ2s:∀ b,Φ2 b->b<w'.heap.size/\(Φ0 b\/U b\/w0.heap.size<=b)) (hΦ2o:∀ s,s<zAa->s∉R->∀ b∈L s,¬ Φ2 b) (hΦ2n:∀ t b,b∈L' t->¬ Φ2 b)
    (hT:∀ t,((∃ j,j<R.length/\t=zAk+j)\/∃ j,j<n/\t=zAI+j)->Rep w' Φ2 (zBb w' rv' E') (E' t) (rv' t) (L' t)) :
    ∃ rv2 E2 L2,Conf w0 U Φ0 w' Φ2 rv2 E2 L2/\(∀ s,s<zAa->rv2 s=rv s)/\(∀ s,s<zAa->s∉R->E2 s=(E s).mapW (zD0 R))/\(∀ (j r:Nat),R[j]? = some r->E2 r=zGZ (zCs R) (E' (zAk+j))) /\
      (∀ j,j<n->E2 (zAa+j)=zGZ (zCs R) (E' (zAI+j))/\rv2 (zAa+j)=rv' (zAI+j))/\∀ s,zAa+n<=s->E2 s = .bad:=by
  have hh:zAk=50000000:=rfl;have ho:zAI=60000000:=rfl;have qM:zAa=1000000000:=rfl
  let cal:Nat->ON:=fun s=>if s<zAa then(match R.findIdx? (· == s) with|some j=>some (zAk+j)|none=>none) else if s<zAa+n then some (zAI+(s-zAa)) else none
  let rv2:Nat->Value:=fun s=>if s<zAa then rv s else match cal s with|some t=>rv' t|none=>undef
  let E2:Nat->PV:=fun s=>match cal s with|some t=>zGZ (zCs R) (E' t)|none=>if s<zAa then(E s).mapW (zD0 R) else .bad
  let L2:Nat->LN:=fun s=>match cal s with|some t=>L' t|none=>if s<zAa then L s else[]
  have uT:∀ (j r:Nat),R[j]? = some r->cal r=some (zAk+j):=by
    intro j r hj;have hr:=w8 r (bG hj);have:R.findIdx? (· == r)=some j:=by
      rw[dX];have y5:j<R.length:=(bf.1 hj).1;have hjr:R[j]=r:=(bf.1 hj).2;refine⟨y5,by simp[hjr],fun k hk=>?_⟩;simp only[beq_iff_eq,cu,beq_eq_false_iff_ne];intro hc;have w6:k<R.length:=by omega
      have h1:R[k]? = R[j]?:=by rw[bk w6,hc,hj]
      have:=(List.getElem?_inj w6 hR).1 h1;omega
    simp only[cal,if_pos hr,this]
  have w9:∀ s,s<zAa->s∉R->cal s=none:=by
    intro s hs jH;have:R.findIdx? (· == s)=none:=by
      rw[dW];intro x hx;simp only[beq_eq_false_iff_ne];intro hc;subst hc;exact jH hx
    simp only[cal,if_pos hs,this]
  have yc:∀ s t,cal s=some t->(∃ j,R[j]? = some s/\t=zAk+j/\j<R.length/\s<zAa)\/∃ j,j<n/\s=zAa+j/\t=zAI+j:=by
    intro s t h;by_cases hs:s<zAa
    · by_cases jH:s∈R
      · obtain⟨j,hj⟩:=cj jH;rw[uT j s hj] at h;cases h;exact .inl ⟨j,hj,rfl,(bf.1 hj).1,hs⟩
      · rw[w9 s hs jH] at h;cases h
    · simp only[cal,if_neg hs] at h;split at h
      · have h:=Option.some.inj h;exact .inr ⟨s-zAa,by omega,by omega,h.symm⟩
      · cases h
  have hinj:∀ s s' t,cal s=some t->cal s'=some t->s=s':=by
    intro s s' t h h';rcases yc s t h with⟨j,h1,h2,h3,_⟩|⟨j,h1,h2,h3⟩<;>rcases yc s' t h' with⟨j',jc,jo,qC,_⟩|⟨j',jc,jo,qC⟩
    · have:j=j':=by omega
      subst this;rw[h1] at jc;simpa using jc
    · omega
    · omega
    · omega
  have yX:∀ s,cal s=none->s<zAa->s∉R:=by
    intro s h hs jH;obtain⟨j,hj⟩:=cj jH;rw[uT j s hj] at h;cases h
  have gT:∀ s,s<zAa->s∉R->∀ b∈L s,¬ Uc b:=by
    intro s hs jH b hb hu;rcases hUc b hu with⟨r,h1,h2⟩|⟨i,h1,h2⟩
    · exact C.disj s r (fun hc=>jH (hc▸h1)) b hb h2
    · exact C.disj s (zAa+i) (by omega) b hb h2
  have yk:∀ s,s<zAa->s∉R->∀ b∈L s,w'.heap[b]? = w.heap[b]?:=fun s hs jH b hb=>C'.kept b (C.own s b hb).1 (gT s hs jH b hb);have hΦsame:zDq w w' Φ Φ2:=fun b hb=>⟨hΦ2 b hb,C'.kept b (C.frz b hb).1 fun hu=>by
    rcases hUc b hu with⟨r,_,h2⟩|⟨i,_,h2⟩
    · exact(C.own r b h2).2.1 hb
    · exact(C.own _ b h2).2.1 hb⟩
  have hkor:=zJx R;have hown:∀ a v,a.isWay=true->zBb w rv E a v->zD0 R a=a->zBb w' rv2 E2 a v:=by
    intro a v hw ha hk;have hr:=zC7 ha;have hy:∀ k,a ≠ .yld k:=fun k hc=>by subst hc;exact ha.elim
    have hl:∀ xs k,a ≠ .log xs k:=fun xs k hc=>by subst hc;exact ha.elim
    by_cases hrR:(zBf a).1∈R
    · have hp:=zJf hw hk hy hl hrR;obtain⟨j,hj⟩:=cj hrR;refine ha.mono fun nv np j9 gI=>?_;rw[hp] at j9 ⊢;simp only[zA3,ba,bw] at j9;obtain⟨h1,h2⟩:=j9;have hE2:E2 (zBf a).1=zGZ (zCs R) (E' (zAk+j)):=by simp only[E2,uT j _ hj]
      rw[hE2] at h2;obtain⟨g1,g2⟩:=zMz (yE j _ hj) (LI _ hrR) (by rw[h2];exact gI);refine⟨(E (zBf a).1).unlock,?_,by rw[<- h2,g1];exact g2⟩;simp only[zA3,ba,bw,and_true];rw[<- h1];simp only[rv2,if_pos hr]
    · refine zCX C (zDM hkor) ha ?_ ?_ (yk _ hr hrR)
      · simp only[E2,w9 _ hr hrR,if_pos hr]
      · simp only[rv2,if_pos hr]
  have hown':∀ a v,a.isWay=true->zBb w rv E a v->Rep w' Φ2 (zBb w' rv2 E2) (zD0 R a) v []:=by
    intro a v hw ha;rcases hkor a with hk|⟨_,hk⟩
    · rw[hk];exact zDb hw (hown a v hw ha hk)
    · rw[hk];rfl
  have hback:∀ a v,a.isWay=true->zBb w' rv' E' a v->Rep w' Φ2 (zBb w' rv2 E2) (zEI (zCs R) a) v []:=by
    intro a v _ ha;refine zM5 ha fun r h' hl hr=>?_;obtain⟨j,hj,rfl⟩:=zN1 hl;have jd:=w8 h' (bG hj);refine⟨jd,fun pre nv np j9 gI=>?_⟩;have e1:rv2 h'=rv' (zAk+j):=by simp only[rv2,if_pos jd];exact(ja j h' hj).symm
    have e2:E2 h'=(E' (zAk+j)).mapW (zEI (zCs R)):=by simp only[E2,uT j h' hj];rfl
    rw[e1,e2,zDN (zDa _)] at j9;exact zDc (zDa _) j9 gI
  have vS:∀ s b,b∈L2 s->(∃ t,cal s=some t/\b∈L' t)\/(cal s=none/\s<zAa/\b∈L s):=by
    intro s b hb;simp only[L2] at hb
    cases h:cal s with
    |some t=>rw[h] at hb;exact .inl ⟨t,rfl,hb⟩
    | none =>
      rw[h] at hb;by_cases hs:s<zAa
      · simp only[if_pos hs] at hb;exact .inr ⟨rfl,hs,hb⟩
      · simp only[if_neg hs] at hb;cases hb
  have wa:∀ t s b,b∈L' t->s<zAa->s∉R->b∉L s:=by
    intro t s b hb hs jH kN;rcases(C'.own t b hb).2.2 with h1|h1
    · exact gT s hs jH b kN h1
    · have:=(C.own s b kN).1;omega
  refine⟨rv2,E2,L2,⟨fun s=>?_,fun s=>?_,fun s s' hI b hb yJ=>?_,fun s b hb=>?_,hΦ2s,fun b hb=>hΦ2 b (C.frz0 b hb),bF C.size C'.size,fun b hb hu=>?_,C'.os.trans C.os,C'.tape.trans C.tape,C'.output.trans C.output⟩,fun s hs=>if_pos hs,fun s hs jH=>?_,fun j r hj=>?_,fun j hj=>?_,fun s hs=>?_⟩
  · cases h:cal s with
    | some t =>
      have e1:E2 s=zGZ (zCs R) (E' t):=by simp only[E2,h]
      have e2:L2 s=L' t:=by simp only[L2,h]
      have e3:rv2 s=rv' t:=by
        rcases yc s t h with⟨j,h1,h2,_,h4⟩|⟨j,h1,h2,h3⟩
        · simp only[rv2,if_pos h4];rw[h2];exact(ja j s h1).symm
        · simp only[rv2];rw[if_neg (by omega),h]
      rw[e1,e2,e3];refine Rep.map (zDa _).agg zDq.refl hback _ _ _ (fun _ _=>rfl) (hT t ?_);rcases yc s t h with⟨j,_,h2,h3,_⟩|⟨j,h1,_,h3⟩
      · exact .inl ⟨j,h3,h2⟩
      · exact .inr ⟨j,h1,h3⟩
    | none =>
      by_cases hs:s<zAa
      · have e1:E2 s=(E s).mapW (zD0 R):=by simp only[E2,h,if_pos hs]
        have e2:L2 s=L s:=by simp only[L2,h,if_pos hs]
        have e3:rv2 s=rv s:=if_pos hs;rw[e1,e2,e3];exact Rep.map (zDM hkor).agg hΦsame hown' _ _ _ (yk s hs (yX s h hs)) (C.rep s)
      · have e1:E2 s = .bad:=by simp only[E2,h,if_neg hs]
        have e2:L2 s=[]:=by simp only[L2,h,if_neg hs]
        rw[e1,e2];rfl
  · simp only [L2]
    cases h:cal s with
    |some t=>exact C'.nodup t
    | none => by_cases hs:s<zAa
              · simp only[if_pos hs];exact C.nodup s
              · simp only[if_neg hs];exact b4
  · rcases vS s b hb with⟨t,h1,h2⟩|⟨h1,h2,h3⟩<;>rcases vS s' b yJ with⟨t',jc,jo⟩|⟨jc,jo,qC⟩
    · have:t=t':=cA fun h=>C'.disj t t' h b h2 jo;subst this;exact hI (hinj s s' t h1 jc)
    · exact wa t s' b h2 jo (yX s' jc jo) qC
    · exact wa t' s b jo h2 (yX s h1 h2) h3
    · exact C.disj s s' hI b h3 qC
  · rcases vS s b hb with⟨t,h1,h2⟩|⟨h1,h2,h3⟩
    · have:=C'.own t b h2;refine⟨this.1,hΦ2n t b h2,?_⟩;rcases this.2.2 with h4|h4
      · rcases hUc b h4 with⟨r,_,h5⟩|⟨i,_,h5⟩
        · exact(C.own r b h5).2.2
        · exact(C.own _ b h5).2.2
      · exact .inr (bF C.size h4)
    · have:=C.own s b h3;exact⟨bH this.1 C'.size,hΦ2o s h2 (yX s h1 h2) b h3,this.2.2⟩
  · rw[C'.kept b (bH hb C.size) fun h=>?_]
    · exact C.kept b hb hu
    · have hx:∀ t,b∈L t->False:=fun t ht=>by
        rcases(C.own t b ht).2.2 with h1|h1
        · exact hu h1
        · omega
      rcases hUc b h with⟨r,_,h5⟩|⟨i,_,h5⟩
      · exact hx r h5
      · exact hx _ h5
  · simp only[E2,w9 s hs jH,if_pos hs]
  · simp only[E2,uT j r hj]
  · have:cal (zAa+j)=some (zAI+j):=by
      simp only[cal];rw[if_neg (by omega),if_pos (by omega),dI]
    refine⟨by simp only[E2,this],?_⟩;simp only[rv2,this];rw[if_neg (by omega)]
  · have:cal s=none:=by simp only[cal];rw[if_neg (by omega),if_neg (by omega)]
    simp only[E2,this];rw[if_neg (by omega)]
end
theorem zEM{w:World}:∀ {pre:zA4} {v nv:Value} {p q:PV},zA3 w v p pre=some (nv,q)->zAC p pre=some q
 |[],v,nv,p,q,h=>by simp only[zA3,ba,bw] at h;simp[zAC,h.2]
 | (i,c)::rest,v,nv,p,q,h=>by
  rw[zBc] at h;rw[zCk]
  cases hc:Eng.child p i c with
  |none=>rw[hc] at h;cases h|some x=>
   rw[hc] at h;simp only[bd] at h ⊢
   cases hk:kid w v p i c with
   |none=>rw[hk] at h;cases h|some u=>rw[hk] at h;exact zEM h
theorem zQm(R:LN)(p:PV)(hp:p.isWay=true):(zD0 R p).isTup=false:=by
 rcases zJx R p with h|⟨_,h⟩
 ·rw[h];cases p<;>first|rfl|cases hp
 ·rw[h];rfl
theorem zQk(m:List (Nat×Nat))(p:PV)(hp:p.isWay=true):(zEI m p).isTup=false:=by
 cases p<;>first|(cases hp;done)|skip
 all_goals
  simp only[zEI]
  first|rfl|(split<;>rfl)
section
variable {P:Program} {w0 w:World} {U Φ0 Φ:Nat->Prop} {nt:Nat} {hv:Hid} {a:Act} {e e':Env} {rv:Nat->Value} {E:Nat->PV} {L:Nat->LN} {o:zAM}
def zOk(w:World)(Φ:Nat->Prop)(rv:Nat->Value)(E:Nat->PV)(i:Nat)(x:Arg):Prop :=
 (∀ y∈x.shared,y.1<zAa)/\((x.byref=true/\x.p=E (zAa+i))\/(x.byref=false/\x.p=E (zAa+i)/\(E (zAa+i)).ways=[]) \/
  (x.byref=false/\∀ Φ1:Nat->Prop,(∀ b,Φ b->Φ1 b)->(∀ y∈x.shared,Cov w Φ rv E Φ1 y)->Rep w Φ1 zCp x.p (rv (zAa+i)) []))
theorem zPt (jL:zGH P o) (S:St w0 U Φ0 nt hv a w e Φ rv E L) {d:ON} (hd:∀ x,d=some x->x<nt) {f:FuncId} {as:List Arg} {vs:Array Value} (yG:vs.size=as.length) (yj:∀ i,i<as.length->vs[i]? = some (rv (zAa+i)))
  (hA:∀ i x,as[i]? = some x->zOk w Φ rv E i x) {again:PM} (h:(zTi d f as again).run o e=some e') :
  again.run o e=some e'\/Callable P f/\Calls P f vs w fun en w''=>∃ u,en = .returned u/\Fr w0 U Φ0 nt hv (a.put d u) w'' e':=by
 have hh:zAk=50000000:=rfl;have ho:zAI=60000000:=rfl;have qM:zAa=1000000000:=rfl;have kB:=S.small;obtain⟨R,h1⟩:=zLt h;obtain⟨hc,h2⟩:=zAR h1;simp only[bb] at hc;obtain⟨⟨⟨⟨jK,jJ⟩,uo⟩,hc4⟩,hc5⟩:=hc;have hR:=zGP jK;have w8:∀ r∈R,r<zAa:=fun r hr=>zCh (bj.1 jJ r hr);have hRn:=br uo;have hAn:=br hc4;obtain⟨hRl',h3⟩:=zJW h2;have LI:∀ r∈R,(E r).isLock=false:=fun r hr=>by rw[S.env r (w8 r hr)];exact hRl' r hr
 have uw:R.map e.get=R.map E:=dJ fun r hr=>(S.env r (w8 r hr)).symm;rw[uw] at h3;simp only[PM.run] at h3
 cases kS:o f (as.map fun a=>if a.byref then zGZ (zDL R) a.p else a.p) ((R.map E).map (zGZ (zDL R))) with
 |none=>rw[kS] at h3;cases h3
 | some r =>
  obtain⟨v,hO⟩:=r;rw[kS] at h3;simp only at h3
  cases hb:((as.flatMap (·.shared)).isEmpty||v.free&&zEy hO) with
  |false=>rw[hb] at h3;exact .inl h3
  | true =>
   rw[hb] at h3;simp only[cond_true] at h3;refine .inr ⟨(jL f _ _ v hO kS).1,?_⟩
   let sh:=as.flatMap (·.shared)
   let Φ1:Nat->Prop:=fun b=>Φ b\/∃ y∈sh,∃ nv q Li A,zA3 w (rv y.1) (E y.1).unlock y.2=some (nv,q)/\Rep w Φ A q nv Li/\b∈Li
   have jD:∀ y∈sh,y.1∉R:=fun y hy hyR=>by
    have:=bj.1 hc5 y hy;rw[dq.2 hyR] at this;cases this
   have uJ:∀ (y:Nat×zA4) nv q Li A,zA3 w (rv y.1) (E y.1).unlock y.2=some (nv,q)->Rep w Φ A q nv Li->∀ b∈Li,b∈L y.1:=by
    intro y nv q Li A hf hr b jT;obtain⟨nv',Li',h4,h5,h6⟩:=zB1 (zCf (S.conf.rep y.1)) (zEM hf);rw[hf] at h4;cases h4;have:=Rep.uniq _ _ _ _ hr h6;subst this;exact h5 b jT
   have hshg:∀ y∈sh,y.1<zAa:=by
    intro y hy;obtain⟨x,hx,hyx⟩:=cT.1 hy;obtain⟨i,hi⟩:=cj hx;exact(hA i x hi).1 y hyx
   have hΦ:∀ b,Φ b->Φ1 b:=fun b hb=>.inl hb;have ve:∀ t,(∀ y∈sh,y.1≠t)->∀ b∈L t,¬ Φ1 b:=by
    intro t ht b jz y8;rcases y8 with h4|⟨y,hy,nv,q,Li,A,h4,h5,h6⟩
    ·exact(S.conf.own t b jz).2.1 h4
    ·exact S.conf.disj y.1 t (ht y hy) b (uJ y nv q Li A h4 h5 b h6) jz
   have hΦs:∀ b,Φ1 b->b<w.heap.size:=by
    rintro b (y8|⟨y,hy,nv,q,Li,A,h4,h5,h6⟩)
    ·exact(S.conf.frz b y8).1
    ·exact(S.conf.own _ b (uJ y nv q Li A h4 h5 b h6)).1
   have hA':∀ i x,as[i]? = some x->zYn w rv E Φ1 i x:=by
    intro i x hx;rcases(hA i x hx).2 with h4|h4|⟨h4,h5⟩
    ·exact .inl h4
    ·exact .inr (.inl h4)
    ·refine .inr (.inr ⟨h4,h5 Φ1 hΦ fun y hy nv q Li A hf hr b jT=>.inr ⟨y,cT.2 ⟨x,bG hx,hy⟩,nv,q,Li,A,hf,hr,jT⟩⟩)
   obtain⟨rvc,Ec,Lc,q1,q2,q3,q4,q5,q5u,q6⟩:=zQB S.conf hR LI w8 hRn hAn hΦ hΦs (fun r hr=>ve r fun y hy hc=>jD y hy (hc▸hr)) (fun i hi=>ve (zAa+i) fun y hy hc=>by have:=hshg y hy;omega) hA';have hmeans:=(jL f _ _ v hO kS).2 w Φ1 rvc Ec Lc vs (fun s hs=>by rw[q1 s hs,fT];rfl) q2 q3 (by simpa using yG) (fun i hi=>by
    have LA:i<as.length:=by simpa using hi
    rw[q4 i LA];exact yj i LA) (fun s h1 h2=>q5u s (by simpa using h1) h2)
   refine hmeans.mono fun en w' wc=>?_;obtain⟨u,Φ',rv',E',L',rfl,C',hZ,uy,vY⟩:=wc;refine⟨u,rfl,?_⟩;obtain⟨e1,g1,g2⟩:=zK7 h3;obtain⟨e2,g3,g4,g5,g6,g7,g8⟩:=zNR hR g1;simp only[be] at g4 hZ uy;have hE'h:∀ (j r:Nat),R[j]? = some r->∃ p,hO[j]? = some p/\E' (zAk+j)=p:=by
    intro j r hj;have y5:j<R.length:=(bf.1 hj).1;have hjh:j<hO.length:=by omega
    refine⟨hO[j],bk hjh,?_⟩;rw[(uy j y5).1];simp[List.getD,bk hjh]
   have ja:∀ (j r:Nat),R[j]? = some r->rv' (zAk+j)=rv r:=fun j r hj=>by
    rw[(uy j (bf.1 hj).1).2,q5 j r hj]
   have yE:∀ (j r:Nat),R[j]? = some r->zGR (E r) (zGZ (zCs R) (E' (zAk+j)))=true:=by
    intro j r hj;obtain⟨p,wR,qU⟩:=hE'h j r hj;rw[qU];exact g6 j _ _ (by simp[hj]) (by simp[wR])
   have hΦ1sh:sh.isEmpty=true->∀ b,Φ1 b->Φ b:=by
    intro hs b y8;rcases y8 with h4|⟨y,hy,_⟩
    ·exact h4
    ·rw[d6.1 hs] at hy;cases hy
   have yt:∀ s,s<zAa->s∉R->∀ b∈L s,¬ (∃ t,b∈Lc t):=by
    intro s hs jH b hb hu;rcases q6 b hu with⟨r,h4,h5⟩|⟨i,h4,h5⟩
    ·exact S.conf.disj s r (fun hc=>jH (hc▸h4)) b hb h5
    ·exact S.conf.disj s (zAa+i) (by omega) b hb h5
   have wd:zEy hO=true->∀ j,j<R.length->(E' (zAk+j)).free=true:=by
    intro hf j hj;rw[(uy j hj).1];have hjh:j<hO.length:=by omega
    have key:∀ (l:List PV),zEy l=true->∀ j,j<l.length->(l.getD j .bad).free=true:=by
     intro l
     induction l with
     |nil=>intro _ j hj;simp at hj|cons x l ih=>
      intro h j hj;simp only[zEy,bb] at h
      cases j with
      |zero=>exact h.1|succ j=>simpa using ih h.2 j (by simpa using hj)
    exact key hO hf j hjh
   have back : ∀ n,n<=1000->(v.free=true->∀ j,j<n->(E' (zAI+j)).free=true) ->
     ∃ Φ2 rv2 E2 L2,Conf w0 U Φ0 w' Φ2 rv2 E2 L2/\(∀ s,s<zAa->rv2 s=rv s)/\(∀ s,s<zAa->s∉R->E2 s=(E s).mapW (zD0 R))/\(∀ (j r:Nat),R[j]? = some r->E2 r=zGZ (zCs R) (E' (zAk+j))) /\
     (∀ j,j<n->E2 (zAa+j)=zGZ (zCs R) (E' (zAI+j))/\rv2 (zAa+j)=rv' (zAI+j))/\∀ s,zAa+n<=s->E2 s = .bad:=by
    intro n hn uj;by_cases jm:sh.isEmpty=true
    ·obtain⟨rv2,E2,L2,hl⟩:=zLa (Φ2:=Φ') S.conf hR LI w8 hRn q6 C' ja yE hn (fun b y8=>C'.frz0 b (hΦ b y8))
      (fun b y8=>by
       refine⟨(C'.frz b y8).1,?_⟩;rcases(C'.frz b y8).2 with h4|h4|h4
       ·exact(S.conf.frz b (hΦ1sh jm b h4)).2
       ·rcases q6 b h4 with⟨r,_,h5⟩|⟨i,_,h5⟩
        ·exact .inr (S.conf.own r b h5).2.2
        ·exact .inr (S.conf.own _ b h5).2.2
       ·exact .inr (.inr (bF S.conf.size h4)))
      (fun s hs jH b y8 hp=>by
       rcases(C'.frz b hp).2 with h4|h4|h4
       ·exact(S.conf.own s b y8).2.1 (hΦ1sh jm b h4)
       ·exact yt s hs jH b y8 h4
       ·have:=(S.conf.own s b y8).1;omega)
      (fun t b y8=>(C'.own t b y8).2.1) (fun t _=>C'.rep t)
     exact⟨Φ',rv2,E2,L2,hl⟩
    ·have hvf:v.free=true/\zEy hO=true:=by
      have hse':sh.isEmpty=false:=by simpa using jm
      rw[show(as.flatMap (·.shared)).isEmpty=false from hse'] at hb;simpa using hb
     obtain⟨rv2,E2,L2,hl⟩:=zLa (Φ2:=Φ) S.conf hR LI w8 hRn q6 C' ja yE hn (fun b y8=>y8)
      (fun b y8=>⟨bH (S.conf.frz b y8).1 C'.size,(S.conf.frz b y8).2⟩)
      (fun s _ _ b y8=>(S.conf.own s b y8).2.1)
      (fun t b y8 hp=>(C'.own t b y8).2.1 (C'.frz0 b (hΦ b hp)))
      (fun t ht=>by
       refine Rep.free _ _ _ ?_ (C'.rep t);rcases ht with⟨j,hj,rfl⟩|⟨j,hj,rfl⟩
       ·exact wd hvf.2 j hj
       ·exact uj hvf.1 j hj)
     exact⟨Φ,rv2,E2,L2,hl⟩
   have st:∀ {Φ2:Nat->Prop} {rv2:Nat->Value} {E2:Nat->PV} {L2:Nat->LN},Conf w0 U Φ0 w' Φ2 rv2 E2 L2->(∀ s,s<zAa->rv2 s=rv s)->(∀ s,s<zAa->s∉R->E2 s=(E s).mapW (zD0 R)) ->
     (∀ (j r:Nat),R[j]? = some r->E2 r=zGZ (zCs R) (E' (zAk+j)))->St w0 U Φ0 nt hv a w' e2 Φ2 rv2 E2 L2:=by
    intro Φ2 rv2 E2 L2 C2 k1 k2 k3;refine S.turn C2 (fun s hs=>?_) k1 (fun d ps hd hp=>?_)
    ·by_cases jH:s∈R
     ·obtain⟨j,hj⟩:=cj jH;obtain⟨p,wR,qU⟩:=hE'h j s hj;rw[k3 j s hj,g8 j s (zGZ (zCs R) p) hj (by simp[wR]),qU]
     ·rw[k2 s hs jH,g7 s jH,g2 s,S.env s hs]
    ·have vI:d<zAa:=by omega
     by_cases hdR:d∈R
     ·obtain⟨j,hj⟩:=cj hdR;have:=yE j d hj;rw[k3 j d hj] at hp;rw[hp] at this;cases E d<;>cases this
     ·rw[k2 d vI hdR] at hp;exact zEg (zQm R) hp
   cases d with
   | none =>
    obtain⟨Φ2,rv2,E2,L2,C2,k1,k2,k3,k4,k5⟩:=back 0 (by omega) (fun _ j hj=>by omega);have kJ:(put none (zGZ (zCs R) v)).run o e2=some e':=by
     revert g3;cases zGZ (zCs R) v<;>exact fun h=>h
    simp only[put,PM.run,ba] at kJ;subst kJ;exact⟨Φ2,rv2,E2,L2,st C2 k1 k2 k3,fun g hg=>k5 g hg⟩
   | some d =>
    have ua:=hd d rfl
    cases hvt:v.isTup with
    | false =>
     have uz:∀ ps,v ≠ .tup ps:=fun ps hc=>by rw[hc] at hvt;cases hvt
     obtain⟨o1,o2⟩:=vY.one uz;obtain⟨Φ2,rv2,E2,L2,C2,k1,k2,k3,k4,k5⟩:=back 1 (by omega) (fun hf j hj=>by
      have:j=0:=by omega
      subst this;rw[bL,o1];exact hf)
     obtain⟨m1,m2⟩:=k4 0 (by omega);simp only[bL] at m1 m2;have kJ:(put (some d) (zGZ (zCs R) v)).run o e2=some e':=by
      have hnt2:∀ ps,zGZ (zCs R) v ≠ .tup ps:=fun ps hc=>by
       obtain⟨ps',jq,_⟩:=zEg (zQk _) hc;exact uz ps' jq
      revert g3;simp only[zDB];split
      ·rename_i hc;exact absurd hc (hnt2 _)
      ·exact fun h=>h
     have:=zF0 (st C2 k1 k2 k3) hd (g:=zAa) (bi _) (by rw[m1,o1];exact kJ) (fun s hs hI=>k5 s (by omega));rw[m2,o2] at this;exact this
    | true =>
     cases uC:v<;>rw[uC] at hvt<;>try (cases hvt;done)
     rename_i ps;subst uC;obtain⟨us,rfl,o2,o3⟩:=vY.many ps rfl;have e1:zGZ (zCs R) (.tup ps) = .tup (zCB (zEI (zCs R)) ps):=rfl;rw[e1] at g3;simp only[zDB] at g3;obtain⟨ko,g9⟩:=zAR g3;simp only[bb] at ko;have hl16:=br ko.1;rw[zDi] at hl16;obtain⟨Φ2,rv2,E2,L2,C2,k1,k2,k3,k4,k5⟩:=back ps.length (by omega) (fun hf j hj=>by
      obtain⟨p,hp⟩:∃ p,ps[j]? = some p:=⟨_,bk hj⟩;rw[(o3 j p hp).1];have key:∀ (l:List PV),zEy l=true->∀ p∈l,p.free=true:=by
       intro l
       induction l with
       |nil=>intro _ p hp;cases hp|cons x l ih=>
        intro h p hp;simp only[zEy,bb] at h;rcases bv.1 hp with rfl|hp
        ·exact h.1
        ·exact ih h.2 p hp
      exact key ps hf p (bG hp))
     simp only[PM.run] at g9;obtain⟨L3,S3⟩:=(st C2 k1 k2 k3).empty ua;have vf:∀ g,zAa<=g->g≠d:=fun g hg=>by omega
     refine zFk ua (vs:=us) (zCB (zEI (zCs R)) ps) 0 S3 (fun ps hp=>by rw[zAi] at hp;cases hp) (by rw[zDi];omega) (by rw[zDi];omega) (fun j p hp=>?_) (fun g hg hI=>?_) (fun x hx=>?_) (fun j hj=>by omega) g9
     ·rw[zHR] at hp
      cases vn:ps[j]? with
      |none=>rw[vn] at hp;cases hp|some p0=>
       rw[vn] at hp;simp only[bu,ba] at hp;have hj:j<ps.length:=(bf.1 vn).1;obtain⟨m1,m2⟩:=k4 j hj;obtain⟨m3,m4⟩:=o3 j p0 vn;simp only[bL,dh];rw[zAf (vf _ (by omega)),m1,m3,m2];exact⟨hp,m4⟩
     ·rw[zAf (vf g hg)];refine k5 g ?_;refine d5 fun yL=>hI (g-zAa) (by rw[zDi];omega) (by omega)
     ·have:=bj.1 ko.2 x hx;simpa using this
end
end Go.Eng
namespace Go.Eng
open Go
theorem zO5(off:Nat):∀ (vs:List Value) (k:Nat) (cells:Array Value),off+k+vs.length<=cells.size ->
  ((vs.zipIdx k).foldl (fun cs x=>cs.setIfInBounds (off+x.2) x.1) cells).toList=cells.toList.take (off+k)++vs++cells.toList.drop (off+k+vs.length)
 |[],k,cells,h=>by simp
 | v :: vs,k,cells,h=>by
  simp only[b9] at h;simp only[fN,bZ];rw[zO5 off vs (k+1) (cells.setIfInBounds (off+k) v) (by simp;omega)];apply dk;intro m;rw[zDf (by simp;omega),zDf (by simp;omega)];simp only[Array.toList_setIfInBounds,dV,b9,f0];by_cases h1:m<off+k
  ·have:¬ off+k=m:=by omega
   rw[if_pos (by omega),if_pos h1,if_neg this]
  ·by_cases h2:m=off+k
   ·subst h2;have h5:off+k<off+(k+1):=by omega
    have h6:off+k<cells.size:=by omega
    have h7:off+k<off+k+(vs.length+1):=by omega
    simp[h5,h6,h7]
   ·have h3:¬ off+k=m:=by omega
    by_cases h4:m<off+k+(vs.length+1)
    ·rw[if_neg (by omega),if_pos (by omega),if_neg h1,if_pos h4];rw[show m-(off+k)=(m-(off+(k+1)))+1 by omega];simp
    ·rw[if_neg (by omega),if_neg (by omega),if_neg h1,if_neg h4,if_neg h3]
theorem zPe(off:Nat)(v:Value)(cells:Array Value)(h:off+v.cells.size<=cells.size):v.cells.zipIdx.foldl (fun cs (c,j)=>cs.setIfInBounds (off+j) c) cells=zBp cells off v.cells.toList:=by
 apply Array.ext';rw[<- Array.foldl_toList,Array.toList_zipIdx];have:=zO5 off v.cells.toList 0 cells (by simpa using h);simpa[zBp] using this
section
variable {P:Program} {w0 w:World} {U Φ0 Φ:Nat->Prop} {nt:Nat} {hv:Hid} {a:Act} {e e':Env} {rv:Nat->Value} {E:Nat->PV} {L:Nat->LN} {o:zAM} {A:Al}
theorem zPy:∀ (xs:List Operand) (i:Nat) {k:List PV->PM} {e:Env} {rv:Nat->Value} {E:Nat->PV} {L:Nat->LN},St w0 U Φ0 nt hv a w e Φ rv E L->(∀ x∈xs,zAZ nt x=true)->(zUt xs k).run o e=some e' ->
  ∃ e1 rv1 E1 L1 ps,(k ps).run o e1=some e'/\St w0 U Φ0 nt hv a w e1 Φ rv1 E1 L1/\ps.length=xs.length/\(∀ (j:Nat) (p:PV) (x:Operand),ps[j]? = some p->xs[j]? = some x->E1 (zAa+i+j)=p/\rv1 (zAa+i+j)=a.eval x) /\
   ∀ s,zAa<=s->(s<zAa+i\/zAa+i+xs.length<=s)->E1 s=E s/\rv1 s=rv s
 |[],i,k,e,rv,E,L,S,hx,h=>⟨e,rv,E,L,[],h,S,rfl,by simp,fun _ _ _=>⟨rfl,rfl⟩⟩
 | x :: xs,i,k,e,rv,E,L,S,hx,h=>by
  simp only[zUt] at h;obtain⟨e1,rv1,E1,L1,h1,S1,h2,h3⟩:=zGd S (hx x (by simp)) (g:=zAa+i) (by omega) h;obtain⟨e2,rv2,E2,L2,ps,h4,S2,h5,h6,h7⟩:=zPy xs (i+1) S1 (fun y hy=>hx y (by simp[hy])) h1;refine⟨e2,rv2,E2,L2,E1 (zAa+i)::ps,h4,S2,by simp[h5],fun j p y hp hy=>?_,fun s hs kD=>?_⟩
  ·cases j with
   |zero=>
    simp at hp hy;subst hp;subst hy;obtain⟨k1,k2⟩:=h7 (zAa+i) (by omega) (.inl (by omega));simp only[bL];rw[k1,k2];exact⟨rfl,h2⟩
   |succ j=>
    have:=h6 j p y (by simpa using hp) (by simpa using hy);rwa[show zAa+i+(j+1)=zAa+(i+1)+j by omega]
  ·obtain⟨k1,k2⟩:=h7 s hs (by simp at kD;omega);obtain⟨k3,k4,_⟩:=h3 s hs (by simp at kD;omega);exact⟨k1.trans k3,k2.trans k4⟩
theorem zWt(S:St w0 U Φ0 nt hv a w e Φ rv E L){nz:ON}{x:Operand}(hx:zAZ nt x=true){g:Nat}(hg:zAa<=g){k:PV->PM}(h:(zYS nz x k).run o e=some e') :
  ∃ e1 rv1 E1 L1,(k (E1 g)).run o e1=some e'/\St w0 U Φ0 nt hv a w e1 Φ rv1 E1 L1/\rv1 g=a.eval x/\zXM g rv rv1 E E1 L L1:=by
 unfold zYS at h;split at h
 ·rename_i s;have hr:Rep w Φ (zBb w rv E) (.own s []) (a.eval (.const (.slice none 0 0))) [] := .inl ⟨rfl,rfl,rfl⟩;refine⟨e,_,_,_,?_,S.hold hg hr,zAi,fun s _ hI=>⟨zAf hI,zAf hI,zAf hI⟩⟩;rw[zAi];exact h
 ·exact zGd S hx hg h
theorem zPF{nz:ON}:∀ (xs:List Operand) (i:Nat) {k:List PV->PM} {e:Env} {rv:Nat->Value} {E:Nat->PV} {L:Nat->LN},St w0 U Φ0 nt hv a w e Φ rv E L->(∀ x∈xs,zAZ nt x=true)->(zQH nz xs k).run o e=some e' ->
  ∃ e1 rv1 E1 L1 ps,(k ps).run o e1=some e'/\St w0 U Φ0 nt hv a w e1 Φ rv1 E1 L1/\ps.length=xs.length/\(∀ (j:Nat) (p:PV) (x:Operand),ps[j]? = some p->xs[j]? = some x->E1 (zAa+i+j)=p/\rv1 (zAa+i+j)=a.eval x) /\
   ∀ s,zAa<=s->(s<zAa+i\/zAa+i+xs.length<=s)->E1 s=E s/\rv1 s=rv s
 |[],i,k,e,rv,E,L,S,hx,h=>⟨e,rv,E,L,[],h,S,rfl,by simp,fun _ _ _=>⟨rfl,rfl⟩⟩
 | x :: xs,i,k,e,rv,E,L,S,hx,h=>by
  simp only[zQH] at h;obtain⟨e1,rv1,E1,L1,h1,S1,h2,h3⟩:=zWt S (hx x (by simp)) (g:=zAa+i) (by omega) h;obtain⟨e2,rv2,E2,L2,ps,h4,S2,h5,h6,h7⟩:=zPF xs (i+1) S1 (fun y hy=>hx y (by simp[hy])) h1;refine⟨e2,rv2,E2,L2,E1 (zAa+i)::ps,h4,S2,by simp[h5],fun j p y hp hy=>?_,fun s hs kD=>?_⟩
  ·cases j with
   |zero=>
    simp at hp hy;subst hp;subst hy;obtain⟨k1,k2⟩:=h7 (zAa+i) (by omega) (.inl (by omega));simp only[bL];rw[k1,k2];exact⟨rfl,h2⟩
   |succ j=>
    have:=h6 j p y (by simpa using hp) (by simpa using hy);rwa[show zAa+i+(j+1)=zAa+(i+1)+j by omega]
  ·obtain⟨k1,k2⟩:=h7 s hs (by simp at kD;omega);obtain⟨k3,k4,_⟩:=h3 s hs (by simp at kD;omega);exact⟨k1.trans k3,k2.trans k4⟩
theorem zKt(hA:∀ a v,a.isWay=true->A a v->v.oneCell'=true){p:PV}{v:Value}{M:LN}(h:Rep w Φ A p v M)(hw:p.whole=true):zCu v=p.isAgg/\v.cells.size=p.cells.length:=by
 simp only[PV.whole,bV] at hw;have ha:zCu v=p.isAgg:=by
  rcases hw with hw|hw
  ·cases p<;>simp[PV.isAgg] at hw;obtain⟨vs,rfl,_⟩:=h;rfl
  ·rw[(zBX (zCq hA h hw)).2,(zBu hw).2]
 have:=(h.cellsAll ha).length;exact⟨ha,by simpa using this⟩
theorem zRi(C:Conf w0 U Φ0 w Φ rv E L){place place':Nat->Option (Nat×Nat)}(vV:∀ i x,place i=some x->place' i=some x):∀ (ps:List (Nat×PV)) (vs:List (Nat×Value)) (k:Nat) (z cs:List PV) (zc:Array Value) (Lz:LN),
  zGf place z ps=some cs->vs.length=ps.length->(∀ (j:Nat) (x:Nat×PV) (y:Nat×Value),ps[j]? = some x->vs[j]? = some y->x.1=y.1/\E (zAa+k+j)=x.2/\rv (zAa+k+j)=y.2) ->
  zBa w Φ (zBb w rv E) z zc.toList Lz->Lz.Nodup->(∀ b∈Lz,∃ t,zAa<=t/\t<zAa+k/\b∈L t) ->
  ∃ cells Lc,Instr.fill place' zc vs=some cells/\zBa w Φ (zBb w rv E) cs cells.toList Lc/\Lc.Nodup/\∀ b∈Lc,∃ t,zAa<=t/\t<zAa+k+ps.length/\b∈L t
 |[],vs,k,z,cs,zc,Lz,h,hl,_,hr,hn,hm=>by
  have:vs=[]:=bq (by simpa using hl);subst this;simp only[zGf,ba] at h;subst h;exact⟨zc,Lz,rfl,hr,hn,by simpa using hm⟩
 | (i, p) :: ps,vs,k,z,cs,zc,Lz,h,hl,hj,hr,hn,hm=>by
  match vs,hl,hj with
  | (i', v) :: vs,hl,hj =>
   obtain⟨h1,h2,h3⟩:=hj 0 (i,p) (i',v) rfl rfl;simp only[bL] at h1 h2 h3;subst h1;simp only[zGf] at h
   cases hp:place i with
   |none=>rw[hp] at h;cases h
   | some x =>
    obtain⟨off,n⟩:=x;rw[hp] at h;simp only at h;split at h
    ·rename_i hc;obtain⟨c1,c2,c3⟩:=hc;have hX:=C.rep (zAa+k);rw[h2,h3] at hX;obtain⟨q1,q2⟩:=zKt (fun a v hw h=>zDo hw h) hX c3;have kj:zc.size=z.length:=by have:=hr.length;simpa using this
     obtain⟨L1,L2,L3,hL,hk⟩:=hr.replace off n;subst hL;have jM:=hk (w':=w) (Φ':=Φ) (A':=zBb w rv E) (fun _ _ _ h=>h) zDq.refl (fun _ _=>rfl) (hX.cellsAll q1);have kI:v.cells.toList.length=n:=by simp;omega
     have y9:(zBp zc off v.cells.toList).toList=zc.toList.take off++v.cells.toList++zc.toList.drop (off+n):=by
      simp only[zBp];rw[kI]
     simp only[bI] at hn;have uU:∀ b∈L (zAa+k),b∉L1++L2++L3:=by
      intro b hb jS;obtain⟨t,k1,k2,k3⟩:=hm b jS;exact C.disj t (zAa+k) (by omega) b k3 hb
     obtain⟨cells,Lc,g1,g2,g3,g4⟩:=zRi C vV ps vs (k+1) _ cs (zBp zc off v.cells.toList) (L1++L (zAa+k)++L3) h (by simpa using hl) (fun j x y hx hy=>by
      rw[show zAa+(k+1)+j=zAa+k+(j+1) by omega];exact hj (j+1) x y (by simpa using hx) (by simpa using hy)) (by rw[y9];exact jM)
      (by
       simp only[bI];refine⟨⟨hn.1.1,C.nodup _,fun x hx y hy e=>uU y hy (by rw[<- e];simp[hx])⟩,hn.2.1,fun x hx y hy e=>?_⟩;rcases bg.1 hx with hx|hx
       ·exact hn.2.2 x (by simp[hx]) y hy e
       ·exact uU x hx (by rw[e];simp[hy]))
      (fun b hb=>by
       simp only[bg] at hb;rcases hb with(hb|hb)|hb
       ·obtain⟨t,k1,k2,k3⟩:=hm b (by simp[hb]);exact⟨t,k1,by omega,k3⟩
       ·exact⟨zAa+k,by omega,by omega,hb⟩
       ·obtain⟨t,k1,k2,k3⟩:=hm b (by simp[hb]);exact⟨t,k1,by omega,k3⟩)
     refine⟨cells,Lc,?_,g2,g3,fun b hb=>?_⟩
     ·simp only[Instr.fill,vV i _ hp];rw[if_neg (by simp;omega),zPe off v zc (by omega)];exact g1
     ·obtain⟨t,k1,k2,k3⟩:=g4 b hb;exact⟨t,k1,by simp;omega,k3⟩
    ·cases h
theorem St.madeN(S:St w0 U Φ0 nt hv a w e Φ rv E L)(N:Nat)(hb:∀ s,zAa+N<=s->E s = .bad){d:ON}(hd:∀ x,d=some x->x<nt){w':World}{p:PV}{v:Value}{Lp:LN}(hr:∀ A:Al,(∀ a u,a.isWay=true->zBb w rv E a u->A a u)->Rep w' Φ A p v Lp)(ua:Lp.Nodup)
  (ho:∀ b∈Lp,(∃ t,zAa<=t/\t<zAa+N/\b∈L t)\/(w.heap.size<=b/\b<w'.heap.size)) (hw:w.heap.size<=w'.heap.size)
  (hk:∀ b,b<w.heap.size->(∀ t,zAa<=t->t<zAa+N->b∉L t)->w'.heap[b]? = w.heap[b]?) (u7:w'.os=w.os/\w'.tape=w.tape/\w'.output=w.output) (h:(put d p).run o e=some e') :
  Fr w0 U Φ0 nt hv (a.put d v) w' e':=by
 have hG:∀ s,decide (zAa<=s/\s<zAa+N)=true↔zAa<=s/\s<zAa+N:=fun s=>decide_eq_true_iff
 have hc:=S.conf.make (w':=w') (fun s=>decide (zAa<=s/\s<zAa+N)) (fun s hs=>((hG s).1 hs).1) (g:=zAa+N) (by omega) (fun A hA=>hr A hA) ua
  (fun b hb=>(ho b hb).imp (fun⟨t,h1,h2,h3⟩=>⟨t,h3,(hG t).2 ⟨h1,h2⟩⟩) id) hw
  (fun b hb hn=>hk b hb fun t h1 h2 h3=>by have:=hn t h3;rw[(hG t).2 ⟨h1,h2⟩] at this;cases this) u7
 have S1:=S.turn (e':=e) hc (fun s hs=>by
  rw[zAf (by omega)];have:decide (zAa<=s/\s<zAa+N)=false:=decide_eq_false (by omega);simp only[this,bp,if_false];exact S.env s hs) (fun s hs=>zAf (by omega)) (fun d ps hd hp=>by
  rw[zAf (by simp only[zAa];omega)] at hp;have:decide (zAa<=d/\d<zAa+N)=false:=decide_eq_false (by simp only[zAa];omega);simp only[this,bp,if_false] at hp;exact⟨ps,hp,rfl⟩)
 have:=zF0 S1 hd (g:=zAa+N) (by omega) (by rw[zAi];exact h) (fun s hs hI=>by
  rw[zAf hI];by_cases h3:s<zAa+N
  ·have:decide (zAa<=s/\s<zAa+N)=true:=(hG s).2 ⟨hs,h3⟩;simp[this]
  ·have:decide (zAa<=s/\s<zAa+N)=false:=decide_eq_false (by omega);simp only[this,bp,if_false];exact hb s (by omega))
 rwa[zAi] at this
theorem zPP(S:St w0 U Φ0 nt hv a w e Φ rv E L)(hb:zBz E){d:ON}(hd:∀ x,d=some x->x<nt){place place':Nat->Option (Nat×Nat)}(vV:∀ i x,place i=some x->place' i=some x){t:TypeId}{z:PV}(hz:zCS P t=some z){ps:List (Nat×Operand)}(y6:∀ x∈ps,zAZ nt x.2=true)
  (h:(zOZ place z.cells ps fun cs=>put d (.agg cs)).run o e=some e'):∃ v cells,(∀ w:World,(zeroValue t).run P w = .ok v w)/\Instr.fill place' v.cells (ps.map fun x=>(x.1,a.eval x.2))=some cells/\Fr w0 U Φ0 nt hv (a.put d (.agg cells)) w e':=by
 obtain⟨i,zv,hi,hzv,yA,kb⟩:=zDW hz;simp only[zOZ] at h;obtain⟨e1,rv1,E1,L1,vs,h1,S1,h2,h3,h4⟩:=zPy (ps.map (·.2)) 0 S (fun x hx=>by
  obtain⟨y,hy,rfl⟩:=bT.1 hx;exact y6 y hy) h
 simp only[be] at h2 h4;split at h1
 ·rename_i cs hf;obtain⟨hr,vi,uD,_⟩:=zCt (w:=w) (Φ:=Φ) (A:=zBb w rv1 E1) kb;obtain⟨cells,Lc,g1,g2,g3,g4⟩:=zRi S1.conf vV ((ps.map (·.1)).zip vs) (ps.map fun x=>(x.1,a.eval x.2)) 0 z.cells cs zv.cells [] hf (by simp[h2]) (fun j x y hx hy=>by
   obtain⟨jg,j6⟩:=fB.1 hx;rw[ce] at jg hy
   cases vn:ps[j]? with
   |none=>rw[vn] at hy;cases hy|some q=>
    rw[vn] at jg hy;simp only[bu,ba] at jg hy;obtain⟨k1,k2⟩:=h3 j x.2 q.2 j6 (by rw[ce,vn];rfl);exact⟨by rw[<- jg,<- hy],k1,by rw[k2,<- hy]⟩) (hr.cellsAll uD) b4 (by simp)
  refine⟨zv,cells,yA,g1,S1.madeN ps.length (fun s hs=>?_) hd (p := .agg cs) (v := .agg cells) (w':=w) (Lp:=Lc) (fun A hA=>⟨cells,rfl,g2.mono zDq.refl hA (fun _ _=>rfl)⟩) g3 (fun b hb=>.inl ?_) (bi _) (fun _ _ _=>rfl) ⟨rfl,rfl,rfl⟩ h1⟩
  ·rw[(h4 s (by omega) (.inr (by omega))).1];exact hb s (by omega)
  ·obtain⟨t,k1,k2,k3⟩:=g4 b hb;have hl:((ps.map (·.1)).zip vs).length=ps.length:=by simp[h2]
   exact⟨t,k1,by omega,k3⟩
 ·cases h1
theorem zTq{α β:Type}{f:α->Sem β}{g:α->β}(l:List α)(h:∀ x∈l,∀ w:World,(f x).run P w = .ok (g x) w)(w:World):(l.mapM f).run P w = .ok (l.map g) w:=by
 induction l with
 |nil=>rfl|cons x l ih=>simp only[iL,bo,h x (by simp),bh,ih (fun y hy=>h y (by simp[hy])),bx,bM]
theorem zVz(S:St w0 U Φ0 nt hv a w e Φ rv E L)(hb:zBz E){d:ON}(hd:∀ x,d=some x->x<nt){t:TypeId}{ps:Array (Nat×Operand)}(y6:∀ x∈ps.toList,zAZ nt x.2=true)(h:(zOb P d t ps.toList).run o e=some e') :
  ∃ v,(Instr.build t (ps.map fun x=>(x.1,a.eval x.2))).run P w = .ok v w/\Fr w0 U Φ0 nt hv (a.put d v) w e':=by
 have uw:(ps.map fun x=>(x.1,a.eval x.2)).toList=ps.toList.map fun x=>(x.1,a.eval x.2):=by simp
 simp only[zOb] at h;split at h
 ·rename_i fs z ht hz;obtain⟨vO,h1⟩:=zAR h;simp only[bm] at hz;obtain⟨zp,hz,rfl⟩:=hz
  let sz:Field->Nat:=fun f=>(szT P f.type).getD 0
  have wY:∀ f∈fs.toList,∀ w:World,(sizeOf f.type).run P w = .ok (sz f) w:=by
   intro f hf w;rw[<- Array.all_toList] at vO;have:=bj.1 vO f hf;obtain⟨n,hn⟩:=dE.1 this;obtain⟨i,hi,wI⟩:=zCx hn;simp only[sz,hn,de];rw[zA8 hi,wI]
  obtain⟨zv,cells,k1,k2,k3⟩:=zPP (P:=P) S hb hd (place':=fun i=>(fs.map fun f=>(f.offset,sz f))[i]?) (fun i x hx=>by
   cases qm:fs[i]? with
   |none=>rw[qm] at hx;cases hx
   | some f =>
    rw[qm] at hx;simp only[bd] at hx
    cases hs:szT P f.type with
    |none=>rw[hs] at hx;cases hx|some n=>
     rw[hs] at hx;simp only[bu,ba] at hx;subst hx;simp[qm,sz,hs]) hz y6 h1
  refine⟨.agg cells,?_,k3⟩;have hm:∀ w:World,(fs.mapM fun f=>(do pure (f.offset,<- sizeOf f.type):Sem (Nat×Nat))).run P w = .ok (fs.map fun f=>(f.offset,sz f)) w:=by
   intro w;have:=zTq (P:=P) (f:=fun f=>(do pure (f.offset,<- sizeOf f.type):Sem (Nat×Nat))) (g:=fun f=>(f.offset,sz f)) fs.toList (fun f hf w=>by
    simp only[bo,wY f hf w,bh,bx]) w
   rw[il];simp only[Sem.run_map,this,bh];rw[<- ir,Array.toArray_toList]
  simp only[Instr.build,bo,k1,bh,run_underlying ht,hm];rw[uw,k2];rfl
 ·rename_i len el z ht hz;obtain⟨n,hn,h1⟩:=zBS h;simp only[bm] at hz;obtain⟨zp,hz,rfl⟩:=hz;obtain⟨i,hi,wI⟩:=zCx hn;obtain⟨zv,cells,k1,k2,k3⟩:=zPP (P:=P) S hb hd (place':=fun i=>some (i*n,n)) (fun i x hx=>hx) hz y6 h1;refine⟨.agg cells,?_,k3⟩;simp only[Instr.build,bo,k1,bh,run_underlying ht,zA8 hi,wI];rw[uw,k2];rfl
 ·cases h
theorem zLc{tk:Bool}:∀ (ps:List PV) (i:Nat) {k:List PV->PM} {e:Env} {Φ:Nat->Prop} {rv:Nat->Value} {E:Nat->PV} {L:Nat->LN},St w0 U Φ0 nt hv a w e Φ rv E L->(∀ (j:Nat) (p:PV),ps[j]? = some p->E (zAa+i+j)=p)->(zGq tk ps k).run o e=some e' ->
  ∃ e1 Φ1 rv1 E1 L1 qs,(k qs).run o e1=some e'/\St w0 U Φ0 nt hv a w e1 Φ1 rv1 E1 L1/\qs.length=ps.length/\(∀ (j:Nat) (q:PV),qs[j]? = some q->E1 (zAa+i+j)=q/\rv1 (zAa+i+j)=rv (zAa+i+j)) /\
   ∀ s,zAa<=s->(s<zAa+i\/zAa+i+ps.length<=s)->E1 s=E s/\rv1 s=rv s
 |[],i,k,e,Φ,rv,E,L,S,hp,h=>⟨e,Φ,rv,E,L,[],h,S,rfl,by simp,fun _ _ _=>⟨rfl,rfl⟩⟩
 | p :: ps,i,k,e,Φ,rv,E,L,S,hp,h=>by
  simp only[zGq] at h;have hE:=hp 0 p rfl;simp only[bL] at hE;rw[<- hE] at h;obtain⟨e1,rv1,E1,h1,W⟩:=zMu S (g:=zAa+i) (by omega) h;obtain⟨Φ1,L1,S1⟩:=W.st;obtain⟨e2,Φ2,rv2,E2,L2,qs,h2,S2,h3,h4,h5⟩:=zLc ps (i+1) S1 (fun j q hq=>by
   rw[(W.rest _ (by omega) (by omega)).1,show zAa+(i+1)+j=zAa+i+(j+1) by omega];exact hp (j+1) q (by simpa using hq)) h1
  refine⟨e2,Φ2,rv2,E2,L2,E1 (zAa+i)::qs,h2,S2,by simp[h3],fun j q hq=>?_,fun s hs kD=>?_⟩
  ·cases j with
   |zero=>
    simp at hq;subst hq;obtain⟨k1,k2⟩:=h5 (zAa+i) (by omega) (.inl (by omega));simp only[bL];exact⟨k1,k2.trans W.val⟩
   |succ j=>
    obtain⟨k1,k2⟩:=h4 j q (by simpa using hq);rw[show zAa+(i+1)+j=zAa+i+(j+1) by omega] at k1 k2;exact⟨k1,k2.trans (W.rest _ (by omega) (by omega)).2⟩
  ·obtain⟨k1,k2⟩:=h5 s hs (by simp at kD;omega);obtain⟨k3,k4⟩:=W.rest s hs (by simp at kD;omega);exact⟨k1.trans k3,k2.trans k4⟩
theorem zPl(C:Conf w0 U Φ0 w Φ rv E L){s n:Nat}:∀ (ps:List (Nat×PV)) (vs:List (Nat×Value)) (k:Nat) (xs:List PV) (us:List Value) (cells:Array Value) (Lx:LN),vs.length=ps.length ->
  (∀ (j:Nat) (x:Nat×PV) (y:Nat×Value),ps[j]? = some x->vs[j]? = some y->x.1=y.1/\x.1<n/\E (zAa+k+j)=x.2/\rv (zAa+k+j)=y.2/\x.2.ways=[]/\x.2.whole=true/\x.2.cells.length=s) ->
  xs.length=n->us.length=n->cells.toList=flat us->(∀ x∈xs,x.cells.length=s)->(∀ u∈us,u.cells.size=s)->us.map zCu=xs.map PV.isAgg->zBa w Φ zCp xs us Lx->Lx.Nodup->(∀ b∈Lx,∃ t,zAa<=t/\t<zAa+k/\b∈L t) ->
  ∃ cells' us' Lc,Instr.fill (fun i=>some (i*s,s)) cells vs=some cells'/\cells'.toList=flat us'/\us'.length=n/\(∀ u∈us',u.cells.size=s)/\(∀ x∈ps.foldl (fun xs (i,v)=>xs.set i v) xs,x.cells.length=s)/\us'.map zCu=(ps.foldl (fun xs (i,v)=>xs.set i v) xs).map PV.isAgg /\
   zBa w Φ zCp (ps.foldl (fun xs (i,v)=>xs.set i v) xs) us' Lc/\Lc.Nodup/\∀ b∈Lc,∃ t,zAa<=t/\t<zAa+k+ps.length/\b∈L t
 |[],vs,k,xs,us,cells,Lx,hl,_,h1,h2,h3,h4,h5,h6,h7,h8,h9=>by
  have:vs=[]:=bq (by simpa using hl);subst this;exact⟨cells,us,Lx,rfl,h3,h2,h5,h4,h6,h7,h8,by simpa using h9⟩
 | (i, p)::ps,vs,k,xs,us,cells,Lx,hl,hj,h1,h2,h3,h4,h5,h6,h7,h8,h9=>by
  match vs,hl,hj with
  | (i',v)::vs,hl,hj =>
   obtain⟨q1,q2,q3,q4,q5,q6,q7⟩:=hj 0 (i,p) (i',v) rfl rfl;simp only[bL] at q1 q2 q3 q4 q5 q6 q7;subst q1;have hX:=C.rep (zAa+k);rw[q3,q4] at hX;obtain⟨w1,w2⟩:=zKt (fun a v hw h=>zDo hw h) hX q6;have yj:v.cells.size=s:=by omega
   have hrep0:Rep w Φ zCp p v (L (zAa+k)):=zV7 q5 (fun a v hw h=>zJ2 hw h) hX;obtain⟨L1,L2,L3,hL,hk⟩:=h7.replace i 1;subst hL;have jM:=hk (w':=w) (Φ':=Φ) (A':=zCp) (fun _ _ _ h=>h) zDq.refl (fun _ _=>rfl) (show zBa w Φ zCp [p] [v] (L (zAa+k)) from⟨v,[],_,[],rfl,by simp,hrep0,rfl,rfl⟩);rw[<- zE2 (by omega),<- zE2 (by omega)] at jM;have qN:cells.size=n*s:=by
    have:=congrArg length h3;rw[zBy h5,h2] at this;simpa using this
   have qc:i*s+s<=n*s:=by rw[<- cW];exact cS _ q2
   have uK:(zBp cells (i*s) v.cells.toList).toList=flat (us.set i v):=by
    simp only[zBp];rw[h3,zE2 (by omega:i<us.length),zC8,zC8,show(v.cells.toList).length=s by simpa using yj,zKc h5];have:i*s+s=(i+1)*s:=by rw[cW]
    rw[this,zJm h5];simp[flat]
   simp only[bI] at h8;have uU:∀ b∈L (zAa+k),b∉L1++L2++L3:=by
    intro b hb jS;obtain⟨t,k1,k2,k3⟩:=h9 b jS;exact C.disj t (zAa+k) (by omega) b k3 hb
   have jC:(us.set i v).map zCu=(xs.set i p).map PV.isAgg:=by
    apply dk;intro m;have hm:=congrArg (·[m]?) h6;simp only[ce,dV] at hm ⊢;by_cases hmi:i=m
    ·subst hmi;have e1:i<us.length:=by omega
     have e2:i<xs.length:=by omega
     simp[e1,e2,w1]
    ·simp only[hmi,if_false];exact hm
   obtain⟨cells',us',Lc,g1,g2,g3,g4,g5,g6,g7,g8,g9⟩:=zPl C ps vs (k+1) (xs.set i p) (us.set i v) (zBp cells (i*s) v.cells.toList) (L1++L (zAa+k)++L3) (by simpa using hl) (fun j x y hx hy=>by
    rw[show zAa+(k+1)+j=zAa+k+(j+1) by omega];exact hj (j+1) x y (by simpa using hx) (by simpa using hy)) (by simpa using h1) (by simpa using h2) uK
    (fun x hx=>(dm hx).elim (h4 x) (fun h=>h▸q7)) (fun u hu=>(dm hu).elim (h5 u) (fun h=>h▸yj)) jC jM
    (by
     simp only[bI];refine⟨⟨h8.1.1,C.nodup _,fun x hx y hy e=>uU y hy (by rw[<- e];simp[hx])⟩,h8.2.1,fun x hx y hy e=>?_⟩;rcases bg.1 hx with hx|hx
     ·exact h8.2.2 x (by simp[hx]) y hy e
     ·exact uU x hx (by rw[e];simp[hy]))
    (fun b hb=>by
     simp only[bg] at hb;rcases hb with(hb|hb)|hb
     ·obtain⟨t,k1,k2,k3⟩:=h9 b (by simp[hb]);exact⟨t,k1,by omega,k3⟩
     ·exact⟨zAa+k,by omega,by omega,hb⟩
     ·obtain⟨t,k1,k2,k3⟩:=h9 b (by simp[hb]);exact⟨t,k1,by omega,k3⟩)
   refine⟨cells',us',Lc,?_,g2,g3,g4,g5,g6,g7,g8,fun b hb=>?_⟩
   ·simp only[Instr.fill];rw[if_neg (by simp;omega),zPe (i*s) v cells (by omega)];exact g1
   ·obtain⟨t,k1,k2,k3⟩:=g9 b hb;exact⟨t,k1,by simp;omega,k3⟩
theorem zNl:∀ {ps:List PV},zBE ps=[]->∀ p∈ps,p.ways=[]
 |[],_,_,h=>by cases h|q::qs,h,p,hp=>by
  simp only[zBE,dw] at h;rcases bv.1 hp with rfl|hp
  ·exact h.1
  ·exact zNl h.2 p hp
theorem zL8(S:St w0 U Φ0 nt hv a w e Φ rv E L)(hb:zBz E){d:ON}(hd:∀ x,d=some x->x<nt){tk:Bool}{t:TypeId}{n:Nat}{ps:Array (Nat×Operand)}(y6:∀ x∈ps.toList,zAZ nt x.2=true)(h:(zD3 P tk d t n ps.toList).run o e=some e') :
  ∃ v w',(Instr.buildSlice t n (ps.map fun x=>(x.1,a.eval x.2))).run P w = .ok v w'/\Fr w0 U Φ0 nt hv (a.put d v) w' e':=by
 have uw:(ps.map fun x=>(x.1,a.eval x.2)).toList=ps.toList.map fun x=>(x.1,a.eval x.2):=by simp
 simp only[zD3] at h;split at h
 ·rename_i el yp;split at h
  ·rename_i s z hs hz;obtain⟨hc,h1⟩:=zDt h;simp only[bb,decide_eq_true_eq,bj] at hc;obtain⟨⟨hns,kj⟩,hpn⟩:=hc;have kj:=bc kj;obtain⟨i,zv,hi,hzv,yA,kb⟩:=zDW hz;obtain⟨i2,wC,wI⟩:=zCx hs;rw[hi] at wC;cases wC;have ht:=zCO yp;obtain⟨e1,rv1,E1,L1,vs,h2,S1,h3,h4,h5⟩:=zPF (ps.toList.map (·.2)) 0 S (fun x hx=>by
    obtain⟨y,hy,rfl⟩:=bT.1 hx;exact y6 y hy) h1
   obtain⟨e2,Φ2,rv2,E2,L2,qs,h6,S2,h7,h8,h9⟩:=zLc vs 0 S1 (fun j p hp=>by
    have hj:j<(ps.toList.map (·.2)).length:=by
     have:=(bf.1 hp).1;omega
    exact(h4 j p _ hp (bk hj)).1) h2
   obtain⟨hq,jZ⟩:=zDt h6;simp only[bb,bj,d6,decide_eq_true_eq] at hq;obtain⟨hw,hq⟩:=hq;simp only[be] at h3 h5;have hZ:((ps.toList.map (·.1)).zip qs).length=ps.toList.length:=by simp;simp at h3;omega
   obtain⟨ur,vi,uD,_⟩:=zCt (w:=w) (Φ:=Φ2) (A:=zCp) kb;have vX:zv.cells.size=s:=by rw[vi,kj]
   have hzz:zBa w Φ2 zCp (replicate n z) (replicate n zv) []:=by
    clear jZ hZ hq h6 h2 hns hpn h1 h kj
    induction n with
    |zero=>exact⟨rfl,rfl⟩|succ n ih=>exact⟨zv,_,[],[],rfl,rfl,(zCt kb).1,ih⟩
   have kT:(madeCells zv.cells (n*s)).toList=flat (replicate n zv):=by
    have hl:(flat (replicate n zv)).length=n*s:=by
     rw[zBy (sz:=s) (fun u hu=>by rw[b6 hu];exact vX)];simp
    apply dk;intro m;by_cases hm:m<n*s
    ·have:=zGK vX (l:=n) (k:=m) (bk (by omega));rw[bO,zPr (m:=m+1) hm (by omega),this,bk (by omega)]
    ·rw[dp (by simp[size_madeCells];omega),dp (by omega)]
   obtain⟨cells',us',Lc,g1,g2,g3,g4,g5,g6,g7,g8,g9⟩:=zPl S2.conf (s:=s) (n:=n) ((ps.toList.map (·.1)).zip qs) (ps.toList.map fun x=>(x.1,a.eval x.2)) 0 (replicate n z) (replicate n zv) (madeCells zv.cells (n*s)) [] (by simp;simp at h3;omega)
    (fun j x y hx hy=>by
     obtain⟨jg,j6⟩:=fB.1 hx;rw[ce] at jg hy
     cases vn:ps.toList[j]? with
     |none=>rw[vn] at hy;cases hy|some q=>
      rw[vn] at jg hy;simp only[bu,ba] at jg hy;have jE:q∈ps.toList:=bG vn;obtain⟨k1,k2⟩:=h8 j x.2 j6;have hvj:j<vs.length:=by have:=(bf.1 j6).1;omega
      obtain⟨k3,k4⟩:=h4 j _ q.2 (bk hvj) (by rw[ce,vn];rfl);have hqx:=hq x.2 (bG j6);refine⟨by rw[<- jg,<- hy],by rw[<- jg];exact hpn q jE,k1,?_,zNl hw _ (bG j6),hqx.2,hqx.1.1⟩;rw[bL] at k2 k4 ⊢;rw[k2,k4,<- hy])
    (by simp) (by simp) kT (fun x hx=>by rw[b6 hx];exact kj) (fun u hu=>by rw[b6 hu];exact vX) (by simp[uD]) hzz b4 (by simp)
   have j5:cells'.size=n*s:=by
    have:=congrArg length g2;rw[zBy g4,g3] at this;simpa using this
   refine⟨.slice (some ⟨w.heap.size,0,none⟩) n n,zGS w cells' el,?_,?_⟩
   ·subst wI;have wJ:∀ y:Array Value,(n*i.size=0\/y=zv.cells)->(Array.range (n*i.size)).map (fun k=>y[k % y.size]!)=madeCells zv.cells (n*i.size):=by
     rintro y (h0|rfl)
     ·simp[h0,madeCells]
     ·rfl
    have yL:¬ n*i.size>2 ^ 24:=by omega
    simp only[Instr.buildSlice,bo,run_underlying ht,bh,zA8 hi];rw[if_neg yL];split
    ·rename_i h0;simp only[bx,bh,bo,wJ #[] (.inl h0),uw,g1,zFp]
    ·simp only[bx,bh,bo,yA,wJ zv.cells (.inr rfl),uw,g1,zFp]
   ·have hold:∀ b,b<w.heap.size->(zGS w cells' el).heap[b]? = w.heap[b]?:=fun b hb=>zHs hb;have hΦ:zDq w (zGS w cells' el) Φ2 Φ2:=fun b hb=>⟨hb,hold b (S2.conf.frz b hb).1⟩;have jP:zBa (zGS w cells' el) Φ2 zCp (zM1 n z ((ps.toList.map (·.1)).zip qs)) us' Lc:=g7.mono hΦ (fun _ _ _ h=>h) fun b hb=>by
     obtain⟨t,_,_,k3⟩:=g9 b hb;exact hold b (S2.conf.own t b k3).1
    have jt:(zM1 n z ((ps.toList.map (·.1)).zip qs)).length=n:=jP.length.symm.trans g3;refine S2.madeN ps.toList.length (fun s hs=>?_) hd (p := .own s (zM1 n z ((ps.toList.map (·.1)).zip qs))) (Lp:=w.heap.size::Lc) (fun A _=>?_) ?_ (fun b yJ=>?_) (by rw[zGC];omega) (fun b yJ _=>hold b yJ) ⟨rfl,rfl,rfl⟩ jZ
    ·rw[(h9 s (by omega) (.inr (by omega))).1,(h5 s (by omega) (.inr (by omega))).1];exact hb s (by omega)
    ·refine .inr ⟨⟨w.heap.size,0,none⟩,n,cells',us',Lc,rfl,by rw[jt],rfl,by omega,zNs,by rw[j5];simp,g5,⟨g4,g6⟩,?_,jP⟩;rw[jt];refine zFL (by rw[zBy g4,g3]) fun k u hk=>?_;rw[dh,<- hk,<- g2,bO]
    ·refine cv.2 ⟨fun hm=>?_,g8⟩;obtain⟨t,_,_,k3⟩:=g9 _ hm;exact absurd (S2.conf.own t _ k3).1 (fK _)
    ·rcases bv.1 yJ with rfl|yJ
     ·exact .inr ⟨bi _,by rw[zGC];omega⟩
     ·obtain⟨t,k1,k2,k3⟩:=g9 b yJ;exact .inl ⟨t,k1,by omega,k3⟩
  ·cases h
 ·cases h
end
end Go.Eng
namespace Go.Eng
open Go
section
variable {P:Program} {w0 w:World} {U Φ0 Φ:Nat->Prop} {nt:Nat} {hv:Hid} {a:Act} {e e':Env} {rv:Nat->Value} {E:Nat->PV} {L:Nat->LN} {o:zAM} {A:Al}
theorem zWr(S:St w0 U Φ0 nt hv a w e Φ rv E L)(hb:zBz E){d:ON}(hd:∀ x,d=some x->x<nt){t t2 ty:TypeId}{x y:Operand}(hx:zAZ nt x=true)(hy:zAZ nt y=true)
  (h:(zBB P d .copy [t,t2] [x,y]).run o e=some e'):∃ v w',(Builtin.copy_ #[t,t2] ty #[a.eval x,a.eval y]).run P w = .ok v w'/\Fr w0 U Φ0 nt hv (a.put d v) w' e':=by
 simp only[zBB] at h;obtain⟨sz,yG,h1⟩:=zBS h;obtain⟨el,yp,jm⟩:=zWP (el:=0) yG;have ht:=zCO yp;obtain⟨i,hi,yx⟩:=zCx jm;obtain⟨p,h2,hp⟩:=zBC S hx h1;obtain⟨q,h3,hq⟩:=zBC S hy h2;obtain⟨ys,us,Ly,h4,km⟩:=zMS S hq h3;obtain⟨⟨xb,xc,vk,yS⟩,jW,wY,kM⟩:=km;cases p<;>try (cases h4;done)
 rename_i r pre z lo n;obtain⟨hc,h5⟩:=zAR h4;simp only[bb,bj] at hc;obtain⟨⟨⟨vX,kd⟩,qL⟩,uL⟩:=hc;have vX:=bc vX;have kd:=zCh kd;have qL:=br qL;subst vX;have vZ:∀ y∈ys,y.plain=true/\y.cells.length=z:=fun y hy=>⟨(uL y hy).1,bc (uL y hy).2⟩;have gR:Ly=[]:=zGs (fun y hy=>(vZ y hy).1) jW;subst gR;have ji:=wY z (fun y hy=>(vZ y hy).2);have S1:=S.hold (g:=zAa+2) (by omega) hp;obtain⟨w1,e1,rv1,E1,L1,k1,S2,k3,_,k4⟩:=zMf (z:=z) (lo:=lo) (n:=n) (v:=a.eval x) kd ys us 0 S1 zAi zAi (fun s hs hI=>by rw[zAf hI];exact hb s hs) vZ kM jW (by omega) (by simpa using h5);have yM:Fr w0 U Φ0 nt hv (a.put d (.int .i64 ys.length)) w1 e':=by
  obtain⟨Φ2,rv2,E2,L2,S3,gU⟩:=S2.clear;exact zAE S3 gU hd k1 (v := .int .i64 ys.length) ⟨rfl,rfl⟩
 have hf:=yS z (fun y hy=>(vZ y hy).2) P w (fun _=>rfl);have hmin:Nat.min ys.length n=ys.length:=fU qL;obtain⟨_,hg,⟨b,cap,qW,yT,yX,yd⟩,hn⟩:=hp;rcases k4 with⟨rfl,rfl⟩|⟨b',cap',row,yI,y9,yB,yD,yN,rfl⟩
 ·refine⟨.int .i64 0,w1,?_,yM⟩;have jG:us=[]:=bq (by have:=jW.length;simpa using this);subst jG;rw[qW,vk];rw[vk] at hf;have qn:(Builtin.firstCells z 0 (.slice xb 0 xc)).run P w1 = .ok #[] w1:=hf
  cases b with
  |none=>simp[Builtin.copy_,run_underlying ht,Builtin.lenOf,zA8 hi,yx,qn,goInt]|some b=>simp[Builtin.copy_,run_underlying ht,Builtin.lenOf,zA8 hi,yx,qn,goInt,storeCells]
 ·rw[yI] at qW;simp only[dl] at qW;refine⟨_,_,?_,yM⟩;rw[yI,vk];rw[vk] at hf;obtain⟨et,jt⟩:=yB;have yC:=run_storeCells_at (P:=P) b'.block b'.off et (flat us) 0 row w jt (by simpa using yD) yN;simp only[bL] at yC;have yJ:b'=⟨b'.block,b'.off,none⟩:=by cases b';simp_all
  rw[<- yJ] at yC;simp[Builtin.copy_,run_underlying ht,Builtin.lenOf,zA8 hi,yx,hmin,hf,yC,goInt,zBp]
theorem zGO{z:Value}{n:Nat}:flat (replicate n z)=(Builtin.zeroCells z.cells n).toList:=by
 have hZ:(flat (replicate n z)).length=n*z.cells.size:=by
  rw[zBy (sz:=z.cells.size) (fun u hu=>by rw[b6 hu])];simp
 apply iu
 ·rw[hZ];simp[Builtin.zeroCells]
 ·intro k h1 h2;rw[hZ] at h1;have hs:0<z.cells.size:=Nat.pos_of_ne_zero fun h0=>by rw[h0] at h1;simp at h1
  have hdm:k / z.cells.size*z.cells.size+k % z.cells.size=k:=Nat.div_add_mod' k _;have hq:k / z.cells.size<n:=Nat.div_lt_of_lt_mul (by rw [Nat.mul_comm];exact h1);have hr:k % z.cells.size<z.cells.size:=Nat.mod_lt _ hs;have hzc : z.cells.toList[k % z.cells.size]? = some (z.cells[k % z.cells.size]'hr) := by simp
  have:=zDT (sz:=z.cells.size) (us:=replicate n z) (fun u hu=>by rw[b6 hu]) (i:=k / z.cells.size) (c:=k % z.cells.size) (x:=z) (by simp[hq]) hzc;rw[hdm] at this;have h3:=(bf.1 this).2;rw[h3];simp[Builtin.zeroCells,getElem!_pos z.cells (k % z.cells.size) hr]
theorem zUa(S:St w0 U Φ0 nt hv a w e Φ rv E L)(hb:zBz E){d:ON}(hd:∀ x,d=some x->x<nt){t ty:TypeId}{ts:List TypeId}{x:Operand}(hx:zAZ nt x=true)
  (h:(zBB P d .clear (t::ts) [x]).run o e=some e'):∃ w',(Builtin.clear_ (t::ts).toArray ty #[a.eval x]).run P w = .ok (.tuple #[]) w'/\Fr w0 U Φ0 nt hv (a.put d (.tuple #[])) w' e':=by
 simp only[zBB] at h;obtain⟨p,h1,hp⟩:=zBC S hx h;simp only[zSm] at h1;have light:∀ {v:Value},a.eval x=v->d=none->PM.ok.run o e=some e'->(∃ el,P.underlying t=some (.slice el))->((∃ b c,v = .slice b 0 c))->∃ w',(Builtin.clear_ (t::ts).toArray ty #[a.eval x]).run P w = .ok (.tuple #[]) w'/\Fr w0 U Φ0 nt hv (a.put d (.tuple #[])) w' e':=by
  intro v yI ua yE ⟨el,ht⟩ ⟨b,c,hvb⟩;subst ua;have uj:Fr w0 U Φ0 nt hv (a.put none (.tuple #[])) w e':=by
   simp only[PM.run,ba] at yE;subst yE;exact⟨Φ,rv,E,L,S,hb⟩
  refine⟨w,?_,uj⟩;rw[yI,hvb];cases b<;>simp[Builtin.clear_,run_underlying ht]
 split at h1
 ·rename_i r pre z lo n q s vi uD;obtain⟨hc,h2⟩:=zAR h1;simp only[bb] at hc;obtain⟨⟨⟨c1,c2⟩,c3⟩,c4⟩:=hc;have c1:=zCh c1;have c2:=bc c2;have c3:=bc c3;subst c2
  cases yp:zB5 P t with
  |none=>rw[yp] at vi;cases vi|some el=>
  rw[yp] at vi uD;simp only[bd] at vi uD;have ht:=zCO yp;obtain⟨i,z0,hi,_,kd,kb⟩:=zDW vi;have hrz:=zCt (w:=w) (Φ:=Φ) (A:=zCp) kb;have qj:z0.cells.size=z:=by rw[hrz.2.1,c3]
  by_cases kZ:n=0
  ·subst kZ;obtain⟨_,_,⟨b,cap,qW,_⟩,_⟩:=hp;exact light qW rfl (by simpa[zGL] using h2) ⟨el,ht⟩ ⟨b,cap,rfl⟩
  have vH:∀ k,zBa w Φ zCp (replicate k q) (replicate k z0) []:=by
   intro k
   induction k with
   |zero=>exact⟨rfl,rfl⟩|succ k ih=>exact⟨z0,_,[],[],rfl,rfl,hrz.1,ih⟩
  have S1:=S.hold (g:=zAa+2) (by omega) hp;obtain⟨w1,e1,rv1,E1,L1,k1,S2,k3,_,k4⟩:=zMf (z:=z) (lo:=lo) (n:=n) (v:=a.eval x) c1 (replicate n q) (replicate n z0) 0 S1 zAi zAi (fun s hs hI=>by rw[zAf hI];exact hb s hs) (fun y hy=>by rw[b6 hy];exact⟨c4,c3⟩) (by simp[hrz.2.2.1]) (vH n) (by simp) (by simpa using h2);have yM:Fr w0 U Φ0 nt hv (a.put none (.tuple #[])) w1 e':=by
   obtain⟨Φ2,rv2,E2,L2,S3,gU⟩:=S2.clear;simp only[PM.run,ba] at k1;subst k1;exact⟨_,_,_,_,S3,gU⟩
  obtain⟨_,hg,⟨b,cap,qW,yT,yX,yd⟩,hn⟩:=hp;refine⟨w1,?_,yM⟩;rcases k4 with⟨ur,rfl⟩|⟨b',cap',row,yI,y9,yB,yD,yN,rfl⟩
  ·exact absurd (by simpa using ur) kZ
  ·obtain⟨et,jt⟩:=yB;have yC:=run_storeCells_at (P:=P) b'.block b'.off et (flat (replicate n z0)) 0 row w jt (by simpa using yD) yN;simp only[bL] at yC;have yJ:b'=⟨b'.block,b'.off,none⟩:=by cases b';simp_all
   rw[<- yJ,zGO] at yC;rw[yI];obtain⟨m,rfl⟩:∃ m,n=m+1:=⟨n-1,by omega⟩;simp[Builtin.clear_,run_underlying ht,kd,yC,zBp,zGO]
 ·rename_i h3 h4;obtain⟨el,yp⟩:∃ el,zB5 P t=some el:=by
   cases yp:zB5 P t with
   |none=>rw[yp] at h3;cases h3|some el=>exact⟨el,rfl⟩
  obtain⟨_,⟨_,b,c,yI,_⟩|⟨b,n',c,us,sz,yI,_⟩⟩:=hp
  ·exact light yI rfl h1 ⟨el,zCO yp⟩ ⟨b,c,rfl⟩
  ·exact light yI rfl h1 ⟨el,zCO yp⟩ ⟨some b,n',rfl⟩
 ·rename_i h3 h4;obtain⟨el,yp⟩:∃ el,zB5 P t=some el:=by
   cases yp:zB5 P t with
   |none=>rw[yp] at h3;cases h3|some el=>exact⟨el,rfl⟩
  exact light hp.1 rfl h1 ⟨el,zCO yp⟩ ⟨none,0,rfl⟩
 ·cases h1
end
end Go.Eng
