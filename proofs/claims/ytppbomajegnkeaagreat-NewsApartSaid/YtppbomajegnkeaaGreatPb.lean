/- No cry at a stand that is offered mends two of the gaps that are apart, so that there are never more of them than further cries are needed; each other gap is mended by a cry that mends one of them; a gap is stuck just if none of these stands is jM near enough to its jN; and with all stands none is; for every list of numbers, evening and stands. -/
import Derived.Test.YtppbomajegnkeaaGreatPa
import Derived.Laws.AppendOwn
set_option linter.unusedVariables false
set_option linter.unusedSimpArgs false
set_option linter.unusedSectionVars false
open Nat (beq ble blt)
open List (map replicate take drop range length filter)
open Go.Eng.PV (own agg addr func sl bor tup omap bad bool int)
namespace Go.Eng
open Go
section
variable {P:Program} {w0 w w':World} {U Φ0 Φ:Nat->Prop} {nt:Nat} {hv:Hid} {a:Act} {e e':Env} {rv rv':Nat->Value} {E E':Nat->PV} {L L':Nat->LN} {o:zAK} {A:Al}
def Cov(w:World)(Φ:Nat->Prop)(rv:Nat->Value)(E:Nat->PV)(Φ1:Nat->Prop)(x:Nat×zA4):Prop :=
 ∀ nv q Li A,zA1 w (rv x.1) (E x.1).unlock x.2=some (nv,q)->Rep w Φ A q nv Li->∀ b∈Li,Φ1 b
def zM6(hb:Nat)(A:Al):Al:=fun a v=>A a v/\∀ x∈a.ways,hb<=x.1
structure Shown (w:World) (Φ:Nat->Prop) (rv:Nat->Value) (E:Nat->PV) (hb:Nat) (p:PV) (v:Value) (Lp:LN) (q:PV) (l:List (Nat×zA4)):Prop where
 low:∀ x∈l,x.1<zAa/\x.1<hb
 agg:q.isAgg=p.isAgg
 len:q.cells.length=p.cells.length
 rep:∀ Φ1:Nat->Prop,(∀ b,Φ b->Φ1 b)->(∀ x∈l,Cov w Φ rv E Φ1 x)->(∀ b∈Lp,Φ1 b)->Rep w Φ1 (zM6 hb (zBa w rv E)) q v []
structure Showns (w:World) (Φ:Nat->Prop) (rv:Nat->Value) (E:Nat->PV) (hb:Nat) (ps:List PV) (vs:List Value) (Lp:LN) (qs:List PV) (l:List (Nat×zA4)):Prop where
 low:∀ x∈l,x.1<zAa/\x.1<hb
 len:qs.length=ps.length
 rep:∀ Φ1:Nat->Prop,(∀ b,Φ b->Φ1 b)->(∀ x∈l,Cov w Φ rv E Φ1 x)->(∀ b∈Lp,Φ1 b)->zA8 w Φ1 (zM6 hb (zBa w rv E)) qs vs []
theorem zBP{r:Nat}{pre:zA4}{k:PV->PM}(h:(PM.deep r pre k).run o e=some e'):∃ q,zAH (e.get r).unlock pre=some q/\(k q).run o e=some e':=by
 simp only[PM.run] at h
 cases hq:zAH (e.get r).unlock pre with
 |none=>rw[hq] at h;cases h|some q=>rw[hq] at h;exact⟨q,rfl,h⟩
theorem zFC{hb:Nat}{res:PV->(PV->List (Nat×zA4)->PM)->PM}
  (yi:∀ p v Lp k,Rep w Φ (zBa w rv E) p v Lp->(res p k).run o e=some e'->∃ q l,(k q l).run o e=some e'/\Shown w Φ rv E hb p v Lp q l) :
  ∀ (ps:List PV) (vs:List Value) (Lp:LN) (k:List PV->List (Nat×zA4)->PM),zA8 w Φ (zBa w rv E) ps vs Lp->(zED res ps k).run o e=some e'->∃ qs l,(k qs l).run o e=some e'/\Showns w Φ rv E hb ps vs Lp qs l
 |[],vs,Lp,k,h,hr=>⟨[],[],hr,⟨by simp,rfl,fun _ _ _ _=>⟨h.1,rfl⟩⟩⟩
 |p::ps,vs,Lp,k,h,hr=>by
  obtain⟨v,vs',L1,L2,rfl,rfl,h1,h2⟩:=h;simp only[zED] at hr;obtain⟨q,l,h3,h4⟩:=yi p v L1 _ h1 hr;obtain⟨qs,m,h5,h6⟩:=zFC yi ps vs' L2 _ h2 h3;refine⟨q::qs,l++m,h5,⟨fun x hx=>?_,by simp[h6.len],fun Φ1 g1 g2 g3=>⟨v,vs',[],[],rfl,rfl,h4.rep Φ1 g1 (fun x hx=>g2 x (by simp[hx])) (fun b hb=>g3 b (by simp[hb])),h6.rep Φ1 g1 (fun x hx=>g2 x (by simp[hx])) (fun b hb=>g3 b (by simp[hb]))⟩⟩⟩;rcases bj.1 hx with hx|hx
  ·exact h4.low x hx
  ·exact h6.low x hx
theorem zOn{hb:Nat}{p:PV}{v:Value}{Lp:LN}(hp:Rep w Φ (zBa w rv E) p v Lp)(hw:∀ x∈p.ways,hb<=x.1):Shown w Φ rv E hb p v Lp (zA0 p) [] :=
 ⟨by simp,zDh p,zDc p,fun Φ1 g1 _ g3=>(zEi g1 p v Lp g3 hp).ways _ _ _ fun a v _ hx ha=>⟨ha,fun x gd=>hw x (zGW p x (hx x gd))⟩⟩
theorem zH0{hb:Nat}{p:PV}{v:Value}(hp:Rep w Φ (zBa w rv E) p v [])(hw:∀ x∈p.ways,hb<=x.1):Shown w Φ rv E hb p v [] p [] :=
 ⟨by simp,rfl,rfl,fun Φ1 g1 _ g3=>(hp.mono (fun b hb=>⟨g1 b hb,rfl⟩) (fun _ _ _ h=>h) (by simp)).ways _ _ _ fun a v _ hx ha=>⟨ha,fun x gd=>hw x (hx x gd)⟩⟩
theorem zH3{hb:Nat}{l:List (Nat×zA4)}(h:l.isEmpty=true):∀ x∈l,hb<=x.1:=by
 cases l with
 |nil=>simp|cons _ _=>cases h
theorem zLq (S:St w0 U Φ0 nt hv a w e Φ rv E L) {hb:Nat}:∀ (n:Nat) (p:PV) (v:Value) (Lp:LN) (k:PV->List (Nat×zA4)->PM),Rep w Φ (zBa w rv E) p v Lp->(resolve hb n p k).run o e=some e' ->
  ∃ q l,(k q l).run o e=some e'/\Shown w Φ rv E hb p v Lp q l
 |0,p,v,Lp,k,hp,h=>by cases h
 | n + 1, p, v,Lp,k,hp,h=>by
  have ih:=zLq S (hb:=hb) n;have node:∀ r pre x,r<zAa->zAH (e.get r).unlock pre=some x->∃ nv Li,zA1 w (rv r) (E r).unlock pre=some (nv,x)/\Rep w Φ (zBa w rv E) x nv Li/\∀ Φ1,Cov w Φ rv E Φ1 (r,pre)->∀ b∈Li,Φ1 b:=by
   intro r pre x hr hx;rw[<- S.env r hr] at hx;obtain⟨nv,Li,h1,_,h3⟩:=zBS (zB9 (S.conf.rep r)) hx;exact⟨nv,Li,h1,h3.mono zDq.refl (fun _ _ _ h=>zEL h) (fun _ _=>rfl),fun Φ1 hc b hb=>hc nv x Li _ h1 h3 b hb⟩
  have dflt:(∀ x∈p.ways,hb<=x.1)->(k (zA0 p) []).run o e=some e'->∃ q l,(k q l).run o e=some e'/\Shown w Φ rv E hb p v Lp q l :=
   fun hw h=>⟨_,_,h,zOn hp hw⟩
  have dflt2:(bif p.ways.all (fun w=>ble hb w.1) then k (zA0 p) [] else .fail).run o e=some e'->∃ q l,(k q l).run o e=some e'/\Shown w Φ rv E hb p v Lp q l:=by
   intro h;obtain⟨h1,h2⟩:=zAP h;exact dflt (fun x hx=>br (bi.1 h1 x hx)) h2
  have keep:∀ r,(∀ x∈p.ways,x.1=r)->Lp=[]->(k p []).run o e=some e'->ble hb r=true->∃ q l,(k q l).run o e=some e'/\Shown w Φ rv E hb p v Lp q l:=by
   intro r hw hL hk hr;subst hL;exact⟨_,_,hk,zH0 hp fun x hx=>by rw[hw x hx];exact br hr⟩
  have jB:∀ r,ble hb r=false->r<hb:=by
   intro r hr;exact Nat.lt_of_not_le fun yS=>by rw[cU yS] at hr;cases hr
  cases p<;>simp only[resolve] at h<;>try (exact dflt2 h)
  case agg cs=>
   cases hw:(agg cs).ways.isEmpty with
   |true=>rw[hw] at h;exact dflt (zH3 hw) h|false=>
    rw[hw] at h;simp only[cond_false] at h;obtain⟨vs,rfl,hr⟩:=hp;obtain⟨qs,l,h1,h2⟩:=zFC ih cs _ Lp _ hr h;exact⟨_,_,h1,⟨h2.low,rfl,by simpa[PV.cells] using h2.len,fun Φ1 g1 g2 g3=>⟨vs,rfl,h2.rep Φ1 g1 g2 g3⟩⟩⟩
  case ref q=>
   have hL:=hp.1;subst hL
   cases hw:q.ways.isEmpty with
   |true=>rw[hw] at h;exact⟨_,_,h,zH0 hp (zH3 hw)⟩|false=>
    rw[hw] at h;simp only[cond_false] at h;obtain⟨_,b,c,u,h1,h2,h3,h4,h5,h6,h7⟩:=hp;obtain⟨q',l,h8,h9⟩:=ih q u [] _ h7 h;refine⟨_,_,h8,⟨h9.low,rfl,rfl,fun Φ1 g1 g2 g3=>⟨rfl,b,c,u,h1,h2,g1 _ h3,h4,by rw[h9.len];exact h5,by rw[h9.len,h9.agg];exact h6,h9.rep Φ1 g1 g2 (by simp)⟩⟩⟩
  case func f x y=>
   have hL:=hp.1;subst hL
   cases hw:(func f x y).ways.isEmpty with
   |true=>rw[hw] at h;exact⟨_,_,h,zH0 hp (zH3 hw)⟩|false=>
    rw[hw] at h;simp only[cond_false] at h;obtain⟨_,fs,cs,h1,h2,h3⟩:=hp;obtain⟨qs,l,h4,h5⟩:=zFC ih x _ [] _ h2 h;obtain⟨qs',m,h6,h7⟩:=zFC ih y _ [] _ h3 h4;refine⟨_,_,h6,⟨fun z hz=>?_,rfl,rfl,fun Φ1 g1 g2 g3=>⟨rfl,fs,cs,h1,h5.rep Φ1 g1 (fun z hz=>g2 z (by simp[hz])) (by simp),h7.rep Φ1 g1 (fun z hz=>g2 z (by simp[hz])) (by simp)⟩⟩⟩;rcases bj.1 hz with hz|hz
    ·exact h5.low z hz
    ·exact h7.low z hz
  case addr r pre i c sh =>
   have hL:=hp.1;have ha:=hp.2
   cases jy:ble hb r with
   |true=>rw[jy] at h;exact keep r (by simp[PV.ways]) hL h jy
   | false =>
    rw[jy] at h;simp only[cond_false] at h;obtain⟨x,hx,h1⟩:=zBP h;obtain⟨hg,ad,rfl,yd,hn⟩:=ha;obtain⟨nv,Li,hf,wK,kG⟩:=node r pre x hg hx
    cases hh:zBi x with
    |none=>rw[hh] at h1;cases h1
    | some xs =>
     rw[hh] at h1;simp only at h1
     cases hi:xs[i]? with
     |none=>rw[hi] at h1;cases h1
     | some y =>
      rw[hi] at h1;simp only at h1;obtain⟨ux,row,ad0,Lx,k1,k2,k3,k4,k5,k6,k7,k8,k9⟩:=zMm wK hh hi;have jQ:=hn nv x hf _ (k5 c);subst jQ;have k9':=k9.mono (A':=zBa w rv E) zDq.refl (fun _ _ _ h=>zGk h) (fun _ _=>rfl)
      cases sh with
      | some m =>
       simp only at h1;obtain⟨hc,h2⟩:=zAP h1;simp only[bb] at hc;have yS:=br hc.1;cases hya:y<;>rw[hya] at hc<;>try (simp[PV.isAgg] at hc;done)
       rename_i cs;subst hya;obtain⟨vs,rfl,hr⟩:=k9';obtain⟨Ly,hly,qL⟩:=zG0 hr c m;have yA:=hr.length;obtain⟨q',l,h3,h4⟩:=ih (.agg ((cs.drop c).take m)) (.agg ((vs.toList.drop c).take m).toArray) Ly _ ⟨_,rfl,by simpa using qL⟩ h2;have jn:q'.cells.length=m:=by rw[h4.len];simp[PV.cells] at yS ⊢;omega
       refine⟨_,_,h3,⟨fun z hz=>?_,rfl,rfl,fun Φ1 g1 g2 g3=>?_⟩⟩
       ·rcases bx.1 hz with rfl|hz
        ·exact⟨hg,jB r jy⟩
        ·exact h4.low z hz
       ·have j9:=kG Φ1 (g2 _ (by simp));refine⟨rfl,zAv ad0 c,row,_,rfl,rfl,j9 _ k1,k3.any,?_,⟨?_,?_⟩,h4.rep Φ1 g1 (fun z hz=>g2 z (by simp[hz])) fun b hb=>j9 b (k4 b (hly b hb))⟩
        ·rw[jn];simp only[zAv,Value.cells];rw[k6 c m yS];rfl
        ·rw[jn];simp[Value.cells,PV.cells] at yS yA ⊢;omega
        ·rw[h4.agg];rfl
      | none =>
       simp only at h1
       cases hc:y.cells[c]? with
       |none=>rw[hc] at h1;cases h1
       | some z =>
        rw[hc] at h1;simp only at h1;obtain⟨v6,h2⟩:=zAP h1;obtain⟨u,La,Lu,Lb,hu,wI,uG,_,_⟩:=k9'.cell hc k7;obtain⟨q',l,h3,h4⟩:=ih z u Lu _ uG h2;have uA:=zBO (zCi (fun a v hw h=>zDd hw h) uG v6);have wJ:=zBo v6;have yN:c<y.cells.length:=(bg.1 hc).1;refine⟨_,_,h3,⟨fun z hz=>?_,rfl,rfl,fun Φ1 g1 g2 g3=>?_⟩⟩
        ·rcases bx.1 hz with rfl|hz
         ·exact⟨hg,jB r jy⟩
         ·exact h4.low z hz
        ·have j9:=kG Φ1 (g2 _ (by simp));refine⟨rfl,zAv ad0 c,row,u,rfl,rfl,j9 _ k1,k3.any,?_,⟨?_,?_⟩,h4.rep Φ1 g1 (fun z hz=>g2 z (by simp[hz])) fun b hb=>j9 b (k4 b (by rw[wI];simp[hb]))⟩
         ·rw[h4.len,wJ.1,uA.1];have:=k6 c 1 (by omega);simp only[zAv,bT];rw[this];have yG:c<ux.cells.toList.length:=by simpa[k8] using yN
          rw[b6 yG];have:ux.cells.toList[c]=u:=by rw[bl yG] at hu;simpa using hu
          simp[this]
         ·rw[h4.len,wJ.1,uA.1];rfl
         ·rw[h4.agg,wJ.2,uA.2]
  case bor r pre z lo m =>
   have hL:=hp.1;have ha:=hp.2
   cases jy:ble hb r with
   |true=>rw[jy] at h;exact keep r (by simp[PV.ways]) hL h jy
   | false =>
    rw[jy] at h;simp only[cond_false] at h;obtain⟨x,hx,h1⟩:=zBP h;obtain⟨hg,_,hn⟩:=ha;obtain⟨nv,Li,hf,wK,kG⟩:=node r pre x hg hx;split at h1
    ·rename_i sz xs;obtain⟨hc,h2⟩:=zAP h1;refine⟨_,_,h2,⟨fun z hz=>?_,rfl,rfl,fun Φ1 g1 g2 g3=>?_⟩⟩
     ·simp only[bk] at hz;subst hz;exact⟨hg,jB r jy⟩
     ·have:=zIk (A':=zM6 hb (zBa w rv E)) g1 wK (kG Φ1 (g2 _ (by simp))) (z:=z) (lo:=lo) (n:=m) (v:=v) fun sz' xs' u9=>by
       obtain⟨sz2,xs2,h7,h8,h9⟩:=hn nv _ hf rfl;cases h7;cases u9;exact⟨h8,h9⟩
      simp only[zCH,hc,cond_true] at this;exact this
    ·cases h1
  case bmap r pre=>
   have hL:=hp.1;have ha:=hp.2
   cases jy:ble hb r with
   |true=>rw[jy] at h;exact keep r (by simp[PV.ways]) hL h jy
   | false =>
    rw[jy] at h;simp only[cond_false] at h;obtain⟨x,hx,h1⟩:=zBP h;obtain⟨hg,_,hn⟩:=ha;obtain⟨nv,Li,hf,wK,kG⟩:=node r pre x hg hx;split at h1
    ·rename_i es;refine⟨_,_,h1,⟨fun z hz=>?_,rfl,rfl,fun Φ1 g1 g2 g3=>?_⟩⟩
     ·simp only[bk] at hz;subst hz;exact⟨hg,jB r jy⟩
     ·exact zHd (A':=zM6 hb (zBa w rv E)) g1 wK (kG Φ1 (g2 _ (by simp))) (v:=v) fun es' u9=>hn nv _ hf _ u9
    ·cases h1
  case bsl r pre i c sz ag m=>
   have hL:=hp.1;have ha:=hp.2
   cases jy:ble hb r with
   |true=>rw[jy] at h;exact keep r (by simp[PV.ways]) hL h jy
   | false =>
    rw[jy] at h;simp only[cond_false] at h;obtain⟨x,hx,h1⟩:=zBP h;obtain⟨hg,ad,cap,rfl,yV,yd,hn⟩:=ha;obtain⟨nv,Li,hf,wK,kG⟩:=node r pre x hg hx
    cases hh:zBi x with
    |none=>rw[hh] at h1;cases h1
    | some xs =>
     rw[hh] at h1;simp only at h1
     cases hi:xs[i]? with
     |none=>rw[hi] at h1;cases h1|some y=>
      rw[hi] at h1;simp only at h1;obtain⟨hc,h2⟩:=zAP h1;refine⟨_,_,h2,⟨fun z hz=>?_,rfl,rfl,fun Φ1 g1 g2 g3=>?_⟩⟩
      ·simp only[bk] at hz;subst hz;exact⟨hg,jB r jy⟩
      ·have:=zHi (A':=zM6 hb (zBa w rv E)) (fun a v hw h=>zJn hw h) g1 wK (kG Φ1 (g2 _ (by simp))) (i:=i) (c:=c) (sz:=sz) (ag:=ag) (m:=m) (v := .slice (some ad) m cap) rfl yV fun a' kf=>hn nv x hf a' kf;simp only[zCD,hh,hi,hc,cond_true] at this;exact this
theorem zPE(S:St w0 U Φ0 nt hv a w e Φ rv E L){p:PV}{v:Value}{Lp:LN}{k:PV->List (Nat×zA4)->PM}(hp:Rep w Φ (zBa w rv E) p v Lp)(h:(zRp p k).run o e=some e') :
  ∃ q l,(k q l).run o e=some e'/\(∀ x∈l,x.1<zAa)/\∀ Φ1:Nat->Prop,(∀ b,Φ b->Φ1 b)->(∀ x∈l,Cov w Φ rv E Φ1 x)->(∀ b∈Lp,Φ1 b)->Rep w Φ1 zCm q v []:=by
 obtain⟨q,l,h1,h2⟩:=zLq S (hb:=zAa) depth p v Lp k hp h;refine⟨q,l,h1,fun x hx=>(h2.low x hx).1,fun Φ1 g1 g2 g3=>(h2.rep Φ1 g1 g2 g3).mono zDq.refl (fun a v hw ha=>?_) (fun _ _=>rfl)⟩;have hr:=zC7 ha.1;have:=ha.2 (zBc a);cases a<;>first|(cases hw;done)|(exact ha.1.elim)|skip
 all_goals
  have:=this (by simp[PV.ways,zBc]);omega
theorem zN4{p q' p':PV}{i c:Nat}(hp:zB6 p i c q'=some p'):p'.unlock=p'/\p'.isTup=false:=by
 simp only[zB6] at hp;cases p<;>simp only[zA9,dJ,bc] at hp<;>try cases hp
 case own sz xs=>
  cases hx:xs[i]?<;>rw[hx] at hp<;>simp[zAJ] at hp;subst hp;exact⟨rfl,rfl⟩
 case box q=>
  cases i with
  |zero=>simp[zAJ] at hp;subst hp;exact⟨rfl,rfl⟩|succ i=>simp at hp
 case agg cs=>
  cases i with
  |zero=>simp[zAJ,zAG] at hp;subst hp;exact⟨rfl,rfl⟩|succ i=>simp at hp
theorem zBU{q' p p':PV}(h1:q'.unlock=q')(h2:q'.isTup=false):∀ {pre:zA4},zAz (fun _=>some q') p pre=some p'->p'.unlock=p'/\p'.isTup=false
 |[],h=>by simp only[zAz,ba] at h;subst h;exact⟨h1,h2⟩
 | (i,c)::rest,h=>by
  rw[zBu] at h
  cases hc:Eng.child p i c with
  |none=>rw[hc] at h;cases h|some q=>
   rw[hc] at h;simp only[bc] at h
   cases hm:zAz (fun _=>some q') q rest with
   |none=>rw[hm] at h;cases h|some q1=>rw[hm] at h;exact zN4 (by simpa using h)
theorem zFq(q:PV):(zA0 q).unlock=zA0 q/\(zA0 q).isTup=false:=by cases q<;>exact⟨rfl,rfl⟩
theorem zBH{p:PV}(h:p.isLock=false):p.unlock=p:=by cases p<;>first|rfl|cases h
theorem zSg(r:Nat)(pre:zA4)(q p:PV)(hp:p.isWay=true):(inl r pre q p).isTup=false:=by
 have h:=(zIO r pre q).dull p hp;have h1 : ∀ i c sh x,(zDI i c sh x).isTup=false:=by
  intro i c sh x;simp only[zDI];split
  ·split
   ·split
    ·cases (ble _ _&&PV.isAgg _)<;>rfl
    ·split
     ·rename_i q _;cases q.oneCell<;>rfl
     ·rfl
   ·rfl
  ·rfl
 have h2:∀ lo n x,(zCH lo n x).isTup=false:=by
  intro lo n x;cases x<;>try rfl
  simp only[zCH];cases ble _ _<;>rfl
 have h5:∀ i c sz ag m x,(zCD i c sz ag m x).isTup=false:=by
  intro i c sz ag m x;simp only[zCD];split
  ·split
   ·cases (zCt ag sz m _&&_)<;>rfl
   ·rfl
  ·rfl
 have h3:∀ x,(zES x).isTup=false:=by intro x;cases x<;>rfl
 have h4:∀ (o:Option PV) (f:PV->PV),(∀ x,(f x).isTup=false)->(zGH o f).isTup=false:=by
  intro o f hf;cases o with
  |none=>rfl|some x=>exact hf x
 cases p<;>first|(cases hp;done)|skip
 all_goals
  simp only[inl]
  first|rfl|skip
 all_goals
  cases zAU r pre _ _<;>first|rfl|exact h4 _ _ (h1 _ _ _)|exact h4 _ _ (h2 _ _)|exact h4 _ _ h3|exact h4 _ _ (h5 _ _ _ _ _)
theorem zZt(S:St w0 U Φ0 nt hv a w e Φ rv E L)(M:Nat->Bool){r:Nat}{pre:zA4}{q:PV}(hr:r<zAa)(hq:zAH (e.get r).unlock pre=some q){k:PM}(h:(PM.frz r pre k).run o e=some e') :
  ∃ e1 Φ1 E1 L1,k.run o e1=some e'/\St w0 U Φ0 nt hv a w e1 Φ1 rv E1 L1/\(∀ b,Φ b->Φ1 b)/\(∀ s,zAa<=s->E1 s=(if M s then(E s).mapW (inl r pre q) else E s)/\L1 s=L s):=by
 simp only[PM.run] at h
 cases hf:e.frz r pre with
 |none=>rw[hf] at h;cases h
 | some e1 =>
  rw[hf] at h;simp only at h;obtain⟨q0,root,hl,hn,hm,y8⟩:=Env.frz_eq hf;have yJ:=zBH hl;rw[yJ,hn] at hq;simp only[ba] at hq;subst hq;have hE:=S.env r hr;obtain⟨k1,k2⟩:=zBU (zFq q0).1 (zFq q0).2 hm;obtain⟨nv,Li,L',h1,h2,h3,h4⟩:=S.conf.ice M hr (pre:=pre) (q:=q0) (root':=root) (by rw[hE];exact yJ) (by rw[hE];exact hn) (by rw[hE];exact hm) k1;refine⟨e1,_,_,L',h,S.turn h4 (fun s hs=>?_) (fun _ _=>rfl) (fun d ps hd hp=>?_),fun b hb=>.inl hb,fun s hs=>⟨?_,h3 s (by omega)⟩⟩
  ·simp only[hs,true_or,if_true];rw[y8 s];by_cases yT:s=r
   ·subst yT;simp
   ·rw[if_neg yT,if_neg yT,S.env s hs]
  ·have uy:d<zAa:=by simp only[zAa];omega
   simp only[uy,true_or,if_true] at hp;obtain⟨ps',h5,h6⟩:=zEh (zSg r pre q0) hp;by_cases kP:d=r
   ·rw[if_pos kP] at h5;rw[h5] at k2;cases k2
   ·rw[if_neg kP] at h5;exact⟨ps',h5,h6⟩
  ·have:¬ s<zAa:=by omega
   simp only[this,false_or];have yT:s≠r:=by omega
   rw[if_neg yT]
theorem zTS{l:List (Nat×zA4)}{hb:Nat}(h:l.find? (fun w=>blt w.1 hb)=none):∀ x∈l,hb<=x.1:=by
 intro x hx;have:=List.find?_eq_none.1 h x hx;exact d4 fun yG=>this (cU yG)
theorem zHY{hb g:Nat}(hg:zAa<=g)(jy:hb<=zAa){k:PV->PM}:∀ (n:Nat) {e:Env} {Φ:Nat->Prop} {E:Nat->PV} {L:Nat->LN},St w0 U Φ0 nt hv a w e Φ rv E L->(zMp hb n (E g) k).run o e=some e' ->
  ∃ e1 Φ1 E1 L1,(k (E1 g)).run o e1=some e'/\St w0 U Φ0 nt hv a w e1 Φ1 rv E1 L1/\(∀ b,Φ b->Φ1 b)/\(∀ s,zAa<=s->s≠g->E1 s=E s)/\(∀ s,zAa<=s->L1 s=L s) /\
   (∀ x∈(E1 g).ways,hb<=x.1)/\(E1 g).isAgg=(E g).isAgg/\(E1 g).cells.length=(E g).cells.length
 |0,e,Φ,E,L,S,h=>by cases h
 | n + 1,e,Φ,E,L,S,h=>by
  simp only[zMp] at h;split at h
  ·rename_i hf;exact⟨e,Φ,E,L,h,S,fun _ h=>h,fun _ _ _=>rfl,fun _ _=>rfl,zTS hf,rfl,rfl⟩
  ·rename_i r pre hf;have hr:r<zAa:=by
    have:=List.find?_some hf;have:r<hb:=br this;omega
   obtain⟨q,hq,h1⟩:=zBP h;obtain⟨e1,Φ1,E1,L1,h2,S1,h3,h4⟩:=zZt S (fun s=>s==g) hr hq h1;have ud:E1 g=(E g).mapW (inl r pre q):=by simpa using(h4 g hg).1
   rw[<- ud] at h2;obtain⟨e2,Φ2,E2,L2,h5,S2,h6,h7,h8,h9,jZ,vX⟩:=zHY hg jy n S1 h2;refine⟨e2,Φ2,E2,L2,h5,S2,fun b hb=>h6 b (h3 b hb),fun s hs hI=>?_,fun s hs=>(h8 s hs).trans (h4 s hs).2,h9,?_,?_⟩
   ·rw[h7 s hs hI,(h4 s hs).1];simp[hI]
   ·rw[jZ,ud,zGr (zIO r pre q).agg]
   ·rw[vX,ud,zHZ (zIO r pre q).agg]
end
end Go.Eng
namespace Go.Eng
open Go
section
variable {w w':World} {Φ Φ':Nat->Prop} {A A':Al}
theorem zA8.append:∀ {ps qs:List PV} {us vs:List Value} {L M:LN},zA8 w Φ A ps us L->zA8 w Φ A qs vs M->zA8 w Φ A (ps++qs) (us++vs) (L++M)
 |[],qs,us,vs,L,M,h,h'=>by obtain⟨rfl,rfl⟩:=h;simpa using h'
 |p::ps,qs,us,vs,L,M,h,h'=>by
  obtain⟨v,us',L1,L2,rfl,rfl,h1,h2⟩:=h;exact⟨v,us'++vs,L1,L2++M,rfl,by simp,h1,h2.append h'⟩
theorem zA8.cut:∀ {ps:List PV} {us:List Value} {L:LN} (n:Nat),zA8 w Φ A ps us L->∃ L1 L2,L=L1++L2/\zA8 w Φ A (ps.take n) (us.take n) L1/\zA8 w Φ A (ps.drop n) (us.drop n) L2
 |ps,us,L,0,h=>⟨[],L,rfl,by simp[zA8],by simpa using h⟩|[],us,L,n+1,h=>by obtain⟨rfl,rfl⟩:=h;exact⟨[],[],rfl,by simp[zA8],by simp[zA8]⟩
 |p::ps,us,L,n+1,h=>by
  obtain⟨v,us',L1,L2,rfl,rfl,h1,h2⟩:=h;obtain⟨M1,M2,rfl,h3,h4⟩:=h2.cut n;exact⟨L1++M1,M2,by simp,⟨v,_,L1,M1,rfl,rfl,h1,h3⟩,by simpa using h4⟩
theorem zA8.replace{ps:List PV}{us:List Value}{L:LN}(h:zA8 w Φ A ps us L)(c n:Nat):∃ L1 L2 L3,L=L1++L2++L3 /\
  ∀ {w':World} {Φ':Nat->Prop} {A':Al} {qs:List PV} {vs:List Value} {Lq:LN},(∀ a v,a.isWay=true->A a v->A' a v)->zDq w w' Φ Φ'->(∀ b∈L1++L3,w'.heap[b]? = w.heap[b]?)->zA8 w' Φ' A' qs vs Lq ->
   zA8 w' Φ' A' (ps.take c++qs++ps.drop (c+n)) (us.take c++vs++us.drop (c+n)) (L1++Lq++L3):=by
 obtain⟨L1,L23,rfl,h1,h2⟩:=h.cut c;obtain⟨L2,L3,rfl,_,h3⟩:=h2.cut n;rw[dA,dA] at h3;refine⟨L1,L2,L3,by simp,fun hA hs hb hq=>?_⟩;exact((h1.mono hs hA fun b h=>hb b (by simp[h])).append hq).append (h3.mono hs hA fun b h=>hb b (by simp[h]))
end
def zBk(c:Array Value)(o:Nat)(vs:List Value):Array Value:=(c.toList.take o++vs++c.toList.drop (o+vs.length)).toArray
theorem zGO{c:Array Value}{o:Nat}{vs:List Value}(h:o+vs.length<=c.size):(zBk c o vs).size=c.size:=by
 simp[zBk];omega
theorem zC9{α:Type}{l:List α}{o:Nat}{vs:List α}(h:o+vs.length<=l.length)(k:Nat) :
  (l.take o++vs++l.drop (o+vs.length))[k]? = if k<o then l[k]? else if k<o+vs.length then vs[k-o]? else l[k]?:=by
 have ho:(l.take o).length=o:=by simp;omega
 have hov:(l.take o++vs).length=o+vs.length:=by simp;omega
 by_cases h1:k<o
 ·rw[if_pos h1,cx (by omega),cx (by omega),cu,if_pos h1]
 ·rw[if_neg h1];by_cases h2:k<o+vs.length
  ·rw[if_pos h2,cx (by omega),de (by omega),ho]
  ·rw[if_neg h2,de (by omega),hov,ck,show o+vs.length+(k-(o+vs.length))=k by omega]
theorem zHR{c:Array Value}{o off m:Nat}{vs:List Value}(h1:off<=o)(h2:o+vs.length<=off+m)(h3:off+m<=c.size) :
  seg (zBk c o vs) off m=(seg c off m).take (o-off)++vs++(seg c off m).drop (o-off+vs.length):=by
 have jP:(seg c off m).length=m:=by simp[seg];omega
 apply cW;intro k;rw[zC9 (by rw[jP];omega)];simp only[seg,zBk,cu,ck];rw[zC9 (by simp;omega)];by_cases hk:k<m
 ·simp only[hk,if_true];by_cases h4:off+k<o
  ·have h6:k<o-off:=by omega
   simp only[h4,h6,if_true]
  ·have h6:¬ k<o-off:=by omega
   simp only[h4,h6,if_false];by_cases h5:off+k<o+vs.length
   ·have h7:k<o-off+vs.length:=by omega
    simp only[h5,h7,if_true];rw[show off+k-o=k-(o-off) by omega]
   ·have h7:¬ k<o-off+vs.length:=by omega
    simp only[h5,h7,if_false]
 ·have h6:¬ k<o-off:=by omega
  have h7:¬ k<o-off+vs.length:=by omega
  simp only[hk,h6,h7,if_false]
theorem zW9{c:Array Value}{off m:Nat}{l:List Value}(h:seg c off m=l)(hl:l.length=m)(hm:m≠0):off+m<=c.size:=by
 rw[<- h] at hl;simp[seg] at hl;omega
theorem zC3(us vs:List Value):flat (us++vs)=flat us++flat vs:=by simp[flat]
section
variable {w w':World} {Φ Φ':Nat->Prop} {A A':Al}
theorem zPI{x:PV}{u:Value}{L:LN}(h:Rep w Φ A x u L)(hn:zCv u=x.isAgg){c:Nat}{qs:List PV}{vs:List Value}(hq:∀ q∈qs,q.oneCell=true)(yn:∀ v∈vs,v.oneCell'=true)(yA:vs.length=qs.length)(hc:c+qs.length<=x.cells.length) :
  ∃ u' L1 L2 L3,u'.cells.toList=u.cells.toList.take c++vs++u.cells.toList.drop (c+vs.length)/\zCv u'=zCv u/\L=L1++L2++L3/\(zAG x c qs).isAgg=x.isAgg/\(zAG x c qs).cells.length=x.cells.length /\
   ∀ {w':World} {Φ':Nat->Prop} {A':Al} {Lq:LN},(∀ a v,a.isWay=true->A a v->A' a v)->zDq w w' Φ Φ'->(∀ b∈L1++L3,w'.heap[b]? = w.heap[b]?)->zA8 w' Φ' A' qs vs Lq ->
    Rep w' Φ' A' (zAG x c qs) u' (L1++Lq++L3):=by
 cases hx:x.isAgg with
 |true=>
  cases x<;>simp[PV.isAgg] at hx;rename_i cs;obtain⟨us,rfl,hr⟩:=h;obtain⟨L1,L2,L3,rfl,hk⟩:=hr.replace c qs.length;have jG:=hr.length;refine⟨.agg (us.toList.take c++vs++us.toList.drop (c+vs.length)).toArray,L1,L2,L3,by simp[Value.cells],rfl,rfl,rfl,?_,fun hA hs hb hq=>⟨_,rfl,?_⟩⟩
  ·simp[zAG,PV.cells] at hc ⊢;omega
  ·have:=hk hA hs hb hq;rw[yA];simpa using this
 | false =>
  have jO:x.cells=[x]:=by cases x<;>first|rfl|simp[PV.isAgg] at hx
  have hv:u.cells=#[u]:=by rw[hx] at hn;cases u<;>first|rfl|simp[zCv] at hn
  rw[jO] at hc ⊢
  match qs,vs,yA,hq,yn with
  |[],[],_,_,_=>
   have he:zAG x c []=x:=by cases x<;>first|rfl|simp[PV.isAgg] at hx
   refine⟨u,L,[],[],by simp,rfl,by simp,by rw[he];exact hx,by rw[he,jO],fun hA hs hb hq=>?_⟩;obtain⟨_,rfl⟩:=hq;rw[he];simpa using h.mono hs hA (fun b yL=>hb b (by simp[yL]))
  |[q],[v],_,hq,yn=>
   have vq:c=0:=by simp at hc;exact hc
   subst vq;have he:zAG x 0 [q]=q:=by cases x<;>first|rfl|simp[PV.isAgg] at hx
   have h1:=zBo (hq q (by simp));have h2:=zBO (yn v (by simp));refine⟨v,[],L,[],by simp[hv,h2.1],by rw[h2.2,hn,hx],by simp,by rw[he];exact h1.2,by rw[he,h1.1];rfl,fun hA hs hb hq=>?_⟩;obtain⟨v',vs',L1,L2,h3,h4,h5,h6⟩:=hq;obtain⟨h7,h8⟩:=h6;cases h3;subst h8;rw[he,h4];simpa using h5
  |_::_::_,_,_,_,_=>simp only[bD,b7] at hc;omega
theorem zEQ{α:Type}{l:List α}{i:Nat}{x:α}(h:i<l.length):l.set i x=l.take i++[x]++l.drop (i+1):=by
 rw[cm,if_pos h];simp
theorem zVL{np q':PV}{nv:Value}{Li:LN}(h:Rep w Φ A np nv Li){xs:List PV}(hx:zBi np=some xs){i c:Nat}{x:PV}(hi:xs[i]? = some x){qs:List PV}{vs:List Value}
  (hq:∀ q∈qs,q.oneCell=true) (yn:∀ v∈vs,v.oneCell'=true) (yA:vs.length=qs.length) (hI:qs.length≠0) (hc:c+qs.length<=x.cells.length) (hw:zAJ np (xs.set i (zAG x c qs))=some q') :
  ∃ ad row La Lm Lb,zBd nv np i c=some ad/\ad.spot=none/\zE2 w ad.block row/\ad.off+vs.length<=row.size/\Li=ad.block::(La++Lm++Lb) /\
   ∀ {w':World} {Φ':Nat->Prop} {A':Al} {Lq:LN},(∀ a v,a.isWay=true->A a v->A' a v)->zDq w w' Φ Φ'->(∀ b∈La++Lb,w'.heap[b]? = w.heap[b]?)->zE2 w' ad.block (zBk row ad.off vs)->zA8 w' Φ' (zGS A' np) qs vs Lq ->
    Rep w' Φ' A' q' nv (ad.block::(La++Lq++Lb)):=by
 have yR:i<xs.length:=(bg.1 hi).1;cases np<;>simp only[zBi] at hx<;>try cases hx
 case own sz=>
  obtain⟨h1,h2,h3⟩|⟨a,n,r,us,L',rfl,h1,h2,h3,h4,h5,h6,⟨h7,u3⟩,h8,h9⟩:=h
  ·subst h1;simp at hi
  ·simp only[zAJ,ba] at hw;subst hw;have husl:us.length=xs.length:=by have:=congrArg length u3;simpa using this
   obtain⟨Ka,K23,rfl,qJ,hB⟩:=h9.cut i;have qO:i<us.length:=by omega
   have hxe:xs[i]=x:=by rw[bl yR] at hi;simpa using hi
   rw[b6 yR,b6 qO,hxe] at hB;obtain⟨u,us2,Lx,Kb,hue,rfl,hr,hB⟩:=hB;simp only[fc] at hue;obtain⟨hu0,rfl⟩:=hue;have hu:us[i]? = some u:=by rw[bl qO,hu0]
   have hg:zCv u=x.isAgg:=by
    have h1:(us.map zCv)[i]? = some (zCv u):=by simp[hu]
    have h2:(xs.map PV.isAgg)[i]? = some x.isAgg:=by simp[hi]
    rw[u3] at h1;rw[h1] at h2;simpa using h2
   have vZ:=h6 x (bH hi);have jG:=h7 u (bH hu);obtain⟨u',L1,L2,L3,k1,k2,rfl,k4,k5,k6⟩:=zPI hr hg hq yn yA hc;have qP:i*sz+sz<=xs.length*sz:=by rw[<- cZ];exact cY _ yR
   have hnsz:xs.length*sz<=n*sz:=cY _ h3;have yF:a.off+(i*sz+c)+vs.length<=r.size:=by rw[yA];omega
   refine⟨zAv a (i*sz+c),r,Ka++L1,L2,L3++Kb,by rw[h1];rfl,rfl,h4,yF,by simp[zAv],@fun w' Φ' A' Lq hA hs hb yH vr=>?_⟩;have yt:xs.set i (zAG x c qs)=xs.take i++([zAG x c qs]++xs.drop (i+1)):=by rw[zEQ yR];simp
   have qv:us.set i u'=us.take i++([u']++us.drop (i+1)):=by rw[zEQ qO];simp
   refine .inr ⟨a,n,_,us.set i u',(Ka++(L1++Lq++L3)++Kb),by simp[zAv],by simpa using h1,h2,by simpa using h3,yH,?_,?_,⟨?_,?_⟩,?_,?_⟩
   ·show a.off+n*sz<=(zBk r (a.off+(i*sz+c)) vs).size
    rw[zGO yF];exact h5
   ·intro y hy;rcases dD hy with hy|hy
    ·exact h6 y hy
    ·rw[hy,k5];exact vZ
   ·intro y hy;rcases dD hy with hy|hy
    ·exact h7 y hy
    ·rw[hy];have:=congrArg length k1;simp at this;omega
   ·rw[zEB hi k4,zEB hu k2,u3]
   ·have uH:flat us=flat (us.take i)++(u.cells.toList++flat (us.drop (i+1))):=by
     conv=>lhs;rw[<- cw i us,b6 qO,hu0]
     rw[zC3,zCE]
    have jT:(flat (us.take i)).length=i*sz:=by
     rw[zBr (fun y hy=>h7 y (cJ hy)),cj,iI (by omega)]
    have qQ:u.cells.toList.length=sz:=by simpa using jG
    rw[dF];show seg (zBk r (zAv a (i*sz+c)).off vs) a.off (xs.length*sz)=_
    simp only[zAv];rw[zHR (by omega) (by rw[yA];omega) (by omega),h8,show a.off+(i*sz+c)-a.off=i*sz+c by omega];rw[qv,zC3,zC3,uH];have e1:(flat (us.take i)++(u.cells.toList++flat (us.drop (i+1)))).take (i*sz+c)=flat (us.take i)++u.cells.toList.take c:=by
     rw[iu,jT,bw (by omega),show i*sz+c-i*sz=c by omega,cP (by omega)]
    have e2:(flat (us.take i)++(u.cells.toList++flat (us.drop (i+1)))).drop (i*sz+c+vs.length)=u.cells.toList.drop (c+vs.length)++flat (us.drop (i+1)):=by
     rw[fL,jT,fD (by omega),show i*sz+c+vs.length-i*sz=c+vs.length by omega,List.drop_append_of_le_length (by omega)];rfl
    rw[e1,e2];have e3:flat [u']=u'.cells.toList:=by simp[flat]
    rw[e3,k1];simp
   ·rw[yt,qv];have u9:=k6 (fun a v _ h=>h) (Φ':=_) hs (fun b h=>hb b (by simp at h ⊢;rcases h with h|h<;>simp[h])) vr;have:=(qJ.mono hs (fun _ _ _ h=>h) (fun b h=>hb b (by simp[h]))).append ((show zA8 _ _ zCm [zAG x c qs] [u'] _ from⟨u',[],_,[],rfl,rfl,u9,rfl,rfl⟩).append (hB.mono hs (fun _ _ _ h=>h) (fun b h=>hb b (by simp[h]))));simpa using this
 case box q0=>
  obtain⟨a,r,u0,L',rfl,h1,h2,h4,h5,⟨h6,uv⟩,h7⟩:=h;have j8:i=0:=by simpa using yR
  subst j8;simp at hi;subst hi;simp only[cK,zAJ,ba] at hw;subst hw;obtain⟨u',L1,L2,L3,k1,k2,rfl,k4,k5,k6⟩:=zPI h7 uv hq yn yA hc;have jG:u0.cells.toList.length=q0.cells.length:=by simpa using h6
  have je:a.off+q0.cells.length<=r.size:=zW9 h5 jG (by omega);refine⟨zAv a c,r,L1,L2,L3,by rw[h1];rfl,rfl,h4,by simp only[zAv];omega,by simp[zAv],fun hA hs hb yH vr=>?_⟩;refine⟨a,_,u',_,rfl,h1,h2,yH,?_,⟨?_,?_⟩,k6 hA hs hb vr⟩
  ·rw[k5];simp only[zAv];rw[zHR (by omega) (by omega) (by omega),h5,show a.off+c-a.off=c by omega,k1]
  ·rw[k5];have:=congrArg length k1;simp at this jG;omega
  ·rw[k2,k4,uv]
theorem zTq{np:PV}{nv:Value}{Li:LN}(h:Rep w Φ A np nv Li){xs:List PV}(hx:zBi np=some xs){i:Nat}{x:PV}(hi:xs[i]? = some x) :
  ∃ M ux Lx ad,Li=ad.block::M/\(∀ c,zBd nv np i c=some (zAv ad c))/\Rep w Φ (zGS A np) x ux Lx/\(∀ b∈Lx,b∈M)/\zCv ux=x.isAgg/\∀ k u,ux.cells.toList[k]? = some u->kid w nv np i k=some u:=by
 cases np<;>simp only[zBi] at hx<;>try cases hx
 case own sz=>
  obtain⟨h1,h2,h3⟩|⟨a,n,r,us,L',rfl,h1,h2,h3,h4,h5,h6,⟨h7,u3⟩,h8,h9⟩:=h
  ·subst h1;simp at hi
  ·obtain⟨ux,La,Lx,Lb,hu,rfl,hr,_,_⟩:=h9.split hi;have hg:zCv ux=x.isAgg:=by
    have h1:(us.map zCv)[i]? = some (zCv ux):=by simp[hu]
    have h2:(xs.map PV.isAgg)[i]? = some x.isAgg:=by simp[hi]
    rw[u3] at h1;rw[h1] at h2;simpa using h2
   subst h1;refine⟨_,ux,Lx,zAv a (i*sz),rfl,fun c=>by simp[zBd,zAv,cg],hr,fun b hb=>by simp[hb],hg,fun k u hk=>?_⟩;have hf:=zEc h7 hu hk;rw[<- h8] at hf;have:=zDj hf;simp only[kid,zAv];rw[zC2 h4.any];exact this
 case box q0=>
  obtain⟨a,r,u0,L',rfl,h1,h2,h4,h5,⟨h6,uv⟩,h7⟩:=h;have j8:i=0:=by
   cases i with
   |zero=>rfl|succ i=>simp at hi
  subst j8;simp at hi;subst hi;subst h1;refine⟨L',u0,L',a,rfl,fun c=>rfl,h7,fun b hb=>hb,uv,fun k u hk=>?_⟩;have:=zDj (c:=r) (o:=a.off) (n:=q0.cells.length) (k:=k) (u:=u) (by rw[h5];exact hk);simp only[kid,zAv];rw[zC2 h4.any];exact this
end
mutual
theorem zEZ{f g:PV->PV}:∀ p:PV,(p.mapW f).mapW g=p.mapW fun a=>(f a).mapW g
 |.agg cs=>by rw[PV.mapW,PV.mapW,PV.mapW,zE6]|.tup cs=>by rw[PV.mapW,PV.mapW,PV.mapW,zE6]|.func h a b=>by rw[PV.mapW,PV.mapW,PV.mapW,zE6,zE6]|.ref q=>by rw[PV.mapW,PV.mapW,PV.mapW,zEZ]|.box q=>by rw[PV.mapW,PV.mapW,PV.mapW,zEZ]|.lock q=>by rw[PV.mapW,PV.mapW,PV.mapW,zEZ]|.addr .. => rfl|.bor .. => rfl|.bsl .. => rfl|.bmap .. => rfl|.yld .. => rfl|.log .. => rfl|.bad=>rfl|.und=>rfl|.int .. => rfl|.bool .. => rfl|.nilp=>rfl|.nilf=>rfl|.nilm=>rfl|.nn=>rfl|.nils _=>rfl|.sl _=>rfl|.own .. => rfl|.map _=>rfl|.omap _=>rfl
theorem zE6{f g:PV->PV}:∀ ps:List PV,zCX g (zCX f ps)=zCX (fun a=>(f a).mapW g) ps
 |[]=>rfl|p::ps=>by rw[zCX,zCX,zCX,zEZ,zE6]
end
mutual
theorem zDC{f g:PV->PV}(h:∀ a,a.isWay=true->f a=g a):∀ p:PV,p.mapW f=p.mapW g
 |.agg cs=>by rw[PV.mapW,PV.mapW,zEo h]|.tup cs=>by rw[PV.mapW,PV.mapW,zEo h]|.func k a b=>by rw[PV.mapW,PV.mapW,zEo h,zEo h b]|.ref q=>by rw[PV.mapW,PV.mapW,zDC h]|.box q=>by rw[PV.mapW,PV.mapW,zDC h]|.lock q=>by rw[PV.mapW,PV.mapW,zDC h]|.addr .. => h _ rfl|.bor .. => h _ rfl|.bsl .. => h _ rfl|.bmap .. => h _ rfl|.yld .. => rfl|.log .. => h _ rfl|.bad=>rfl|.und=>rfl|.int .. => rfl|.bool .. => rfl|.nilp=>rfl|.nilf=>rfl|.nilm=>rfl|.nn=>rfl|.nils _=>rfl|.sl _=>rfl|.own .. => rfl|.map _=>rfl|.omap _=>rfl
theorem zEo{f g:PV->PV}(h:∀ a,a.isWay=true->f a=g a):∀ ps:List PV,zCX f ps=zCX g ps
 |[]=>rfl|p::ps=>by rw[zCX,zCX,zDC h,zEo h]
end
def zDP(r:Nat)(pre:zA4)(i:Nat):Nat->List PV->PV->PV
 |_,[],a=>a|c,q::qs,a=>bif q.heavy then(if (lose r (pre++[(i,c)]) a).isWay=true then zDP r pre i (c+1) qs a else lose r (pre++[(i,c)]) a) else zDP r pre i (c+1) qs a
theorem zMG(r:Nat)(pre:zA4)(i:Nat):∀ (qs:List PV) (c:Nat) (p:PV),zDP r pre i c qs p=p\/(p.isWay=true/\zDP r pre i c qs p = .bad)
 |[],c,p=>.inl rfl
 | q :: qs,c,p=>by
  simp only[zDP]
  cases hq:q.heavy with
  |false=>exact zMG r pre i qs (c+1) p|true=>
   simp only[cond_true];split
   ·exact zMG r pre i qs (c+1) p
   ·exact zG3 r (pre++[(i,c)]) p
theorem zGM{o:zAK}{r:Nat}{pre:zA4}{i:Nat}{k:PM}{e':Env}:∀ (qs:List PV) (c:Nat) {e:Env},(zD6 r pre i c qs k).run o e=some e' ->
  ∃ e1,k.run o e1=some e'/\∀ s,e1.get s=(e.get s).mapW (zDP r pre i c qs)
 |[],c,e,h=>⟨e,h,fun s=>by rw[show zDP r pre i c []=fun x=>x from rfl,zBl]⟩
 | q :: qs,c,e,h=>by
  simp only[zD6] at h
  cases hq:q.heavy with
  |false=>
   rw[hq] at h;obtain⟨e1,h1,h2⟩:=zGM qs (c+1) h;refine⟨e1,h1,fun s=>?_⟩;rw[h2 s];exact zDC (fun a _=>by simp[zDP,hq]) _
  |true=>
   rw[hq] at h;simp only[cond_true,PM.run] at h;obtain⟨e1,h1,h2⟩:=zGM qs (c+1) h;refine⟨e1,h1,fun s=>?_⟩;rw[h2 s,Env.get_kill,zEZ];refine zDC (fun a ha=>?_) _;simp only[zDP,hq,cond_true];rcases zG3 r (pre++[(i,c)]) a with h3|⟨_,h3⟩
   ·rw[h3,if_pos ha,zGf ha]
   ·rw[h3];rfl
theorem zJr{r:Nat}{pre:zA4}{i:Nat}:∀ (qs:List PV) (c j:Nat) {q:PV},qs[j]? = some q->q.heavy=true->∀ a,a.isWay=true->∀ rest,zBc a=(r,pre++(i,c+j)::rest)->(∀ h,a ≠ .yld h)->(∀ xs k,a ≠ .log xs k)->zDP r pre i c qs a≠a
 |[],_,_,_,h,_,_,_,_,_,_,_=>by simp at h
 | q0::qs,c,0,q,h,hh,a,ha,rest,hr,hy,hl=>by
  simp at h;subst h;simp only[zDP,hh,cond_true];have hlose:lose r (pre++[(i,c)]) a = .bad:=by
   have hp:(pre++[(i,c)]).isPrefixOf (pre++(i,c)::rest)=true:=by
    rw[fu];exact⟨rest,by simp⟩
   cases a<;>first|(cases ha;done)|(exact absurd rfl (hy _))|(exact absurd rfl (hl _ _))|skip
   all_goals
    simp only[zBc,bQ,bz] at hr;obtain⟨rfl,rfl⟩:=hr;simp[lose,hp]
  rw[hlose];simp only[PV.isWay,bp,if_false];intro he;rw[<- he] at ha;cases ha
 | q0::qs,c,j+1,q,h,hh,a,ha,rest,hr,hy,hl=>by
  have ih:=zJr (r:=r) (pre:=pre) (i:=i) qs (c+1) j (by simpa using h) hh a ha rest (by rw[hr];congr 4;omega) hy hl;simp only[zDP]
  cases hq:q0.heavy with
  |false=>exact ih|true=>
   simp only[cond_true];rcases zG3 r (pre++[(i,c)]) a with h3|⟨_,h3⟩
   ·rw[h3,if_pos ha];exact ih
   ·rw[h3];simp only[PV.isWay,bp,if_false];intro he;rw[<- he] at ha;cases ha
theorem zKx{r:Nat}{pre:zA4}{i:Nat}:∀ (qs:List PV) (c:Nat) {a:PV},(∀ x∈a.ways,zAU r pre x.1 x.2=false\/x.2.length<=pre.length)->zDP r pre i c qs a=a
 |[],_,_,_=>rfl
 | q :: qs,c,a,h=>by
  have ih:=zKx (r:=r) (pre:=pre) (i:=i) qs (c+1) h;have hl : lose r (pre++[(i,c)]) a=a:=by
   have key:∀ r' p,(zAU r pre r' p=false\/p.length<=pre.length)->(beq r' r&&(pre++[(i,c)]).isPrefixOf p)=false:=by
    intro r' p hp
    cases hb:(beq r' r&&(pre++[(i,c)]).isPrefixOf p) with
    |false=>rfl|true=>
     simp only[bb,fu] at hb;obtain⟨h1,rest,h2⟩:=hb;rcases hp with hp|hp
     ·have:zAU r pre r' p=true:=zEr.2 ⟨bd h1,(i,c)::rest,by rw[<- h2];simp⟩;rw[this] at hp;cases hp
     ·rw[<- h2] at hp;simp at hp;omega
   cases a<;>first|rfl|skip
   all_goals
    simp only[lose];rw[key _ _ (h (_,_) (bk.2 rfl))];rfl
  simp only[zDP]
  cases hq:q.heavy with
  |false=>exact ih|true=>simp only[cond_true,hl];split<;>first|exact ih|rfl
theorem zM0{f:PV->Option PV}:∀ {pre:zA4} {p p':PV},zAz f p pre=some p'->∃ q q',zAH p pre=some q/\f q=some q'/\zAz (fun _=>some q') p pre=some p'
 |[],p,p',h=>⟨p,p',rfl,h,rfl⟩
 | (i, c)::rest,p,p',h=>by
  rw[zBu] at h
  cases hc:Eng.child p i c with
  |none=>rw[hc] at h;cases h
  | some q =>
   rw[hc] at h;simp only[bc] at h
   cases hm:zAz f q rest with
   |none=>rw[hm] at h;cases h|some q1=>
    rw[hm] at h;simp only[bc] at h;obtain⟨x,x',h1,h2,h3⟩:=zM0 hm;exact⟨x,x',by rw[zCg,hc];exact h1,h2,by rw[zBu,hc];simp only[bc];rw[h3];exact h⟩
theorem zKI:∀ {pre:zA4} {p q:PV},zAH p pre=some q->q.unlock=q->p.unlock=p
 |[],p,q,h,hq=>by simp only[zAH,ba] at h;subst h;exact hq|(i,c)::rest,p,q,h,_=>by
  rw[zCg] at h;cases p<;>first|rfl|(simp[Eng.child,zA9] at h;done)
theorem zJ9{r:Nat}{pre:zA4}{i:Nat}{p:PV}(hh:p.heavy=false->∀ q∈p.cells,q.heavy=false)(h:p.heavy=false){c:Nat}(a:PV):zDP r pre i c p.cells a=a:=by
 have key:∀ (qs:List PV) (c:Nat),(∀ q∈qs,q.heavy=false)->zDP r pre i c qs a=a:=by
  intro qs
  induction qs with
  |nil=>intro c _;rfl|cons q qs ih=>intro c h;simp only[zDP,h q (by simp),cond_false];exact ih (c+1) fun x hx=>h x (by simp[hx])
 exact key _ _ (hh h)
theorem zRh{p:PV}{x:Nat×zA4}(h:x∈zBx p.cells):x∈p.ways:=by
 cases p<;>simp only[PV.cells,zBx,dR] at h<;>exact h
theorem zL3(p:PV)(i c:Nat)(rest:zA4):zDH p ((i,c)::rest)=match p with
  |.own .. => true|p=>match Eng.child p i c with|some q=>zDH q rest|none=>false:=by
 cases p<;>simp only[zDH,Eng.child,zA9,dJ,bc]
 ·cases i with
  |zero=>simp only[bJ,bc];split<;>simp_all
  |succ i=>simp
 ·cases i with
  |zero=>simp only[bJ,bc];split<;>simp_all
  |succ i=>simp
theorem zNu:∀ {pre:zA4} {p q:PV} {A:Al},zDH p pre=false->zAH p pre=some q->∀ a v,A a v->zGS (zIG A p pre) q a v
 |[],p,q,A,hc,hq,a,v,h=>by
  simp only[zAH,ba] at hq;subst hq;simp only[zIG];cases p<;>first|exact h|(simp[zDH] at hc;done)
 | (i,c)::rest,p,q,A,hc,hq,a,v,h=>by
  rw[zCg] at hq;rw[zL3] at hc
  cases yc:Eng.child p i c with
  |none=>rw[yc] at hq;cases hq|some q1=>
   rw[yc] at hq;simp only[bc] at hq;simp only[zIG,yc];cases p<;>simp only[yc] at hc<;>first|(cases hc;done)|exact zNu hc hq a v h
section
variable {P:Program} {w0 w:World} {U Φ0 Φ:Nat->Prop} {nt:Nat} {hv:Hid} {a:Act} {e e':Env} {rv:Nat->Value} {E:Nat->PV} {L:Nat->LN} {o:zAK}
theorem zLp{p:PV}(h:p.heavy=false):∀ q∈p.cells,q.heavy=false:=by
 intro q hq;cases p<;>simp only[PV.cells,bk] at hq<;>try (subst hq;exact h)
 obtain⟨i,hi⟩:=cC hq;exact zEG h hi
theorem zGJ{x:PV}{c:Nat}{qs:List PV}(hq:∀ q∈qs,q.oneCell=true)(hI:qs.length≠0)(yS:c+qs.length<=x.cells.length):(zAG x c qs).cells=x.cells.take c++qs++x.cells.drop (c+qs.length):=by
 cases hx:x.isAgg with
 |true=>cases x<;>simp[PV.isAgg] at hx;rfl
 | false =>
  have jO:x.cells=[x]:=by cases x<;>first|rfl|simp[PV.isAgg] at hx
  rw[jO] at yS ⊢
  match qs,hq,hI with
  |[],_,hI=>exact absurd rfl hI|[q],hq,_=>
   have vq:c=0:=by simp at yS;exact yS
   subst vq;have he:zAG x 0 [q]=q:=by cases x<;>first|rfl|simp[PV.isAgg] at hx
   rw[he,(zBo (hq q (by simp))).1];simp
  |_::_::_,_,_=>simp only[bD,b7] at yS;omega
theorem zKl{b o k:Nat}{row:Array Value}{vs:List Value}(yH:zE2 w b row)(yF:o+vs.length<=row.size)(hk:k<o\/o+vs.length<=k):(w.setRow b (zBk row o vs)).cell? ⟨b,k,none⟩=w.cell? ⟨b,k,none⟩:=by
 obtain⟨el,jH⟩:=yH;have j2:zJw (w.setRow b (zBk row o vs)) b (zBk row o vs):=⟨el,_,setRow_heap w _ _ _ el _ jH⟩;rw[zC2 j2,zC2 ⟨el,_,jH⟩];have:(zBk row o vs)[k]? = (row.toList.take o++vs++row.toList.drop (o+vs.length))[k]?:=by simp[zBk]
 rw[this,zC9 (by simpa using yF)];rcases hk with hk|hk
 ·rw[if_pos hk];simp
 ·rw[if_neg (by omega),if_neg (by omega)];simp
theorem zMX {A:Al} {np q':PV} {nv:Value} {Li:LN} (h:Rep w Φ A np nv Li) (y6:Li.Nodup) {xs:List PV} (hx:zBi np=some xs) {i c:Nat} {x:PV} (hi:xs[i]? = some x) {qs:List PV} {vs:List Value}
  (hq:∀ q∈qs,q.oneCell=true) (yA:vs.length=qs.length) (hI:qs.length≠0) (hc:c+qs.length<=x.cells.length) (hw:zAJ np (xs.set i (zAG x c qs))=some q') {ad:Addr} {row:Array Value}
  (jQ:zBd nv np i c=some ad) (yH:zE2 w ad.block row) (yF:ad.off+vs.length<=row.size) :
  ∀ (rest:zA4) (nv2:Value) (np2:PV),zA1 (w.setRow ad.block (zBk row ad.off vs)) nv q' rest=some (nv2,np2)->np2.heavy0=true ->
   (∃ j q rest',qs[j]? = some q/\q.heavy=true/\rest=(i,c+j)::rest')\/∃ np0,zA1 w nv np rest=some (nv2,np0)/\zCr np0 np2:=by
 intro rest nv2 np2 hf hh;have jz:zCr np q'/\zA9 q'=some (xs.set i (zAG x c qs)):=by
  cases np<;>simp only[zBi] at hx<;>try cases hx
  ·simp only[zAJ,ba] at hw;subst hw;exact⟨rfl,rfl⟩
  ·have j8:i=0:=by have:=(bg.1 hi).1;simpa using this
   subst j8;simp only[cK,zAJ,ba] at hw ⊢;subst hw;exact⟨trivial,rfl⟩
 cases rest with
 |nil=>
  simp only[zA1,ba,bz] at hf;obtain⟨rfl,rfl⟩:=hf;exact .inr ⟨np,rfl,jz.1⟩
 | cons y rest =>
  obtain⟨i2,c2⟩:=y;rw[zBb] at hf
  cases yc:Eng.child q' i2 c2 with
  |none=>rw[yc] at hf;cases hf
  | some q2 =>
   rw[yc] at hf;simp only[bc] at hf
   cases hk:kid (w.setRow ad.block (zBk row ad.off vs)) nv q' i2 c2 with
   |none=>rw[hk] at hf;cases hf
   | some u2 =>
    rw[hk] at hf;simp only[bc] at hf;have yR:i<xs.length:=(bg.1 hi).1;simp only[Eng.child,jz.2,bc] at yc;by_cases hin:i2=i/\c<=c2/\c2<c+qs.length
    ·obtain⟨rfl,h1,h2⟩:=hin;rw[cn yR] at yc;simp only[bc] at yc;rw[zGJ hq hI hc,zC9 hc,if_neg (by omega),if_pos h2] at yc
     cases qw:q2.heavy with
     |true=>exact .inl ⟨c2-c,q2,rest,yc,qw,by rw[show c+(c2-c)=c2 by omega]⟩|false=>
      have:=zEC qw hf;rw[zFM hh] at this;cases this
    ·
     have hold:∃ x2,xs[i2]? = some x2/\x2.cells[c2]? = some q2:=by
      by_cases kz:i2=i
      ·subst kz;rw[cn yR] at yc;simp only[bc] at yc;rw[zGJ hq hI hc,zC9 hc] at yc;refine⟨x,hi,?_⟩;by_cases h1:c2<c
       ·rw[if_pos h1] at yc;exact yc
       ·rw[if_neg h1,if_neg (fun h2=>hin ⟨rfl,by omega,h2⟩)] at yc;exact yc
      ·rw[dc (dK kz)] at yc
       cases j4:xs[i2]? with
       |none=>rw[j4] at yc;cases yc|some x2=>rw[j4] at yc;exact⟨x2,rfl,yc⟩
     obtain⟨x2,j4,jx⟩:=hold;obtain⟨M,ux,Lx,ad2,g1,g2,g3,g4,g5,g6⟩:=zTq h hx j4;obtain⟨u,La,Lu,Lb,hu,hLx,uG,_,_⟩:=g3.cell jx g5;have kD:=g6 c2 u hu;have hblk:ad2.block=ad.block:=by
      have:=g2;cases np<;>simp only[zBi] at hx<;>try cases hx
      ·cases nv<;>try (simp[zBd] at jQ;done)
       rename_i sa _ _
       cases sa with
       |none=>cases jQ|some sa=>
        simp only[zBd,ba] at jQ;have:=this 0;simp only[zBd,ba] at this;rw[<- jQ];exact(congrArg Addr.block this).symm
      ·cases nv<;>try (cases i<;>simp[zBd] at jQ;done)
       rename_i sa
       cases sa with
       |none=>cases i<;>cases jQ
       |some sa=>
        have j8:i=0:=by have:=(bg.1 hi).1;simpa using this
        have gg:i2=0:=by have:=(bg.1 j4).1;simpa using this
        subst j8;subst gg;simp only[zBd,ba] at jQ;have:=this 0;simp only[zBd,ba] at this;rw[<- jQ];exact(congrArg Addr.block this).symm
     have yY:kid (w.setRow ad.block (zBk row ad.off vs)) nv q' i2 c2=kid w nv np i2 c2:=by
      have hc2l:c2<x2.cells.length:=(bg.1 jx).1;cases np<;>simp only[zBi] at hx<;>try cases hx
      case own sz=>
       simp only[zAJ,ba] at hw;subst hw;cases nv<;>try (simp[zBd] at jQ;done)
       rename_i sa _ _
       cases sa with
       |none=>cases jQ
       | some sa =>
        simp only[zBd,ba] at jQ;subst jQ;simp only[kid];refine zKl yH yF ?_;obtain⟨gh,_⟩|⟨_,_,_,_,_,_,_,_,_,_,_,yI,_⟩:=h
        ·subst gh;simp at hi
        ·have e1:=yI x (bH hi);have e2:=yI x2 (bH j4);simp only[zAv];rw[yA];by_cases kz:i2=i
         ·subst kz;have:¬ (c<=c2/\c2<c+qs.length):=fun h=>hin ⟨rfl,h⟩;omega
         ·rcases Nat.lt_or_gt_of_ne kz with yG|hgt
          ·have:=cY x.cells.length (Nat.succ_le_of_lt yG);rw[cZ,e1] at this;left;omega
          ·have:=cY x.cells.length (Nat.succ_le_of_lt hgt);rw[cZ,e1] at this;right;omega
      case box q0=>
       have j8:i=0:=by have:=(bg.1 hi).1;simpa using this
       have gg:i2=0:=by have:=(bg.1 j4).1;simpa using this
       subst j8;subst gg;simp only[cK,zAJ,ba] at hw;subst hw;cases nv<;>try (simp[zBd] at jQ;done)
       rename_i sa
       cases sa with
       |none=>cases jQ|some sa=>
        simp only[zBd,ba] at jQ;subst jQ;simp only[kid];refine zKl yH yF ?_;simp only[zAv];rw[yA];have:¬ (c<=c2/\c2<c+qs.length):=fun h=>hin ⟨rfl,h⟩;omega
     rw[yY,kD] at hk;cases hk;have vY:=zFa (w':=w.setRow ad.block (zBk row ad.off vs)) (pre:=rest) uG fun t ht=>setRow_other w _ t _ fun hc=>by
      rw[g1,hblk] at y6;exact(cB.1 y6).1 (g4 _ (by rw[hLx,<- hc];simp[ht]))
     rw[vY] at hf;refine .inr ⟨np2,?_,zCr.refl hh⟩;rw[zBb];have:Eng.child np i2 c2=some q2:=by simp only[Eng.child,zHc hx,bc,j4,jx]
     rw[this];simp only[bc];rw[kD];exact hf
theorem St.write (S:St w0 U Φ0 nt hv a w e Φ rv E L) {g r:Nat} {pre:zA4} {i c:Nat} {sh:ON} (hg:zAa<=g) {va:Value} (ha:Rep w Φ (zBa w rv E) (.addr r pre i c sh) va [])
  (j9:(E g).heavy=false\/∀ x∈(E g).ways,zAU r pre x.1 x.2=false\/x.2.length<=pre.length) (yQ:∀ q∈(E g).cells,q.oneCell=true) (hI:(E g).cells.length≠0)
  (hva:zCv (rv g)=(E g).isAgg) {k:PM} (h:(zD6 r pre i c (E g).cells (.wcells r pre i c (E g).cells k)).run o e=some e') :
  ∃ b row e1 E1 L1,va = .pointer (some b)/\b.spot=none/\zE2 w b.block row/\b.off+(rv g).cells.size<=row.size/\(∀ v∈(rv g).cells.toList,v.oneCell'=true)/\k.run o e1=some e' /\
   St w0 U Φ0 nt hv a (w.setRow b.block (zBk row b.off (rv g).cells.toList)) e1 Φ rv E1 L1/\E1 g = .bad/\(∀ s,zAa<=s->s≠g->E s = .bad->E1 s = .bad)/\(∀ s,zAa<=s->s≠g->E1 s=(E s).mapW (zDP r pre i c (E g).cells))/\b.block∈L r:=by
 obtain⟨e1,h1,y8⟩:=zGM _ _ h;have hf:=zMG r pre i (E g).cells c;have ja:=ha.2;obtain⟨hr,b,rfl,yd,hn⟩:=ha.2;simp only[PM.run] at h1
 cases qR:zBv (e1.get r) pre i c (E g).cells with
 |none=>rw[qR] at h1;cases h1
 | some root =>
  rw[qR] at h1;simp only at h1;have wP:e1.get r=(E r).mapW (zDP r pre i c (E g).cells):=by rw[y8 r,S.env r hr]
  rw[wP] at qR;simp only[zBv] at qR
  cases yN:(zDH ((E r).mapW (zDP r pre i c (E g).cells)) pre && !(zBx (E g).cells).isEmpty) with
  |true=>rw[yN] at qR;cases qR
  | false =>
   rw[yN] at qR;simp only[cond_false] at qR;obtain⟨np,q',hnp,kQ,yZ⟩:=zM0 qR
   cases hx:zBi np with
   |none=>rw[hx] at kQ;cases kQ
   | some xs =>
    rw[hx] at kQ;simp only at kQ
    cases hi:xs[i]? with
    |none=>rw[hi] at kQ;cases kQ
    | some x =>
     rw[hi] at kQ;simp only at kQ
     cases yS:ble (c+(E g).cells.length) x.cells.length with
     |false=>rw[yS] at kQ;cases kQ
     | true =>
      rw[yS] at kQ;simp only[cond_true] at kQ;have yS:=br yS;have j1:((E r).mapW (zDP r pre i c (E g).cells)).unlock=(E r).mapW (zDP r pre i c (E g).cells):=zKI hnp (by cases np<;>first|rfl|cases hx);obtain⟨nv,Li,vU,hZ,gi,vE,wQ⟩:=S.conf.mod hr hf j1 hnp;have kF:=(S.conf.rep g).cellsAll hva;have kH:(rv g).cells.toList.length=(E g).cells.length:=kF.length;have qx:∀ v∈(rv g).cells.toList,v.oneCell'=true:=by
       intro v hv;obtain⟨j,hj⟩:=cC hv;have y9:j<(E g).cells.length:=by rw[<- kH];exact(bg.1 hj).1
       obtain⟨v',La,Li',Lb,yK,_,je,_⟩:=kF.split (i:=j) (bl y9);rw[hj] at yK;cases yK;exact zCi (fun a v hw h=>zDd hw h) je (yQ _ (cM y9))
      have gj:=zLp (p:=E g);have qS:q'.isAgg=false/\q'.unlock=q'/\q'.isTup=false/\np.isAgg=false/\zCr np q':=by
       cases np<;>simp only[zBi] at hx<;>try cases hx
       ·simp only[zAJ,ba] at kQ;subst kQ;exact⟨rfl,rfl,rfl,rfl,rfl⟩
       ·simp only[zAJ] at kQ;split at kQ<;>first|(cases kQ;done)|skip
        ·simp_all
        ·cases kQ;exact⟨rfl,rfl,rfl,rfl,trivial⟩
        ·simp_all
      obtain⟨ad,row,La,Lm,Lb,k1,k2,k3,k4,uc,uI⟩:=zVL hZ hx hi yQ qx kH hI yS kQ;have hfo':∃ np0,zA1 w (rv r) (E r).unlock pre=some (nv,np0)/\zCr np0 np:=by
       rw[<- j1,zDx (zDF hf)] at vU;exact zC8 (zDF hf) vU (by cases np<;>first|rfl|cases hx)
      obtain⟨np0,hfo0,jz⟩:=hfo';have v7:=hn nv np0 hfo0 ad (by rw[zEH jz];exact k1);subst v7;have jS:b.block∈L r:=vE _ (by rw[uc];simp);have gk:r≠g:=by omega
      have yu:∀ t,t≠b.block->(w.setRow b.block (zBk row b.off (rv g).cells.toList)).heap[t]? = w.heap[t]?:=fun t ht=>setRow_other w _ t _ ht;have j2:zE2 (w.setRow b.block (zBk row b.off (rv g).cells.toList)) b.block (zBk row b.off (rv g).cells.toList):=by
       obtain⟨el,jH⟩:=k3;exact⟨el,setRow_heap w _ _ _ el _ jH⟩
      have hnotL:∀ t,t≠r->b.block∉L t:=fun t ht hm=>S.conf.disj t r ht _ hm jS;have hΦ:zDq w (w.setRow b.block (zBk row b.off (rv g).cells.toList)) Φ Φ:=fun t ht=>⟨ht,yu t fun hc=>(S.conf.own r _ jS).2.1 (hc▸ht)⟩;have wR:=gi;rw[uc] at wR;have gl:∀ t∈La++Lb,t≠b.block:=by
       intro t ht hc;subst hc;refine(cB.1 wR).1 ?_;simp at ht ⊢;rcases ht with h|h<;>simp[h]
      have hstay:∀ a v,a.isWay=true->(∀ x∈a.ways,x∈(E g).ways)->zBa w rv E a v->Eng.stays (zDP r pre i c (E g).cells) (zBa w rv E) a v:=by
       intro a v hw hx ha;refine⟨ha,?_⟩;rcases j9 with j9|j9
       ·exact zJ9 gj j9 a
       ·exact zKx _ _ fun x gd=>j9 x (hx x gd)
      have hcont:∀ A:Al,(∀ a u,a.isWay=true->Eng.stays (zDP r pre i c (E g).cells) (zBa w rv E) a u->A a u) ->
        zA8 (w.setRow b.block (zBk row b.off (rv g).cells.toList)) Φ (zGS (zIG A ((E r).mapW (zDP r pre i c (E g).cells)) pre) np) (E g).cells (rv g).cells.toList (L g):=by
       intro A hA
       have h1:zA8 (w.setRow b.block (zBk row b.off (rv g).cells.toList)) Φ (zBa w rv E) (E g).cells (rv g).cells.toList (L g) :=
        kF.mono hΦ (fun _ _ _ h=>h) fun t ht=>yu t fun hc=>hnotL g (dK gk) (hc▸ht)
       refine h1.ways _ _ _ fun a v hw hx ha=>?_;simp only[fh] at yN;rcases yN with yN|yN
       ·exact zNu yN hnp a v (hA a v hw (hstay a v hw (fun y hy=>zRh (hx y hy)) ha))
       ·have h0:zBx (E g).cells=[]:=by simpa using yN
        rw[h0] at hx;have h1:=zJn hw ha
        cases vB:a.ways with
        |nil=>exact absurd vB h1|cons z zs=>have:=hx z (by rw[vB];simp);cases this
      obtain⟨kk1,kk2⟩:=zBU qS.2.1 qS.2.2.1 yZ
      obtain⟨L1,hL1,hconf⟩:=wQ (fun s=>s==g) (w.setRow b.block (zBk row b.off (rv g).cells.toList)) q' root (b.block::(La++L g++Lb)) (fun s hs=>by have:=eq_of_beq hs;omega)
       (fun _=>by rw[qS.1,qS.2.2.2.1]) yZ kk1
       (fun A hA=>uI (zNw hA) hΦ (fun t ht=>yu t (gl t ht)) j2 (hcont A hA))
       (by
        have uy:∀ t∈L g,t∉L r:=fun t ht=>S.conf.disj g r (dK gk) t ht;have hin:∀ t,t=b.block\/t∈La++Lb->t∈L r:=by
         intro t ht;rcases ht with rfl|ht
         ·exact jS
         ·exact vE t (by rw[uc];simp at ht ⊢;rcases ht with h|h<;>simp[h])
        have uB:=(cB.1 wR).2;simp only[bK] at uB;refine cB.2 ⟨fun hm=>?_,?_⟩
        ·simp only[bj] at hm;rcases hm with(hm|hm)|hm
         ·exact gl _ (by simp[hm]) rfl
         ·exact uy _ hm jS
         ·exact gl _ (by simp[hm]) rfl
        ·simp only[bK];refine⟨⟨uB.1.1,S.conf.nodup g,fun x hx y hy e=>uy y hy (e▸hin x (.inr (by simp[hx])))⟩,uB.2.1,fun x hx y hy e=>?_⟩;simp only[bj] at hx;rcases hx with hx|hx
         ·exact uB.2.2 x (by simp[hx]) y hy e
         ·exact uy x hx (e▸hin y (.inr (by simp[hy]))))
       (fun t ht=>by
        simp only[bx,bj] at ht;rcases ht with rfl|(ht|ht)|ht
        ·exact .inl (by rw[uc];simp)
        ·exact .inl (by rw[uc];simp[ht])
        ·exact .inr (.inl ⟨g,ht,by simp⟩)
        ·exact .inl (by rw[uc];simp[ht]))
       (by rw[setRow_size];exact bf _)
       (fun t _ ht _=>yu t fun hc=>ht (by rw[uc,hc];simp))
       (fun rest nv2 np2 kE qw=>by
        rcases zMX hZ gi hx hi yQ kH hI yS kQ k1 k3 k4 rest nv2 np2 kE qw with⟨j,q,rest',h1,h2,h3⟩|h3
        ·refine .inl fun a ha vF=>?_;subst h3;refine zJr _ _ _ h1 h2 a ha rest' vF (fun y hy=>?_) (fun ys k hy=>?_)
         ·subst hy;simp only[zBc,bz] at vF;have:=vF.2;simp at this
         ·subst hy;simp only[zBc,bz] at vF;have:=vF.2;simp at this
        ·exact .inr h3)
       ⟨rfl,rfl,rfl⟩
      refine⟨b,row,e1.set r root,_,L1,rfl,yd,k3,by rw[show(rv g).cells.size=(rv g).cells.toList.length by simp];exact k4,qx,h1,S.turn hconf (fun s hs=>?_) (fun _ _=>rfl) (fun d ps hd hp=>?_),?_,?_⟩
      ·rw[Env.get_set];by_cases yT:s=r
       ·subst yT;simp
       ·have:(s==g)=false:=by simp;omega
        simp only[yT,if_false,this,bp];rw[y8 s,S.env s hs]
      ·by_cases kP:d=r
       ·simp only[kP,if_true] at hp;rw[hp] at kk2;cases kk2
       ·have:(d==g)=false:=by simp only[zAa] at hg;simp;omega
        simp only[kP,if_false,this,bp] at hp;refine zEh (fun p hp=>?_) hp;rcases hf p with h|⟨_,h⟩
        ·rw[h];cases p<;>first|rfl|cases hp
        ·rw[h];rfl
      ·simp[dK gk]
      ·refine⟨fun s hs yk hb=>?_,fun s hs yk=>?_,jS⟩
       ·have:s≠r:=by omega
        simp[this,yk,hb,PV.mapW]
       ·have:s≠r:=by omega
        simp[this,yk]
end
end Go.Eng
namespace Go.Eng
open Go
section
variable {P:Program} {w0 w:World} {U Φ0 Φ:Nat->Prop} {nt:Nat} {hv:Hid} {a:Act} {e e':Env} {rv:Nat->Value} {E:Nat->PV} {L:Nat->LN} {o:zAK}
theorem zB3{r:Nat}{pre:zA4}{q:PV}{k:PM}(h:(PM.wnode r pre q k).run o e=some e'):∃ root,(e.get r).isLock=false/\zAz (fun _=>some q) (e.get r) pre=some root/\k.run o (e.set r root)=some e':=by
 simp only[PM.run] at h
 cases hl:(e.get r).isLock with
 |true=>rw[hl] at h;cases h|false=>
  rw[hl] at h;simp only[cond_false] at h
  cases hm:zAz (fun _=>some q) (e.get r) pre with
  |none=>rw[hm] at h;cases h|some root=>rw[hm] at h;exact⟨root,rfl,rfl,h⟩
theorem zPJ(S:St w0 U Φ0 nt hv a w e Φ rv E L){p:PV}{v:Value}(hp:Rep w Φ (zBa w rv E) p v []){k:PV->PM}{k2:PM}(h:(zO4 p k k2).run o e=some e') :
  k2.run o e=some e'\/(k p).run o e=some e'\/∃ r pre q root,r<zAa/\(E r).unlock=E r/\zAH (E r) pre=some q/\q.oneCell=true/\p.oneCell=true/\zAz (fun _=>some .bad) (E r) pre=some root/\root.unlock=root/\root.isTup=false /\
   (k q).run o (e.set r root)=some e'/\∀ nv,zA1 w (rv r) (E r) pre=some (nv,q)->nv=v:=by
 cases p<;>simp only[zO4] at h<;>try (exact .inr (.inl h))
 case bor r pre z lo n=>
  obtain⟨q,hq,h1⟩:=zBP h;obtain⟨_,hr,⟨b,cap,yK,_⟩,hn⟩:=hp;split at h1
  ·rename_i sz xs
   cases hc:(beq lo 0&&beq n xs.length) with
   |false=>rw[hc] at h1;exact .inl h1
   | true =>
    rw[hc] at h1;simp only[cond_true] at h1;simp only[bb] at hc;have uJ:=bd hc.1;have hnl:=bd hc.2;subst uJ;obtain⟨root,hl,hm,h2⟩:=zB3 h1;have yJ:=zBH hl;rw[yJ,<- S.env r hr] at hq;rw[<- S.env r hr] at yJ hm;obtain⟨k1,k2'⟩:=zBU (q' := .bad) rfl rfl hm;refine .inr (.inr ⟨r,pre,_,root,hr,yJ,hq,rfl,rfl,hm,k1,k2',h2,fun nv hf=>?_⟩);obtain⟨sz2,xs2,g1,g2,g3⟩:=hn nv _ (by rw[yJ];exact hf) rfl;cases g1;subst g2;obtain⟨nv',Li,yv,_,hZ⟩:=zBS (S.conf.rep r) hq;rw[hf] at yv;cases yv;obtain⟨q1,q2,q3⟩|⟨x,m,c,us,M,q0,q1,q2,_⟩:=hZ
    ·subst q3;exact g3.1.symm
    ·subst q1;simp only[zBX] at g3;rw[g3.1,hnl];congr 2
     ·cases x;simp_all[zAv]
  ·exact .inl h1
 case bmap r pre=>
  obtain⟨q,hq,h1⟩:=zBP h;obtain⟨_,hr,⟨b,yK⟩,hn⟩:=hp;split at h1
  ·rename_i es;obtain⟨root,hl,hm,h2⟩:=zB3 h1;have yJ:=zBH hl;rw[yJ,<- S.env r hr] at hq;rw[<- S.env r hr] at yJ hm;obtain⟨k1,k2'⟩:=zBU (q' := .bad) rfl rfl hm;exact .inr (.inr ⟨r,pre,_,root,hr,yJ,hq,rfl,rfl,hm,k1,k2',h2,fun nv hf=>(hn nv _ (by rw[yJ];exact hf) _ rfl).symm⟩)
  ·exact .inl h1
theorem St.taken(S:St w0 U Φ0 nt hv a w e Φ rv E L){g r:Nat}(hg:zAa<=g)(hr:r<zAa){pre:zA4}{q root:PV}(yJ:(E r).unlock=E r)(hq:zAH (E r) pre=some q)(h1:q.oneCell=true)
  (hm:zAz (fun _=>some .bad) (E r) pre=some root) (hk:root.unlock=root) (qH:root.isTup=false) :
  ∃ nv Li,zA1 w (rv r) (E r) pre=some (nv,q)/\Rep w Φ (zBa w rv E) q nv Li/\Li.Nodup/\(∀ b∈Li,b∉L g)/\∀ (p':PV) (v':Value) (Lg:LN),Rep w Φ (zBa w rv E) p' v' Lg->Lg.Nodup->(∀ b∈Lg,b∈Li\/b∈L g) ->
   ∃ L',St w0 U Φ0 nt hv a w (e.set r root) Φ (upd rv g v') (upd (upd E r root) g p') L'/\∀ s,zAa<=s->s≠g->L' s=L s:=by
 obtain⟨nv,Li,g1,g2,g3,g4,g5⟩:=S.conf.takeNode hr hg yJ hq (zBo h1).2 hm hk;refine⟨nv,Li,g1,g2,g3,fun b hb j0=>S.conf.disj r g (by omega) b (g4 b hb) j0,fun p' v' Lg q1 q2 q3=>?_⟩;obtain⟨L',hc,hL⟩:=g5 p' v' Lg q1 q2 q3;refine⟨L',S.turn hc (fun s hs=>?_) (fun s hs=>zAe (by omega)) (fun d ps hd hp=>?_),fun s hs yk=>hL s (by omega) yk⟩
 ·rw[zAe (by omega),Env.get_set];by_cases yT:s=r
  ·subst yT;rw[zAi,if_pos rfl]
  ·rw[zAe yT,if_neg yT];exact S.env s hs
 ·rw[zAe (by simp only[zAa] at hg;omega)] at hp;by_cases kP:d=r
  ·subst kP;rw[zAi] at hp;rw[hp] at qH;cases qH
  ·rw[zAe kP] at hp;exact⟨ps,hp,rfl⟩
structure Worked (w0:World) (U Φ0:Nat->Prop) (nt:Nat) (hv:Hid) (a:Act) (w:World) (rv:Nat->Value) (E:Nat->PV) (g:Nat) (e1:Env) (rv1:Nat->Value) (E1:Nat->PV):Prop where
 st:∃ Φ1 L1,St w0 U Φ0 nt hv a w e1 Φ1 rv1 E1 L1
 val:rv1 g=rv g
 low:∀ s,s<zAa->rv1 s=rv s
 rest:∀ s,zAa<=s->s≠g->E1 s=E s/\rv1 s=rv s
 agg:(E1 g).isAgg=(E g).isAgg
 len:(E1 g).cells.length=(E g).cells.length
theorem zNA{p:PV}(h:p.isWay=true):p.heavy=false:=by cases p<;>first|rfl|cases h
theorem zP5(S:St w0 U Φ0 nt hv a w e Φ rv E L){g:Nat}(hg:zAa<=g){k:PV->PM}(h:(zNF (E g) k).run o e=some e'):∃ e1 rv1 E1,(k (E1 g)).run o e1=some e'/\Worked w0 U Φ0 nt hv a w rv E g e1 rv1 E1:=by
 have qy:Worked w0 U Φ0 nt hv a w rv E g e rv E:=⟨⟨Φ,L,S⟩,rfl,fun _ _=>rfl,fun _ _ _=>⟨rfl,rfl⟩,rfl,rfl⟩;by_cases uK:(E g).isWay=true
 ·have hZ:=S.conf.rep g;have hL:L g=[]:=zDt _ _ _ (zNA uK) hZ;rw[hL] at hZ;rcases zPJ S hZ h with h1|h1|⟨r,pre,q,root,c1,c2,c3,c4,c5,c6,c7,c8,c9,c10⟩
  ·obtain⟨e1,Φ1,E1,L1,h2,S1,_,h3,_,_,h4,h5⟩:=zHY hg (bf _) zDi S h1;exact⟨e1,rv,E1,h2,⟨Φ1,L1,S1⟩,rfl,fun _ _=>rfl,fun s hs hI=>⟨h3 s hs hI,rfl⟩,h4,h5⟩
  ·exact⟨e,rv,E,h1,qy⟩
  ·obtain⟨nv,Li,g1,g2,g3,g4,g5⟩:=S.taken hg c1 c2 c3 c4 c6 c7 c8;have hnv:=c10 nv g1;obtain⟨L',S',wI⟩:=g5 q nv Li g2 g3 (fun b hb=>.inl hb);have kF:r≠g:=by omega
   refine⟨_,_,_,by rw[zAi];exact c9,⟨Φ,L',S'⟩,by rw[zAi,hnv],fun s hs=>zAe (by omega),fun s hs hI=>?_,?_,?_⟩
   ·rw[zAe hI,zAe hI,zAe (by omega)];exact⟨rfl,rfl⟩
   ·rw[zAi,(zBo c4).2,(zBo c5).2]
   ·rw[zAi,(zBo c4).1,(zBo c5).1];rfl
 ·have:(k (E g)).run o e=some e':=by
   revert h;simp only[zNF,zO4];cases hE:E g<;>first|(rw[hE] at uK;exact absurd rfl uK)|exact fun h=>h
  exact⟨e,rv,E,this,qy⟩
theorem Worked.self(S:St w0 U Φ0 nt hv a w e Φ rv E L){g:Nat}:Worked w0 U Φ0 nt hv a w rv E g e rv E:=⟨⟨Φ,L,S⟩,rfl,fun _ _=>rfl,fun _ _ _=>⟨rfl,rfl⟩,rfl,rfl⟩
theorem Worked.trans{g:Nat}{e1 e2:Env}{rv1 rv2:Nat->Value}{E1 E2:Nat->PV}(h1:Worked w0 U Φ0 nt hv a w rv E g e1 rv1 E1)(h2:Worked w0 U Φ0 nt hv a w rv1 E1 g e2 rv2 E2):Worked w0 U Φ0 nt hv a w rv E g e2 rv2 E2 :=
 ⟨h2.st,h2.val.trans h1.val,fun s hs=>(h2.low s hs).trans (h1.low s hs),fun s hs hI=>⟨(h2.rest s hs hI).1.trans (h1.rest s hs hI).1,(h2.rest s hs hI).2.trans (h1.rest s hs hI).2⟩,h2.agg.trans h1.agg,h2.len.trans h1.len⟩
theorem zPp(S:St w0 U Φ0 nt hv a w e Φ rv E L){g:Nat}(hg:zAa<=g){k:PV->PM}(h:(zMp zAa zDi (E g) k).run o e=some e'):∃ e1 rv1 E1,(k (E1 g)).run o e1=some e'/\Worked w0 U Φ0 nt hv a w rv E g e1 rv1 E1:=by
 obtain⟨e1,Φ1,E1,L1,h2,S1,_,h3,_,_,h4,h5⟩:=zHY hg (bf _) zDi S h;exact⟨e1,rv,E1,h2,⟨Φ1,L1,S1⟩,rfl,fun _ _=>rfl,fun s hs hI=>⟨h3 s hs hI,rfl⟩,h4,h5⟩
theorem zHE{g:Nat}(hg:zAa<=g){k:PV->PM}:∀ (ps done:List PV) {e:Env} {Φ:Nat->Prop} {rv:Nat->Value} {E:Nat->PV} {L:Nat->LN},St w0 U Φ0 nt hv a w e Φ rv E L->E g = .agg (done++ps) ->
  (zJH ps fun qs=>k (.agg (done++qs))).run o e=some e'->∃ e1 rv1 E1,(k (E1 g)).run o e1=some e'/\Worked w0 U Φ0 nt hv a w rv E g e1 rv1 E1
 |[],done,e,Φ,rv,E,L,S,hE,h=>by
  refine⟨e,rv,E,?_,.self S⟩;rw[hE];exact h
 | p :: ps,done,e,Φ,rv,E,L,S,hE,h=>by
  have hZ:=S.conf.rep g;rw[hE] at hZ;obtain⟨vs,yK,hr⟩:=hZ;have hpi:(done++p::ps)[done.length]? = some p:=by simp
  obtain⟨v,La,Lp,Lb,hvi,hL,ue,yt,_⟩:=hr.split hpi;simp only[zJH] at h;by_cases uK:p.isWay=true
  ·have hLp:=zDt _ _ _ (zNA uK) ue;subst hLp;rcases zPJ S ue h with h1|h1|⟨r,pre,q,root,c1,c2,c3,c4,c5,c6,c7,c8,c9,c10⟩
   ·cases h1
   ·exact zHE hg ps (done++[p]) S (by rw[hE];simp) (by simpa using h1)
   ·obtain⟨nv,Li,g1,g2,g3,g4,g5⟩:=S.taken hg c1 c2 c3 c4 c6 c7 c8;have hnv:=c10 nv g1;subst hnv;have y6:=S.conf.nodup g;rw[hL] at y6;simp only[dR,bK] at y6;have j2:=yt w Φ (zBa w rv E) q Li (fun _ _ _ h=>h) zDq.refl (fun _ _=>rfl) g2;have jC:∀ b∈La++Lb,b∈L g:=fun b hb=>by rw[hL];simpa using hb
    obtain⟨L',S',wI⟩:=g5 (.agg ((done++p::ps).set done.length q)) (rv g) (La++Li++Lb) ⟨vs,yK,j2⟩
     (by
      simp only[bK];refine⟨⟨y6.1,g3,fun x hx y hy e=>g4 y hy (jC y (by rw[<- e];simp[hx]))⟩,y6.2.1,fun x hx y hy e=>?_⟩;rcases bj.1 hx with hx|hx
      ·exact y6.2.2 x hx y hy e
      ·exact g4 x hx (jC x (by rw[e];simp[hy])))
     (fun b hb=>by
      simp only[bj] at hb;rcases hb with(hb|hb)|hb
      ·exact .inr (jC b (by simp[hb]))
      ·exact .inl hb
      ·exact .inr (jC b (by simp[hb])))
    have kF:r≠g:=by omega
    have hEq:(done++p::ps).set done.length q=done++q::ps:=by simp
    obtain⟨e1,rv1,E1,h2,W⟩:=zHE hg ps (done++[q]) S' (by rw[zAi,hEq];simp) (by simpa using c9);refine⟨e1,rv1,E1,h2,?_⟩;have W0:Worked w0 U Φ0 nt hv a w rv E g (e.set r root) (upd rv g (rv g)) (upd (upd E r root) g (.agg ((done++p::ps).set done.length q))):=by
     refine⟨⟨Φ,L',S'⟩,zAi,fun s hs=>zAe (by omega),fun s hs hI=>?_,?_,?_⟩
     ·rw[zAe hI,zAe hI,zAe (by omega)];exact⟨rfl,rfl⟩
     ·rw[zAi,hE];rfl
     ·rw[zAi,hE];simp[PV.cells]
    exact W0.trans W
  ·have:(zJH ps fun qs=>k (.agg (done++p::qs))).run o e=some e':=by
    revert h;cases p<;>first|(exact absurd rfl uK)|exact fun h=>h
   exact zHE hg ps (done++[p]) S (by rw[hE];simp) (by simpa using this)
theorem zNq(S:St w0 U Φ0 nt hv a w e Φ rv E L){g:Nat}(hg:zAa<=g){tk:Bool}{k:PV->PM}(h:(zF0 tk (E g) k).run o e=some e'):∃ e1 rv1 E1,(k (E1 g)).run o e1=some e'/\Worked w0 U Φ0 nt hv a w rv E g e1 rv1 E1:=by
 have plain:(k (E g)).run o e=some e'->∃ e1 rv1 E1,(k (E1 g)).run o e1=some e'/\Worked w0 U Φ0 nt hv a w rv E g e1 rv1 E1:=fun h=>⟨e,rv,E,h,.self S⟩;have ice:(zMp zAa zDi (E g) k).run o e=some e'->∃ e1 rv1 E1,(k (E1 g)).run o e1=some e'/\Worked w0 U Φ0 nt hv a w rv E g e1 rv1 E1:=zPp S hg;have take:(zNF (E g) k).run o e=some e'->∃ e1 rv1 E1,(k (E1 g)).run o e1=some e'/\Worked w0 U Φ0 nt hv a w rv E g e1 rv1 E1:=zP5 S hg;cases hE:E g<;>rw[hE] at h plain ice take<;>simp only[zF0] at h<;>try (exact plain h)
 case agg cs=>
  cases tk with
  |true=>exact zHE hg cs [] S (by rw[hE];rfl) (by simpa using h)|false=>
   simp only[cond_false] at h;revert h
   cases cs.any _ with
   |true=>exact ice|false=>exact plain
 case bor=>cases tk<;>first|exact take h|exact ice h
 case bmap=>cases tk<;>first|exact take h|exact ice h
 case bsl=>exact ice h
theorem St.iced(S:St w0 U Φ0 nt hv a w e Φ rv E L){g:Nat}(hg:zAa<=g):∃ Φ1 L1,St w0 U Φ0 nt hv a w e Φ1 rv (upd E g (zA0 (E g))) L1:=by
 have hA:∀ a u,a.isWay=true->zBa w rv E a u->zBa w rv (upd E g (zA0 (E g))) a u:=by
  intro a u _ ha;have:=zC7 ha;exact zCS S.conf zCs ha (by rw[zAe (by omega),zBl]) rfl (fun _ _=>rfl)
 have hΦ:zDq w w Φ (fun b=>Φ b\/b∈L g):=fun b hb=>⟨.inl hb,rfl⟩;have hc:Conf w0 U Φ0 w (fun b=>Φ b\/b∈L g) rv (upd E g (zA0 (E g))) (upd L g []):=by
  refine⟨fun s=>?_,fun s=>?_,fun s s' hI b hb yL=>?_,fun s b hb=>?_,fun b hb=>?_,fun b hb=>.inl (S.conf.frz0 b hb),S.conf.size,S.conf.kept,S.conf.os,S.conf.tape,S.conf.output⟩
  ·by_cases hs:s=g
   ·subst hs;rw[zAi,zAi];exact(zEi (fun b hb=>.inl hb) _ _ _ (fun b hb=>.inr hb) (S.conf.rep s)).mono zDq.refl hA (by simp)
   ·rw[zAe hs,zAe hs];exact(S.conf.rep s).mono hΦ hA (fun _ _=>rfl)
  ·by_cases hs:s=g
   ·subst hs;rw[zAi];exact b8
   ·rw[zAe hs];exact S.conf.nodup s
  ·by_cases hs:s=g
   ·subst hs;rw[zAi] at hb;cases hb
   ·rw[zAe hs] at hb;by_cases jK:s'=g
    ·subst jK;rw[zAi] at yL;cases yL
    ·rw[zAe jK] at yL;exact S.conf.disj s s' hI b hb yL
  ·by_cases hs:s=g
   ·subst hs;rw[zAi] at hb;cases hb
   ·rw[zAe hs] at hb;have:=S.conf.own s b hb;exact⟨this.1,fun hp=>hp.elim this.2.1 fun hbg=>S.conf.disj s g hs b hb hbg,this.2.2⟩
  ·rcases hb with hb|hb
   ·exact S.conf.frz b hb
   ·have:=S.conf.own g b hb;exact⟨this.1,.inr this.2.2⟩
 exact⟨_,_,S.turn hc (fun s hs=>by rw[zAe (by omega)];exact S.env s hs) (fun _ _=>rfl) fun d ps hd hp=>by
  rw[zAe (by simp only[zAa] at hg;omega)] at hp;exact⟨ps,hp,rfl⟩⟩
theorem St.clear(S:St w0 U Φ0 nt hv a w e Φ rv E L):Fr w0 U Φ0 nt hv a w e:=by
 have hc:=S.conf.drop fun s=>decide (zAa<=s);refine⟨_,_,_,_,S.turn hc (fun s hs=>?_) (fun _ _=>rfl) (fun d ps hd hp=>?_),fun s hs=>?_⟩
 ·have:decide (zAa<=s)=false:=by simp;omega
  simp only[this,bp,if_false];exact S.env s hs
 ·have:decide (zAa<=d)=false:=decide_eq_false (by simp only[zAa];omega);simp only[this,bp,if_false] at hp;exact⟨ps,hp,rfl⟩
 ·simp[hs]
theorem zIQ{A:Al}{sz lo n:Nat}{xs:List PV}{nv v:Value}{Li:LN}(h:Rep w Φ A (.own sz xs) nv Li)(yS:lo+n<=xs.length)(hs:zBX v nv sz lo n) :
  ∃ Lg,Rep w Φ A (.own sz ((xs.drop lo).take n)) v Lg/\(∀ b∈Lg,b∈Li)/\(Li.Nodup->Lg.Nodup):=by
 obtain⟨h1,h2,h3⟩|⟨x,m,c,us,M,rfl,h1,h2,h3,h4,h5,h6,⟨h7,u3⟩,h8,h9⟩:=h
 ·subst h1;subst h3;exact⟨[],.inl ⟨by simp,rfl,hs.1⟩,by simp,fun _=>b8⟩
 ·subst h1;simp only[zBX] at hs;obtain⟨rfl,yV⟩:=hs;have jG:us.length=xs.length:=by have:=congrArg length u3;simpa using this
  obtain⟨M1,M23,rfl,_,hB⟩:=h9.cut lo;obtain⟨M2,M3,rfl,hC,_⟩:=hB.cut n;have yA:((xs.drop lo).take n).length=n:=by simp;omega
  refine⟨x.block::M2,.inr ⟨zAv x (lo*sz),m-lo,c,(us.drop lo).take n,M2,rfl,by rw[yA],rfl,by rw[yA];omega,h4,?_,fun y hy=>h6 y (cz (cJ hy)),⟨fun u hu=>h7 u (cz (cJ hu)),zA8.map_isAgg u3 lo n⟩,?_,hC⟩,?_,?_⟩
  ·simp only[zAv];have:lo*sz+(m-lo)*sz=m*sz:=by rw[<- cS];congr 1;omega
   omega
  ·rw[yA];exact zIL h7 jG h8 yS
  ·intro b hb;simp only[bx,bj] at hb ⊢;rcases hb with h|h<;>simp[h]
  ·intro hn;simp only[cB,bj,not_or,bK] at hn ⊢;exact⟨hn.1.2.1,hn.2.2.1.1⟩
theorem zNo{t:TypeId}{n:Nat}(hn:szT P t=some n){b:Addr}(yd:b.spot=none){row:Array Value}(yH:zE2 w b.block row){v:Value}(hv:v.cells.size=n)(yF:b.off+v.cells.size<=row.size)(yQ:∀ u∈v.cells.toList,u.oneCell'=true) :
  (Instr.storeAt t (.pointer (some b)) v).run P w = .ok () (w.setRow b.block (zBk row b.off v.cells.toList)):=by
 obtain⟨ti,jT,yI⟩:=zCu hn;obtain⟨el,jH⟩:=yH;have hb:b=⟨b.block,b.off,none⟩:=by cases b;simp_all
 simp only[Instr.storeAt,Instr.sureAddr,bo,bA,bh,storeVar,zA7 jT];rw[if_neg (by simp only[ne_eq,Decidable.not_not];omega)];have:=run_storeCells_at (P:=P) b.block b.off el v.cells.toList 0 row w jH (by simpa using yF) yQ;rw[<- hb] at this;simp only[bQ] at this;exact this
theorem zL6(S:St w0 U Φ0 nt hv a w e Φ rv E L){g r:Nat}(hg:zAa<=g){pre:zA4}{i c:Nat}{sh:ON}{t:TypeId}{va:Value}(ha:Rep w Φ (zBa w rv E) (.addr r pre i c sh) va [])
  (hn:szT P t=some (E g).cells.length) (h:(zIx r pre i c (E g)).run o e=some e') :
  ∃ w',(Instr.storeAt t va (rv g)).run P w = .ok () w'/\Fr w0 U Φ0 nt hv a w' e':=by
 simp only[zIx] at h;obtain⟨hc,h1⟩:=zAP h;simp only[bb,bW,bG] at hc;obtain⟨⟨j9,jF⟩,uf⟩:=hc;have yQ:∀ q∈(E g).cells,q.oneCell=true:=fun q hq=>bi.1 jF q hq;have hva:zCv (rv g)=(E g).isAgg:=by
  have hZ:=S.conf.rep g
  cases hx:(E g).isAgg with
  |true=>
   cases hE:E g<;>rw[hE] at hx<;>simp[PV.isAgg] at hx;rw[hE] at hZ;obtain⟨vs,yK,_⟩:=hZ;rw[yK];rfl
  |false=>
   have jO:(E g).cells=[E g]:=by cases hE:E g<;>first|rfl|(rw[hE] at hx;simp[PV.isAgg] at hx)
   have:=yQ (E g) (by rw[jO];simp);exact(zBO (zCi (fun a v hw h=>zDd hw h) hZ this)).2
 have jB:(E g).heavy=false\/∀ x∈(E g).ways,zAU r pre x.1 x.2=false\/x.2.length<=pre.length:=by
  rcases j9 with h|h
  ·exact .inl h
  ·refine .inr fun x hx=>?_;have:=bi.1 h x hx;simp only[bG,fh] at this;rcases this with h|h
   ·exact .inl h
   ·refine .inr (d4 fun yG=>?_);rw[show blt pre.length x.2.length=true from cU yG] at h;cases h
 have hI:(E g).cells.length≠0:=by
  intro h0;rw[bq h0] at uf;cases uf
 obtain⟨b,row,e1,E1,L1,rfl,k1,k2,k3,k4,k5,k6,_,_⟩:=S.write hg ha jB yQ hI hva h1;simp only[PM.run,ba] at k5;subst k5;have yI:(rv g).cells.size=(E g).cells.length:=by
  have:=((S.conf.rep g).cellsAll hva).length;simpa using this
 exact⟨_,zNo hn k1 k2 yI k3 k4,k6.clear⟩
theorem zHo(S:St w0 U Φ0 nt hv a w e Φ rv E L){g:Nat}(hg:zAa<=g)(hE2:E (g+1) = .bad){r:Nat}{pre:zA4}{i c:Nat}{sh:ON}{t:TypeId}{va:Value}(ha:Rep w Φ (zBa w rv E) (.addr r pre i c sh) va [])
  (hn:szT P t=some (E g).cells.length) {tk:Bool} (h:(zIz tk r pre i c (E g)).run o e=some e') :
  ∃ w',(Instr.storeAt t va (rv g)).run P w = .ok () w'/\Fr w0 U Φ0 nt hv a w' e':=by
 have S1:=S.hold (g:=g+1) (by omega) ha;have jq:g≠g+1:=by omega
 simp only[zIz] at h;split at h
 ·rename_i m kg;cases ud:E g<;>rw[ud] at kg<;>simp only[zRy] at kg<;>try (cases kg;done)
  rename_i r' q z lo n
  cases lo with
  |succ lo=>cases kg
  | zero =>
   simp only[zRy] at kg;split at kg
   ·rename_i hrq;simp only[bb,decide_eq_true_eq] at hrq;obtain⟨rfl,rfl⟩:=hrq;simp only[ba] at kg;subst kg;obtain⟨x,hx,h1⟩:=zBP h;split at h1
    ·rename_i s xs;obtain⟨yS,h2⟩:=zAP h1;have yS:=br yS;obtain⟨root,hl,hm,h3⟩:=zB3 h2;have hr:r'<zAa:=ha.2.1;have yJ:=zBH hl;rw[yJ,<- S.env r' hr] at hx;rw[<- S.env r' hr] at yJ hm;have wu:r'≠g+1:=by omega
     obtain⟨kk1,kk2⟩:=zBU (q' := .bad) rfl rfl hm;have wP:upd E (g+1) (.addr r' pre i c sh) r'=E r':=zAe wu;obtain⟨nv,Li,g1,g2,g3,g4,g5⟩:=S1.taken (g:=g) hg hr (by rw[wP];exact yJ) (by rw[wP];exact hx) rfl (by rw[wP];exact hm) kk1 kk2;have qz:=S.conf.rep g;rw[ud] at qz;obtain⟨_,_,_,vt⟩:=qz;have jP:zBX (rv g) nv s 0 n:=by
      obtain⟨s2,xs2,q1,q2,q3⟩:=vt nv _ (by rw[yJ];rw[wP,zAe wu] at g1;exact g1) rfl;cases q1;subst q2;exact q3
     obtain⟨Lg,p1,p2,p3⟩:=zIQ g2 (by omega) jP;obtain⟨L',S2,_⟩:=g5 _ (rv g) Lg p1 (p3 g3) (fun b hb=>.inl (p2 b hb));have kA:=S2.conf.rep (g+1);rw[zAe (dK jq),zAe (dK wu),zAi,zAe (dK jq),zAi] at kA;have vG:L' (g+1)=[]:=kA.1;rw[vG] at kA;have:=zL6 (P:=P) (t:=t) S2 hg kA (by rw[zAi];rw[ud] at hn;exact hn) (by rw[zAi];exact h3);rw[zAi] at this;exact this
    ·cases h1
   ·cases kg
 ·have key:(zF0 tk (E g) fun v=>zIx r pre i c v).run o e=some e'\/(zIx r pre i c (E g)).run o e=some e':=by
   simp only[zIY] at h
   cases hb:(pre.isEmpty && !tk) with
   |false=>rw[hb] at h;exact .inl h|true=>
    rw[hb] at h;simp only[cond_true,PM.run] at h;split at h
    ·exact .inr h
    ·exact .inl h
  rcases key with h|h
  ·have hEg1:upd E (g+1) (.addr r pre i c sh) g=E g:=zAe jq;obtain⟨e1,rv1,E1,h1,W⟩:=zNq S1 (g:=g) hg (by rw[hEg1];exact h);obtain⟨Φ1,L1,S2⟩:=W.st;have kA:=S2.conf.rep (g+1);obtain⟨q1,q2⟩:=W.rest (g+1) (by omega) (dK jq);rw[q1,q2,zAi,zAi] at kA;have vG:L1 (g+1)=[]:=kA.1;rw[vG] at kA;have yA:=W.len;rw[hEg1] at yA;have:=zL6 (P:=P) (t:=t) S2 hg kA (by rw[yA];exact hn) h1;rw[W.val,zAe jq] at this;exact this
  ·exact zL6 S hg ha hn h
theorem zXN{t el:TypeId}{s:Nat}(h:(zB1 P t).bind (szT P)=some s):∃ el,zB1 P t=some el/\szT P el=some s:=by
 cases he:zB1 P t with
 |none=>rw[he] at h;cases h|some el=>rw[he] at h;exact⟨el,rfl,h⟩
theorem zCI{t:TypeId}{el:TypeId}(h:zB1 P t=some el):P.underlying t=some (.slice el):=by
 simp only[zB1] at h;split at h
 ·cases h;assumption
 ·cases h
theorem zVY(S:St w0 U Φ0 nt hv a w e Φ rv E L)(hb:zBs E){fz tk:Bool}{t:TypeId}{x y:Operand}(hx:zAZ nt x=true)(hy:zAZ nt y=true)(h:(zQv P fz tk t x y).run o e=some e') :
  ∃ w',(Instr.storeAt t (a.eval x) (a.eval y)).run P w = .ok () w'/\Fr w0 U Φ0 nt hv a w' e':=by
 obtain⟨pa,h1,wO⟩:=zBw S hx h
 have gen:(match pa,shT P t,szT P t with
   |.addr r pre i c _,some sh,some n=>(bif fz&&tk then opd y else zON y) fun v=>bif beq v.cells.length n&&v.isAgg==sh.isSome then zIz (tk && !fz) r pre i c (bif fz && !tk then zA0 v else v) else .fail
   |_,_,_=>.fail).run o e=some e'->∃ w',(Instr.storeAt t (a.eval x) (a.eval y)).run P w = .ok () w'/\Fr w0 U Φ0 nt hv a w' e':=by
  intro h2;clear h1;split at h2
  ·rename_i r pre i c s' sh n jg hn;have S1:=S.hold (g:=zAa+2) (by omega) wO
   cases hfk:(fz&&tk) with
   |true=>
    rw[bb] at hfk;obtain⟨rfl,rfl⟩:=hfk;simp only[dT,cond_true,dy,fi,cond_false] at h2;obtain⟨v,h2,hv⟩:=zBw S1 hy h2;obtain⟨hc,h5⟩:=zAP h2;simp only[bb] at hc;have yA:=bd hc.1;have S2:=S1.hold (g:=zAa) (bf _) hv;have kA:=S2.conf.rep (zAa+2);rw[zAe (show zAa+2≠zAa by omega),zAe (show zAa+2≠zAa by omega),zAe (show zAa+2≠zAa by omega),zAi,zAi,zAi] at kA;have:=zHo (P:=P) (t:=t) S2 (bf zAa) (by rw[zAe (show zAa+1≠zAa by omega),zAe (show zAa+1≠zAa+2 by omega)];exact hb _ (by omega)) kA (by rw[zAi,yA];exact hn) (by rw[zAi];exact h5);rwa[zAi] at this
   |false=>
   rw[hfk,cond_false] at h2;obtain⟨e1,rv1,E1,L1,h2,S2,h3,h4⟩:=zFY S1 hy (g:=zAa) (bf _) h2;obtain⟨hc,h5⟩:=zAP h2;simp only[bb] at hc;have yA:=bd hc.1;have h6:=h4 (zAa+2) (by omega) (by omega);rw[zAi,zAi,zAi] at h6;have h7:=h4 (zAa+1) (by omega) (by omega);rw[zAe (show zAa+1≠zAa+2 by omega)] at h7;have wP:E1 (zAa+1) = .bad:=by rw[h7.1];exact hb _ (by omega)
   cases fz with
   |false=>
    simp only[dB,cond_false] at h5;have kA:=S2.conf.rep (zAa+2);rw[h6.1,h6.2.1,h6.2.2] at kA;have:=zHo (P:=P) (t:=t) S2 (bf zAa) wP kA (by rw[yA];exact hn) h5;rwa[h3] at this
   |true=>
    simp only[cy] at hfk;subst hfk;simp only[f5,dT,cond_true] at h5;obtain⟨Φ2,L2,S3⟩:=S2.iced (g:=zAa) (bf _);have kA:=S3.conf.rep (zAa+2);rw[zAe (show zAa+2≠zAa by omega),h6.1,h6.2.1] at kA;have vG:L2 (zAa+2)=[]:=kA.1;rw[vG] at kA;have:=zHo (P:=P) (t:=t) S3 (bf zAa) (by rw[zAe (show zAa+1≠zAa by omega)];exact wP) kA (by rw[zAi,zDc,yA];exact hn) (by rw[zAi];exact h5);rwa[h3] at this
  ·cases h2
 split at h1
 ·rename_i r pre i c s';obtain⟨s,hs,jm⟩:=zBJ h1;obtain⟨jP,h2⟩:=zDk jm;have S1:=S.hold (g:=zAa) (p := .own s []) (v := .slice none 0 0) (bf _) (.inl ⟨rfl,rfl,rfl⟩);have hpa':Rep w Φ (zBa w (upd rv zAa (.slice none 0 0)) (upd E zAa (.own s []))) (.addr r pre i c s') (a.eval x) []:=by
   have hr:=zC7 wO.2;refine⟨rfl,zCS S.conf zCs wO.2 ?_ ?_ (fun _ _=>rfl)⟩
   ·rw[zAe (Nat.ne_of_lt hr),zBl]
   ·rw[zAe (Nat.ne_of_lt hr)]
  have:=zHo (P:=P) (t:=t) S1 (bf zAa) (by rw[zAe (show zAa+1≠zAa by omega)];exact hb _ (by omega)) hpa' (by rw[zAi];exact jP) (by rw[zAi];exact h2);rwa[zAi] at this
 ·exact gen h1
theorem Fr.congr{e1 e2:Env}(h:∀ s,e1.get s=e2.get s)(hf:Fr w0 U Φ0 nt hv a w e1):Fr w0 U Φ0 nt hv a w e2:=by
 obtain⟨Φ,rv,E,L,S,hb⟩:=hf;exact⟨Φ,rv,E,L,{S with env:=fun s hs=>(S.env s hs).trans (h s)},hb⟩
theorem zIb(S:St w0 U Φ0 nt hv a w e Φ rv E L){g:Nat}(hg:zAa<=g){d:ON}(hd:∀ x,d=some x->x<nt)(hb:∀ s,zAa<=s->s≠g->E s = .bad)(h:(zFv d (E g)).run o e=some e'):Fr w0 U Φ0 nt hv (a.put d (rv g)) w e':=by
 have plain:(put d (E g)).run o e=some e'->Fr w0 U Φ0 nt hv (a.put d (rv g)) w e':=fun h=>zFU S hd hg h hb;have jl:=S.small;simp only[zFv] at h;split at h
 ·rename_i d' r z lo n ud;split at h
  ·rename_i hrd;subst hrd;have hr:r<nt:=hd r rfl;have kF:r<zAa:=by simp only[zAa];omega
   simp only[PM.run] at h;split at h
   ·cases h
   ·rename_i root hnl;split at h
    ·rename_i sz xs uL;obtain⟨yS,h1⟩:=zAP h;have yS:=br yS;simp only[PM.run,ba] at h1;have hE:E r = .own sz xs:=by rw[S.env r kF,uL]
     obtain⟨nv,Li,g1,g2,g3,g4,g5⟩:=S.taken (g:=g) hg kF (pre:=[]) (q := .own sz xs) (root := .bad) (by rw[hE];rfl) (by rw[hE];rfl) rfl rfl rfl rfl;have hZ:=S.conf.rep g;rw[ud] at hZ;obtain⟨_,_,_,hn⟩:=hZ;have jP:zBX (rv g) nv sz lo n:=by
      obtain⟨s2,xs2,q1,q2,q3⟩:=hn nv _ (by rw[hE];rw[hE] at g1;exact g1) rfl;cases q1;subst q2;exact q3
     obtain⟨Lg,p1,p2,p3⟩:=zIQ g2 yS jP;obtain⟨L',S2,_⟩:=g5 _ (rv g) Lg p1 (p3 g3) (fun b hb=>.inl (p2 b hb));have uI:(put (some r) (upd (upd E r .bad) g (.own sz ((xs.drop lo).take n)) g)).run o (e.set r .bad)=some (((e.set r .bad).kill r []).set r (.own sz ((xs.drop lo).take n))):=by
      rw[zAi];rfl
     have:=zFU S2 hd hg uI (fun s hs hI=>by rw[zAe hI,zAe (by omega)];exact hb s hs hI);rw[zAi] at this;refine this.congr fun s=>?_;rw[<- h1,Env.get_set,Env.get_set,Env.get_kill,Env.get_kill,Env.get_set];by_cases hs:s=r
     ·simp[hs]
     ·simp[hs]
    ·cases h
  ·exact plain h
 ·exact plain h
theorem zSU(S:St w0 U Φ0 nt hv a w e Φ rv E L)(hb:zBs E){d:ON}(hd:∀ x,d=some x->x<nt){tk nl:Bool}{t:TypeId}{x:Operand}(hx:zAZ nt x=true)(h:(zGj P tk nl d t x).run o e=some e'):Fr w0 U Φ0 nt hv (a.put d (a.eval x)) w e':=by
 have gen:(zON x fun p=>bif tk then zNF p (zFv d) else zFv d p).run o e=some e'->Fr w0 U Φ0 nt hv (a.put d (a.eval x)) w e':=by
  intro h;obtain⟨e1,rv1,E1,L1,h1,S1,h2,h3⟩:=zFY S hx (g:=zAa) (bf _) h;have ya:∀ s,zAa<=s->s≠zAa->E1 s = .bad:=fun s hs hI=>by rw[(h3 s hs hI).1];exact hb s hs
  cases tk with
  |false=>
   have:=zIb S1 (bf zAa) hd ya h1;rwa[h2] at this
  |true=>
   obtain⟨e2,rv2,E2,h4,W⟩:=zP5 S1 (bf zAa) h1;obtain⟨Φ2,L2,S2⟩:=W.st;have:=zIb S2 (bf zAa) hd (fun s hs hI=>by rw[(W.rest s hs hI).1];exact ya s hs hI) h4;rw[W.val,h2] at this;exact this
 simp only[zGj] at h;split at h
 ·have nilR:∀ s,Rep w Φ (zBa w rv E) (.own s []) (.slice none 0 0) []:=fun s=>.inl ⟨rfl,rfl,rfl⟩
  cases nl with
  |true=>obtain⟨s,_,h1⟩:=zBJ h;exact zAC S hb hd h1 ⟨rfl,rfl⟩
  |false=>
   simp only[cond_false,zVt] at h;split at h
   ·exact zAC S hb hd h (nilR _)
   ·cases h
 ·exact gen h
theorem zTu(S:St w0 U Φ0 nt hv a w e Φ rv E L)(hb:zBs E){d:ON}(hd:∀ x,d=some x->x<nt){x:Operand}(hx:zAZ nt x=true)(h:(zUr d x).run o e=some e'):Fr w0 U Φ0 nt hv (a.put d (a.eval x)) w e':=by
 obtain⟨e1,rv1,E1,L1,h1,S1,h2,h3⟩:=zFY S hx (g:=zAa) (bf _) h;have ya:∀ s,zAa<=s->s≠zAa->E1 s = .bad:=fun s hs hI=>by rw[(h3 s hs hI).1];exact hb s hs
 obtain⟨e2,Φ2,E2,L2,h4,S2,_,h5,_,_,h6,h7⟩:=zHY (bf zAa) (bf _) zDi S1 h1;have:=zIb S2 (bf zAa) hd (fun s hs hI=>by rw[h5 s hs hI];exact ya s hs hI) h4;rwa[h2] at this
theorem zHb{d i d' i':Nat}(h:zBy d i=zBy d' i')(hi:i<16)(gm:i'<16):d=d'/\i=i':=by
 simp only[zBy] at h;omega
theorem zRe(S:St w0 U Φ0 nt hv a w e Φ rv E L)(hb:zBs E){d:ON}(hd:∀ x,d=some x->x<nt){s i:Nat}(hs:s<nt)(h:(zJm d s i).run o e=some e') :
  ∃ v,(Instr.extract (a.eval (.tmp s)) i).run P w = .ok v w/\Fr w0 U Φ0 nt hv (a.put d v) w e':=by
 have jl:=S.small;have yk:s<zAa:=by simp only[zAa];omega
 simp only[zJm,PM.run] at h;split at h
 ·cases h
 ·rename_i m hnl;split at h
  ·rename_i ps yg;obtain⟨hi,h1⟩:=zAP h;have hi:=zCe hi;have hE:E s = .tup ps:=by rw[S.env s yk,yg]
   obtain⟨gp,vs,u6,kZ⟩:=S.parts s ps i hs hE hi;have hvg:zBy s i<zAa:=by simp only[zBy,zAa];omega
   have yy:a.eval (.tmp s) = .tuple vs:=by rw[<- u6];exact S.tmps s hs
   have yC:(Instr.extract (a.eval (.tmp s)) i).run P w = .ok (rv (zBy s i)) w:=by
    rw[yy];simp only[Instr.extract,kZ];rfl
   refine⟨_,yC,?_⟩;simp only[PM.run] at h1;split at h1
   ·cases h1
   ·rename_i p hnl2;have hZ:=S.conf.rep (zBy s i);rw[S.env _ hvg] at hZ
    cases hh:(e.get (zBy s i)).heavy with
    |false=>
     rw[hh] at h1;simp only[cond_false] at h1;rw[zDt _ _ _ hh hZ] at hZ;exact zAC S hb hd h1 hZ
    | true =>
     rw[hh] at h1;simp only[cond_true,PM.run] at h1;have hc:=S.conf.take (s:=zBy s i) (g:=zAa) hvg (bf _);have S1:=S.turn (e':=e.set (zBy s i) .bad) hc (fun t ht=>by
      rw[zAe (by omega),Env.get_set];by_cases vH:t=zBy s i
      ·subst vH;rw[zAi,if_pos rfl]
      ·rw[zAe vH,if_neg vH];exact S.env t ht) (fun t ht=>zAe (by omega)) (fun d ps hd hp=>by
      rw[zAe (by simp only[zAa];omega),zAe (by simp only[zBy];omega)] at hp;exact⟨ps,hp,rfl⟩)
     have:=zFU S1 hd (g:=zAa) (bf _) (by rw[zAi,S.env _ hvg];exact h1) (fun t ht hI=>by rw[zAe hI,zAe (by omega)];exact hb t ht);rwa[zAi] at this
  ·cases h
end
end Go.Eng
namespace Go.Eng
open Go
mutual
theorem zDU{f:PV->PV}:∀ p:PV,(∀ a,a.isWay=true->(∀ x∈a.ways,x∈p.ways)->(∀ xs k,a ≠ .log xs k)->f a=a)->(∀ xs k,f (.log xs k) = .log xs k)->p.mapW f=p
 |.agg cs,h,hl=>by rw[PV.mapW,zE0 cs h hl]|.tup cs,h,hl=>by rw[PV.mapW,zE0 cs h hl]|.func k a b,h,hl=>by rw[PV.mapW,zE0 a (fun x hx hw hn=>h x hx (fun y hy=>bj.2 (.inl (hw y hy))) hn) hl,zE0 b (fun x hx hw hn=>h x hx (fun y hy=>bj.2 (.inr (hw y hy))) hn) hl]
 |.ref q,h,hl=>by rw[PV.mapW,zDU q h hl]|.box q,h,hl=>by rw[PV.mapW,zDU q h hl]|.lock q,h,hl=>by rw[PV.mapW,zDU q h hl]|.addr ..,h,_=>h _ rfl (fun _ h=>h) (fun _ _=>by simp)
 |.bor ..,h,_=>h _ rfl (fun _ h=>h) (fun _ _=>by simp)
 |.bsl ..,h,_=>h _ rfl (fun _ h=>h) (fun _ _=>by simp)
 |.bmap ..,h,_=>h _ rfl (fun _ h=>h) (fun _ _=>by simp)
 |.yld ..,_,_=>rfl|.log ..,_,hl=>hl _ _|.bad,_,_=>rfl|.und,_,_=>rfl|.int ..,_,_=>rfl|.bool ..,_,_=>rfl|.nilp,_,_=>rfl|.nilf,_,_=>rfl|.nilm,_,_=>rfl|.nn,_,_=>rfl|.nils _,_,_=>rfl|.sl _,_,_=>rfl|.own ..,_,_=>rfl|.map _,_,_=>rfl|.omap _,_,_=>rfl
theorem zE0{f:PV->PV}:∀ ps:List PV,(∀ a,a.isWay=true->(∀ x∈a.ways,x∈zBx ps)->(∀ xs k,a ≠ .log xs k)->f a=a)->(∀ xs k,f (.log xs k) = .log xs k)->zCX f ps=ps
 |[],_,_=>rfl|p::ps,h,hl=>by
  rw[zCX,zDU p (fun x hx hw hn=>h x hx (fun y hy=>bj.2 (.inl (hw y hy))) hn) hl,zE0 ps (fun x hx hw hn=>h x hx (fun y hy=>bj.2 (.inr (hw y hy))) hn) hl]
end
theorem zMU{p:PV}{x:Nat×zA4}:∀ {ps:List PV},p∈ps->x∈p.ways->x∈zBx ps
 |y::ys,h,hx=>by
  simp only[zBx,bj];rcases bx.1 h with rfl|hm
  ·exact .inl hx
  ·exact .inr (zMU hm hx)
theorem zRV{r:Nat}{p:PV}(h:∀ x∈p.ways,x.1≠r):p.mapW (lose r [])=p:=by
 refine zDU p (fun a ha hw hn=>?_) (fun _ _=>rfl);have key:∀ r',(∀ x∈a.ways,x.1=r')->a.ways≠[]->beq r' r=false:=by
  intro r' h1 h2
  cases hb:beq r' r with
  |false=>rfl
  | true =>
   have hr:=bd hb
   cases hy:a.ways with
   |nil=>exact absurd hy h2|cons z zs=>
    have hz:z∈a.ways:=by rw[hy];simp
    exact absurd ((h1 z hz).trans hr) (h z (hw z hz))
 cases a<;>first|(cases ha;done)|(exact absurd rfl (hn _ _))|skip
 all_goals
  simp only[lose];rw[key _ (by simp[PV.ways];done) (by simp[PV.ways])];rfl
section
variable {P:Program} {w0 w:World} {U Φ0 Φ:Nat->Prop} {nt:Nat} {hv:Hid} {a:Act} {e e':Env} {rv:Nat->Value} {E:Nat->PV} {L:Nat->LN} {o:zAK}
theorem zRB(S:St w0 U Φ0 nt hv a w e Φ rv E L)(hb:zBs E){d:ON}(hd:∀ x,d=some x->x<nt){tk:Bool}{t:TypeId}{x:Operand}(hx:zAZ nt x=true)(h:(zPs P tk d t x).run o e=some e') :
  ∃ v,(Instr.loadAt t (a.eval x)).run P w = .ok v w/\Fr w0 U Φ0 nt hv (a.put d v) w e':=by
 obtain⟨sh,jg,h1⟩:=zBJ h;obtain⟨p,h2,hp⟩:=zBw S hx h1
 cases tk with
 |false=>exact zP4 S hb hd jg hp h2|true=>
  simp only[cond_true] at h2;split at h2
  ·rename_i r pre i c s';obtain⟨b,u,q,yL,h3,h4,h5⟩:=zMx S jg hp h2;have S1:=S.hold (bf zAa) h5;obtain⟨e1,rv1,E1,h6,W⟩:=zPp S1 (g:=zAa) (bf _) (by rw[zAi];exact h4);obtain⟨Φ1,L1,S2⟩:=W.st;have:=zFU S2 hd (g:=zAa) (bf _) h6 (fun s hs hI=>by rw[(W.rest s hs hI).1,zAe hI];exact hb s hs);rw[W.val,zAi] at this;refine⟨u,?_,this⟩;rw[yL];simp only[Instr.loadAt,Instr.sureAddr,bo,bA,bh];exact h3
  ·exact zP4 S hb hd jg hp h2
theorem St.layPart(S:St w0 U Φ0 nt hv a w e Φ rv E L){d i g:Nat}(hd:d<nt)(hi:i<16)(hg:zAa<=g)(hEd:∀ ps,E d ≠ .tup ps){k:PM}(h:(lay (zBy d i) (E g) k).run o e=some e') :
  ∃ e1 E1 L1,k.run o e1=some e'/\St w0 U Φ0 nt hv a w e1 Φ (upd rv (zBy d i) (rv g)) E1 L1/\(∀ ps,E1 d ≠ .tup ps)/\E1 g = .bad/\∀ s,zAa<=s->s≠g->(∀ x∈(E s).ways,x.1≠zBy d i)->E1 s=E s:=by
 have jl:=S.small;have yn:zBy d i<zAk:=by simp only[zBy,zAk];omega
 obtain⟨e1,E1,L1,h1,h2,h3,h4,h5,h6,h7⟩:=zV7 S yn hg h;have gA:∀ d' ps,d'<2000000->E1 d' = .tup ps->∃ ps',E d' = .tup ps'/\ps'.length=ps.length:=by
  intro d' ps wq hp;have hI:d'≠zBy d i:=by simp only[zBy];omega
  rcases h4 d' hI (by simp only[zAa];omega) with h8|h8
  ·exact⟨ps,by rw[<- h8];exact hp,rfl⟩
  ·rw[h8] at hp;exact zEh (zI1 _ _) hp
 refine⟨e1,E1,L1,h1,⟨h2,h3,S.size,S.small,fun t ht=>?_,fun d' ps j wq hp hj=>?_,fun s vA kN=>?_,S.dfr⟩,fun ps hp=>?_,h6,fun s hs hI hw=>?_⟩
 ·rw[zAe (by simp only[zBy];omega)];exact S.tmps t ht
 ·obtain⟨ps',h8,h9⟩:=gA d' ps (by omega) hp;obtain⟨jZ,vs,vX,h12⟩:=S.parts d' ps' j wq h8 (by omega);have wn:d'≠d:=fun hc=>hEd ps' (hc▸h8);refine⟨jZ,vs,by rw[zAe (by simp only[zBy];omega)];exact vX,?_⟩;rw[zAe fun hc=>wn (zHb hc jZ hi).1];exact h12
 ·rw[zAe (by omega)];exact S.hid s vA kN
 ·obtain⟨ps',h8,_⟩:=gA d ps (by omega) hp;exact hEd ps' h8
 ·rcases h7 s hs hI with h8|h8
  ·exact h8
  ·rw[h8];exact zRV hw
theorem St.empty(S:St w0 U Φ0 nt hv a w e Φ rv E L){d:Nat}(hd:d<nt):∃ L',St w0 U Φ0 nt hv a w (e.set d .bad) Φ rv (upd E d .bad) L':=by
 have jl:=S.small;have hc:=S.conf.drop fun s=>s==d;have hE:(fun s=>if (s==d)=true then bad else E s)=upd E d .bad:=by
  funext s;by_cases hs:s=d<;>simp[upd,hs]
 rw[hE] at hc;refine⟨_,S.turn hc (fun s hs=>?_) (fun _ _=>rfl) (fun d' ps wq hp=>?_)⟩
 ·rw[Env.get_set];by_cases gq:s=d
  ·subst gq;rw[zAi,if_pos rfl]
  ·rw[zAe gq,if_neg gq];exact S.env s hs
 ·by_cases wn:d'=d
  ·subst wn;rw[zAi] at hp;cases hp
  ·rw[zAe wn] at hp;exact⟨ps,hp,rfl⟩
theorem St.mark(S:St w0 U Φ0 nt hv a w e Φ rv E L)(hb:zBs E){d n:Nat}(hd:d<nt)(hn:n<=16){vs:Array Value}(hs:vs.size=n)(hp:∀ i,i<n->vs[i]? = some (rv (zBy d i))) :
  Fr w0 U Φ0 nt hv (a.put (some d) (.tuple vs)) w (e.set d (.tup (replicate n .bad))):=by
 have jl:=S.small;have hZ:Rep w Φ (zBa w rv E) (.tup (replicate n .bad)) (.tuple vs) []:=by
  refine⟨vs,rfl,?_⟩;have key:∀ (n:Nat) (us:List Value),us.length=n->zA8 w Φ (zBa w rv E) (replicate n .bad) us []:=by
   intro n
   induction n with
   |zero=>intro us h;rw[bq h];exact⟨rfl,rfl⟩|succ n ih=>
    intro us h
    match us,h with
    |u::us,h=>exact⟨u,us,[],[],rfl,rfl,rfl,ih us (by simpa using h)⟩
  exact key n vs.toList (by simpa using hs)
 have kh:(tup (replicate n .bad)).heavy=false:=by
  have key:∀ n,zDf (replicate n .bad)=false:=by
   intro n
   induction n with
   |zero=>rfl|succ n ih=>simp[fX,zDf,PV.heavy,ih]
  exact key n
 have hc:=S.conf.put (s:=d) kh hZ;have hds:d<a.tmps.size:=by rw[S.size];exact hd
 refine⟨_,_,_,_,⟨hc,fun s hs=>?_,by simp only[Act.put,iw];exact S.size,S.small,fun t ht=>?_,fun d' ps j wq jp hj=>?_,fun s vA kN=>?_,S.dfr⟩,fun g hg=>?_⟩
 ·rw[Env.get_set];by_cases gq:s=d
  ·subst gq;rw[zAi,if_pos rfl]
  ·rw[zAe gq,if_neg gq];exact S.env s hs
 ·rw[Act.put_tmps a hds];by_cases wN:t=d
  ·subst wN;simp[zAi]
  ·rw[if_neg wN,zAe wN];exact S.tmps t ht
 ·by_cases wn:d'=d
  ·subst wn;rw[zAi] at jp;simp only[PV.tup.injEq] at jp;rw[<- jp] at hj;simp only[dC] at hj;exact⟨by omega,vs,zAi,by rw[zAe (by simp only[zBy];omega)];exact hp j hj⟩
  ·rw[zAe wn] at jp;obtain⟨jZ,us,vX,h12⟩:=S.parts d' ps j wq jp hj;exact⟨jZ,us,by rw[zAe wn];exact vX,by rw[zAe (by simp only[zBy];omega)];exact h12⟩
 ·rw[zAe (by simp only[zAk] at vA;omega)];exact S.hid s vA kN
 ·rw[zAe (by simp only[zAa] at hg;omega)];exact hb g hg
theorem zIf{s d:Nat}(hd:d<nt)(hs:s<nt){vs:Array Value}:∀ (n i:Nat) {e:Env} {rv:Nat->Value} {E:Nat->PV} {L:Nat->LN},St w0 U Φ0 nt hv a w e Φ rv E L->zBs E->(∀ ps,E d ≠ .tup ps)->i+n<=16->vs.size=i+n ->
  (∀ j,j<i->vs[j]? = some (rv (zBy d j)))->(∀ j,i<=j->j<i+n->vs[j]? = some (rv (zBy s j)))->(zFP s d i n).run o e=some e'->Fr w0 U Φ0 nt hv (a.put (some d) (.tuple vs)) w e'
 |0,i,e,rv,E,L,S,hb,hE,gp,yI,h1,h2,h=>by
  simp only[zFP,PM.run,ba] at h;subst h;exact S.mark hb hd (by omega) (by simpa using yI) h1
 | n + 1,i,e,rv,E,L,S,hb,hE,gp,yI,h1,h2,h=>by
  have jl:=S.small;have hvg:zBy s i<zAa:=by simp only[zBy,zAa];omega
  simp only[zFP,PM.run] at h;split at h
  ·cases h
  ·have hc:=S.conf.take (s:=zBy s i) (g:=zAa) hvg (bf _);have S1:=S.turn (e':=e.set (zBy s i) .bad) hc (fun t ht=>by
    rw[zAe (by omega),Env.get_set];by_cases vH:t=zBy s i
    ·subst vH;rw[zAi,if_pos rfl]
    ·rw[zAe vH,if_neg vH];exact S.env t ht) (fun t ht=>zAe (by omega)) (fun d ps hd hp=>by
    rw[zAe (by simp only[zAa];omega),zAe (by simp only[zBy];omega)] at hp;exact⟨ps,hp,rfl⟩)
   obtain⟨e2,E2,L2,k1,S2,k2,k3,k4⟩:=S1.layPart (i:=i) (g:=zAa) hd (by omega) (bf _) (fun ps hp=>by
    rw[zAe (by simp only[zAa];omega),zAe (by simp only[zBy];omega)] at hp;exact hE ps hp) (by rw[zAi,S.env _ hvg];exact h)
   have jb:∀ t,t<zAa->upd (upd rv zAa (rv (zBy s i))) (zBy d i) (upd rv zAa (rv (zBy s i)) zAa) t=if t=zBy d i then rv (zBy s i) else rv t:=by
    intro t ht;by_cases wN:t=zBy d i
    ·subst wN;rw[zAi,zAi,if_pos rfl]
    ·rw[zAe wN,zAe (by omega),if_neg wN]
   have yG:∀ x j,x<nt->j<16->zBy x j<zAa:=by intro x j hx hj;simp only[zBy,zAa];omega
   refine zIf hd hs n (i+1) S2 (fun t ht=>?_) k2 (by omega) (by omega) (fun j hj=>?_) (fun j hj1 hj2=>?_) k1
   ·by_cases yr:t=zAa
    ·subst yr;exact k3
    ·rw[k4 t ht yr (by rw[zAe yr,zAe (by omega),hb t ht];simp[PV.ways]),zAe yr,zAe (by omega)];exact hb t ht
   ·rw[jb _ (yG d j hd (by omega))];by_cases vI:j=i
    ·subst vI;rw[if_pos rfl];exact h2 j (by omega) (by omega)
    ·rw[if_neg fun hc=>vI (zHb hc (by omega) (by omega)).2];exact h1 j (by omega)
   ·rw[jb _ (yG s j hs (by omega)),if_neg fun hc=>by have:=(zHb hc (by omega) (by omega)).2;omega];exact h2 j (by omega) (by omega)
theorem zWE(S:St w0 U Φ0 nt hv a w e Φ rv E L)(hb:zBs E){d:ON}(hd:∀ x,d=some x->x<nt){t:TypeId}{x:Operand}(hx:zAZ nt x=true)(h:(zSB P d t x).run o e=some e'):Fr w0 U Φ0 nt hv (a.put d (a.eval x)) w e':=by
 have gen:(opd x (put d)).run o e=some e'->Fr w0 U Φ0 nt hv (a.put d (a.eval x)) w e':=by
  intro h;obtain⟨p,h1,h2⟩:=zBw S hx h;exact zAC S hb hd h1 h2
 simp only[zSB] at h;split at h
 ·simp only[zVt] at h;split at h
  ·exact zAC S hb hd h (.inl ⟨rfl,rfl,rfl⟩)
  ·cases h
 ·rename_i s;have hs:s<nt:=zCe hx;have jl:=S.small;have yk:(s:Nat)<zAa:=bI hs (bB S.small (by decide));simp only[zNO] at h;split at h
  ·rename_i ts d' _;simp only[PM.run] at h;split at h
   ·cases h
   ·split at h
    ·rename_i ps yg;obtain⟨⟨yA,gp⟩,h1⟩:=zDk h;simp only[PM.run] at h1;have hE:E s = .tup ps:=by rw[S.env s yk,yg]
     have hZ:=S.conf.rep s;rw[hE] at hZ;obtain⟨vs,u6,hr⟩:=hZ;have kH:vs.size=ps.length:=by have:=hr.length;simpa using this
     have yy:a.eval (.tmp s) = .tuple vs:=by rw[<- u6];exact S.tmps s hs
     obtain⟨L',S1⟩:=S.empty (hd d' rfl);rw[yy];refine zIf (vs:=vs) (hd d' rfl) hs ts.size 0 S1 (fun g hg=>?_) (fun ps hp=>by rw[zAi] at hp;cases hp) (by omega) (by omega) (fun j hj=>by omega) (fun j _ hj=>?_) h1
     ·rw[zAe (by have:=hd d' rfl;simp only[zAa] at hg;omega)];exact hb g hg
     ·obtain⟨_,us,g1,g2⟩:=S.parts s ps j hs hE (by omega);rw[u6] at g1;cases g1;exact g2
    ·cases h
  ·exact gen h
 ·exact gen h
theorem zFr{d:Nat}(hd:d<nt){vs:Array Value}:∀ (ps:List PV) (i:Nat) {e:Env} {rv:Nat->Value} {E:Nat->PV} {L:Nat->LN},St w0 U Φ0 nt hv a w e Φ rv E L->(∀ ps,E d ≠ .tup ps)->i+ps.length<=16->vs.size=i+ps.length ->
  (∀ j p,ps[j]? = some p->E (zAa+i+j)=p/\vs[i+j]? = some (rv (zAa+i+j)))->(∀ g,zAa<=g->(∀ j,j<ps.length->g≠zAa+i+j)->E g = .bad)->(∀ x∈zBx ps,zJg d x.1=false) ->
  (∀ j,j<i->vs[j]? = some (rv (zBy d j)))->(zFy d i ps .ok).run o e=some e'->Fr w0 U Φ0 nt hv (a.put (some d) (.tuple vs)) w e'
 |[],i,e,rv,E,L,S,hE,gp,yI,hp,hb,hw,h1,h=>by
  simp only[zFy,PM.run,ba] at h;subst h;exact S.mark (fun g hg=>hb g hg (by simp)) hd (by simpa using gp) (by simpa using yI) h1
 | p :: ps,i,e,rv,E,L,S,hE,gp,yI,hp,hb,hw,h1,h=>by
  have jl:=S.small;simp only[bD] at gp yI;obtain⟨q1,q2⟩:=hp 0 p rfl;simp only[bQ] at q1 q2;simp only[zFy] at h;rw[<- q1] at h;obtain⟨e2,E2,L2,k1,S2,k2,k3,k4⟩:=S.layPart (i:=i) (g:=zAa+i) hd (by omega) (by omega) hE h;have hvd:zBy d i<zAa:=by simp only[zBy,zAa];omega
  have hinp:∀ j,j<16->zJg d (zBy d j)=true:=by
   intro j hj;simp only[zJg,bb];exact⟨cU (by simp only[zBy];omega),cU (by simp only[zBy];omega)⟩
  have hkeep:∀ j p',ps[j]? = some p'->E2 (zAa+(i+1)+j)=p':=by
   intro j p' hj;obtain⟨q3,_⟩:=hp (j+1) p' (by simpa using hj);have e1:zAa+i+(j+1)=zAa+(i+1)+j:=by omega
   rw[e1] at q3;rw[k4 _ (by omega) (by omega) (fun x hx hc=>?_),q3];rw[q3] at hx;have:=hw x (by
    simp only[zBx,bj];exact .inr (zMU (bH hj) hx))
   rw[hc,hinp i (by omega)] at this;cases this
  refine zFr hd ps (i+1) S2 k2 (by omega) (by omega) (fun j p' hj=>⟨hkeep j p' hj,?_⟩) (fun g hg hI=>?_) (fun x hx=>hw x (by simp[zBx,hx])) (fun j hj=>?_) k1
  ·obtain⟨_,q4⟩:=hp (j+1) p' (by simpa using hj);have e1:zAa+i+(j+1)=zAa+(i+1)+j:=by omega
   have e2:i+(j+1)=i+1+j:=by omega
   rw[e1,e2] at q4;rw[zAe (by omega)];exact q4
  ·by_cases uD:g=zAa+i
   ·subst uD;exact k3
   ·have v7:E g = .bad:=hb g hg fun j hj hc=>by
     cases j with
     |zero=>exact uD (by simpa using hc)|succ j=>exact hI j (by simpa using hj) (by omega)
    rw[k4 g hg uD (by rw[v7];simp[PV.ways]),v7]
  ·by_cases vI:j=i
   ·subst vI;rw[zAi];exact q2
   ·rw[zAe fun hc=>vI (zHb hc (by omega) (by omega)).2];exact h1 j (by omega)
end
end Go.Eng
namespace Go.Eng
open Go
section
variable {P:Program} {w0 w:World} {U Φ0 Φ:Nat->Prop} {nt:Nat} {hv:Hid} {a:Act} {e e':Env} {rv:Nat->Value} {E:Nat->PV} {L:Nat->LN} {o:zAK} {A:Al}
theorem zPT{r:Nat}{pre:zA4}{z lo n i:Nat}{sh:ON}{v:Value}(hp:Rep w Φ (zBa w rv E) (.bor r pre z lo n) v [])(yG:i<n) :
  ∃ b cap,v = .slice (some b) n cap/\b.spot=none/\Rep w Φ (zBa w rv E) (.addr r pre (lo+i) 0 sh) (.pointer (some (b.add (i*z)))) []:=by
 obtain⟨_,hg,⟨x,cap,rfl,yV,y7,yf⟩,hn⟩:=hp
 cases x with
 |none=>have:=y7 rfl;omega
 | some b =>
  refine⟨b,cap,rfl,yf b rfl,rfl,hg,b.add (i*z),rfl,by rw[zB4 (yf b rfl)];rfl,fun nv np hf a' ha=>?_⟩;have hh:np.heavy0=true:=by cases np<;>first|rfl|(simp[zBd] at ha;done)
  obtain⟨sz,xs,h3,h4,h5⟩:=hn nv np hf hh;subst h3;subst h4;cases nv<;>simp only[zBX] at h5;rename_i y l c
  cases y with
  |none=>cases ha|some y=>
   simp only[zBX,dj,ba] at h5;simp only[zBd,ba] at ha;rw[<- ha,zB4 (yf b rfl),h5.1.1];simp[zAv,cS,cg]
theorem zJW{p:PV}(h:p.plain=true):∀ q∈p.cells,q.oneCell=true:=by
 have h0:∀ p:PV,p.plain0=true->p.oneCell=true:=by intro p h;cases p<;>first|rfl|cases h
 cases p<;>first|(intro q hq;simp only[PV.cells,bk] at hq;subst hq;exact h0 _ h)|skip
 rename_i cs;intro q hq;simp only[PV.plain,bi] at h;exact h0 q (h q hq)
theorem zMq{row:Array Value}{o:Nat}{xs ys:List Value}(h:o+xs.length+ys.length<=row.size):zBk (zBk row o xs) (o+xs.length) ys=zBk row o (xs++ys):=by
 apply fS;simp only[zBk,bu];rw[cP (by simp;omega),bw (by simp;omega)];have:drop (o+xs.length+ys.length) (take o row.toList++xs++drop (o+xs.length) row.toList)=drop (o+(xs.length+ys.length)) row.toList:=by
  rw[fL,fD (by simp;omega)];simp;congr 1;omega
 rw[this];simp
theorem zMb{p:PV}(h:p.plain=true):p.heavy=false/\p.ways=[]:=by
 have h0:∀ p:PV,p.plain0=true->p.heavy=false/\p.ways=[]:=by
  intro p h;cases p<;>first|(cases h;done)|exact⟨rfl,rfl⟩|skip
  simp only[PV.plain0] at h;exact⟨rfl,by simpa[PV.ways] using h⟩
 cases p<;>first|exact h0 _ h|skip
 rename_i cs;simp only[PV.plain] at h;have key:∀ cs:List PV,cs.all PV.plain0=true->zDf cs=false/\zBx cs=[]:=by
  intro cs
  induction cs with
  |nil=>intro _;exact⟨rfl,rfl⟩|cons c cs ih=>
   intro h;simp only[cF,bb] at h;obtain⟨h1,h2⟩:=h0 c h.1;obtain⟨h3,h4⟩:=ih h.2;exact⟨by simp[zDf,h1,h3],by simp[zBx,h2,h4]⟩
 exact key cs h
theorem zMy{r:Nat}{pre:zA4}{z lo n:Nat}{v:Value}{k:PM}(hz:0<z):∀ (ys:List PV) (us:List Value) (j:Nat) {w:World} {e:Env} {rv:Nat->Value} {E:Nat->PV} {L:Nat->LN},St w0 U Φ0 nt hv a w e Φ rv E L->E (zAa+2) = .bor r pre z lo n->rv (zAa+2)=v->(∀ s,zAa<=s->s≠zAa+2->E s = .bad) ->
  (∀ y∈ys,y.plain=true/\y.cells.length=z)->(us.map zCv=ys.map PV.isAgg)->zA8 w Φ zCm ys us []->j+ys.length<=n->(zGB r pre (lo+j) ys k).run o e=some e' ->
  ∃ w1 e1 rv1 E1 L1,k.run o e1=some e'/\St w0 U Φ0 nt hv a w1 e1 Φ rv1 E1 L1/\(∀ s,zAa<=s->s≠zAa+2->E1 s = .bad)/\(E1 (zAa+2) = .bor r pre z lo n/\rv1 (zAa+2)=v) /\
   (ys=[]/\w1=w\/∃ b cap row,v = .slice (some b) n cap/\b.spot=none/\zE2 w b.block row/\b.off+j*z+(flat us).length<=row.size/\(∀ u∈flat us,u.oneCell'=true)/\w1=w.setRow b.block (zBk row (b.off+j*z) (flat us)))
 |[],us,j,w,e,rv,E,L,S,hE,jb,hb,hy,jj,hr,hl,h=>⟨w,e,rv,E,L,h,S,hb,⟨hE,jb⟩,.inl ⟨rfl,rfl⟩⟩
 | y :: ys,us,j,w,e,rv,E,L,S,hE,jb,hb,hy,jj,hr,hl,h=>by
  obtain⟨u,us',L1,L2,rfl,hL,uG,jW⟩:=hr;have wI:=dx.1 hL.symm;obtain⟨rfl,rfl⟩:=wI;simp only[bL,fc] at jj;simp only[zGB] at h;obtain⟨kR,hyz⟩:=hy y (by simp);obtain⟨kh,yz⟩:=zMb kR;have qT:=S.conf.rep (zAa+2);rw[hE,jb] at qT;have vG:L (zAa+2)=[]:=qT.1;rw[vG] at qT;obtain⟨b,cap,hv,yd,uM⟩:=zPT (sh:=none) qT (i:=j) (by simp at hl;omega);have S1:=S.hold (g:=zAa) (bf _) (p:=y) (v:=u) (uG.mono zDq.refl (fun _ _ _ h=>h.elim) (by simp));have gB:=S1.conf.rep (zAa+2);rw[zAe (show zAa+2≠zAa by omega),zAe (show zAa+2≠zAa by omega),zAe (show zAa+2≠zAa by omega),hE,jb,vG] at gB;obtain⟨b0,cap0,vJ,_,wS⟩:=zPT (sh:=none) gB (i:=j) (by simp at hl;omega);rw[hv] at vJ;simp only[dj,ba] at vJ;rw[<- vJ.1] at wS;obtain⟨b',row,e1,E1,L1,yL,hsp',yH,yF,yQ,h1,S2,jq,vn,hg3,jS⟩:=S1.write (g:=zAa) (bf _) wS (.inl (by rw[zAi];exact kh)) (by rw[zAi];exact zJW kR) (by rw[zAi,hyz];omega) (by rw[zAi,zAi];exact jj.1) (k:=zGB r pre (lo+(j+1)) ys k) (by rw[zAi];exact h);cases yL;have hub:u.cells.size=z:=by
   have h1:us'.length=ys.length:=jW.length;have:=((uG.mono (A':=zCm) zDq.refl (fun _ _ _ h=>h) (by simp)).cellsAll jj.1).length;simpa[hyz] using this
  have j0:b.add (j*z)=⟨b.block,b.off+j*z,none⟩:=by rw[zB4 yd];rfl
  rw[j0] at yH yF jS S2;rw[zAi] at yF yQ S2;simp only at yH yF jS S2;have hnΦ:¬ Φ b.block:=(S1.conf.own _ _ jS).2.1;have wP:E1 (zAa+2) = .bor r pre z lo n:=by
   rw[hg3 _ (by omega) (by omega),zAe (show zAa+2≠zAa by omega),zAi,hE];show zDP _ _ _ _ _ _=_
   exact zJ9 (zLp) kh _
  obtain⟨w1,e2,rv2,E2,L2,k1,k2,k3,k3',k4⟩:=zMy hz ys us' (j+1) S2 wP (by rw[zAe (show zAa+2≠zAa by omega),jb]) (fun s hs hI=>by
   by_cases yk:s=zAa
   ·subst yk;exact jq
   ·exact vn s hs yk (by rw[zAe yk];exact hb s hs hI)) (fun y wp=>hy y (by simp[wp])) jj.2 (jW.mono (fun b' yL=>⟨yL,setRow_other w _ _ _ (fun hc:b'=b.block=>hnΦ (hc▸yL))⟩) (fun _ _ _ h=>h) (by simp)) (by simp at hl;omega) h1
  refine⟨w1,e2,rv2,E2,L2,k1,k2,k3,k3',.inr ⟨b,cap,row,hv,yd,yH,?_⟩⟩;have uH:flat (u::us')=u.cells.toList++flat us':=by simp[flat]
  have qQ:u.cells.toList.length=z:=by simpa using hub
  rcases k4 with⟨rfl,rfl⟩|⟨b2,cap2,row2,kZ,_,hrow2,ug,hone2,rfl⟩
  ·have:us'=[]:=bq (by have:=jW.length;simpa using this);subst this;rw[uH];simp only[flat,List.flatMap_nil,dR];refine⟨by rw[qQ];omega,yQ,?_⟩;first|rfl|trivial
  ·rw[hv] at kZ;simp only[dj,ba] at kZ;obtain⟨rfl,_⟩:=kZ;have j2:zE2 (w.setRow b.block (zBk row (b.off+j*z) u.cells.toList)) b.block (zBk row (b.off+j*z) u.cells.toList):=by
    obtain⟨el,jH⟩:=yH;exact⟨el,setRow_heap w _ _ _ el _ jH⟩
   have:row2=zBk row (b.off+j*z) u.cells.toList:=by
    obtain⟨e1,h1⟩:=j2;obtain⟨e2,h2⟩:=hrow2;rw[h1] at h2;cases h2;rfl
   subst this;rw[zGO (by rw[qQ];omega)] at ug;have uN:b.off+(j+1)*z=b.off+j*z+u.cells.toList.length:=by rw[qQ,cS];omega
   rw[uN] at ug ⊢;refine⟨by rw[uH,bu];omega,fun x hx=>?_,?_⟩
   ·rw[uH] at hx;rcases bj.1 hx with h|h
    ·exact yQ x h
    ·exact hone2 x h
   ·rw[setRow_setRow,zMq ug,uH]
end
end Go.Eng
namespace Go.Eng
open Go
section
variable {P:Program} {w:World}
theorem zEm{t t2 ty el e2:TypeId}{i:TypeInfo}(ht:P.underlying t=some (.slice el))(uO:P.underlying t2=some (.slice e2))(hi:P.info? el=some i){a xb:Option Addr}{sLen sCap n xc:Nat}{news:List Value}
  (vK:(Builtin.firstCells i.size n (.slice xb n xc)).run P w = .ok news.toArray w) (yF:sLen+n<=sCap) (w':World) (yD:∀ b,a=some b->(storeCells (b.add (sLen*i.size)) news).run P w = .ok () w') (jf:a=none->w'=w) :
  (Builtin.append_ #[t,t2] ty #[.slice a sLen sCap,.slice xb n xc]).run P w = .ok (.slice a (sLen+n) sCap) w':=by
 cases a with
 |none=>
  rw[jf rfl];simp[Builtin.append_,run_underlying ht,run_underlying uO,sizeOf,typeInfo,hi,Builtin.lenOf,yF,vK]
 |some b=>
  have:=yD b rfl;simp[Builtin.append_,run_underlying ht,run_underlying uO,sizeOf,typeInfo,hi,Builtin.lenOf,yF,vK,this]
theorem zGc{t t2 ty el e2:TypeId}{i:TypeInfo}{z:Value}(ht:P.underlying t=some (.slice el))(uO:P.underlying t2=some (.slice e2))(hi:P.info? el=some i)(hz:i.zero=some z){a xb:Option Addr}{sLen sCap n xc:Nat}{old news:List Value}
  (hold:(Builtin.firstCells i.size sLen (.slice a sLen sCap)).run P w.drew = .ok old.toArray w.drew) (vK:(Builtin.firstCells i.size n (.slice xb n xc)).run P w.drew = .ok news.toArray w.drew)
  (yF:¬ sLen+n<=sCap) (h32:sLen+n<=4294967296) (qU:i.bytes<=16384) :
  (Builtin.append_ #[t,t2] ty #[.slice a sLen sCap,.slice xb n xc]).run P w =
   .ok (.slice (some ⟨w.heap.size,0,none⟩) (sLen+n) (grownCap w (sLen+n) sCap el)) (w.drew.alloc (.cells (old.toArray++news.toArray++Builtin.zeroCells z.cells (grownCap w (sLen+n) sCap el-(sLen+n))) el)):=by
 have hgr':¬ (281474976710656<Builtin.nextslicecap (sLen+n) sCap*i.bytes):=by
  have h1:(sLen+n)*i.bytes<=4294967296*16384:=f7 h32 qU;have:=growslice_fits (need:=sLen+n) (old:=sCap) (bytes:=i.bytes) (by omega) (by omega);omega
 have h63':¬ (9223372036854775807<((sLen:Int)+(n:Int))):=by omega
 simp[Builtin.append_,run_underlying ht,run_underlying uO,sizeOf,typeInfo,zeroValue,hi,hz,Builtin.lenOf,yF,h63',hgr',Question.forced,hold,vK,newRow,grownCap];congr 2;apply fS;simp[cO]
end
section
variable {P:Program} {w0 w:World} {U Φ0 Φ:Nat->Prop} {nt:Nat} {hv:Hid} {a:Act} {e e':Env} {rv:Nat->Value} {E:Nat->PV} {L:Nat->LN} {o:zAK}
structure Listed (w:World) (Φ:Nat->Prop) (v:Value) (ys:List PV) (us:List Value) (Ly:LN):Prop where
 val:∃ xb xc,v = .slice xb ys.length xc/\∀ sz,(∀ y∈ys,y.cells.length=sz)->∀ (P:Program) (w1:World),(∀ t,w1.cell? t=w.cell? t)->(Builtin.firstCells sz ys.length v).run P w1 = .ok (flat us).toArray w1
 reps:zA8 w Φ zCm ys us Ly
 size:∀ sz,(∀ y∈ys,y.cells.length=sz)->∀ u∈us,u.cells.size=sz
 agg:us.map zCv=ys.map PV.isAgg
theorem zI7{b:Addr}{n xc sz:Nat}{us:List Value}(yd:b.spot=none){row:Array Value}(yH:zJw w b.block row)(hl:us.length=n)(yI:∀ u∈us,u.cells.size=sz)(h:seg row b.off (n*sz)=flat us)(P:Program)(w1:World)(hw:∀ t,w1.cell? t=w.cell? t) :
  (Builtin.firstCells sz n (.slice (some b) n xc)).run P w1 = .ok (flat us).toArray w1:=by
 refine run_firstCells_some w1 sz n b n xc (flat us) (by rw[zBr yI,hl]) fun j v hj=>?_;rw[hw];exact zIs yd yH (by rw[zBr yI,hl];exact h) j v hj
theorem zER{v:Value}{xb:Option Addr}{xc:Nat}(hv:v = .slice xb 0 xc):Listed w Φ v [] [] []:=by
 refine⟨⟨xb,xc,hv,fun sz _ P w1 _=>?_⟩,⟨rfl,rfl⟩,by simp,rfl⟩;subst hv
 cases xb with
 |none=>exact run_firstCells_none w1 sz 0 0 xc|some b=>exact run_firstCells_some w1 sz 0 b 0 xc [] (by simp) (by simp)
theorem zGn{A:Al}:∀ {ys:List PV} {us:List Value} {Ly:LN},(∀ y∈ys,y.plain=true)->zA8 w Φ A ys us Ly->Ly=[]
 |[],_,_,_,h=>h.2|y::ys,us,Ly,hp,h=>by
  obtain⟨v,vs,L1,L2,rfl,rfl,h1,h2⟩:=h;rw[zDt _ _ _ (zMb (hp y (by simp))).1 h1,zGn (fun z hz=>hp z (by simp[hz])) h2];rfl
theorem zQJ{c:Array Value}{o m n:Nat}(h:m<=n):seg c o m=(seg c o n).take m:=by
 simp only[seg,fC];rw[iI h]
theorem zNR (S:St w0 U Φ0 nt hv a w e Φ rv E L) {p:PV} {v:Value} (hp:Rep w Φ (zBa w rv E) p v []) {k:List PV->PM} (h:(zIp p k).run o e=some e'):∃ ys us Ly,(k ys).run o e=some e'/\Listed w Φ v ys us Ly:=by
  cases p<;>simp only[zIp] at h<;>try (cases h;done)
  case nils=>exact⟨[],[],[],h,zER hp.1⟩
  case nn=>
    obtain⟨_,b,n,yK⟩:=hp;exact⟨[],[],[],h,zER yK⟩
  case sl xs =>
    obtain⟨_,⟨rfl,b,n,yK,_⟩|⟨b,n,c,us,sz,yK,yd,yS,hΦ,yH,j6,⟨uA,qF⟩,jL,hr⟩⟩:=hp
    · exact⟨[],[],[],h,zER yK⟩
    · have hl:us.length=xs.length:=by have:=congrArg length qF;simpa using this
      refine⟨xs,us,[],h,⟨some b,n,yK,fun sz' jU P w1 hw=>?_⟩,hr,fun sz' jU u hu=>?_,qF⟩
      · by_cases hx:xs=[]
        · subst hx;have:us=[]:=bq (by simpa using hl);subst this;subst yK;exact run_firstCells_some w1 sz' 0 b 0 n [] (by simp) (by simp)
        · obtain⟨y,ys,rfl⟩:=List.exists_cons_of_ne_nil hx;have:sz'=sz:=by rw[<- jU y (by simp),j6 y (by simp)]
          subst this;subst yK;exact zI7 yd yH hl uA jL P w1 hw
      · cases xs with
        | nil => have h0:us=[]:=bq (by simpa using hl)
                 rw[h0] at hu;cases hu
        |cons y ys=>rw[uA u hu,<- jU y (by simp),j6 y (by simp)]
  case bor r pre z lo n=>
    obtain⟨_,hr,_,hn⟩:=hp;obtain⟨q,hq,h1⟩:=zBP h;split at h1
    · rename_i sz xs;obtain⟨yS,h2⟩:=zAP h1;have yS:=br yS;rw[<- S.env r hr] at hq;obtain⟨nv,Li,hf,_,hZ⟩:=zBS (zB9 (S.conf.rep r)) hq;obtain⟨sz2,xs2,g1,g2,g3⟩:=hn nv _ hf rfl;cases g1;subst g2;obtain⟨q1,q2,q3⟩|⟨x,m,c,us,M,q0,q1,q2,q3,q4,q5,q6,⟨q7,q7'⟩,q8,q9⟩:=hZ
      · subst q1;subst q3;have ka:n=0:=by simp at yS;omega
        subst ka;simp only[zBX] at g3;refine⟨_,[],[],h2,?_⟩;simp only[List.drop_nil,List.take_nil];exact zER g3.1
      · subst q1;simp only [zBX] at g3;obtain ⟨yK,yV⟩:=g3;have jG:us.length=xs.length:=by have:=congrArg length q7';simpa using this
        obtain⟨Ly,_,qL⟩:=zG0 q9 lo n;have yA:((xs.drop lo).take n).length=n:=by simp;omega
        have gC:((us.drop lo).take n).length=n:=by simp;omega
        refine⟨_,(us.drop lo).take n,Ly,h2,⟨_,_,by rw[yA];exact yK,fun sz' jU P w1 hw=>?_⟩,qL,fun sz' jU u hu=>?_,zA8.map_isAgg q7' lo n⟩
        · rw[yA,yK];by_cases ka:n=0
          · subst ka;simp only[List.take_zero];exact run_firstCells_some w1 sz' 0 _ 0 _ [] (by simp) (by simp)
          · have:sz'=z:=by
              cases j6:(xs.drop lo).take n with
              |nil=>rw[j6] at yA;simp at yA;omega
              | cons y ys =>
                have hy:y∈(xs.drop lo).take n:=by rw[j6];simp
                rw[<- jU y hy,q6 y (cz (cJ hy))]
            subst this;exact zI7 (b:=zAv x (lo*sz')) rfl q4.any gC (fun u hu=>q7 u (cz (cJ hu))) (zIL q7 jG q8 yS) P w1 hw
        · cases j6:(xs.drop lo).take n with
          | nil =>
            rw[j6] at yA;have h0:(us.drop lo).take n=[]:=bq (by rw[gC];simpa using yA.symm);rw[h0] at hu;cases hu
          | cons y ys =>
            have hy:y∈(xs.drop lo).take n:=by rw[j6];simp
            rw[q7 u (cz (cJ hu)),<- jU y hy,q6 y (cz (cJ hy))]
    · cases h1
  case bsl r pre i c sz ag n=>
    obtain⟨_,hr,b,cap,yK,yV,yd,hn⟩:=hp;simp only[PM.run] at h;split at h
    · rename_i g cs hq;rw[<- S.env r hr] at hq;obtain⟨nv,np,ad,us,h1,h2,h3,h4,h5,h6⟩:=S.conf.cells hr hq;have:=hn nv np h1 ad h2;subst this;obtain⟨hc,h7⟩:=zAP h;simp only[bb,zCt] at hc;obtain⟨⟨yN,wL⟩,kR⟩:=hc;have yN:=bd yN;have hw0:∀ (cs:List PV),cs.all (fun q=>q.plain0)=true->zBx cs=[]:=by
        intro cs
        induction cs with
        |nil=>intro _;rfl
        | cons c cs ih =>
          intro h;simp only[cF,bb] at h;have vq:c.ways=[]:=by
            have h0:=h.1;cases c<;>first|(cases h0;done)|rfl|skip
            simpa[PV.plain0,PV.ways] using h0
          simp[zBx,vq,ih h.2]
      have vu:zA8 w Φ zCm cs us []:=h6.ways _ _ _ fun a v hw hx ha=>by
        rw[hw0 cs kR] at hx;have h1:=zJn hw ha
        cases vB:a.ways with
        |nil=>exact absurd vB h1|cons z zs=>have:=hx z (by rw[vB];simp);cases this
      obtain⟨us',q1,q2,q3,q4,q5⟩:=zGp (ag:=ag) (sz:=sz) (fun a v _ h=>h.elim) n cs us yN (fun jj=>by
        simp only[jj,ci,bb] at wL;exact⟨bd wL.1,fun q hq=>bi.1 wL.2 q hq⟩) vu
      have yA:=zEf ag sz n cs;refine⟨_,us',[],h7,⟨some b,cap,by rw[yA];exact yK,fun sz' jU P w1 hw=>?_⟩,q1,fun sz' jU u hu=>?_,q4⟩
      · rw[yA,yK,q2];by_cases ka:n=0
        · subst ka;have:us=[]:=bq (by rw[h4];simp);subst this;exact run_firstCells_some w1 sz' 0 b 0 cap [] (by simp) (by simp)
        · have:sz'=sz:=by
            cases j6:zCw ag sz n cs with
            |nil=>rw[j6] at yA;simp at yA;omega
            | cons y ys =>
              have hy:y∈zCw ag sz n cs:=by rw[j6];simp
              rw[<- jU y hy,q5 y hy]
          subst this;exact run_firstCells_some w1 sz' n b n cap us h4 (fun j v hj=>by rw[hw];exact h5 j v hj)
      · cases j6:zCw ag sz n cs with
        | nil =>
          have jG:us'.length=(zCw ag sz n cs).length:=q1.length;rw[j6] at jG;have h0:us'=[]:=bq (by simpa using jG);rw[h0] at hu;cases hu
        | cons y ys =>
          have hy:y∈zCw ag sz n cs:=by rw[j6];simp
          rw[q3 u hu,<- jU y hy,q5 y hy]
    · cases h
theorem zVm(S:St w0 U Φ0 nt hv a w e Φ rv E L){g:Nat}(hg:zAa<=g)(ud:E g = .bad){x:Operand}(hx:zAZ nt x=true){k:List PV->PM}(h:(zO3 x k).run o e=some e') :
  ∃ e1 rv1 E1 L1 ys us Ly,(k ys).run o e1=some e'/\St w0 U Φ0 nt hv a w e1 Φ rv1 E1 L1/\zYh g rv rv1 E E1 L L1/\Listed w Φ (a.eval x) ys us Ly/\Ly.Nodup/\∀ b∈Ly,b∈L1 g:=by
 have hLg:L g=[]:=by have:=S.conf.rep g;rw[ud] at this;exact this
 have copy:∀ {p:PV},Rep w Φ (zBa w rv E) p (a.eval x) []->(zIp p fun xs=>if xs.all (fun x=>x.plain) then k xs else .fail).run o e=some e' ->
   ∃ e1 rv1 E1 L1 ys us Ly,(k ys).run o e1=some e'/\St w0 U Φ0 nt hv a w e1 Φ rv1 E1 L1/\zYh g rv rv1 E E1 L L1/\Listed w Φ (a.eval x) ys us Ly/\Ly.Nodup/\∀ b∈Ly,b∈L1 g:=by
  intro p hp h;obtain⟨ys,us,Ly,h1,h2⟩:=zNR S hp h;obtain⟨h3,h4⟩:=zDk h1;have:Ly=[]:=zGn (fun y hy=>bi.1 h3 y hy) h2.reps;subst this;exact⟨e,rv,E,L,ys,us,[],h4,S,fun _ _ _=>⟨rfl,rfl,rfl⟩,h2,b8,by simp⟩
 cases x with
 |const v=>simp only[zO3] at h;obtain⟨p,h1,h2⟩:=zBw S hx h;exact copy h2 h1
 |func f=>simp only[zO3] at h;obtain⟨p,h1,h2⟩:=zBw S hx h;exact copy h2 h1
 |global f=>cases h
 | tmp t =>
  have ht:(t:Nat)<nt:=zCe hx;have yr:(t:Nat)<zAa:=bI ht (bB S.small (by decide));have yy:a.eval (.tmp t)=rv t:=S.tmps t ht;simp only[zO3,PM.run] at h;split at h
  ·cases h
  ·split at h
   ·rename_i sz xs uL;simp only[PM.run] at h;have hE:E t = .own sz xs:=by rw[S.env t yr,uL]
    have hc:=S.conf.take (s:=t) (g:=g) yr hg;have hgt:t≠g:=by intro hc;subst hc;exact absurd yr (Nat.not_lt.2 hg)
    have S1:=S.turn (e':=e.set t .bad) hc (fun s hs=>by
     rw[zAe (by omega),Env.get_set];by_cases yD:s=t
     ·subst yD;rw[zAi,if_pos rfl]
     ·rw[zAe yD,if_neg yD];exact S.env s hs) (fun s hs=>zAe (by omega)) (fun d ps hd hp=>by
     rw[zAe (by simp only[zAa] at hg;omega)] at hp;by_cases hdt:d=t
     ·subst hdt;rw[zAi] at hp;cases hp
     ·rw[zAe hdt] at hp;exact⟨ps,hp,rfl⟩)
    have hZ:=S.conf.rep t;rw[hE] at hZ;have y6:=S.conf.nodup t;have uP:zYh g rv (upd rv g (rv t)) E (upd (upd E t .bad) g (E t)) L (upd (upd L t []) g (L t)):=by
     intro s hs hI;have yD:s≠t:=by intro hc;subst hc;exact absurd yr (Nat.not_lt.2 hs)
     rw[zAe hI,zAe hI,zAe hI,zAe yD,zAe yD];exact⟨rfl,rfl,rfl⟩
    rw[yy];obtain⟨q1,q2,q3⟩|⟨x,m,c,us,M,q0,q1,q2,q3,q4,q5,q6,⟨q7,q7'⟩,q8,q9⟩:=hZ
    ·subst q1;exact⟨_,_,_,_,[],[],[],h,S1,uP,zER q3,b8,by simp⟩
    ·have jG:us.length=xs.length:=by have:=congrArg length q7';simpa using this
     rw[q0] at y6;refine⟨_,_,_,_,xs,us,M,h,S1,uP,⟨⟨some x,m,q1,fun sz' jU P w1 hw=>?_⟩,q9,fun sz' jU u hu=>?_,q7'⟩,(cB.1 y6).2,fun b hb=>by rw[zAi,q0];simp[hb]⟩
     ·rw[q1]
      cases xs with
      |nil=>
       have h0:us=[]:=bq (by simpa using jG);subst h0;exact run_firstCells_some w1 sz' 0 x 0 m [] (by simp) (by simp)
      |cons y ys=>
       have:sz'=sz:=by rw[<- jU y (by simp),q6 y (by simp)]
       subst this;exact zI7 q2 q4.any jG q7 q8 P w1 hw
     ·cases xs with
      |nil=>
       have h0:us=[]:=bq (by simpa using jG);rw[h0] at hu;cases hu
      |cons y ys=>rw[q7 u hu,<- jU y (by simp),q6 y (by simp)]
   ·simp only[PM.run] at h;have hv:=S.conf.view yr;rw[S.env t yr] at hv;exact copy (by rw[yy];exact hv) h
theorem zSR{A:Al}{w':World}{z:Value}{sz len m cap:Nat}{xs ys:List PV}{us uys:List Value}{M Ly:LN}(hz:z.cells.size=sz)(yA:us.length=len)(hm:uys.length=m)(vZ:xs.length=len)(kS:ys.length=m)
  (j6:∀ x∈xs,x.cells.length=sz) (gD:∀ y∈ys,y.cells.length=sz) (wT:∀ u∈us,u.cells.size=sz) (qV:∀ u∈uys,u.cells.size=sz) (jj:us.map zCv=xs.map PV.isAgg) (gr:uys.map zCv=ys.map PV.isAgg)
  (hr:zA8 w' Φ zCm xs us M) (qL:zA8 w' Φ zCm ys uys Ly) (yV:len+m<=cap) {b:Nat} (yH:zE2 w' b ((flat us).toArray++(flat uys).toArray++Builtin.zeroCells z.cells (cap-(len+m)))) :
  Rep w' Φ A (.own sz (xs++ys)) (.slice (some ⟨b,0,none⟩) (len+m) cap) (b::(M++Ly)):=by
 have uH:(flat us++flat uys).length=(len+m)*sz:=by rw[bu,zBr wT,zBr qV,yA,hm,cS]
 refine .inr ⟨⟨b,0,none⟩,cap,_,us++uys,M++Ly,rfl,by simp[vZ,kS],rfl,by simp[vZ,kS,yV],yH,?_,fun x hx=>?_,⟨fun u hu=>?_,by simp[jj,gr]⟩,?_,hr.append qL⟩
 ·simp only[Array.size_append,size_zeroCells,hz];have h1:=congrArg (·) uH;simp at uH;have:(len+m)*sz+(cap-(len+m))*sz=cap*sz:=by rw[<- cS];congr 1;omega
  simp;omega
 ·rcases bj.1 hx with h|h
  ·exact j6 x h
  ·exact gD x h
 ·rcases bj.1 hu with h|h
  ·exact wT u h
  ·exact qV u h
 ·rw[zC3,bu,vZ,kS];simp only[seg,dX,Array.toList_append];rw[<- uH];exact List.take_left
theorem zPW:∀ {ys:List PV} {us:List Value} {Ly:LN},zA8 w Φ zCm ys us Ly->us.map zCv=ys.map PV.isAgg->(∀ y∈ys,∀ q∈y.cells,q.oneCell=true)->∀ u∈flat us,u.oneCell'=true
 |[],us,Ly,h,_,_,u,hu=>by rw[h.1] at hu;cases hu
 | y :: ys,us,Ly,h,ha,ho,u,hu=>by
  obtain⟨v,vs,L1,L2,rfl,rfl,h1,h2⟩:=h;simp only[bL,fc] at ha;rw[zCE] at hu;rcases bj.1 hu with hu|hu
  ·have hc:=h1.cellsAll ha.1;obtain⟨j,hj⟩:=cC hu;have y9:j<y.cells.length:=by rw[<- hc.length];exact(bg.1 hj).1
   obtain⟨v',La,Li',Lb,yK,_,je,_⟩:=hc.split (i:=j) (bl y9);rw[hj] at yK;cases yK;exact zCi (fun a v _ h=>h.elim) je (ho y (by simp) _ (cM y9))
  ·exact zPW h2 ha.2 (fun z hz=>ho z (by simp[hz])) u hu
theorem St.made(S:St w0 U Φ0 nt hv a w e Φ rv E L)(hb:∀ s,zAa+3<=s->E s = .bad){d:ON}(hd:∀ x,d=some x->x<nt){w':World}{p:PV}{v:Value}{Lp:LN}(hr:∀ A:Al,Rep w' Φ A p v Lp)(uC:Lp.Nodup)
  (ho:∀ b∈Lp,(∃ t,zAa<=t/\t<zAa+3/\b∈L t)\/(w.heap.size<=b/\b<w'.heap.size)) (hw:w.heap.size<=w'.heap.size)
  (hk:∀ b,b<w.heap.size->(∀ t,zAa<=t->t<zAa+3->b∉L t)->w'.heap[b]? = w.heap[b]?) (u4:w'.os=w.os/\w'.tape=w.tape/\w'.output=w.output) (h:(put d p).run o e=some e') :
  Fr w0 U Φ0 nt hv (a.put d v) w' e':=by
 have hG:∀ s,decide (zAa<=s/\s<zAa+3)=true↔zAa<=s/\s<zAa+3:=fun s=>decide_eq_true_iff
 have hc:=S.conf.make (w':=w') (fun s=>decide (zAa<=s/\s<zAa+3)) (fun s hs=>((hG s).1 hs).1) (g:=zAa+3) (by omega) (fun A _=>hr A) uC
  (fun b hb=>(ho b hb).imp (fun⟨t,h1,h2,h3⟩=>⟨t,h3,(hG t).2 ⟨h1,h2⟩⟩) id) hw
  (fun b hb hn=>hk b hb fun t h1 h2 h3=>by have:=hn t h3;rw[(hG t).2 ⟨h1,h2⟩] at this;cases this) u4
 have S1:=S.turn (e':=e) hc (fun s hs=>by
  rw[zAe (by omega)];have:decide (zAa<=s/\s<zAa+3)=false:=decide_eq_false (by omega);simp only[this,bp,if_false];exact S.env s hs) (fun s hs=>zAe (by omega)) (fun d ps hd hp=>by
  rw[zAe (by simp only[zAa];omega)] at hp;have:decide (zAa<=d/\d<zAa+3)=false:=decide_eq_false (by simp only[zAa];omega);simp only[this,bp,if_false] at hp;exact⟨ps,hp,rfl⟩)
 have:=zFU S1 hd (g:=zAa+3) (by omega) (by rw[zAi];exact h) (fun s hs hI=>by
  rw[zAe hI];by_cases h3:s<zAa+3
  ·have:decide (zAa<=s/\s<zAa+3)=true:=(hG s).2 ⟨hs,h3⟩;simp[this]
  ·have:decide (zAa<=s/\s<zAa+3)=false:=decide_eq_false (by omega);simp only[this,bp,if_false];exact hb s (by omega))
 rwa[zAi] at this
theorem St.regrown(S:St w0 U Φ0 nt hv a w e Φ rv E L)(hb:∀ s,zAa+3<=s->E s = .bad){d:ON}(hd:∀ x,d=some x->x<nt){z:Value}{el:TypeId}{sz len m cap:Nat}{xs ys:List PV}{us uys:List Value}{M Ly:LN}(hz:z.cells.size=sz)(yA:us.length=len)(hm:uys.length=m)(vZ:xs.length=len)(kS:ys.length=m)
  (j6:∀ x∈xs,x.cells.length=sz) (gD:∀ y∈ys,y.cells.length=sz) (wT:∀ u∈us,u.cells.size=sz) (qV:∀ u∈uys,u.cells.size=sz) (jj:us.map zCv=xs.map PV.isAgg) (gr:uys.map zCv=ys.map PV.isAgg)
  (hr:zA8 w Φ zCm xs us M) (qL:zA8 w Φ zCm ys uys Ly) (yV:len+m<=cap) (gE:∀ b∈M,b∈L (zAa+1)) (gF:∀ b∈Ly,b∈L zAa) (hMn:M.Nodup) (hLn:Ly.Nodup) (h:(put d (.own sz (xs++ys))).run o e=some e') :
  Fr w0 U Φ0 nt hv (a.put d (.slice (some ⟨w.heap.size,0,none⟩) (len+m) cap)) (w.drew.alloc (.cells ((flat us).toArray++(flat uys).toArray++Builtin.zeroCells z.cells (cap-(len+m))) el)) e':=by
 have hold:∀ t,t<w.heap.size->(w.drew.alloc (.cells ((flat us).toArray++(flat uys).toArray++Builtin.zeroCells z.cells (cap-(len+m))) el)).heap[t]? = w.heap[t]?:=fun t ht=>by
  show(w.heap.push _)[t]? = _
  rw[d8,if_neg (by omega)]
 have hΦ:zDq w (w.drew.alloc (.cells ((flat us).toArray++(flat uys).toArray++Builtin.zeroCells z.cells (cap-(len+m))) el)) Φ Φ:=fun t ht=>⟨ht,hold t (S.conf.frz t ht).1⟩;refine S.made hb hd (Lp:=w.heap.size::(M++Ly)) (fun A=>zSR hz yA hm vZ kS j6 gD wT qV jj gr (hr.mono hΦ (fun _ _ _ h=>h) fun b hb=>hold b (S.conf.own _ b (gE b hb)).1) (qL.mono hΦ (fun _ _ _ h=>h) fun b hb=>hold b (S.conf.own _ b (gF b hb)).1) yV ⟨el,?_⟩) ?_ (fun b hb=>?_) ?_ (fun b hb _=>hold b hb) ⟨rfl,rfl,rfl⟩ h
 ·show(w.heap.push _)[w.heap.size]? = _
  simp
 ·refine cB.2 ⟨fun hm=>?_,?_⟩
  ·rcases bj.1 hm with hm|hm
   ·exact absurd (S.conf.own _ _ (gE _ hm)).1 (fJ _)
   ·exact absurd (S.conf.own _ _ (gF _ hm)).1 (fJ _)
  ·rw[bK];exact⟨hMn,hLn,fun x hx y hy e=>S.conf.disj (zAa+1) zAa (by omega) x (gE x hx) (e▸gF y hy)⟩
 ·rcases bx.1 hb with rfl|hb
  ·exact .inr ⟨bf _,by show _<(w.heap.push _).size;simp⟩
  ·rcases bj.1 hb with hb|hb
   ·exact .inl ⟨zAa+1,by omega,by omega,gE b hb⟩
   ·exact .inl ⟨zAa,by omega,by omega,gF b hb⟩
 ·show _<=(w.heap.push _).size
  simp
theorem zOM(S1:St w0 U Φ0 nt hv a w e Φ rv E L)(yp:∀ s,zAa<=s->s≠zAa->s≠zAa+2->E s = .bad){d:ON}(hd:∀ x,d=some x->x<nt){t t2 ty el e2:TypeId}{i:TypeInfo}{vx vy:Value}{r:Nat}{pre:zA4}{zz lo n s sz:Nat}{xs ys:List PV}{uys:List Value}{Ly:LN}{xb:Option Addr}{xc:Nat}
  (hE2:E (zAa+2) = .bor r pre zz lo n) (hrv2:rv (zAa+2)=vx) (qW:(Builtin.firstCells sz ys.length (.slice xb ys.length xc)).run P w = .ok (flat uys).toArray w) (jV:zA8 w Φ zCm ys uys Ly) (kI:∀ y∈ys,y.cells.length=sz) (kJ:uys.map zCv=ys.map PV.isAgg)
  (hq:zAH (E r).unlock pre=some (.own s xs)) (hs:s=sz) (ht:P.underlying t=some (.slice el)) (uO:P.underlying t2=some (.slice e2)) (hi:P.info? el=some i) (yw:i.size=sz) (v8:vy = .slice xb ys.length xc) (uf:beq (lo+n) xs.length=false)
  (h:(zL9 d r pre zz lo n s xs ys).run o e=some e'):∃ v w',(Builtin.append_ #[t,t2] ty #[vx,vy]).run P w = .ok v w'/\Fr w0 U Φ0 nt hv (a.put d v) w' e':=by
 subst hs;obtain⟨hc,h1⟩:=zAP h;simp only[bb,bi] at hc;obtain⟨⟨⟨c1,c2⟩,c3⟩,c4⟩:=hc;have c1:=zCe c1;have c2:=bd c2;have c3:=br c3;subst c2;have gF:Ly=[]:=zGn c4 jV;subst gF;have h2:=S1.conf.drop fun s=>s==zAa;have S2:=S1.turn (e':=e) h2 (fun s hs=>by
  have:(s==zAa)=false:=by simp;omega
  simp only[this,bp,if_false];exact S1.env s hs) (fun _ _=>rfl) (fun d ps hd hp=>by
  have:(d==zAa)=false:=by simp only[zAa,beq_eq_false_iff_ne];omega
  simp only[this,bp,if_false] at hp;exact⟨ps,hp,rfl⟩)
 have hp:=S2.conf.rep (zAa+2);have vn:((zAa+2:Nat)==zAa)=false:=by simp
 simp only[vn,bp,if_false] at hp;rw[hE2,hrv2] at hp;obtain⟨_,hr,⟨b,cap,yK,yV,wv,uE⟩,hn⟩:=hp;have kF:(r==zAa)=false:=by simp;omega
 obtain⟨nv,Li,hf,_,hZ⟩:=zBS (zB9 (S2.conf.rep r)) (by simp only[kF,bp,if_false];exact hq);obtain⟨sz2,xs2,g1,g2,g3⟩:=hn nv _ hf rfl;cases g1;obtain⟨q1,q2,q3⟩|⟨x,m,c,us,M,q0,q1,q2,q3,q4,q5,q6,⟨q7,q7'⟩,q8,q9⟩:=hZ
 ·subst q1;have:lo+n=0:=by simp at c3;omega
  rw[this] at uf;cases uf
 ·subst q1;simp only[zBX] at g3;obtain⟨g3,g4⟩:=g3;have yA:lo+n+ys.length<=m:=by omega
  have hw:Rep w Φ (zBa w rv fun s=>if (s==zAa)=true then .bad else E s) (.bor r pre zz lo (n+ys.length)) (.slice (some (zAv x (lo*zz))) (n+ys.length) (m-lo)) []:=by
   refine⟨rfl,hr,⟨_,_,rfl,by omega,by simp,fun b hb=>by simp only[ba] at hb;rw[<- hb];rfl⟩,fun nv' np' yv hh=>?_⟩;rw[hf] at yv;cases yv;exact⟨_,_,rfl,rfl,rfl,by omega⟩
  have S3:=S2.hold (g:=zAa+2) (by omega) hw;obtain⟨w1,e1,rv1,E1,L1,k1,S4,k3,⟨k5,k6⟩,k4⟩:=zMy (z:=zz) (lo:=lo) (n:=n+ys.length) (v := .slice (some (zAv x (lo*zz))) (n+ys.length) (m-lo)) c1 ys uys n S3 zAi zAi (fun s hs hI=>by
   rw[zAe hI];by_cases yk:s=zAa
   ·subst yk;simp
   ·have:(s==zAa)=false:=by simpa using yk
    simp only[this,bp,if_false];exact yp s hs yk hI) (fun y hy=>⟨c4 y hy,kI y hy⟩) kJ jV (bf _) h1
  have yO:=zFU S4 hd (g:=zAa+2) (by omega) (by rw[k5];exact k1) k3;rw[k6] at yO;refine⟨_,w1,?_,yO⟩;rw[g3,v8];have yF:n+ys.length<=m-lo:=by omega
  rcases k4 with⟨rfl,rfl⟩|⟨b',cap',row,kZ,yd,yH,hrm,yQ,rfl⟩
  ·have jG:uys=[]:=bq (by have:=jV.length;simpa using this);subst jG;exact zEm (i:=i) ht uO hi (by rw[yw];exact qW) yF w1 (fun b hb=>by simp[storeCells,flat]) (by simp)
  ·simp only[dj,ba] at kZ;obtain⟨rfl,_,_⟩:=kZ;obtain⟨et,jr⟩:=yH;have yD:=run_storeCells_at (P:=P) (zAv x (lo*zz)).block ((zAv x (lo*zz)).off+n*zz) et (flat uys) 0 row w jr (by simpa using hrm) yQ;simp only[bQ] at yD;have gu:(zAv x (lo*zz)).add (n*zz)=⟨(zAv x (lo*zz)).block,(zAv x (lo*zz)).off+n*zz,none⟩:=by rw[zB4 rfl];rfl
   exact zEm (i:=i) ht uO hi (by rw[yw];exact qW) yF _ (fun b hb=>by cases hb;rw[yw,gu];exact yD) (by simp)
theorem zTT (S:St w0 U Φ0 nt hv a w e Φ rv E L) (hb:zBs E) {d:ON} (hd:∀ x,d=some x->x<nt) {t t2 ty:TypeId} {x y:Operand} (hx:zAZ nt x=true) (hy:zAZ nt y=true)
  (h:(zBB P d .append [t,t2] [x,y]).run o e=some e'):∃ v w',(Builtin.append_ #[t,t2] ty #[a.eval x,a.eval y]).run P w = .ok v w'/\Fr w0 U Φ0 nt hv (a.put d v) w' e':=by
 simp only[zBB] at h
 cases jX:(zB1 P t2).isNone with
 |true=>rw[jX] at h;cases h|false=>
 rw[jX] at h;simp only[cond_false] at h;have uO:∃ e2,P.underlying t2=some (.slice e2):=by
  cases he:zB1 P t2 with
  |none=>rw[he] at jX;cases jX|some e2=>exact⟨e2,zCI he⟩
 obtain⟨e2,uO⟩:=uO;split at h
 ·rename_i sz by_ z yI qU hzz;obtain⟨⟨hby16,kj⟩,h1⟩:=zDk h
  cases jH:zB1 P t with
  |none=>rw[jH] at yI;cases yI
  | some el =>
   rw[jH] at yI qU hzz;simp only[bc] at yI qU hzz;have ht:=zCI jH;obtain⟨i,hi,yw⟩:=zCu yI;have hib:i.bytes=by_:=by simp only[zIw,hi,bv,ba] at qU;exact qU
   obtain⟨i2,z0,uZ,ke,_,kd⟩:=zDN hzz;rw[hi] at uZ;cases uZ;have qX:z0.cells.size=sz:=by rw[(zCq (w:=w) (Φ:=Φ) (A:=zCm) kd).2.1,kj]
   obtain⟨p,h2,hp⟩:=zBw S hx h1;have S0:=S.hold (g:=zAa+2) (by omega) hp;obtain⟨e1,rv1,E1,L1,ys,uys,Ly,h3,S1,uP,km,qY,hLyg⟩:=zVm S0 (g:=zAa) (bf _) (by rw[zAe (show zAa≠zAa+2 by omega)];exact hb _ (bf _)) hy h2;obtain⟨⟨xb,xc,v8,yU⟩,jV,wU,kJ⟩:=km;simp only[zL1] at h3;obtain⟨hc,h4⟩:=zAP h3;simp only[bb] at hc;have kI:∀ q∈ys,q.cells.length=sz:=fun q hq=>by
    have:=bi.1 hc.1 q hq;simp only[bb] at this;exact bd this.1
   have uQ:=wU sz kI;have vb:uys.length=ys.length:=jV.length;have j7:=uP (zAa+2) (by omega) (by omega);rw[zAi,zAi,zAi] at j7;have uR:=S1.conf.rep (zAa+2);rw[j7.1,j7.2.1,j7.2.2] at uR;have ko:∀ s,zAa<=s->s≠zAa->s≠zAa+2->E1 s = .bad:=fun s hs h1 h2=>by rw[(uP s hs h1).1,zAe h2];exact hb s hs
   have yQ:∀ u∈flat uys,u.oneCell'=true:=zPW jV kJ fun q hq z hz=>by
    have:=bi.1 hc.1 q hq;simp only[bb] at this;exact bi.1 this.2 z hz
   have yp:∀ s,zAa+3<=s->E1 s = .bad:=fun s hs=>ko s (by omega) (by omega) (by omega);have gG:∀ t,w.drew.cell? t=w.cell? t:=fun t=>rfl;have hfd:=yU sz kI P w.drew gG;have qW:=yU sz kI P w (fun _=>rfl);rw[v8] at hfd qW;split at h4
   ·rename_i r pre zz lo n;obtain⟨q,hq,h5⟩:=zBP h4;split at h5
    ·rename_i s xs;obtain⟨jF,h6⟩:=zAP h5
     cases uf:beq (lo+n) xs.length with
     |false=>
      rw[uf] at h6;simp only[cond_false] at h6;simp only[bb] at jF;exact zOM S1 ko hd j7.1 j7.2.1 qW jV kI kJ (by rw[S1.env r uR.2.1];exact hq) (bd jF.1.1) ht uO hi yw v8 uf h6
     |true=>
     rw[uf] at h6;have h7:=h6;simp only[cond_true] at h7;obtain⟨hc4,h8⟩:=zAP h7;simp only[bb] at jF;have hs:=bd jF.1.1;have js:=br jF.2;have gv:=bd uf;have uJ:=bd hc4;subst hs;subst uJ;have vt:n=xs.length:=by omega
     subst vt;obtain⟨root,hl,hm,h9⟩:=zB3 h8;have hr:r<zAa:=uR.2.1;have yJ:=zBH hl;rw[yJ,<- S1.env r hr] at hq;rw[<- S1.env r hr] at yJ hm;obtain⟨kk1,kk2⟩:=zBU (q' := .bad) rfl rfl hm;obtain⟨nv,Li,g1,g2,g3,g4,g5⟩:=S1.taken (g:=zAa+1) (by omega) hr yJ hq rfl hm kk1 kk2;have jP:zBX (a.eval x) nv s 0 xs.length:=by
      obtain⟨_,_,_,hn⟩:=uR;obtain⟨s2,xs2,q1,q2,q3⟩:=hn nv _ (by rw[yJ];exact g1) rfl;cases q1;subst q2;exact q3
     obtain⟨L2,S2,vG⟩:=g5 _ nv Li g2 g3 (fun b hb=>.inl hb);have uh:∀ t,zAa+3<=t->upd (upd E1 r root) (zAa+1) (own s xs) t = .bad:=fun t ht=>by
      rw[zAe (by omega),zAe (by omega)];exact yp t ht
     have vc:∀ b∈Ly,b∈L2 zAa:=fun b hb=>by rw[vG zAa (bf _) (by omega)];exact hLyg b hb
     have hg1r:zAa+1≠r:=by omega
     have hLi2:Rep w Φ (zBa w (upd rv1 (zAa+1) nv) (upd (upd E1 r root) (zAa+1) (.own s xs))) (.own s xs) nv (L2 (zAa+1)):=by
      have:=S2.conf.rep (zAa+1);rwa[zAi,zAi] at this
     have hLiE:Li=L2 (zAa+1):=Rep.uniq _ _ _ _ g2 hLi2;obtain⟨q1,q2,q3⟩|⟨b,cap,c,us,M,q0,q1,q2,q3,q4,q5,q6,⟨q7,q7'⟩,q8,q9⟩:=g2
     ·
      subst q1;subst q3;have vJ:a.eval x = .slice none 0 0:=jP.1;rw[vJ,v8];by_cases hy0:ys.length=0
      ·have hyn:ys=[]:=bq hy0;subst hyn;have hun:uys=[]:=bq (by simpa using vb);subst hun;refine⟨_,w,zEm (i:=i) ht uO hi (by rw[yw];exact qW) (by simp) w (by simp) (fun _=>rfl),?_⟩;exact zAC (S2.clear.choose_spec.choose_spec.choose_spec.choose_spec.1) (S2.clear.choose_spec.choose_spec.choose_spec.choose_spec.2) hd h9 (v := .slice none (0+0) 0) (.inl ⟨rfl,rfl,rfl⟩)
      ·have yV:0+ys.length<=grownCap w (0+ys.length) 0 el:=grownCap_ge w _ _ _;refine⟨_,_,zGc (a:=none) (old:=[]) (news:=flat uys) ht uO hi ke (by rw[yw];exact run_firstCells_none _ _ _ _ _) (by rw[yw];exact hfd) (by omega) (by simp only[zAO,b7] at js;omega) (by omega),?_⟩;have:=S2.regrown uh hd (z:=z0) (el:=el) (sz:=s) (len:=0) (m:=ys.length) (xs:=[]) (us:=[]) (M:=[]) qX rfl vb rfl rfl (by simp) kI (by simp) uQ rfl kJ ⟨rfl,rfl⟩ jV yV (by simp) vc b8 qY (by simpa using h9);simpa[flat] using this
     ·have jG:us.length=xs.length:=by have:=congrArg length q7';simpa using this
      subst q1;simp only[zBX] at jP;have gw:zAv b (0*s)=b:=by cases b;simp_all[zAv]
      have qI:a.eval x = .slice (some b) xs.length cap:=by rw[jP.1,gw];rfl
      have gE:∀ t∈M,t∈L2 (zAa+1):=fun t ht=>by rw[<- hLiE,q0];simp[ht]
      have jS:b.block∈L2 (zAa+1):=by rw[<- hLiE,q0];simp
      have hMn:M.Nodup/\b.block∉M:=by rw[q0] at g3;exact⟨(cB.1 g3).2,(cB.1 g3).1⟩
      rw[qI,v8];by_cases yF:xs.length+ys.length<=cap
      ·
       have qP:(xs.length+ys.length)*s<=cap*s:=cY _ yF;rw[cS] at qP;have hful:(flat uys).length=ys.length*s:=by rw[zBr uQ,vb]
       have zM4:b.off+xs.length*s+(flat uys).length<=c.size:=by omega
       obtain⟨et,jr⟩:=q4;have yD:=run_storeCells_at (P:=P) b.block (b.off+xs.length*s) et (flat uys) 0 c w jr (by simpa using zM4) yQ;simp only[bQ] at yD;have gu:b.add (xs.length*s)=⟨b.block,b.off+xs.length*s,none⟩:=by rw[zB4 q2];rfl
       refine⟨_,_,zEm (i:=i) ht uO hi (by rw[yw];exact qW) yF (w.setRow b.block (zBk c (b.off+xs.length*s) (flat uys))) (fun b' yL=>by cases yL;rw[yw,gu];exact yD) (by simp),?_⟩;have yu:∀ t,t≠b.block->(w.setRow b.block (zBk c (b.off+xs.length*s) (flat uys))).heap[t]? = w.heap[t]?:=fun t ht=>setRow_other w _ t _ ht;have hΦ:zDq w (w.setRow b.block (zBk c (b.off+xs.length*s) (flat uys))) Φ Φ:=fun t ht=>⟨ht,yu t fun hc=>(S2.conf.own _ _ jS).2.1 (hc▸ht)⟩;refine S2.made uh hd (Lp:=b.block::(M++Ly)) (fun A=>?_) ?_ (fun t ht=>?_) (by rw[setRow_size];exact bf _) (fun t _ hn=>yu t fun hc=>hn (zAa+1) (by omega) (by omega) (hc▸jS)) ⟨rfl,rfl,rfl⟩ h9
       ·refine .inr ⟨b,cap,_,us++uys,M++Ly,rfl,by simp,q2,by simpa using yF,⟨et,setRow_heap w _ _ _ et _ jr⟩,?_,fun y hy=>?_,⟨fun u hu=>?_,by simp[q7',kJ]⟩,?_,?_⟩
        ·rw[zGO zM4];exact q5
        ·rcases bj.1 hy with h|h
         ·exact q6 y h
         ·exact kI y h
        ·rcases bj.1 hu with h|h
         ·exact q7 u h
         ·exact uQ u h
        ·rw[bu,cS,zC3,zHR (by omega) (by omega) (by omega),show b.off+xs.length*s-b.off=xs.length*s by omega,<- zQJ (by omega),q8];have:(seg c b.off (xs.length*s+ys.length*s)).drop (xs.length*s+(flat uys).length)=[]:=by
          apply fD;simp only[seg,cj];omega
         rw[this];simp
        ·exact(q9.mono hΦ (fun _ _ _ h=>h) fun t ht=>yu t fun hc=>hMn.2 (hc▸ht)).append (jV.mono hΦ (fun _ _ _ h=>h) fun t ht=>yu t fun hc=>S2.conf.disj (zAa+1) zAa (by omega) _ jS (hc▸vc t ht))
       ·refine cB.2 ⟨fun hm=>?_,?_⟩
        ·rcases bj.1 hm with hm|hm
         ·exact hMn.2 hm
         ·exact S2.conf.disj (zAa+1) zAa (by omega) _ jS (vc _ hm)
        ·rw[bK];exact⟨hMn.1,qY,fun t ht y hy e=>S2.conf.disj (zAa+1) zAa (by omega) t (gE t ht) (e▸vc y hy)⟩
       ·rcases bx.1 ht with rfl|ht
        ·exact .inl ⟨zAa+1,by omega,by omega,jS⟩
        ·rcases bj.1 ht with ht|ht
         ·exact .inl ⟨zAa+1,by omega,by omega,gE t ht⟩
         ·exact .inl ⟨zAa,by omega,by omega,vc t ht⟩
      ·have yV:xs.length+ys.length<=grownCap w (xs.length+ys.length) cap el:=grownCap_ge w _ _ _;have hold:=zI7 (n:=xs.length) (xc:=cap) q2 q4.any jG q7 q8 P w.drew gG;refine⟨_,_,zGc (a:=some b) (old:=flat us) (news:=flat uys) ht uO hi ke (by rw[yw];exact hold) (by rw[yw];exact hfd) yF (by simp only[zAO] at js;omega) (by omega),?_⟩;exact S2.regrown uh hd (z:=z0) (el:=el) (sz:=s) (len:=xs.length) (m:=ys.length) qX jG vb rfl rfl q6 kI q7 uQ q7' kJ q9 jV yV gE vc hMn.1 qY h9
    ·cases h5
   ·rename_i zz;obtain⟨js,h5⟩:=zAP h4;have js:=br js;have vJ:a.eval x = .slice none 0 0:=uR.1;rw[vJ,v8];by_cases hy0:ys.length=0
    ·have hyn:ys=[]:=bq hy0;subst hyn;have hun:uys=[]:=bq (by simpa using vb);subst hun;have hf:=yU sz (by simp) P w (fun _=>rfl);rw[v8] at hf;refine⟨_,w,zEm (i:=i) ht uO hi (by rw[yw];exact hf) (by simp) w (by simp) (fun _=>rfl),?_⟩;have:=zAC (S1.clear.choose_spec.choose_spec.choose_spec.choose_spec.1) (S1.clear.choose_spec.choose_spec.choose_spec.choose_spec.2) hd h5 (v := .slice none (0+0) 0) (.inl ⟨rfl,rfl,rfl⟩);exact this
    ·have hL1:L1 (zAa+1)=[]:=by
      have:=S1.conf.rep (zAa+1);rw[ko (zAa+1) (by omega) (by omega) (by omega)] at this;exact this
     have yV:0+ys.length<=grownCap w (0+ys.length) 0 el:=grownCap_ge w _ _ _;refine⟨_,_,zGc (a:=none) (old:=[]) (news:=flat uys) ht uO hi ke (by rw[yw];exact run_firstCells_none _ _ _ _ _) (by rw[yw];exact hfd) (by omega) (by simp only[zAO] at js;omega) (by omega),?_⟩;have:=S1.regrown yp hd (z:=z0) (el:=el) (sz:=sz) (len:=0) (m:=ys.length) (xs:=[]) (us:=[]) (M:=[]) qX rfl vb rfl rfl (by simp) kI (by simp) uQ rfl kJ ⟨rfl,rfl⟩ jV yV (by simp) hLyg b8 qY (by simpa using h5);simpa[flat] using this
   ·cases h4
 ·cases h
end
end Go.Eng
namespace Go.Eng
open Go
section
variable {P:Program} {w0 w:World} {U Φ0 Φ:Nat->Prop} {nt:Nat} {hv:Hid} {a:Act} {e e':Env} {rv:Nat->Value} {E:Nat->PV} {L:Nat->LN} {o:zAK}
theorem zQZ(S:St w0 U Φ0 nt hv a w e Φ rv E L)(hb:zBs E){d:ON}(hd:∀ x,d=some x->x<nt){t:TypeId}(h:(put d (.omap [])).run o e=some e') :
  ∃ v w',(Instr.makeMap t none).run P w = .ok v w'/\Fr w0 U Φ0 nt hv (a.put d v) w' e':=by
 refine⟨.map (some w.heap.size),{w with heap:=w.heap.push (.map #[] 0)},by simp[Instr.makeMap],?_⟩;refine S.made (p := .omap []) (v := .map (some w.heap.size)) (fun s hs=>hb s (by omega)) hd (Lp:=[w.heap.size]) (fun A=>⟨w.heap.size,#[],rfl,rfl,by simp,rfl⟩) (by simp) (fun b yL=>.inr ?_) (by simp) (fun b yL _=>?_) ⟨rfl,rfl,rfl⟩ h
 ·simp only[bk] at yL;subst yL;exact⟨bf _,by simp⟩
 ·show(w.heap.push _)[b]? = _
  rw[d8,if_neg (by omega)]
theorem zGC{z:Value}{s:Nat}(hz:z.cells.size=s){l k:Nat}{u:Value}(h:(flat (replicate l z))[k]? = some u):(madeCells z.cells (k+1))[k]? = some u:=by
 have yA:(flat (replicate l z)).length=l*s:=by
  rw[zBr (sz:=s) (fun u hu=>by rw[ce hu];exact hz)];simp
 have hk:k<l*s:=by rw[<- yA];exact(bg.1 h).1
 have hs:0<s:=Nat.pos_of_ne_zero fun h0=>by subst h0;simp at hk
 have hdm:k / s*s+k % s=k:=Nat.div_add_mod' k s;have hq:k / s<l:=Nat.div_lt_of_lt_mul (by rw [Nat.mul_comm];exact hk);have hr:k % s<s:=Nat.mod_lt _ hs;have hzc : z.cells.toList[k % s]? = some (z.cells[k % s]'(by omega)) := by simp
 have:=zEc (sz:=s) (us:=replicate l z) (fun u hu=>by rw[ce hu];exact hz) (i:=k / s) (c:=k % s) (x:=z) (by simp[hq]) hzc;rw[hdm,h] at this;simp only[ba] at this;subst this;simp[madeCells,hz,getElem!_pos,hr]
theorem zPb{z:Array Value}{n m k:Nat}(hk:k<n)(hm:k<m):(madeCells z n)[k]? = (madeCells z m)[k]?:=by
 simp[madeCells,hk,hm]
theorem zNx(S:St w0 U Φ0 nt hv a w e Φ rv E L)(hb:zBs E){d:ON}(hd:∀ x,d=some x->x<nt){t:TypeId}{l c:Operand}(hl:zAZ nt l=true)(hc:zAZ nt c=true)(h:(zFs P d t l c).run o e=some e') :
  ∃ v w',(Instr.makeSlice t (a.eval l) (a.eval c)).run P w = .ok v w'/\Fr w0 U Φ0 nt hv (a.put d v) w' e':=by
 obtain⟨p,h1,hp⟩:=zBw S hl h;obtain⟨kl,l,rfl,wV,h2⟩:=zEj h1;obtain⟨q,h3,hq⟩:=zBw S hc h2;obtain⟨kc,c,rfl,vq,h4⟩:=zEj h3;split at h4
 ·rename_i el jH;split at h4
  ·rename_i z s by_ hz hs qU;obtain⟨⟨gx,js,hb16,kj⟩,h5⟩:=zDk h4;obtain⟨i,zv,hi,hzv,_,kd⟩:=zDN hz;obtain⟨i2,uZ,ww⟩:=zCu hs;rw[hi] at uZ;cases uZ;have hib:i.bytes=by_:=by simp only[zIw,hi,bv,ba] at qU;exact qU
   have ht:=zCI jH;simp only[zAO] at js;have hbb:(i.bytes:Int)*c<=281474976710656:=by
    have h1:i.bytes*c.toNat<=16384*4294967296:=f7 (by omega) js;have h2:((i.bytes*c.toNat:Nat):Int)=(i.bytes:Int)*c:=by rw[Int.natCast_mul,d9 vq]
    omega
   have yC:=run_make (P:=P) w t el i zv ht hi hzv kl kc l c wV (by omega) hbb (by omega);obtain⟨vu,v6,kK,_⟩:=zCq (w:=w) (Φ:=Φ) (A:=zCm) kd;have vL:zv.cells.size=s:=by rw[v6,kj]
   rw[hp.1,hq.1];refine⟨_,_,yC,?_⟩;refine S.made (p := .own s (replicate l.toNat z)) (fun s hs=>hb s (by omega)) hd (Lp:=[w.heap.size]) (fun A=>?_) (by simp) (fun b yL=>.inr ?_) (by simp) (fun b yL _=>?_) ⟨rfl,rfl,rfl⟩ h5
   ·refine .inr ⟨⟨w.heap.size,0,none⟩,c.toNat,_,replicate l.toNat zv,[],rfl,by simp,rfl,by simpa using gx,⟨el,by show(w.heap.push _)[w.heap.size]? = _;simp;rfl⟩,?_,fun x hx=>?_,⟨fun u hu=>?_,?_⟩,?_,?_⟩
    ·rw[size_madeCells,ww];simp
    ·rw[ce hx];exact kj
    ·rw[ce hu];exact vL
    ·simp[kK]
    ·rw[dC];refine zGU ?_ fun k u hk=>?_
     ·rw[zBr (sz:=s) (fun u hu=>by rw[ce hu];exact vL)];simp
     ·have yA:(flat (replicate l.toNat zv)).length=l.toNat*s:=by
       rw[zBr (sz:=s) (fun u hu=>by rw[ce hu];exact vL)];simp
      have vd:k<l.toNat*s:=by rw[<- yA];exact(bg.1 hk).1
      have yS:l.toNat*s<=c.toNat*s:=cY _ gx;rw[dq,ww,zPb (m:=k+1) (by omega) (by omega)];exact zGC vL hk
    ·have key:∀ n,zA8 (w.alloc (.cells (madeCells zv.cells (c.toNat*i.size)) el)) Φ zCm (replicate n z) (replicate n zv) []:=by
      intro n
      induction n with
      |zero=>exact⟨rfl,rfl⟩|succ n ih=>
       exact⟨zv,_,[],[],rfl,rfl,(zCq kd).1,ih⟩
     exact key _
   ·simp only[bk] at yL;subst yL;exact⟨bf _,by show _<(w.heap.push _).size;simp⟩
   ·show(w.heap.push _)[b]? = _
    rw[d8,if_neg (by omega)]
  ·cases h4
 ·cases h4
theorem zJd(S:St w0 U Φ0 nt hv a w e Φ rv E L){x:Option Operand}(hx:∀ y,x=some y->zAZ nt y=true){n:Nat}{k:Nat->PM}(h:(zUp x n k).run o e=some e') :
  ∃ m,(k m).run o e=some e'/\((x=none/\m=n)\/∃ y ik z,x=some y/\a.eval y = .int ik z/\0<=z/\m=z.toNat):=by
 cases x with
 |none=>exact⟨n,h,.inl ⟨rfl,rfl⟩⟩|some y=>
  obtain⟨p,h1,h2⟩:=zBw S (hx y rfl) h;obtain⟨ik,z,rfl,hz,h3⟩:=zEj h1;exact⟨z.toNat,h3,.inr ⟨y,ik,z,rfl,h2.1,hz,rfl⟩⟩
theorem zE5{ik:IntKind}{z:Int}{y:Nat}{cd:BoundsCode}(h0:0<=z)(h:z.toNat<=y):(Instr.sliceBound (.int ik z) y cd).run P w = .ok z.toNat w:=by
 have:z<=y:=by omega
 simp[Instr.sliceBound,asIntOf,h0,this]
theorem zK0{isS:Bool}{len cap l h:Nat}{lo hi:Option Value}(hh:(hi=none/\h=len)\/∃ ik z,hi=some (.int ik z)/\0<=z/\h=z.toNat)(hl:(lo=none/\l=0)\/∃ ik z,lo=some (.int ik z)/\0<=z/\l=z.toNat)
  (hlh:l<=h) (hhc:hi≠none->h<=cap):(Instr.sliceBounds isS len cap lo hi none).run P w = .ok (l,h,cap) w:=by
 rcases hh with⟨rfl,rfl⟩|⟨ik,z,rfl,hz,rfl⟩
 ·simp only[Instr.sliceBounds,bo,bA,bh,dO,bp,if_false];rcases hl with⟨rfl,rfl⟩|⟨ik',z',rfl,hz',rfl⟩
  ·simp
  ·simp only[bo,zE5 hz' hlh,bh,bA]
 ·simp only[Instr.sliceBounds,bo,bA,bh,dO,bp,if_false];rw[zE5 hz (hhc (by simp))];simp only[bh];rcases hl with⟨rfl,rfl⟩|⟨ik',z',rfl,hz',rfl⟩
  ·simp
  ·simp only[bo,zE5 hz' hlh,bh,bA]
theorem zVb (S : St w0 U Φ0 nt hv a w e Φ rv E L) (hb:zBs E) {d:ON} (hd:∀ x,d=some x->x<nt) {t:TypeId} {x:Operand} {lo hi mx:Option Operand} (hx:zAZ nt x=true) (uJ:∀ y,lo=some y->zAZ nt y=true) (hhi:∀ y,hi=some y->zAZ nt y=true) (hmx:∀ y,mx=some y->zAZ nt y=true)
  (h:(zJ6 P d t x lo hi mx).run o e=some e'):∃ v,(Instr.sliceAt t (a.eval x) (lo.map a.eval) (hi.map a.eval) (mx.map a.eval)).run P w = .ok v w/\Fr w0 U Φ0 nt hv (a.put d v) w e':=by
 cases mx with
 | some m =>
  simp only[zJ6] at h;obtain⟨p,h1,hp⟩:=zBw S hx h;split at h1
  ·rename_i r pre z a0 n el ht;obtain⟨s,hs,h2⟩:=zBJ h1;obtain⟨ti,jT,yI⟩:=zCu hs;obtain⟨mm,h3,h4⟩:=zJd S hmx h2;obtain⟨_,hg,⟨b,cap,yK,yV,wv,uE⟩,wt⟩:=hp;rcases h4 with⟨h4,_⟩|⟨ym,ikm,zm,hym,hem,hzm,rfl⟩
   ·cases h4
   cases hym
   cases hi with
   |none=>cases h3|some hi=>
    obtain⟨hm,h5,h6⟩:=zJd S hhi h3;rcases h6 with⟨h6,_⟩|⟨yh,ikh,zh,hyh,heh,hzh,rfl⟩
    ·cases h6
    cases hyh;obtain⟨lm,h7,h8⟩:=zJd S uJ h5;obtain⟨hc,h9⟩:=zAP h7;simp only[bb] at hc;have c1:=br hc.1.1;have c2:=br hc.1.2;have c3:=br hc.2;refine⟨_,?_,zAC S hb hd h9 (p := .bad) (v := .slice (if zm.toNat=lm then b else b.map (·.add (lm*ti.size))) (zh.toNat-lm) (zm.toNat-lm)) rfl⟩;rw[yK];simp only[Instr.sliceAt,Instr.slice,bo,run_underlying ht,bh,bv,hem,heh,Instr.sliceBounds,zE5 hzm (show zm.toNat<=cap by omega),zE5 hzh c2];rcases h8 with⟨rfl,rfl⟩|⟨yl,ikl,zl,rfl,jH,kj,rfl⟩
    ·simp only[fT,bA,bh,zA7 jT,bo]
    ·simp only[bv,jH,zE5 kj c1,bA,bh,zA7 jT,bo]
  ·cases h1
 | none =>
  simp only[zJ6] at h;obtain⟨p,h1,hp⟩:=zBw S hx h;have low:∀ {m:Nat},((lo=none/\m=0)\/∃ y ik z,lo=some y/\a.eval y = .int ik z/\0<=z/\m=z.toNat)->(lo.map a.eval=none/\m=0)\/∃ ik z,lo.map a.eval=some (.int ik z)/\0<=z/\m=z.toNat:=by
   rintro m (⟨rfl,rfl⟩|⟨y,ik,z,rfl,h2,h3,h4⟩)
   ·exact .inl ⟨rfl,rfl⟩
   ·exact .inr ⟨ik,z,by simp[h2],h3,h4⟩
  have hgh:∀ {m n:Nat},((hi=none/\m=n)\/∃ y ik z,hi=some y/\a.eval y = .int ik z/\0<=z/\m=z.toNat)->(hi.map a.eval=none/\m=n)\/∃ ik z,hi.map a.eval=some (.int ik z)/\0<=z/\m=z.toNat:=by
   rintro m n (⟨rfl,rfl⟩|⟨y,ik,z,rfl,h2,h3,h4⟩)
   ·exact .inl ⟨rfl,rfl⟩
   ·exact .inr ⟨ik,z,by simp[h2],h3,h4⟩
  split at h1
  ·
   rename_i n el ht;split at h1
   ·rename_i s sh hs jg;obtain⟨hm,h2,h3⟩:=zJd S hhi h1;obtain⟨lm,h4,h5⟩:=zJd S uJ h2;obtain⟨hc,h6⟩:=zAP h4;simp only[bb,bW] at hc;obtain⟨⟨c1,c2⟩,c3⟩:=hc;have c1:=br c1;have c2:=br c2;obtain⟨ti,jT,yI⟩:=zCu hs;have hbnd:=zK0 (P:=P) (w:=w) (isS:=false) (len:=n) (cap:=n) (hgh h3) (low h5) c1 (fun _=>c2);have uM:∀ b:Addr,b.spot=none->(if n=lm then b else b.add (lm*ti.size))=zAv b (lm*s):=by
     intro b yd;split
     ·rename_i hnl;have wV:lm=0:=by
       rcases c3 with c3|c3
       ·exact bd c3
       ·have:=zCe c3;omega
      rw[wV];cases b;simp_all[zAv]
     ·rw[zB4 yd,yI]
    split at h6
    ·rename_i r pre i c s';obtain⟨_,hg,b,ya,yd,hn⟩:=hp;refine⟨.slice (some (zAv b (lm*s))) (hm-lm) (n-lm),?_,zAC S hb hd h6 ⟨rfl,hg,zAv b (lm*s),n-lm,rfl,by omega,rfl,fun nv np hf a' kf=>?_⟩⟩
     ·rw[ya];simp only[Instr.sliceAt,bo,run_underlying ht,bh,Instr.sureAddr,bA,fT];rw[hbnd];simp only[bh,zA7 jT,bo,bA];rw[uM b yd]
     ·have key:∃ a0,zBd nv np i c=some a0/\a'=zAv a0 (lm*s):=by
       cases np<;>try (simp[zBd] at kf;done)
       ·cases nv with
        |slice x _ _=>
         cases x with
         |none=>cases kf|some x=>simp only[zBd] at kf ⊢;cases kf;exact⟨_,rfl,by simp[zAv,cg]⟩
        |pointer x=>cases x<;>cases kf
        |_=>cases kf
       ·cases nv with
        |pointer x=>
         cases x with
         |none=>cases i<;>cases kf
         |some x=>cases i<;>simp only[zBd] at kf ⊢ <;> cases kf;exact⟨_,rfl,by simp[zAv,cg]⟩
        |slice x _ _=>cases x<;>cases kf
        |_=>cases kf
      obtain⟨a0,k1,k2⟩:=key;rw[k2,hn nv np hf a0 k1]
    ·rename_i cs;obtain⟨hc4,h7⟩:=zAP h6;simp only[bb,zCt] at hc4;obtain⟨⟨c4,⟨c5,c6⟩⟩,c7⟩:=hc4;have c4:=br c4;have c5:=bd c5;obtain⟨_,b,c,u,ya,yd,hΦ,yH,jL,⟨jG,jj⟩,hr⟩:=hp;obtain⟨vs,rfl,hr⟩:=hr;have kH:=hr.length;have vu:zA8 w Φ zCm cs vs.toList []:=hr.ways _ _ _ fun a v hw hx ha=>by
      have h0:zBx cs=[]:=by simpa using c7
      rw[h0] at hx;have h1:=zJn hw ha
      cases vB:a.ways with
      |nil=>exact absurd vB h1|cons z zs=>have:=hx z (by rw[vB];simp);cases this
     obtain⟨us',q1,q2,q3,q4,q5⟩:=zGp (ag:=sh.isSome) (sz:=s) (fun a v _ h=>h.elim) (hm-lm) _ _ c5 (fun jj=>by
      simp only[jj,ci,bb] at c6;exact⟨bd c6.1,fun q hq=>bi.1 c6.2 q hq⟩) (zB2 vu (lm*s) ((hm-lm)*s))
     have yN:=zEf sh.isSome s (hm-lm) ((cs.drop (lm*s)).take ((hm-lm)*s));refine⟨.slice (some (zAv b (lm*s))) (hm-lm) (n-lm),?_,zAC S hb hd h7 ?_⟩
     ·rw[ya];simp only[Instr.sliceAt,bo,run_underlying ht,bh,Instr.sureAddr,bA,fT];rw[hbnd];simp only[bh,zA7 jT,bo,bA];rw[uM b yd]
     ·by_cases gy:hm-lm=0
      ·rw[gy];exact⟨rfl,.inl ⟨rfl,_,_,rfl,fun h=>by cases h⟩⟩
      ·refine⟨rfl,.inr ⟨zAv b (lm*s),n-lm,c,us',s,by rw[yN],rfl,by rw[yN];omega,hΦ,yH,q5,⟨q3,q4⟩,?_,q1⟩⟩;rw[yN,q2];simp only[PV.cells,Value.cells] at jL kH;refine zGU (by simp at c5 kH ⊢;omega) fun k y hk=>?_;simp only[cu,ck] at hk;split at hk
       ·have:(seg c b.off cs.length)[lm*s+k]? = some y:=by rw[jL];exact hk
        have:=zDj this;simp only[zAv,cg];exact this
       ·cases hk
    ·cases h6
   ·cases h1
  ·
   rename_i el ht;split at h1
   ·rename_i s n hs hn;obtain⟨hm,h2,h3⟩:=zJd S hhi h1;obtain⟨lm,h4,h5⟩:=zJd S uJ h2;obtain⟨ti,jT,yI⟩:=zCu hs;have yC:∀ (b:Option Addr) (cap:Nat),a.eval x = .slice b n cap->lm<=hm->hm<=cap->(Instr.sliceAt t (a.eval x) (lo.map a.eval) (hi.map a.eval) (Option.map a.eval none)).run P w = .ok (.slice (if cap=lm then b else b.map (·.add (lm*ti.size))) (hm-lm) (cap-lm)) w:=by
     intro b cap yK k1 k2;rw[yK];simp only[Instr.sliceAt,Instr.slice,bo,run_underlying ht,bh,fT];rw[zK0 (hgh h3) (low h5) k1 (fun _=>k2)];simp only[bh,zA7 jT,bo,bA]
    cases p<;>simp only[zPo] at h4<;>try (cases h4;done)
    case sl xs=>
     simp only[lenOf,ba] at hn;obtain⟨hc,h6⟩:=zAP h4;simp only[bb] at hc;obtain⟨⟨c1,c2⟩,c3⟩:=hc;have c1:=br c1;have c2:=br c2;obtain⟨_,⟨rfl,b,n',yK,wv⟩|⟨b,n',c,us,sz,yK,yd,yS,hΦ,yH,j6,⟨uA,qF⟩,jL,hr⟩⟩:=hp
     ·have gy:hm=0:=by simpa using c2
      have wV:lm=0:=by omega
      subst gy;subst wV;refine⟨_,yC b n' (by rw[yK,<- hn];rfl) (bf _) (bN _),zAC S hb hd h6 ?_⟩;simp only[List.drop_nil,List.take_nil];exact⟨rfl,.inl ⟨rfl,_,_,rfl,fun h=>by
       have gw:b=none:=by cases b<;>first|rfl|(split at h<;>cases h)
       rw[wv gw]⟩⟩
     ·refine⟨_,yC (some b) n' (by rw[yK,<- hn]) c1 (by omega),zAC S hb hd h6 ?_⟩;have yA:((xs.drop lm).take (hm-lm)).length=hm-lm:=by simp;omega
      by_cases gy:hm-lm=0
      ·have:(xs.drop lm).take (hm-lm)=[]:=bq (by rw[yA,gy]);rw[this,gy];exact⟨rfl,.inl ⟨rfl,_,_,rfl,fun h=>by split at h<;>cases h⟩⟩
      ·have jG:us.length=xs.length:=by have:=congrArg length qF;simpa using this
       have hx0:∃ x,x∈xs:=by
        cases xs with
        |nil=>simp at c2;omega|cons x _=>exact⟨x,by simp⟩
       obtain⟨x0,hx0⟩:=hx0;have ui:sz=s:=by
        have:=bd (bi.1 c3 x0 hx0);rw[<- j6 x0 hx0,this]
       subst ui;rw[if_neg (by omega)];simp only[bv];rw[zB4 yd,yI];refine⟨rfl,.inr ⟨zAv b (lm*sz),n'-lm,c,(us.drop lm).take (hm-lm),sz,by rw[yA],rfl,by rw[yA];omega,hΦ,yH,fun y hy=>j6 y (cz (cJ hy)),⟨fun u hu=>uA u (cz (cJ hu)),zA8.map_isAgg qF lm (hm-lm)⟩,?_,zB2 hr lm (hm-lm)⟩⟩;rw[yA];exact zIL uA jG jL (by omega)
    case bor r pre z a0 n0 =>
     simp only [lenOf,ba] at hn;subst hn;obtain ⟨hc,h6⟩:=zAP h4;simp only [bb] at hc;have vL:=bd hc.1;have c1:=br hc.2;subst vL;obtain ⟨_,hg,⟨b,cap,yK,yV,wv,uE⟩,wt⟩:=hp;have go : hm<=cap->(put d (bif beq lm 0||blt lm hm then .bor r pre z (a0+lm) (hm-lm) else .sl [])).run o e=some e'->∃ v,(Instr.sliceAt t (a.eval x) (lo.map a.eval) (hi.map a.eval) (Option.map a.eval none)).run P w = .ok v w/\Fr w0 U Φ0 nt hv (a.put d v) w e':=by
      intro k1 h6;refine⟨_,yC b cap yK c1 k1,zAC S hb hd h6 ?_⟩
      cases kB:(beq lm 0||blt lm hm) with
      | false =>
       simp only[cI] at kB;have:¬ lm<hm:=fun yG=>by rw[show blt lm hm=true from cU yG] at kB;exact absurd kB.2 (by simp)
       have:hm-lm=0:=by omega
       rw[this];exact⟨rfl,.inl ⟨rfl,_,_,rfl,fun h=>by
        have gw:b=none:=by cases b<;>first|rfl|(split at h<;>cases h)
        have:=wv gw;omega⟩⟩
      | true =>
       simp only[cond_true];have jt:lm=0\/lm<hm:=by
        simp only[bW] at kB;rcases kB with h|h
        ·exact .inl (bd h)
        ·exact .inr (zCe h)
       have uM:(if cap=lm then b else b.map (·.add (lm*ti.size)))=b.map (fun y=>zAv y (lm*z)):=by
        cases b with
        |none=>simp
        | some y =>
         have hy:=uE y rfl;simp only[bv];split
         ·have wV:lm=0:=by omega
          subst wV;cases y;simp_all[zAv]
         ·rw[zB4 hy,yI]
       rw[uM];refine⟨rfl,hg,⟨_,cap-lm,rfl,by omega,fun gw=>?_,fun y hy=>?_⟩,fun nv np hf hh=>?_⟩
       ·have:b=none:=by cases b<;>first|rfl|cases gw
        have:=wv this;omega
       ·cases b with
        |none=>cases hy|some y0=>simp only[bv,ba] at hy;rw[<- hy];rfl
       ·obtain⟨sz2,xs2,g1,g2,g3⟩:=wt nv np hf hh;refine⟨sz2,xs2,g1,g2,?_⟩;subst g2;rw[yK] at g3;cases nv<;>simp only[zBX] at g3;rename_i y l c
        cases y with
        |none=>
         simp only[zBX,dj] at g3 ⊢;obtain⟨⟨k2,k3,k4⟩,k5⟩:=g3;subst k2;refine⟨⟨rfl,by omega,by omega⟩,by omega⟩
        |some y=>
         simp only[zBX,dj] at g3 ⊢;obtain⟨⟨k2,_,k4⟩,k5⟩:=g3;subst k2;refine⟨⟨?_,trivial,by omega⟩,by omega⟩;simp[zAv,cS,cg]
     cases gz:ble hm n0 with
     |true=>
      rw[gz] at h6;exact go (bB (br gz) yV) h6
     | false =>
      rw[gz] at h6;simp only[cond_false] at h6;obtain⟨q,hq,h7⟩:=zBP h6;split at h7
      ·rename_i sz2 xs2;obtain⟨yS,h8⟩:=zAP h7;have yS:=br yS;refine go ?_ h8;rw[<- S.env r hg] at hq;obtain⟨nv,Li,hf,_,hZ⟩:=zBS (zB9 (S.conf.rep r)) hq;obtain⟨sz3,xs3,g1,g2,g3⟩:=wt nv _ hf rfl;cases g1;subst g2;rw[yK] at g3;obtain⟨q1,_,q3⟩|⟨y,m,c,us,M,_,q1,_,q3,_⟩:=hZ
       ·subst q1;simp at yS;omega
       ·subst q1;simp only[zBX,dj] at g3;omega
      ·cases h7
   ·cases h1
  ·cases h1
end
end Go.Eng
namespace Go.Eng
open Go
section
variable {w w':World} {Φ Φ':Nat->Prop}
mutual
theorem Rep.free{A A':Al}:∀ (p:PV) (v:Value) (L:LN),p.free=true->Rep w Φ A p v L->Rep w Φ' A' p v L
 |.int ..,_,_,_,h=>h|.bool _,_,_,_,h=>h|.nilp,_,_,_,h=>h|.nilf,_,_,_,h=>h|.nilm,_,_,_,h=>h|.nn,_,_,_,h=>h|.nils _,_,_,_,h=>h|.und,_,_,_,h=>h|.sl [],v,L,_,h=>by
  obtain⟨h0,⟨_,a,n,h1⟩|⟨a,n,c,us,sz,h1,_⟩⟩:=h
  ·exact⟨h0,.inl ⟨rfl,a,n,h1⟩⟩
  ·exact⟨h0,.inl ⟨rfl,_,n,h1,fun h=>by cases h⟩⟩
 |.sl (_::_),_,_,hf,_=>by cases hf|.agg cs,v,L,hf,h=>by
  obtain⟨vs,rfl,h⟩:=h;exact⟨vs,rfl,zA8.free cs _ L hf h⟩
 |.tup cs,v,L,hf,h=>by
  obtain⟨vs,rfl,h⟩:=h;exact⟨vs,rfl,zA8.free cs _ L hf h⟩
 |.own sz xs,v,L,hf,h=>by
  obtain h|⟨a,n,c,us,L',h0,h1,h2,h3,h4,h5,h6,h7,h8,h9⟩:=h
  ·exact .inl h
  ·exact .inr ⟨a,n,c,us,L',h0,h1,h2,h3,h4,h5,h6,h7,h8,zA8.free xs us L' hf h9⟩
 |.box q,v,L,hf,h=>by
  obtain⟨a,c,u,L',h0,h1,h2,h4,h5,h6,h7⟩:=h;exact⟨a,c,u,L',h0,h1,h2,h4,h5,h6,Rep.free q u L' hf h7⟩
 |.omap es,v,L,hf,h=>by
  obtain⟨b,ents,h0,h1,h3,h4⟩:=h;exact⟨b,ents,h0,h1,h3,zD5.free es _ 0 hf h4⟩
 |.bad,_,_,hf,_=>by cases hf|.ref _,_,_,hf,_=>by cases hf|.map _,_,_,hf,_=>by cases hf|.func ..,_,_,hf,_=>by cases hf|.addr ..,_,_,hf,_=>by cases hf|.bor ..,_,_,hf,_=>by cases hf|.bsl ..,_,_,hf,_=>by cases hf|.bmap ..,_,_,hf,_=>by cases hf|.lock _,_,_,hf,_=>by cases hf|.yld _,_,_,hf,_=>by cases hf|.log ..,_,_,hf,_=>by cases hf
theorem zA8.free{A A':Al}:∀ (ps:List PV) (vs:List Value) (L:LN),zD1 ps=true->zA8 w Φ A ps vs L->zA8 w Φ' A' ps vs L
 |[],_,_,_,h=>h|p::ps,vs,L,hf,h=>by
  simp only[zD1,bb] at hf;obtain⟨v,vs',L1,L2,h0,h1,h2,h3⟩:=h;exact⟨v,vs',L1,L2,h0,h1,Rep.free p v L1 hf.1 h2,zA8.free ps vs' L2 hf.2 h3⟩
theorem zD5.free:∀ (es:List (PV×PV)) (ms:List MapEntry) (i:Nat),zPm es=true->zD5 w Φ es ms i->zD5 w Φ' es ms i
 |[],_,_,_,h=>h|(k,p)::es,ms,i,hf,h=>by
  simp only[zPm,bb] at hf;obtain⟨m,ms',h0,h1,h2,h3,h4⟩:=h;exact⟨m,ms',h0,h1,Rep.free k _ [] hf.1.1 h2,Rep.free p _ [] hf.1.2 h3,zD5.free es ms' (i+1) hf.2 h4⟩
end
end
theorem zC5(m:List (Nat×Nat)):Tame (zEA m):=by
 constructor
 ·intro p;cases p<;>simp only[zEA]<;>first|rfl|(split<;>rfl)
 ·intro p hp;cases p<;>first|(cases hp;done)|skip
  all_goals
   simp only[zEA]
   first|rfl|(split<;>rfl)
section
variable {w w':World} {rv rv':Nat->Value} {E E':Nat->PV}
theorem zNk{m:List (Nat×Nat)}{Φ:Nat->Prop}{a:PV}{v:Value}(ha:zBa w rv E a v)
  (h:∀ r h',m.lookup r=some h'->r<zAa->h'<zAa/\∀ pre nv np,zA1 w' (rv' h') (E' h').unlock pre=some (nv,np)->np.heavy0=true->∃ np0,zA1 w (rv r) (E r).unlock pre=some (nv,np0)/\zCr np0 np) :
  Rep w' Φ (zBa w' rv' E') (zEA m a) v []:=by
 have hr:=zC7 ha;have key:∀ nv np i c a',zBd nv np i c=some a'->np.heavy0=true:=by
  intro nv np i c a' h;cases np<;>first|rfl|(simp[zBd] at h)
 cases a<;>simp only[zEA]<;>try (exact ha.elim)
 case addr r pre i c sh=>
  cases hm:m.lookup r with
  |none=>rfl|some h'=>
   obtain⟨h1,h2⟩:=h r h' hm hr;obtain⟨_,b,h3,h4,h5⟩:=ha;refine⟨rfl,h1,b,h3,h4,fun nv np hn a' kf=>?_⟩;obtain⟨np0,h6,h7⟩:=h2 pre nv np hn (key _ _ _ _ _ kf);exact h5 nv np0 h6 a' (by rw[zEH h7];exact kf)
 case bor r pre z lo n=>
  cases hm:m.lookup r with
  |none=>rfl|some h'=>
   obtain⟨h1,h2⟩:=h r h' hm hr;obtain⟨_,h3,h5⟩:=ha;refine⟨rfl,h1,h3,fun nv np hn hh=>?_⟩;obtain⟨np0,h6,h7⟩:=h2 pre nv np hn hh;obtain⟨sz,xs,g1,g2,g3⟩:=h5 nv np0 h6 (zDX h7);subst g1;cases np<;>simp only[zCr] at h7;subst h7;exact⟨_,_,rfl,g2,g3⟩
 case bsl r pre i c sz ag n=>
  cases hm:m.lookup r with
  |none=>rfl|some h'=>
   obtain⟨h1,h2⟩:=h r h' hm hr;obtain⟨_,b,cap,h3,wk,h4,h5⟩:=ha;refine⟨rfl,h1,b,cap,h3,wk,h4,fun nv np hn a' kf=>?_⟩;obtain⟨np0,h6,h7⟩:=h2 pre nv np hn (key _ _ _ _ _ kf);exact h5 nv np0 h6 a' (by rw[zEH h7];exact kf)
 case bmap r pre=>
  cases hm:m.lookup r with
  |none=>rfl|some h'=>
   obtain⟨h1,h2⟩:=h r h' hm hr;obtain⟨_,h3,h5⟩:=ha;refine⟨rfl,h1,h3,fun nv np hn es he=>?_⟩;subst he;obtain⟨np0,h6,h7⟩:=h2 pre nv _ hn rfl;cases np0<;>simp only[zCr] at h7;exact h5 nv _ h6 _ rfl
end
theorem zH5{f:Nat->Nat->Nat×Nat}:∀ (R:LN) (k x y:Nat),((R.zipIdx k).map fun p=>f p.1 p.2).lookup x=some y->∃ j r,R[j]? = some r/\f r (k+j)=(x,y)
 |[],k,x,y,h=>by simp at h
 | r :: R,k,x,y,h=>by
  simp only[fM,bL] at h
  cases hf:f r k with
  | mk p1 p2 =>
   rw[hf,List.lookup_cons] at h;by_cases hx:x=p1
   ·have:(x==p1)=true:=by simp[hx]
    rw[this] at h;simp only[ba] at h;exact⟨0,r,rfl,by rw[bQ,hf,hx,h]⟩
   ·have:(x==p1)=false:=by simp[hx]
    rw[this] at h;obtain⟨j,r',h1,h2⟩:=zH5 R (k+1) x y h;exact⟨j+1,r',by simpa using h1,by rw[show k+(j+1)=k+1+j by omega];exact h2⟩
theorem zNy{R:LN}{r h:Nat}(hl:(zDE R).lookup r=some h):∃ j,R[j]? = some r/\h=zAk+j:=by
 obtain⟨j,r',h1,h2⟩:=zH5 (f:=fun r j=>(r,zAk+j)) R 0 r h hl;simp only[dq,bz] at h2;exact⟨j,h2.1▸h1,h2.2.symm⟩
theorem zOc{R:LN}{h r:Nat}(hl:(zCo R).lookup h=some r):∃ j,R[j]? = some r/\h=zAk+j:=by
 obtain⟨j,r',h1,h2⟩:=zH5 (f:=fun r j=>(zAk+j,r)) R 0 h r hl;simp only[dq,bz] at h2;exact⟨j,h2.2▸h1,h2.1.symm⟩
theorem zGz:∀ {R:LN},zHL R=true->R.Nodup
 |[],_=>b8|r::R,h=>by
  simp only[zHL,bb,bG] at h;exact cB.2 ⟨fun hm=>by have:=dp.2 hm;rw[this] at h;exact absurd h.1 (by simp),zGz h.2⟩
section
variable {o:zAK} {e e':Env}
theorem zJI:∀ {R:LN} {k:List PV->PM},(zOB R k).run o e=some e'->(∀ r∈R,(e.get r).isLock=false)/\(k (R.map e.get)).run o e=some e'
 |[],k,h=>⟨by simp,h⟩
 | r :: R,k,h=>by
  simp only[zOB,PM.run] at h;split at h
  ·cases h
  ·rename_i p hp;obtain⟨h1,h2⟩:=zJI h;refine⟨fun x hx=>?_,h2⟩;rcases bx.1 hx with rfl|hx
   ·cases hl:(e.get x)<;>first|rfl|exact absurd hl (hp _)
   ·exact h1 x hx
theorem zLz:∀ {n:Nat} {R:LN} {k:LN->PM},(zLh n R k).run o e=some e'->∃ R',(k R').run o e=some e'
 |0,R,k,h=>⟨R,h⟩|n+1,R,k,h=>by
  simp only[zLh] at h;obtain⟨_,h1⟩:=zJI h;revert h1
  cases beq _ _ with
  |true=>exact fun h=>⟨_,h⟩
  |false=>exact fun h=>zLz h
def zDO:LN->PV->PV
 |[],a=>a|r::R,a=>if (zBV r [] a).isWay=true then zDO R a else zBV r [] a
theorem zHD(r:Nat)(p:PV):zBV r [] p=p\/(p.isWay=true/\zBV r [] p = .bad):=by
 cases p<;>first|exact .inl rfl|skip
 all_goals
  simp only[zBV,PV.isWay,true_and];cases (beq _ r&&_)<;>simp
theorem zJV:∀ (R:LN) (p:PV),zDO R p=p\/(p.isWay=true/\zDO R p = .bad)
 |[],p=>.inl rfl|r::R,p=>by
  simp only[zDO];split
  ·exact zJV R p
  ·exact zHD r p
theorem zLw{k:PM}:∀ {R:LN} {e:Env},(zKT R k).run o e=some e'->∃ e1,k.run o e1=some e'/\∀ s,e1.get s=(e.get s).mapW (zDO R)
 |[],e,h=>⟨e,h,fun s=>by rw[show zDO []=fun x=>x from rfl,zBl]⟩
 |r::R,e,h=>by
  simp only[zKT,PM.run] at h;obtain⟨e1,h1,h2⟩:=zLw h;refine⟨e1,h1,fun s=>?_⟩;rw[h2 s,Env.get_killEx,zEZ];refine zDC (fun a ha=>?_) _;simp only[zDO];rcases zHD r a with h3|⟨_,h3⟩
  ·rw[h3,if_pos ha,zGf ha]
  ·rw[h3];rfl
theorem zZj{pre:zA4}{y:PV}(hI:bad≠y)(h:(bif !pre.isEmpty then bad else y)=y):pre=[]:=by
 cases pre with
 |nil=>rfl|cons x xs=>exact absurd h hI
theorem zKq:∀ {R:LN} {a:PV},a.isWay=true->zDO R a=a->(∀ k,a ≠ .yld k)->(∀ xs k,a ≠ .log xs k)->(zBc a).1∈R->(zBc a).2=[]
 |[],_,_,_,_,_,h=>by cases h
 | r :: R,a,ha,hk,hy,hl,hm=>by
  simp only[zDO] at hk;by_cases hr:(zBc a).1=r
  ·have uJ:zBV r [] a=a:=by
    rcases zHD r a with h3|⟨_,h3⟩
    ·exact h3
    ·rw[h3] at hk;simp only[PV.isWay,bp,if_false] at hk;rw[<- hk] at ha;cases ha
   cases a<;>first|(cases ha;done)|(exact absurd rfl (hy _))|(exact absurd rfl (hl _ _))|skip
   all_goals
    simp only[zBc] at hr ⊢;subst hr;simp only[zBV,cN,cy,List.any_nil,iO] at uJ;exact zZj (by simp) uJ
  ·have hm':(zBc a).1∈R:=(bx.1 hm).resolve_left hr;rcases zHD r a with h3|⟨_,h3⟩
   ·rw[h3,if_pos ha] at hk;exact zKq ha hk hy hl hm'
   ·rw[h3] at hk;simp only[PV.isWay,bp,if_false] at hk;rw[<- hk] at ha;cases ha
theorem zMP{k:PM}:∀ {R:LN} {os ps:List PV} {e:Env},R.Nodup->(zOp R os ps k).run o e=some e'->∃ e1,k.run o e1=some e'/\ps.length=R.length/\os.length=R.length/\(∀ (j:Nat) (x y:PV),os[j]? = some x->ps[j]? = some y->zGA x y=true) /\
   (∀ s,s∉R->e1.get s=e.get s)/\∀ (j r:Nat) (p:PV),R[j]? = some r->ps[j]? = some p->e1.get r=p
 |[],os,ps,e,hn,h=>by
  cases os<;>cases ps<;>simp only[zOp] at h<;>try (cases h;done)
  exact⟨e,h,rfl,rfl,by simp,fun _ _=>rfl,by simp⟩
 | r :: R,os,ps,e,hn,h=>by
  cases os<;>cases ps<;>simp only[zOp] at h<;>try (cases h;done)
  rename_i x os y ps;obtain⟨h1,h2⟩:=zAP h;obtain⟨root,_,hm,h3⟩:=zB3 h2;simp only[zAz,ba] at hm;subst hm;obtain⟨hnr,hnR⟩:=cB.1 hn;obtain⟨e1,g1,g2,g3,g4,g5,g6⟩:=zMP hnR h3;refine⟨e1,g1,by simp[g2],by simp[g3],fun j x' y' hx hy=>?_,fun s hs=>?_,fun j r' p hr hp=>?_⟩
  ·cases j with
   |zero=>simp at hx hy;subst hx;subst hy;exact h1|succ j=>exact g4 j x' y' (by simpa using hx) (by simpa using hy)
  ·simp only[bx,not_or] at hs;rw[g5 s hs.2,Env.get_set,if_neg hs.1]
  ·cases j with
   |zero=>
    simp at hr hp;subst hr;subst hp;rw[g5 _ hnr,Env.get_set,if_pos rfl]
   |succ j=>exact g6 j r' p (by simpa using hr) (by simpa using hp)
theorem zOL(k:Nat):∀ (ps:List PV) (i:Nat) (s:Nat),Env.get ((ps.zipIdx i).map fun x=>(k+x.2,x.1)) s=if k+i<=s/\s<k+i+ps.length then ps.getD (s-k-i) .bad else .bad
 |[],i,s=>by simp[Env.get]
 | p :: ps,i,s=>by
  simp only[fM,bL,Env.get,zOL k ps (i+1) s];by_cases h:s=k+i
  ·subst h;simp
  ·have:beq (k+i) s=false:=by
    cases hb:beq (k+i) s with
    |false=>rfl|true=>exact absurd (bd hb).symm h
   rw[this,cond_false];by_cases h2:k+i<=s/\s<k+i+(p::ps).length
   ·have h3:k+(i+1)<=s/\s<k+(i+1)+ps.length:=by simp at h2;omega
    rw[if_pos h2,if_pos h3];have e1:s-k-i=(s-k-(i+1))+1:=by omega
    rw[e1];simp
   ·have h3:¬ (k+(i+1)<=s/\s<k+(i+1)+ps.length):=by simp at h2 ⊢;omega
    rw[if_neg h2,if_neg h3]
theorem zQL(a b:Env)(s:Nat):Env.get (a++b) s=bif a.any (fun x=>beq x.1 s) then Env.get a s else Env.get b s:=by
 induction a with
 |nil=>rfl|cons x a ih=>
  obtain⟨k,v⟩:=x;simp only[List.cons_append,Env.get,ih,fK];cases beq k s<;>rfl
end
structure Gave (v:PV) (u:Value) (rv:Nat->Value) (E:Nat->PV):Prop where
 one:(∀ ps,v ≠ .tup ps)->E zAF=v/\rv zAF=u
 many:∀ ps,v = .tup ps->∃ us:Array Value,u = .tuple us/\us.size=ps.length/\∀ (j:Nat) (p:PV),ps[j]? = some p->E (zAF+j)=p/\us[j]? = some (rv (zAF+j))
def Means(P:Program)(f:FuncId)(args hid:List PV)(v:PV)(hX:List PV):Prop :=
 ∀ (w:World) (Φ:Nat->Prop) (rv:Nat->Value) (E:Nat->PV) (L:Nat->LN) (vs:Array Value),(∀ s,s<zAa->E s=(zBf args hid).get s)->(∀ s,zAa<=s->E s = .bad)->Conf w (fun b=>∃ s,b∈L s) Φ w Φ rv E L->vs.size=args.length->(∀ i,i<args.length->vs[i]? = some (rv i))->(∀ s,args.length<=s->s<zAk->rv s=undef) ->
  Calls P f vs w fun e w'=>∃ u Φ' rv' E' L',e = .returned u/\Conf w (fun b=>∃ s,b∈L s) Φ w' Φ' rv' E' L'/\hX.length=hid.length /\
   (∀ j,j<hid.length->E' (zAk+j)=hX.getD j .bad/\rv' (zAk+j)=rv (zAk+j))/\Gave v u rv' E'
def Callable(P:Program)(f:FuncId):Prop:=∃ fn,P.funcs[f]? = some fn/\fn.body.isNone=false
def zGx(P:Program)(o:zAK):Prop:=∀ f args hid v hX,o f args hid=some (v,hX)->Callable P f/\Means P f args hid v hX
theorem zDm {args hid:List PV} (ha:args.length<=zAk) (s:Nat):(zBf args hid).get s=if s<args.length then args.getD s .bad else if zAk<=s/\s<zAk+hid.length then hid.getD (s-zAk) .bad else .bad:=by
  have e1:(args.zipIdx.map fun(p,i)=>(i,p))=(args.zipIdx 0).map fun x=>(0+x.2,x.1):=by
    apply d6;intro x _;simp
  have e2:(hid.zipIdx.map fun(p,j)=>(zAk+j,p))=(hid.zipIdx 0).map fun x=>(zAk+x.2,x.1):=rfl;have hany:∀ (ps:List PV) (i:Nat),((ps.zipIdx i).map fun x=>(0+x.2,x.1)).any (fun x=>beq x.1 s)=decide (i<=s/\s<i+ps.length):=by
    intro ps
    induction ps with
    | nil => intro i;have:¬ (i<=s/\s<i):=by omega
             simp[this]
    | cons p ps ih =>
      intro i;simp only[fM,bL,fK,ih (i+1)];by_cases h:s=i
      · subst h;simp
      · have:beq (0+i) s=false:=by
          cases hb:beq (0+i) s with
          |false=>rfl|true=>exact absurd (bd hb) (by omega)
        rw[this,ci];apply decide_eq_decide.2;simp;omega
  simp only[zBf];rw[e1,e2,zQL,hany args 0,zOL,zOL];by_cases h:s<args.length
  · have h1:decide (0<=s/\s<0+args.length)=true:=decide_eq_true (by omega);rw[h1,cond_true,if_pos (by omega),if_pos h];simp
  · have h1:decide (0<=s/\s<0+args.length)=false:=decide_eq_false (by omega);rw[h1,cond_false,if_neg h];simp
section
variable {w0 w w':World} {U Φ0 Φ Φ1 Φ' Φ2:Nat->Prop} {rv rv':Nat->Value} {E E':Nat->PV} {L L':Nat->LN}
def zY9(w:World)(rv:Nat->Value)(E:Nat->PV)(Φ1:Nat->Prop)(i:Nat)(x:Arg):Prop :=
 (x.byref=true/\x.p=E (zAa+i))\/(x.byref=false/\x.p=E (zAa+i)/\(E (zAa+i)).ways=[])\/(x.byref=false/\Rep w Φ1 zCm x.p (rv (zAa+i)) [])
def zOU(R:LN)(x:Arg):PV:=if x.byref then zGV (zDE R) x.p else x.p
theorem zWx{A A':Al}{p:PV}{v:Value}{M:LN}(hp:p.ways=[])(hA:∀ a v,a.isWay=true->A a v->a.ways≠[])(h:Rep w Φ A p v M):Rep w Φ A' p v M :=
 h.ways _ _ _ fun a v hw hx ha=>by
  rw[hp] at hx;have h1:=hA a v hw ha
  cases vB:a.ways with
  |nil=>exact absurd vB h1|cons z zs=>have:=hx z (by rw[vB];simp);cases this
open Classical in
theorem zRq(C:Conf w0 U Φ0 w Φ rv E L){R:LN}(hR:R.Nodup)(hRl:∀ r∈R,(E r).isLock=false)(wW:∀ r∈R,r<zAa)(hRn:R.length<=1000){as:List Arg}(hAn:as.length<=1000)(hΦ:∀ b,Φ b->Φ1 b)(hΦs:∀ b,Φ1 b->b<w.heap.size)
  (hΦR:∀ r∈R,∀ b∈L r,¬ Φ1 b) (hΦa:∀ i,i<as.length->∀ b∈L (zAa+i),¬ Φ1 b) (hA:∀ i x,as[i]? = some x->zY9 w rv E Φ1 i x) :
  ∃ rvc Ec Lc,(∀ s,s<zAa->Ec s=(zBf (as.map (zOU R)) (R.map fun r=>zGV (zDE R) (E r))).get s)/\(∀ s,zAa<=s->Ec s = .bad)/\Conf w (fun b=>∃ s,b∈Lc s) Φ1 w Φ1 rvc Ec Lc /\
   (∀ i,i<as.length->rvc i=rv (zAa+i))/\(∀ (j r:Nat),R[j]? = some r->rvc (zAk+j)=rv r)/\(∀ s,as.length<=s->s<zAk->rvc s=undef)/\∀ b,(∃ s,b∈Lc s)->(∃ r∈R,b∈L r)\/∃ i,i<as.length/\b∈L (zAa+i):=by
 let K:Nat->Prop:=fun i=>∃ x,as[i]? = some x/\x.byref=false/\Rep w Φ1 zCm x.p (rv (zAa+i)) []
 let src:Nat->ON:=fun s=>if s<as.length then(if K s then none else some (zAa+s)) else if zAk<=s then R[s-zAk]? else none
 let rvc:Nat->Value:=fun s=>if s<as.length then rv (zAa+s) else match src s with|some t=>rv t|none=>undef
 let Lc:Nat->LN:=fun s=>match src s with|some t=>L t|none=>[]
 let Ec:Nat->PV:=fun s=>if s<zAa then(zBf (as.map (zOU R)) (R.map fun r=>zGV (zDE R) (E r))).get s else .bad
 have hh:zAk=50000000:=rfl;have ve:zAa=1000000000:=rfl;have y8:∀ s,s<zAa->Ec s=if s<as.length then(as.map (zOU R)).getD s .bad else if zAk<=s/\s<zAk+R.length then(R.map fun r=>zGV (zDE R) (E r)).getD (s-zAk) .bad else .bad:=by
  intro s hs;simp only[Ec,if_pos hs];rw[zDm (by simp;omega)];simp
 have hEh:∀ (j r:Nat),R[j]? = some r->Ec (zAk+j)=(E r).mapW (zEA (zDE R)):=by
  intro j r hj;have y9:j<R.length:=(bg.1 hj).1;rw[y8 _ (by omega),if_neg (by omega),if_pos (by omega)];simp[List.getD,hj,zGV]
 have hrh:∀ (j r:Nat),R[j]? = some r->rvc (zAk+j)=rv r:=by
  intro j r hj;have y9:j<R.length:=(bg.1 hj).1;have:src (zAk+j)=some r:=by
   simp only[src];rw[if_neg (by omega),if_pos (by omega),dH,hj]
  simp only[rvc,this];rw[if_neg (by omega)]
 have LA:∀ s t,src s=some t->(t∈R/\∃ j,s=zAk+j/\R[j]? = some t)\/(s<as.length/\t=zAa+s/\¬ K s):=by
  intro s t h;simp only[src] at h;split at h
  ·rename_i hs;split at h
   ·cases h
   ·rename_i hk;cases h;exact .inr ⟨hs,rfl,hk⟩
  ·split at h
   ·rename_i hs;exact .inl ⟨bH h,s-zAk,by omega,h⟩
   ·cases h
 have LB:∀ s s' t,src s=some t->src s'=some t->s=s':=by
  intro s s' t h h';rcases LA s t h with⟨h1,j,h2,h3⟩|⟨h1,h2,_⟩<;>rcases LA s' t h' with⟨jd,j',jm,wk⟩|⟨jd,jm,_⟩
  ·have hj:j<R.length:=(bg.1 h3).1;have:j=j':=(List.getElem?_inj hj hR).1 (h3.trans wk.symm);omega
  ·have:=wW t h1;omega
  ·have:=wW t jd;omega
  ·omega
 have jz:∀ a v,a.isWay=true->zBa w rv E a v->Rep w Φ1 (zBa w rvc Ec) (zEA (zDE R) a) v []:=by
  intro a v _ ha;refine zNk ha fun r h' hl hr=>?_;obtain⟨j,hj,rfl⟩:=zNy hl;have y9:j<R.length:=(bg.1 hj).1;refine⟨by omega,fun pre nv np hn hh=>?_⟩;rw[hrh j r hj,hEh j r hj,zDx (zC5 _)] at hn;exact zC8 (zC5 _) hn hh
 have hS:zDq w w Φ Φ1:=fun b hb=>⟨hΦ b hb,rfl⟩;have hLs:∀ s b,b∈Lc s->∃ t,src s=some t/\b∈L t:=by
  intro s b hb;simp only[Lc] at hb
  cases h:src s with
  |none=>rw[h] at hb;cases hb|some t=>rw[h] at hb;exact⟨t,rfl,hb⟩
 have hU:∀ b,(∃ s,b∈Lc s)->(∃ r∈R,b∈L r)\/∃ i,i<as.length/\b∈L (zAa+i):=by
  rintro b ⟨s,hb⟩;obtain⟨t,h1,h2⟩:=hLs s b hb;rcases LA s t h1 with⟨h3,_⟩|⟨h3,rfl,_⟩
  ·exact .inl ⟨t,h3,h2⟩
  ·exact .inr ⟨s,h3,h2⟩
 have hnΦ:∀ b,(∃ s,b∈Lc s)->¬ Φ1 b:=by
  intro b hb;rcases hU b hb with⟨r,h1,h2⟩|⟨i,h1,h2⟩
  ·exact hΦR r h1 b h2
  ·exact hΦa i h1 b h2
 refine⟨rvc,Ec,Lc,fun s hs=>if_pos hs,fun s hs=>if_neg (by omega),⟨fun s=>?_,fun s=>?_,fun s s' hI b hb yL=>?_,fun s b hb=>?_,fun b hb=>⟨hΦs b hb,.inl hb⟩,fun b hb=>hb,bf _,fun _ _ _=>rfl,rfl,rfl,rfl⟩,fun i hi=>if_pos hi,hrh,fun s h1 h2=>by simp only[rvc,src,if_neg (by omega:¬ s<as.length),if_neg (by omega:¬ zAk<=s)],hU⟩
 ·by_cases hs:s<as.length
  ·have hx:as[s]? = some (as[s]):=bl hs;have hE:Ec s=zOU R as[s]:=by rw[y8 s (by omega),if_pos hs];simp[List.getD,hx]
   have hrvs:rvc s=rv (zAa+s):=if_pos hs;rw[hE,hrvs];by_cases hk:K s
   ·have hL:Lc s=[]:=by simp only[Lc,src,if_pos hs,if_pos hk]
    rw[hL];obtain⟨x,h1,h2,h3⟩:=hk;rw[hx] at h1;cases h1;simp only[zOU,h2,bp,if_false];exact h3.mono zDq.refl (fun _ _ _ h=>h.elim) (by simp)
   ·have hL:Lc s=L (zAa+s):=by simp only[Lc,src,if_pos hs,if_neg hk]
    rw[hL];rcases hA s _ hx with⟨h1,h2⟩|⟨h1,h2,h3⟩|⟨h1,h2⟩
    ·simp only[zOU,h1,if_true,h2];exact Rep.map (zC5 _).agg hS jz _ _ _ (fun _ _=>rfl) (C.rep (zAa+s))
    ·simp only[zOU,h1,bp,if_false,h2];exact(zWx h3 (fun a v hw h=>zJn hw h) (C.rep (zAa+s))).mono (A:=zCm) hS (fun _ _ _ h=>h.elim) (fun _ _=>rfl)
    ·exact absurd ⟨_,hx,h1,h2⟩ hk
  ·by_cases hhs:zAk<=s/\s<zAk+R.length
   ·obtain⟨j,rfl⟩:∃ j,s=zAk+j:=⟨s-zAk,by omega⟩;have y9:j<R.length:=by omega
    obtain⟨r,hj⟩:∃ r,R[j]? = some r:=⟨_,bl y9⟩;have hL:Lc (zAk+j)=L r:=by simp only[Lc,src,if_neg hs,if_pos hhs.1,dH,hj]
    rw[hL,hEh j r hj,hrh j r hj];exact Rep.map (zC5 _).agg hS jz _ _ _ (fun _ _=>rfl) (C.rep r)
   ·have hL:Lc s=[]:=by
     simp only[Lc,src,if_neg hs];by_cases hb:zAk<=s
     ·rw[if_pos hb,cV (by omega)]
     ·rw[if_neg hb]
    have hE:Ec s = .bad:=by
     by_cases hg:s<zAa
     ·rw[y8 s hg,if_neg hs,if_neg hhs]
     ·exact if_neg hg
    rw[hL,hE];rfl
 ·simp only[Lc]
  cases h:src s with
  |none=>exact b8|some t=>exact C.nodup t
 ·obtain⟨t,h1,h2⟩:=hLs s b hb;obtain⟨t',jd,jm⟩:=hLs s' b yL;have:t=t':=b5 fun h=>C.disj t t' h b h2 jm;subst this;exact hI (LB s s' t h1 jd)
 ·obtain⟨t,h1,h2⟩:=hLs s b hb;exact⟨(C.own t b h2).1,hnΦ b ⟨s,hb⟩,.inl ⟨s,hb⟩⟩
theorem zND{x y:PV}(h:zGA x y=true)(hx:x.isLock=false)(hh:y.unlock.heavy0=true):y.unlock=y/\zCr x.unlock y:=by
 cases y<;>simp only[PV.unlock,PV.heavy0] at hh<;>try (cases hh;done)
 ·cases x<;>simp only[zGA] at h<;>try (cases h;done)
  exact⟨rfl,(bd h).symm⟩
 ·cases x<;>simp only[zGA] at h<;>try (cases h;done)
  exact⟨rfl,trivial⟩
 ·cases x<;>simp only[zGA] at h<;>try (cases h;done)
  exact⟨rfl,trivial⟩
 ·cases x<;>simp only[zGA] at h<;>cases h
theorem zLo (C:Conf w0 U Φ0 w Φ rv E L) {R:LN} (hR:R.Nodup) (hRl:∀ r∈R,(E r).isLock=false) (wW:∀ r∈R,r<zAa) (hRn:R.length<=1000) {m:Nat} {Uc:Nat->Prop}
    (hUc:∀ b,Uc b->(∃ r∈R,b∈L r)\/∃ i,i<m/\b∈L (zAa+i)) (C':Conf w Uc Φ1 w' Φ' rv' E' L') (jb:∀ (j r:Nat),R[j]? = some r->rv' (zAk+j)=rv r)
    (yE:∀ (j r:Nat),R[j]? = some r->zGA (E r) (zGV (zCo R) (E' (zAk+j)))=true) {n:Nat} (hn:n<=1000)
    (hΦ2:∀ b,Φ b->Φ2 b) (hΦ2s:∀ b,Φ2 b->b<w'.heap.size/\(Φ0 b\/U b\/w0.heap.size<=b)) (hΦ2o:∀ s,s<zAa->s∉R->∀ b∈L s,¬ Φ2 b) (hΦ2n:∀ t b,b∈L' t->¬ Φ2 b)
    (hT:∀ t,((∃ j,j<R.length/\t=zAk+j)\/∃ j,j<n/\t=zAF+j)->Rep w' Φ2 (zBa w' rv' E') (E' t) (rv' t) (L' t)) :
    ∃ rv2 E2 L2,Conf w0 U Φ0 w' Φ2 rv2 E2 L2/\(∀ s,s<zAa->rv2 s=rv s)/\(∀ s,s<zAa->s∉R->E2 s=(E s).mapW (zDO R))/\(∀ (j r:Nat),R[j]? = some r->E2 r=zGV (zCo R) (E' (zAk+j))) /\
      (∀ j,j<n->E2 (zAa+j)=zGV (zCo R) (E' (zAF+j))/\rv2 (zAa+j)=rv' (zAF+j))/\∀ s,zAa+n<=s->E2 s = .bad:=by
  have hh:zAk=50000000:=rfl;have ho:zAF=60000000:=rfl;have ve:zAa=1000000000:=rfl
  let cal:Nat->ON:=fun s=>if s<zAa then(match R.findIdx? (· == s) with|some j=>some (zAk+j)|none=>none) else if s<zAa+n then some (zAF+(s-zAa)) else none
  let rv2:Nat->Value:=fun s=>if s<zAa then rv s else match cal s with|some t=>rv' t|none=>undef
  let E2:Nat->PV:=fun s=>match cal s with|some t=>zGV (zCo R) (E' t)|none=>if s<zAa then(E s).mapW (zDO R) else .bad
  let L2:Nat->LN:=fun s=>match cal s with|some t=>L' t|none=>if s<zAa then L s else[]
  have uS:∀ (j r:Nat),R[j]? = some r->cal r=some (zAk+j):=by
    intro j r hj;have hr:=wW r (bH hj);have:R.findIdx? (· == r)=some j:=by
      rw[da];have y9:j<R.length:=(bg.1 hj).1;have hjr:R[j]=r:=(bg.1 hj).2;refine⟨y9,by simp[hjr],fun k hk=>?_⟩;simp only[beq_iff_eq,cA,beq_eq_false_iff_ne];intro hc;have vd:k<R.length:=by omega
      have h1:R[k]? = R[j]?:=by rw[bl vd,hc,hj]
      have:=(List.getElem?_inj vd hR).1 h1;omega
    simp only[cal,if_pos hr,this]
  have wX:∀ s,s<zAa->s∉R->cal s=none:=by
    intro s hs jI;have:R.findIdx? (· == s)=none:=by
      rw[dm];intro x hx;simp only[beq_eq_false_iff_ne];intro hc;subst hc;exact jI hx
    simp only[cal,if_pos hs,this]
  have ye:∀ s t,cal s=some t->(∃ j,R[j]? = some s/\t=zAk+j/\j<R.length/\s<zAa)\/∃ j,j<n/\s=zAa+j/\t=zAF+j:=by
    intro s t h;by_cases hs:s<zAa
    · by_cases jI:s∈R
      · obtain⟨j,hj⟩:=cC jI;rw[uS j s hj] at h;cases h;exact .inl ⟨j,hj,rfl,(bg.1 hj).1,hs⟩
      · rw[wX s hs jI] at h;cases h
    · simp only[cal,if_neg hs] at h;split at h
      · have h:=Option.some.inj h;exact .inr ⟨s-zAa,by omega,by omega,h.symm⟩
      · cases h
  have LB:∀ s s' t,cal s=some t->cal s'=some t->s=s':=by
    intro s s' t h h';rcases ye s t h with⟨j,h1,h2,h3,_⟩|⟨j,h1,h2,h3⟩<;>rcases ye s' t h' with⟨j',jd,jm,wk,_⟩|⟨j',jd,jm,wk⟩
    · have:j=j':=by omega
      subst this;rw[h1] at jd;simpa using jd
    · omega
    · omega
    · omega
  have y7:∀ s,cal s=none->s<zAa->s∉R:=by
    intro s h hs jI;obtain⟨j,hj⟩:=cC jI;rw[uS j s hj] at h;cases h
  have gH:∀ s,s<zAa->s∉R->∀ b∈L s,¬ Uc b:=by
    intro s hs jI b hb hu;rcases hUc b hu with⟨r,h1,h2⟩|⟨i,h1,h2⟩
    · exact C.disj s r (fun hc=>jI (hc▸h1)) b hb h2
    · exact C.disj s (zAa+i) (by omega) b hb h2
  have yY:∀ s,s<zAa->s∉R->∀ b∈L s,w'.heap[b]? = w.heap[b]?:=fun s hs jI b hb=>C'.kept b (C.own s b hb).1 (gH s hs jI b hb);have hΦsame:zDq w w' Φ Φ2:=fun b hb=>⟨hΦ2 b hb,C'.kept b (C.frz b hb).1 fun hu=>by
    rcases hUc b hu with⟨r,_,h2⟩|⟨i,_,h2⟩
    · exact(C.own r b h2).2.1 hb
    · exact(C.own _ b h2).2.1 hb⟩
  have LC:=zJV R;have hown:∀ a v,a.isWay=true->zBa w rv E a v->zDO R a=a->zBa w' rv2 E2 a v:=by
    intro a v hw ha hk;have hr:=zC7 ha;have hy:∀ k,a ≠ .yld k:=fun k hc=>by subst hc;exact ha.elim
    have hl:∀ xs k,a ≠ .log xs k:=fun xs k hc=>by subst hc;exact ha.elim
    by_cases hrR:(zBc a).1∈R
    · have hp:=zKq hw hk hy hl hrR;obtain⟨j,hj⟩:=cC hrR;refine ha.mono fun nv np jX qw=>?_;rw[hp] at jX ⊢;simp only[zA1,ba,bz] at jX;obtain⟨h1,h2⟩:=jX;have hE2:E2 (zBc a).1=zGV (zCo R) (E' (zAk+j)):=by simp only[E2,uS j _ hj]
      rw[hE2] at h2;obtain⟨g1,g2⟩:=zND (yE j _ hj) (hRl _ hrR) (by rw[h2];exact qw);refine⟨(E (zBc a).1).unlock,?_,by rw[<- h2,g1];exact g2⟩;simp only[zA1,ba,bz,and_true];rw[<- h1];simp only[rv2,if_pos hr]
    · refine zCS C (zDF LC) ha ?_ ?_ (yY _ hr hrR)
      · simp only[E2,wX _ hr hrR,if_pos hr]
      · simp only[rv2,if_pos hr]
  have hown':∀ a v,a.isWay=true->zBa w rv E a v->Rep w' Φ2 (zBa w' rv2 E2) (zDO R a) v []:=by
    intro a v hw ha;rcases LC a with hk|⟨_,hk⟩
    · rw[hk];exact zC4 hw (hown a v hw ha hk)
    · rw[hk];rfl
  have hback:∀ a v,a.isWay=true->zBa w' rv' E' a v->Rep w' Φ2 (zBa w' rv2 E2) (zEA (zCo R) a) v []:=by
    intro a v _ ha;refine zNk ha fun r h' hl hr=>?_;obtain⟨j,hj,rfl⟩:=zOc hl;have je:=wW h' (bH hj);refine⟨je,fun pre nv np jX qw=>?_⟩;have e1:rv2 h'=rv' (zAk+j):=by simp only[rv2,if_pos je];exact(jb j h' hj).symm
    have e2:E2 h'=(E' (zAk+j)).mapW (zEA (zCo R)):=by simp only[E2,uS j h' hj];rfl
    rw[e1,e2,zDx (zC5 _)] at jX;exact zC8 (zC5 _) jX qw
  have vG:∀ s b,b∈L2 s->(∃ t,cal s=some t/\b∈L' t)\/(cal s=none/\s<zAa/\b∈L s):=by
    intro s b hb;simp only[L2] at hb
    cases h:cal s with
    |some t=>rw[h] at hb;exact .inl ⟨t,rfl,hb⟩
    | none =>
      rw[h] at hb;by_cases hs:s<zAa
      · simp only[if_pos hs] at hb;exact .inr ⟨rfl,hs,hb⟩
      · simp only[if_neg hs] at hb;cases hb
  have wY:∀ t s b,b∈L' t->s<zAa->s∉R->b∉L s:=by
    intro t s b hb hs jI uE;rcases(C'.own t b hb).2.2 with h1|h1
    · exact gH s hs jI b uE h1
    · have:=(C.own s b uE).1;omega
  refine⟨rv2,E2,L2,⟨fun s=>?_,fun s=>?_,fun s s' hI b hb yL=>?_,fun s b hb=>?_,hΦ2s,fun b hb=>hΦ2 b (C.frz0 b hb),bB C.size C'.size,fun b hb hu=>?_,C'.os.trans C.os,C'.tape.trans C.tape,C'.output.trans C.output⟩,fun s hs=>if_pos hs,fun s hs jI=>?_,fun j r hj=>?_,fun j hj=>?_,fun s hs=>?_⟩
  · cases h:cal s with
    | some t =>
      have e1:E2 s=zGV (zCo R) (E' t):=by simp only[E2,h]
      have e2:L2 s=L' t:=by simp only[L2,h]
      have e3:rv2 s=rv' t:=by
        rcases ye s t h with⟨j,h1,h2,_,h4⟩|⟨j,h1,h2,h3⟩
        · simp only[rv2,if_pos h4];rw[h2];exact(jb j s h1).symm
        · simp only[rv2];rw[if_neg (by omega),h]
      rw[e1,e2,e3];refine Rep.map (zC5 _).agg zDq.refl hback _ _ _ (fun _ _=>rfl) (hT t ?_);rcases ye s t h with⟨j,_,h2,h3,_⟩|⟨j,h1,_,h3⟩
      · exact .inl ⟨j,h3,h2⟩
      · exact .inr ⟨j,h1,h3⟩
    | none =>
      by_cases hs:s<zAa
      · have e1:E2 s=(E s).mapW (zDO R):=by simp only[E2,h,if_pos hs]
        have e2:L2 s=L s:=by simp only[L2,h,if_pos hs]
        have e3:rv2 s=rv s:=if_pos hs;rw[e1,e2,e3];exact Rep.map (zDF LC).agg hΦsame hown' _ _ _ (yY s hs (y7 s h hs)) (C.rep s)
      · have e1:E2 s = .bad:=by simp only[E2,h,if_neg hs]
        have e2:L2 s=[]:=by simp only[L2,h,if_neg hs]
        rw[e1,e2];rfl
  · simp only [L2]
    cases h:cal s with
    |some t=>exact C'.nodup t
    | none => by_cases hs:s<zAa
              · simp only[if_pos hs];exact C.nodup s
              · simp only[if_neg hs];exact b8
  · rcases vG s b hb with⟨t,h1,h2⟩|⟨h1,h2,h3⟩<;>rcases vG s' b yL with⟨t',jd,jm⟩|⟨jd,jm,wk⟩
    · have:t=t':=b5 fun h=>C'.disj t t' h b h2 jm;subst this;exact hI (LB s s' t h1 jd)
    · exact wY t s' b h2 jm (y7 s' jd jm) wk
    · exact wY t' s b jm h2 (y7 s h1 h2) h3
    · exact C.disj s s' hI b h3 wk
  · rcases vG s b hb with⟨t,h1,h2⟩|⟨h1,h2,h3⟩
    · have:=C'.own t b h2;refine⟨this.1,hΦ2n t b h2,?_⟩;rcases this.2.2 with h4|h4
      · rcases hUc b h4 with⟨r,_,h5⟩|⟨i,_,h5⟩
        · exact(C.own r b h5).2.2
        · exact(C.own _ b h5).2.2
      · exact .inr (bB C.size h4)
    · have:=C.own s b h3;exact⟨bI this.1 C'.size,hΦ2o s h2 (y7 s h1 h2) b h3,this.2.2⟩
  · rw[C'.kept b (bI hb C.size) fun h=>?_]
    · exact C.kept b hb hu
    · have hx:∀ t,b∈L t->False:=fun t ht=>by
        rcases(C.own t b ht).2.2 with h1|h1
        · exact hu h1
        · omega
      rcases hUc b h with⟨r,_,h5⟩|⟨i,_,h5⟩
      · exact hx r h5
      · exact hx _ h5
  · simp only[E2,wX s hs jI,if_pos hs]
  · simp only[E2,uS j r hj]
  · have:cal (zAa+j)=some (zAF+j):=by
      simp only[cal];rw[if_neg (by omega),if_pos (by omega),dH]
    refine⟨by simp only[E2,this],?_⟩;simp only[rv2,this];rw[if_neg (by omega)]
  · have:cal s=none:=by simp only[cal];rw[if_neg (by omega),if_neg (by omega)]
    simp only[E2,this];rw[if_neg (by omega)]
end
theorem zEO{w:World}:∀ {pre:zA4} {v nv:Value} {p q:PV},zA1 w v p pre=some (nv,q)->zAH p pre=some q
 |[],v,nv,p,q,h=>by simp only[zA1,ba,bz] at h;simp[zAH,h.2]
 | (i,c)::rest,v,nv,p,q,h=>by
  rw[zBb] at h;rw[zCg]
  cases hc:Eng.child p i c with
  |none=>rw[hc] at h;cases h|some x=>
   rw[hc] at h;simp only[bc] at h ⊢
   cases hk:kid w v p i c with
   |none=>rw[hk] at h;cases h|some u=>rw[hk] at h;exact zEO h
theorem zQ3(R:LN)(p:PV)(hp:p.isWay=true):(zDO R p).isTup=false:=by
 rcases zJV R p with h|⟨_,h⟩
 ·rw[h];cases p<;>first|rfl|cases hp
 ·rw[h];rfl
theorem zQT(m:List (Nat×Nat))(p:PV)(hp:p.isWay=true):(zEA m p).isTup=false:=by
 cases p<;>first|(cases hp;done)|skip
 all_goals
  simp only[zEA]
  first|rfl|(split<;>rfl)
section
variable {P:Program} {w0 w:World} {U Φ0 Φ:Nat->Prop} {nt:Nat} {hv:Hid} {a:Act} {e e':Env} {rv:Nat->Value} {E:Nat->PV} {L:Nat->LN} {o:zAK}
def zOS(w:World)(Φ:Nat->Prop)(rv:Nat->Value)(E:Nat->PV)(i:Nat)(x:Arg):Prop :=
 (∀ y∈x.shared,y.1<zAa)/\((x.byref=true/\x.p=E (zAa+i))\/(x.byref=false/\x.p=E (zAa+i)/\(E (zAa+i)).ways=[]) \/
  (x.byref=false/\∀ Φ1:Nat->Prop,(∀ b,Φ b->Φ1 b)->(∀ y∈x.shared,Cov w Φ rv E Φ1 y)->Rep w Φ1 zCm x.p (rv (zAa+i)) []))
theorem zP2 (jD:zGx P o) (S:St w0 U Φ0 nt hv a w e Φ rv E L) {d:ON} (hd:∀ x,d=some x->x<nt) {f:FuncId} {as:List Arg} {vs:Array Value} (yI:vs.size=as.length) (yn:∀ i,i<as.length->vs[i]? = some (rv (zAa+i)))
  (hA:∀ i x,as[i]? = some x->zOS w Φ rv E i x) {again:PM} (h:(zRN d f as again).run o e=some e') :
  again.run o e=some e'\/Callable P f/\Calls P f vs w fun en w''=>∃ u,en = .returned u/\Fr w0 U Φ0 nt hv (a.put d u) w'' e':=by
 have hh:zAk=50000000:=rfl;have ho:zAF=60000000:=rfl;have ve:zAa=1000000000:=rfl;have jl:=S.small;obtain⟨R,h1⟩:=zLz h;obtain⟨hc,h2⟩:=zAP h1;simp only[bb] at hc;obtain⟨⟨⟨⟨j9,jF⟩,uf⟩,hc4⟩,hc5⟩:=hc;have hR:=zGz j9;have wW:∀ r∈R,r<zAa:=fun r hr=>zCe (bi.1 jF r hr);have hRn:=br uf;have hAn:=br hc4;obtain⟨hRl',h3⟩:=zJI h2;have hRl:∀ r∈R,(E r).isLock=false:=fun r hr=>by rw[S.env r (wW r hr)];exact hRl' r hr
 have uj:R.map e.get=R.map E:=d6 fun r hr=>(S.env r (wW r hr)).symm;rw[uj] at h3;simp only[PM.run] at h3
 cases kT:o f (as.map fun a=>if a.byref then zGV (zDE R) a.p else a.p) ((R.map E).map (zGV (zDE R))) with
 |none=>rw[kT] at h3;cases h3
 | some r =>
  obtain⟨v,hX⟩:=r;rw[kT] at h3;simp only at h3
  cases hb:((as.flatMap (·.shared)).isEmpty||v.free&&zD1 hX) with
  |false=>rw[hb] at h3;exact .inl h3
  | true =>
   rw[hb] at h3;simp only[cond_true] at h3;refine .inr ⟨(jD f _ _ v hX kT).1,?_⟩
   let sh:=as.flatMap (·.shared)
   let Φ1:Nat->Prop:=fun b=>Φ b\/∃ y∈sh,∃ nv q Li A,zA1 w (rv y.1) (E y.1).unlock y.2=some (nv,q)/\Rep w Φ A q nv Li/\b∈Li
   have jB:∀ y∈sh,y.1∉R:=fun y hy hyR=>by
    have:=bi.1 hc5 y hy;rw[dp.2 hyR] at this;cases this
   have uc:∀ (y:Nat×zA4) nv q Li A,zA1 w (rv y.1) (E y.1).unlock y.2=some (nv,q)->Rep w Φ A q nv Li->∀ b∈Li,b∈L y.1:=by
    intro y nv q Li A hf hr b jS;obtain⟨nv',Li',h4,h5,h6⟩:=zBS (zB9 (S.conf.rep y.1)) (zEO hf);rw[hf] at h4;cases h4;have:=Rep.uniq _ _ _ _ hr h6;subst this;exact h5 b jS
   have hshg:∀ y∈sh,y.1<zAa:=by
    intro y hy;obtain⟨x,hx,hyx⟩:=cG.1 hy;obtain⟨i,hi⟩:=cC hx;exact(hA i x hi).1 y hyx
   have hΦ:∀ b,Φ b->Φ1 b:=fun b hb=>.inl hb;have vV:∀ t,(∀ y∈sh,y.1≠t)->∀ b∈L t,¬ Φ1 b:=by
    intro t ht b j5 ya;rcases ya with h4|⟨y,hy,nv,q,Li,A,h4,h5,h6⟩
    ·exact(S.conf.own t b j5).2.1 h4
    ·exact S.conf.disj y.1 t (ht y hy) b (uc y nv q Li A h4 h5 b h6) j5
   have hΦs:∀ b,Φ1 b->b<w.heap.size:=by
    rintro b (ya|⟨y,hy,nv,q,Li,A,h4,h5,h6⟩)
    ·exact(S.conf.frz b ya).1
    ·exact(S.conf.own _ b (uc y nv q Li A h4 h5 b h6)).1
   have hA':∀ i x,as[i]? = some x->zY9 w rv E Φ1 i x:=by
    intro i x hx;rcases(hA i x hx).2 with h4|h4|⟨h4,h5⟩
    ·exact .inl h4
    ·exact .inr (.inl h4)
    ·refine .inr (.inr ⟨h4,h5 Φ1 hΦ fun y hy nv q Li A hf hr b jS=>.inr ⟨y,cG.2 ⟨x,bH hx,hy⟩,nv,q,Li,A,hf,hr,jS⟩⟩)
   obtain⟨rvc,Ec,Lc,q1,q2,q3,q4,q5,q5u,q6⟩:=zRq S.conf hR hRl wW hRn hAn hΦ hΦs (fun r hr=>vV r fun y hy hc=>jB y hy (hc▸hr)) (fun i hi=>vV (zAa+i) fun y hy hc=>by have:=hshg y hy;omega) hA';have LD:=(jD f _ _ v hX kT).2 w Φ1 rvc Ec Lc vs (fun s hs=>by rw[q1 s hs,ir];rfl) q2 q3 (by simpa using yI) (fun i hi=>by
    have gm:i<as.length:=by simpa using hi
    rw[q4 i gm];exact yn i gm) (fun s h1 h2=>q5u s (by simpa using h1) h2)
   refine LD.mono fun en w' wZ=>?_;obtain⟨u,Φ',rv',E',L',rfl,C',yA,uk,vM⟩:=wZ;refine⟨u,rfl,?_⟩;obtain⟨e1,g1,g2⟩:=zLw h3;obtain⟨e2,g3,g4,g5,g6,g7,g8⟩:=zMP hR g1;simp only[be] at g4 yA uk;have hE'h:∀ (j r:Nat),R[j]? = some r->∃ p,hX[j]? = some p/\E' (zAk+j)=p:=by
    intro j r hj;have y9:j<R.length:=(bg.1 hj).1;have hjh:j<hX.length:=by omega
    refine⟨hX[j],bl hjh,?_⟩;rw[(uk j y9).1];simp[List.getD,bl hjh]
   have jb:∀ (j r:Nat),R[j]? = some r->rv' (zAk+j)=rv r:=fun j r hj=>by
    rw[(uk j (bg.1 hj).1).2,q5 j r hj]
   have yE:∀ (j r:Nat),R[j]? = some r->zGA (E r) (zGV (zCo R) (E' (zAk+j)))=true:=by
    intro j r hj;obtain⟨p,wJ,kY⟩:=hE'h j r hj;rw[kY];exact g6 j _ _ (by simp[hj]) (by simp[wJ])
   have hΦ1sh:sh.isEmpty=true->∀ b,Φ1 b->Φ b:=by
    intro hs b ya;rcases ya with h4|⟨y,hy,_⟩
    ·exact h4
    ·rw[d5.1 hs] at hy;cases hy
   have yq:∀ s,s<zAa->s∉R->∀ b∈L s,¬ (∃ t,b∈Lc t):=by
    intro s hs jI b hb hu;rcases q6 b hu with⟨r,h4,h5⟩|⟨i,h4,h5⟩
    ·exact S.conf.disj s r (fun hc=>jI (hc▸h4)) b hb h5
    ·exact S.conf.disj s (zAa+i) (by omega) b hb h5
   have w5:zD1 hX=true->∀ j,j<R.length->(E' (zAk+j)).free=true:=by
    intro hf j hj;rw[(uk j hj).1];have hjh:j<hX.length:=by omega
    have key:∀ (l:List PV),zD1 l=true->∀ j,j<l.length->(l.getD j .bad).free=true:=by
     intro l
     induction l with
     |nil=>intro _ j hj;simp at hj|cons x l ih=>
      intro h j hj;simp only[zD1,bb] at h
      cases j with
      |zero=>exact h.1|succ j=>simpa using ih h.2 j (by simpa using hj)
    exact key hX hf j hjh
   have back : ∀ n,n<=1000->(v.free=true->∀ j,j<n->(E' (zAF+j)).free=true) ->
     ∃ Φ2 rv2 E2 L2,Conf w0 U Φ0 w' Φ2 rv2 E2 L2/\(∀ s,s<zAa->rv2 s=rv s)/\(∀ s,s<zAa->s∉R->E2 s=(E s).mapW (zDO R))/\(∀ (j r:Nat),R[j]? = some r->E2 r=zGV (zCo R) (E' (zAk+j))) /\
     (∀ j,j<n->E2 (zAa+j)=zGV (zCo R) (E' (zAF+j))/\rv2 (zAa+j)=rv' (zAF+j))/\∀ s,zAa+n<=s->E2 s = .bad:=by
    intro n hn vC;by_cases jh:sh.isEmpty=true
    ·obtain⟨rv2,E2,L2,hl⟩:=zLo (Φ2:=Φ') S.conf hR hRl wW hRn q6 C' jb yE hn (fun b ya=>C'.frz0 b (hΦ b ya))
      (fun b ya=>by
       refine⟨(C'.frz b ya).1,?_⟩;rcases(C'.frz b ya).2 with h4|h4|h4
       ·exact(S.conf.frz b (hΦ1sh jh b h4)).2
       ·rcases q6 b h4 with⟨r,_,h5⟩|⟨i,_,h5⟩
        ·exact .inr (S.conf.own r b h5).2.2
        ·exact .inr (S.conf.own _ b h5).2.2
       ·exact .inr (.inr (bB S.conf.size h4)))
      (fun s hs jI b ya hp=>by
       rcases(C'.frz b hp).2 with h4|h4|h4
       ·exact(S.conf.own s b ya).2.1 (hΦ1sh jh b h4)
       ·exact yq s hs jI b ya h4
       ·have:=(S.conf.own s b ya).1;omega)
      (fun t b ya=>(C'.own t b ya).2.1) (fun t _=>C'.rep t)
     exact⟨Φ',rv2,E2,L2,hl⟩
    ·have hvf:v.free=true/\zD1 hX=true:=by
      have hse':sh.isEmpty=false:=by simpa using jh
      rw[show(as.flatMap (·.shared)).isEmpty=false from hse'] at hb;simpa using hb
     obtain⟨rv2,E2,L2,hl⟩:=zLo (Φ2:=Φ) S.conf hR hRl wW hRn q6 C' jb yE hn (fun b ya=>ya)
      (fun b ya=>⟨bI (S.conf.frz b ya).1 C'.size,(S.conf.frz b ya).2⟩)
      (fun s _ _ b ya=>(S.conf.own s b ya).2.1)
      (fun t b ya hp=>(C'.own t b ya).2.1 (C'.frz0 b (hΦ b hp)))
      (fun t ht=>by
       refine Rep.free _ _ _ ?_ (C'.rep t);rcases ht with⟨j,hj,rfl⟩|⟨j,hj,rfl⟩
       ·exact w5 hvf.2 j hj
       ·exact vC hvf.1 j hj)
     exact⟨Φ,rv2,E2,L2,hl⟩
   have st:∀ {Φ2:Nat->Prop} {rv2:Nat->Value} {E2:Nat->PV} {L2:Nat->LN},Conf w0 U Φ0 w' Φ2 rv2 E2 L2->(∀ s,s<zAa->rv2 s=rv s)->(∀ s,s<zAa->s∉R->E2 s=(E s).mapW (zDO R)) ->
     (∀ (j r:Nat),R[j]? = some r->E2 r=zGV (zCo R) (E' (zAk+j)))->St w0 U Φ0 nt hv a w' e2 Φ2 rv2 E2 L2:=by
    intro Φ2 rv2 E2 L2 C2 k1 k2 k3;refine S.turn C2 (fun s hs=>?_) k1 (fun d ps hd hp=>?_)
    ·by_cases jI:s∈R
     ·obtain⟨j,hj⟩:=cC jI;obtain⟨p,wJ,kY⟩:=hE'h j s hj;rw[k3 j s hj,g8 j s (zGV (zCo R) p) hj (by simp[wJ]),kY]
     ·rw[k2 s hs jI,g7 s jI,g2 s,S.env s hs]
    ·have uy:d<zAa:=by omega
     by_cases hdR:d∈R
     ·obtain⟨j,hj⟩:=cC hdR;have:=yE j d hj;rw[k3 j d hj] at hp;rw[hp] at this;cases E d<;>cases this
     ·rw[k2 d uy hdR] at hp;exact zEh (zQ3 R) hp
   cases d with
   | none =>
    obtain⟨Φ2,rv2,E2,L2,C2,k1,k2,k3,k4,k5⟩:=back 0 (by omega) (fun _ j hj=>by omega);have uI:(put none (zGV (zCo R) v)).run o e2=some e':=by
     revert g3;cases zGV (zCo R) v<;>exact fun h=>h
    simp only[put,PM.run,ba] at uI;subst uI;exact⟨Φ2,rv2,E2,L2,st C2 k1 k2 k3,fun g hg=>k5 g hg⟩
   | some d =>
    have uC:=hd d rfl
    cases hvt:v.isTup with
    | false =>
     have ul:∀ ps,v ≠ .tup ps:=fun ps hc=>by rw[hc] at hvt;cases hvt
     obtain⟨o1,o2⟩:=vM.one ul;obtain⟨Φ2,rv2,E2,L2,C2,k1,k2,k3,k4,k5⟩:=back 1 (by omega) (fun hf j hj=>by
      have:j=0:=by omega
      subst this;rw[bQ,o1];exact hf)
     obtain⟨m1,m2⟩:=k4 0 (by omega);simp only[bQ] at m1 m2;have uI:(put (some d) (zGV (zCo R) v)).run o e2=some e':=by
      have hnt2:∀ ps,zGV (zCo R) v ≠ .tup ps:=fun ps hc=>by
       obtain⟨ps',jp,_⟩:=zEh (zQT _) hc;exact ul ps' jp
      revert g3;simp only[zDv];split
      ·rename_i hc;exact absurd hc (hnt2 _)
      ·exact fun h=>h
     have:=zFU (st C2 k1 k2 k3) hd (g:=zAa) (bf _) (by rw[m1,o1];exact uI) (fun s hs hI=>k5 s (by omega));rw[m2,o2] at this;exact this
    | true =>
     cases u6:v<;>rw[u6] at hvt<;>try (cases hvt;done)
     rename_i ps;subst u6;obtain⟨us,rfl,o2,o3⟩:=vM.many ps rfl;have e1:zGV (zCo R) (.tup ps) = .tup (zCX (zEA (zCo R)) ps):=rfl;rw[e1] at g3;simp only[zDv] at g3;obtain⟨kB,g9⟩:=zAP g3;simp only[bb] at kB;have hl16:=br kB.1;rw[zDb] at hl16;obtain⟨Φ2,rv2,E2,L2,C2,k1,k2,k3,k4,k5⟩:=back ps.length (by omega) (fun hf j hj=>by
      obtain⟨p,hp⟩:∃ p,ps[j]? = some p:=⟨_,bl hj⟩;rw[(o3 j p hp).1];have key:∀ (l:List PV),zD1 l=true->∀ p∈l,p.free=true:=by
       intro l
       induction l with
       |nil=>intro _ p hp;cases hp|cons x l ih=>
        intro h p hp;simp only[zD1,bb] at h;rcases bx.1 hp with rfl|hp
        ·exact h.1
        ·exact ih h.2 p hp
      exact key ps hf p (bH hp))
     simp only[PM.run] at g9;obtain⟨L3,S3⟩:=(st C2 k1 k2 k3).empty uC;have vW:∀ g,zAa<=g->g≠d:=fun g hg=>by omega
     refine zFr uC (vs:=us) (zCX (zEA (zCo R)) ps) 0 S3 (fun ps hp=>by rw[zAi] at hp;cases hp) (by rw[zDb];omega) (by rw[zDb];omega) (fun j p hp=>?_) (fun g hg hI=>?_) (fun x hx=>?_) (fun j hj=>by omega) g9
     ·rw[zHK] at hp
      cases vf:ps[j]? with
      |none=>rw[vf] at hp;cases hp|some p0=>
       rw[vf] at hp;simp only[bv,ba] at hp;have hj:j<ps.length:=(bg.1 vf).1;obtain⟨m1,m2⟩:=k4 j hj;obtain⟨m3,m4⟩:=o3 j p0 vf;simp only[bQ,dq];rw[zAe (vW _ (by omega)),m1,m3,m2];exact⟨hp,m4⟩
     ·rw[zAe (vW g hg)];refine k5 g ?_;refine d4 fun yG=>hI (g-zAa) (by rw[zDb];omega) (by omega)
     ·have:=bi.1 kB.2 x hx;simpa using this
end
end Go.Eng
namespace Go.Eng
open Go
theorem zQo(off:Nat):∀ (vs:List Value) (k:Nat) (cells:Array Value),off+k+vs.length<=cells.size ->
  ((vs.zipIdx k).foldl (fun cs x=>cs.setIfInBounds (off+x.2) x.1) cells).toList=cells.toList.take (off+k)++vs++cells.toList.drop (off+k+vs.length)
 |[],k,cells,h=>by simp
 | v :: vs,k,cells,h=>by
  simp only[bD] at h;simp only[fM,bM];rw[zQo off vs (k+1) (cells.setIfInBounds (off+k) v) (by simp;omega)];apply cW;intro m;rw[zC9 (by simp;omega),zC9 (by simp;omega)];simp only[Array.toList_setIfInBounds,dV,bD,fx];by_cases h1:m<off+k
  ·have:¬ off+k=m:=by omega
   rw[if_pos (by omega),if_pos h1,if_neg this]
  ·by_cases h2:m=off+k
   ·subst h2;have h5:off+k<off+(k+1):=by omega
    have h6:off+k<cells.size:=by omega
    have h7:off+k<off+k+(vs.length+1):=by omega
    simp[h5,h6,h7]
   ·have h3:¬ off+k=m:=by omega
    by_cases h4:m<off+k+(vs.length+1)
    ·rw[if_neg (by omega),if_pos (by omega),if_neg h1,if_pos h4];rw[show m-(off+k)=(m-(off+(k+1)))+1 by omega];simp
    ·rw[if_neg (by omega),if_neg (by omega),if_neg h1,if_neg h4,if_neg h3]
theorem zQj(off:Nat)(v:Value)(cells:Array Value)(h:off+v.cells.size<=cells.size):v.cells.zipIdx.foldl (fun cs (c,j)=>cs.setIfInBounds (off+j) c) cells=zBk cells off v.cells.toList:=by
 apply fS;rw[<- Array.foldl_toList,Array.toList_zipIdx];have:=zQo off v.cells.toList 0 cells (by simpa using h);simpa[zBk] using this
section
variable {P:Program} {w0 w:World} {U Φ0 Φ:Nat->Prop} {nt:Nat} {hv:Hid} {a:Act} {e e':Env} {rv:Nat->Value} {E:Nat->PV} {L:Nat->LN} {o:zAK} {A:Al}
theorem zQf:∀ (xs:List Operand) (i:Nat) {k:List PV->PM} {e:Env} {rv:Nat->Value} {E:Nat->PV} {L:Nat->LN},St w0 U Φ0 nt hv a w e Φ rv E L->(∀ x∈xs,zAZ nt x=true)->(zVw xs k).run o e=some e' ->
  ∃ e1 rv1 E1 L1 ps,(k ps).run o e1=some e'/\St w0 U Φ0 nt hv a w e1 Φ rv1 E1 L1/\ps.length=xs.length/\(∀ (j:Nat) (p:PV) (x:Operand),ps[j]? = some p->xs[j]? = some x->E1 (zAa+i+j)=p/\rv1 (zAa+i+j)=a.eval x) /\
   ∀ s,zAa<=s->(s<zAa+i\/zAa+i+xs.length<=s)->E1 s=E s/\rv1 s=rv s
 |[],i,k,e,rv,E,L,S,hx,h=>⟨e,rv,E,L,[],h,S,rfl,by simp,fun _ _ _=>⟨rfl,rfl⟩⟩
 | x :: xs,i,k,e,rv,E,L,S,hx,h=>by
  simp only[zVw] at h;obtain⟨e1,rv1,E1,L1,h1,S1,h2,h3⟩:=zFY S (hx x (by simp)) (g:=zAa+i) (by omega) h;obtain⟨e2,rv2,E2,L2,ps,h4,S2,h5,h6,h7⟩:=zQf xs (i+1) S1 (fun y hy=>hx y (by simp[hy])) h1;refine⟨e2,rv2,E2,L2,E1 (zAa+i)::ps,h4,S2,by simp[h5],fun j p y hp hy=>?_,fun s hs kC=>?_⟩
  ·cases j with
   |zero=>
    simp at hp hy;subst hp;subst hy;obtain⟨k1,k2⟩:=h7 (zAa+i) (by omega) (.inl (by omega));simp only[bQ];rw[k1,k2];exact⟨rfl,h2⟩
   |succ j=>
    have:=h6 j p y (by simpa using hp) (by simpa using hy);rwa[show zAa+i+(j+1)=zAa+(i+1)+j by omega]
  ·obtain⟨k1,k2⟩:=h7 s hs (by simp at kC;omega);obtain⟨k3,k4,_⟩:=h3 s hs (by simp at kC;omega);exact⟨k1.trans k3,k2.trans k4⟩
theorem zXb(S:St w0 U Φ0 nt hv a w e Φ rv E L){nz:ON}{x:Operand}(hx:zAZ nt x=true){g:Nat}(hg:zAa<=g){k:PV->PM}(h:(zZh nz x k).run o e=some e') :
  ∃ e1 rv1 E1 L1,(k (E1 g)).run o e1=some e'/\St w0 U Φ0 nt hv a w e1 Φ rv1 E1 L1/\rv1 g=a.eval x/\zYh g rv rv1 E E1 L L1:=by
 unfold zZh at h;split at h
 ·rename_i s;have hr:Rep w Φ (zBa w rv E) (.own s []) (a.eval (.const (.slice none 0 0))) [] := .inl ⟨rfl,rfl,rfl⟩;refine⟨e,_,_,_,?_,S.hold hg hr,zAi,fun s _ hI=>⟨zAe hI,zAe hI,zAe hI⟩⟩;rw[zAi];exact h
 ·exact zFY S hx hg h
theorem zPD{nz:ON}:∀ (xs:List Operand) (i:Nat) {k:List PV->PM} {e:Env} {rv:Nat->Value} {E:Nat->PV} {L:Nat->LN},St w0 U Φ0 nt hv a w e Φ rv E L->(∀ x∈xs,zAZ nt x=true)->(zRg nz xs k).run o e=some e' ->
  ∃ e1 rv1 E1 L1 ps,(k ps).run o e1=some e'/\St w0 U Φ0 nt hv a w e1 Φ rv1 E1 L1/\ps.length=xs.length/\(∀ (j:Nat) (p:PV) (x:Operand),ps[j]? = some p->xs[j]? = some x->E1 (zAa+i+j)=p/\rv1 (zAa+i+j)=a.eval x) /\
   ∀ s,zAa<=s->(s<zAa+i\/zAa+i+xs.length<=s)->E1 s=E s/\rv1 s=rv s
 |[],i,k,e,rv,E,L,S,hx,h=>⟨e,rv,E,L,[],h,S,rfl,by simp,fun _ _ _=>⟨rfl,rfl⟩⟩
 | x :: xs,i,k,e,rv,E,L,S,hx,h=>by
  simp only[zRg] at h;obtain⟨e1,rv1,E1,L1,h1,S1,h2,h3⟩:=zXb S (hx x (by simp)) (g:=zAa+i) (by omega) h;obtain⟨e2,rv2,E2,L2,ps,h4,S2,h5,h6,h7⟩:=zPD xs (i+1) S1 (fun y hy=>hx y (by simp[hy])) h1;refine⟨e2,rv2,E2,L2,E1 (zAa+i)::ps,h4,S2,by simp[h5],fun j p y hp hy=>?_,fun s hs kC=>?_⟩
  ·cases j with
   |zero=>
    simp at hp hy;subst hp;subst hy;obtain⟨k1,k2⟩:=h7 (zAa+i) (by omega) (.inl (by omega));simp only[bQ];rw[k1,k2];exact⟨rfl,h2⟩
   |succ j=>
    have:=h6 j p y (by simpa using hp) (by simpa using hy);rwa[show zAa+i+(j+1)=zAa+(i+1)+j by omega]
  ·obtain⟨k1,k2⟩:=h7 s hs (by simp at kC;omega);obtain⟨k3,k4,_⟩:=h3 s hs (by simp at kC;omega);exact⟨k1.trans k3,k2.trans k4⟩
theorem zJP(hA:∀ a v,a.isWay=true->A a v->v.oneCell'=true){p:PV}{v:Value}{M:LN}(h:Rep w Φ A p v M)(hw:p.whole=true):zCv v=p.isAgg/\v.cells.size=p.cells.length:=by
 simp only[PV.whole,bW] at hw;have ha:zCv v=p.isAgg:=by
  rcases hw with hw|hw
  ·cases p<;>simp[PV.isAgg] at hw;obtain⟨vs,rfl,_⟩:=h;rfl
  ·rw[(zBO (zCi hA h hw)).2,(zBo hw).2]
 have:=(h.cellsAll ha).length;exact⟨ha,by simpa using this⟩
theorem zSV(C:Conf w0 U Φ0 w Φ rv E L){place place':Nat->Option (Nat×Nat)}(kR:∀ i x,place i=some x->place' i=some x):∀ (ps:List (Nat×PV)) (vs:List (Nat×Value)) (k:Nat) (z cs:List PV) (zc:Array Value) (Lz:LN),
  zFR place z ps=some cs->vs.length=ps.length->(∀ (j:Nat) (x:Nat×PV) (y:Nat×Value),ps[j]? = some x->vs[j]? = some y->x.1=y.1/\E (zAa+k+j)=x.2/\rv (zAa+k+j)=y.2) ->
  zA8 w Φ (zBa w rv E) z zc.toList Lz->Lz.Nodup->(∀ b∈Lz,∃ t,zAa<=t/\t<zAa+k/\b∈L t) ->
  ∃ cells Lc,Instr.fill place' zc vs=some cells/\zA8 w Φ (zBa w rv E) cs cells.toList Lc/\Lc.Nodup/\∀ b∈Lc,∃ t,zAa<=t/\t<zAa+k+ps.length/\b∈L t
 |[],vs,k,z,cs,zc,Lz,h,hl,_,hr,hn,hm=>by
  have:vs=[]:=bq (by simpa using hl);subst this;simp only[zFR,ba] at h;subst h;exact⟨zc,Lz,rfl,hr,hn,by simpa using hm⟩
 | (i, p) :: ps,vs,k,z,cs,zc,Lz,h,hl,hj,hr,hn,hm=>by
  match vs,hl,hj with
  | (i', v) :: vs,hl,hj =>
   obtain⟨h1,h2,h3⟩:=hj 0 (i,p) (i',v) rfl rfl;simp only[bQ] at h1 h2 h3;subst h1;simp only[zFR] at h
   cases hp:place i with
   |none=>rw[hp] at h;cases h
   | some x =>
    obtain⟨off,n⟩:=x;rw[hp] at h;simp only at h;split at h
    ·rename_i hc;obtain⟨c1,c2,c3⟩:=hc;have hZ:=C.rep (zAa+k);rw[h2,h3] at hZ;obtain⟨q1,q2⟩:=zJP (fun a v hw h=>zDd hw h) hZ c3;have kj:zc.size=z.length:=by have:=hr.length;simpa using this
     obtain⟨L1,L2,L3,hL,hk⟩:=hr.replace off n;subst hL;have j2:=hk (w':=w) (Φ':=Φ) (A':=zBa w rv E) (fun _ _ _ h=>h) zDq.refl (fun _ _=>rfl) (hZ.cellsAll q1);have kH:v.cells.toList.length=n:=by simp;omega
     have yd:(zBk zc off v.cells.toList).toList=zc.toList.take off++v.cells.toList++zc.toList.drop (off+n):=by
      simp only[zBk];rw[kH]
     simp only[bK] at hn;have uT:∀ b∈L (zAa+k),b∉L1++L2++L3:=by
      intro b hb j0;obtain⟨t,k1,k2,k3⟩:=hm b j0;exact C.disj t (zAa+k) (by omega) b k3 hb
     obtain⟨cells,Lc,g1,g2,g3,g4⟩:=zSV C kR ps vs (k+1) _ cs (zBk zc off v.cells.toList) (L1++L (zAa+k)++L3) h (by simpa using hl) (fun j x y hx hy=>by
      rw[show zAa+(k+1)+j=zAa+k+(j+1) by omega];exact hj (j+1) x y (by simpa using hx) (by simpa using hy)) (by rw[yd];exact j2)
      (by
       simp only[bK];refine⟨⟨hn.1.1,C.nodup _,fun x hx y hy e=>uT y hy (by rw[<- e];simp[hx])⟩,hn.2.1,fun x hx y hy e=>?_⟩;rcases bj.1 hx with hx|hx
       ·exact hn.2.2 x (by simp[hx]) y hy e
       ·exact uT x hx (by rw[e];simp[hy]))
      (fun b hb=>by
       simp only[bj] at hb;rcases hb with(hb|hb)|hb
       ·obtain⟨t,k1,k2,k3⟩:=hm b (by simp[hb]);exact⟨t,k1,by omega,k3⟩
       ·exact⟨zAa+k,by omega,by omega,hb⟩
       ·obtain⟨t,k1,k2,k3⟩:=hm b (by simp[hb]);exact⟨t,k1,by omega,k3⟩)
     refine⟨cells,Lc,?_,g2,g3,fun b hb=>?_⟩
     ·simp only[Instr.fill,kR i _ hp];rw[if_neg (by simp;omega),zQj off v zc (by omega)];exact g1
     ·obtain⟨t,k1,k2,k3⟩:=g4 b hb;exact⟨t,k1,by simp;omega,k3⟩
    ·cases h
theorem St.madeN(S:St w0 U Φ0 nt hv a w e Φ rv E L)(N:Nat)(hb:∀ s,zAa+N<=s->E s = .bad){d:ON}(hd:∀ x,d=some x->x<nt){w':World}{p:PV}{v:Value}{Lp:LN}(hr:∀ A:Al,(∀ a u,a.isWay=true->zBa w rv E a u->A a u)->Rep w' Φ A p v Lp)(uC:Lp.Nodup)
  (ho:∀ b∈Lp,(∃ t,zAa<=t/\t<zAa+N/\b∈L t)\/(w.heap.size<=b/\b<w'.heap.size)) (hw:w.heap.size<=w'.heap.size)
  (hk:∀ b,b<w.heap.size->(∀ t,zAa<=t->t<zAa+N->b∉L t)->w'.heap[b]? = w.heap[b]?) (u4:w'.os=w.os/\w'.tape=w.tape/\w'.output=w.output) (h:(put d p).run o e=some e') :
  Fr w0 U Φ0 nt hv (a.put d v) w' e':=by
 have hG:∀ s,decide (zAa<=s/\s<zAa+N)=true↔zAa<=s/\s<zAa+N:=fun s=>decide_eq_true_iff
 have hc:=S.conf.make (w':=w') (fun s=>decide (zAa<=s/\s<zAa+N)) (fun s hs=>((hG s).1 hs).1) (g:=zAa+N) (by omega) (fun A hA=>hr A hA) uC
  (fun b hb=>(ho b hb).imp (fun⟨t,h1,h2,h3⟩=>⟨t,h3,(hG t).2 ⟨h1,h2⟩⟩) id) hw
  (fun b hb hn=>hk b hb fun t h1 h2 h3=>by have:=hn t h3;rw[(hG t).2 ⟨h1,h2⟩] at this;cases this) u4
 have S1:=S.turn (e':=e) hc (fun s hs=>by
  rw[zAe (by omega)];have:decide (zAa<=s/\s<zAa+N)=false:=decide_eq_false (by omega);simp only[this,bp,if_false];exact S.env s hs) (fun s hs=>zAe (by omega)) (fun d ps hd hp=>by
  rw[zAe (by simp only[zAa];omega)] at hp;have:decide (zAa<=d/\d<zAa+N)=false:=decide_eq_false (by simp only[zAa];omega);simp only[this,bp,if_false] at hp;exact⟨ps,hp,rfl⟩)
 have:=zFU S1 hd (g:=zAa+N) (by omega) (by rw[zAi];exact h) (fun s hs hI=>by
  rw[zAe hI];by_cases h3:s<zAa+N
  ·have:decide (zAa<=s/\s<zAa+N)=true:=(hG s).2 ⟨hs,h3⟩;simp[this]
  ·have:decide (zAa<=s/\s<zAa+N)=false:=decide_eq_false (by omega);simp only[this,bp,if_false];exact hb s (by omega))
 rwa[zAi] at this
theorem zQb(S:St w0 U Φ0 nt hv a w e Φ rv E L)(hb:zBs E){d:ON}(hd:∀ x,d=some x->x<nt){place place':Nat->Option (Nat×Nat)}(kR:∀ i x,place i=some x->place' i=some x){t:TypeId}{z:PV}(hz:zCO P t=some z){ps:List (Nat×Operand)}(yg:∀ x∈ps,zAZ nt x.2=true)
  (h:(zPR place z.cells ps fun cs=>put d (.agg cs)).run o e=some e'):∃ v cells,(∀ w:World,(zeroValue t).run P w = .ok v w)/\Instr.fill place' v.cells (ps.map fun x=>(x.1,a.eval x.2))=some cells/\Fr w0 U Φ0 nt hv (a.put d (.agg cells)) w e':=by
 obtain⟨i,zv,hi,hzv,yC,kd⟩:=zDN hz;simp only[zPR] at h;obtain⟨e1,rv1,E1,L1,vs,h1,S1,h2,h3,h4⟩:=zQf (ps.map (·.2)) 0 S (fun x hx=>by
  obtain⟨y,hy,rfl⟩:=b4.1 hx;exact yg y hy) h
 simp only[be] at h2 h4;split at h1
 ·rename_i cs hf;obtain⟨hr,v6,kK,_⟩:=zCq (w:=w) (Φ:=Φ) (A:=zBa w rv1 E1) kd;obtain⟨cells,Lc,g1,g2,g3,g4⟩:=zSV S1.conf kR ((ps.map (·.1)).zip vs) (ps.map fun x=>(x.1,a.eval x.2)) 0 z.cells cs zv.cells [] hf (by simp[h2]) (fun j x y hx hy=>by
   obtain⟨ji,j4⟩:=fA.1 hx;rw[cH] at ji hy
   cases vf:ps[j]? with
   |none=>rw[vf] at hy;cases hy|some q=>
    rw[vf] at ji hy;simp only[bv,ba] at ji hy;obtain⟨k1,k2⟩:=h3 j x.2 q.2 j4 (by rw[cH,vf];rfl);exact⟨by rw[<- ji,<- hy],k1,by rw[k2,<- hy]⟩) (hr.cellsAll kK) b8 (by simp)
  refine⟨zv,cells,yC,g1,S1.madeN ps.length (fun s hs=>?_) hd (p := .agg cs) (v := .agg cells) (w':=w) (Lp:=Lc) (fun A hA=>⟨cells,rfl,g2.mono zDq.refl hA (fun _ _=>rfl)⟩) g3 (fun b hb=>.inl ?_) (bf _) (fun _ _ _=>rfl) ⟨rfl,rfl,rfl⟩ h1⟩
  ·rw[(h4 s (by omega) (.inr (by omega))).1];exact hb s (by omega)
  ·obtain⟨t,k1,k2,k3⟩:=g4 b hb;have hl:((ps.map (·.1)).zip vs).length=ps.length:=by simp[h2]
   exact⟨t,k1,by omega,k3⟩
 ·cases h1
theorem zSF{α β:Type}{f:α->Sem β}{g:α->β}(l:List α)(h:∀ x∈l,∀ w:World,(f x).run P w = .ok (g x) w)(w:World):(l.mapM f).run P w = .ok (l.map g) w:=by
 induction l with
 |nil=>rfl|cons x l ih=>simp only[f8,bo,h x (by simp),bh,ih (fun y hy=>h y (by simp[hy])),bA,bL]
theorem zU6(S:St w0 U Φ0 nt hv a w e Φ rv E L)(hb:zBs E){d:ON}(hd:∀ x,d=some x->x<nt){t:TypeId}{ps:Array (Nat×Operand)}(yg:∀ x∈ps.toList,zAZ nt x.2=true)(h:(zOb P d t ps.toList).run o e=some e') :
  ∃ v,(Instr.build t (ps.map fun x=>(x.1,a.eval x.2))).run P w = .ok v w/\Fr w0 U Φ0 nt hv (a.put d v) w e':=by
 have uj:(ps.map fun x=>(x.1,a.eval x.2)).toList=ps.toList.map fun x=>(x.1,a.eval x.2):=by simp
 simp only[zOb] at h;split at h
 ·rename_i fs z ht hz;obtain⟨vY,h1⟩:=zAP h;simp only[bm] at hz;obtain⟨zp,hz,rfl⟩:=hz
  let sz:Field->Nat:=fun f=>(szT P f.type).getD 0
  have wU:∀ f∈fs.toList,∀ w:World,(sizeOf f.type).run P w = .ok (sz f) w:=by
   intro f hf w;rw[<- Array.all_toList] at vY;have:=bi.1 vY f hf;obtain⟨n,hn⟩:=dY.1 this;obtain⟨i,hi,ww⟩:=zCu hn;simp only[sz,hn,dd];rw[zA7 hi,ww]
  obtain⟨zv,cells,k1,k2,k3⟩:=zQb (P:=P) S hb hd (place':=fun i=>(fs.map fun f=>(f.offset,sz f))[i]?) (fun i x hx=>by
   cases gI:fs[i]? with
   |none=>rw[gI] at hx;cases hx
   | some f =>
    rw[gI] at hx;simp only[bc] at hx
    cases hs:szT P f.type with
    |none=>rw[hs] at hx;cases hx|some n=>
     rw[hs] at hx;simp only[bv,ba] at hx;subst hx;simp[gI,sz,hs]) hz yg h1
  refine⟨.agg cells,?_,k3⟩;have hm:∀ w:World,(fs.mapM fun f=>(do pure (f.offset,<- sizeOf f.type):Sem (Nat×Nat))).run P w = .ok (fs.map fun f=>(f.offset,sz f)) w:=by
   intro w;have:=zSF (P:=P) (f:=fun f=>(do pure (f.offset,<- sizeOf f.type):Sem (Nat×Nat))) (g:=fun f=>(f.offset,sz f)) fs.toList (fun f hf w=>by
    simp only[bo,wU f hf w,bh,bA]) w
   rw[im];simp only[Sem.run_map,this,bh];rw[<- iy,Array.toArray_toList]
  simp only[Instr.build,bo,k1,bh,run_underlying ht,hm];rw[uj,k2];rfl
 ·rename_i len el z ht hz;obtain⟨n,hn,h1⟩:=zBJ h;simp only[bm] at hz;obtain⟨zp,hz,rfl⟩:=hz;obtain⟨i,hi,ww⟩:=zCu hn;obtain⟨zv,cells,k1,k2,k3⟩:=zQb (P:=P) S hb hd (place':=fun i=>some (i*n,n)) (fun i x hx=>hx) hz yg h1;refine⟨.agg cells,?_,k3⟩;simp only[Instr.build,bo,k1,bh,run_underlying ht,zA7 hi,ww];rw[uj,k2];rfl
 ·cases h
theorem zK6{tk:Bool}:∀ (ps:List PV) (i:Nat) {k:List PV->PM} {e:Env} {Φ:Nat->Prop} {rv:Nat->Value} {E:Nat->PV} {L:Nat->LN},St w0 U Φ0 nt hv a w e Φ rv E L->(∀ (j:Nat) (p:PV),ps[j]? = some p->E (zAa+i+j)=p)->(zGm tk ps k).run o e=some e' ->
  ∃ e1 Φ1 rv1 E1 L1 qs,(k qs).run o e1=some e'/\St w0 U Φ0 nt hv a w e1 Φ1 rv1 E1 L1/\qs.length=ps.length/\(∀ (j:Nat) (q:PV),qs[j]? = some q->E1 (zAa+i+j)=q/\rv1 (zAa+i+j)=rv (zAa+i+j)) /\
   ∀ s,zAa<=s->(s<zAa+i\/zAa+i+ps.length<=s)->E1 s=E s/\rv1 s=rv s
 |[],i,k,e,Φ,rv,E,L,S,hp,h=>⟨e,Φ,rv,E,L,[],h,S,rfl,by simp,fun _ _ _=>⟨rfl,rfl⟩⟩
 | p :: ps,i,k,e,Φ,rv,E,L,S,hp,h=>by
  simp only[zGm] at h;have hE:=hp 0 p rfl;simp only[bQ] at hE;rw[<- hE] at h;obtain⟨e1,rv1,E1,h1,W⟩:=zNq S (g:=zAa+i) (by omega) h;obtain⟨Φ1,L1,S1⟩:=W.st;obtain⟨e2,Φ2,rv2,E2,L2,qs,h2,S2,h3,h4,h5⟩:=zK6 ps (i+1) S1 (fun j q hq=>by
   rw[(W.rest _ (by omega) (by omega)).1,show zAa+(i+1)+j=zAa+i+(j+1) by omega];exact hp (j+1) q (by simpa using hq)) h1
  refine⟨e2,Φ2,rv2,E2,L2,E1 (zAa+i)::qs,h2,S2,by simp[h3],fun j q hq=>?_,fun s hs kC=>?_⟩
  ·cases j with
   |zero=>
    simp at hq;subst hq;obtain⟨k1,k2⟩:=h5 (zAa+i) (by omega) (.inl (by omega));simp only[bQ];exact⟨k1,k2.trans W.val⟩
   |succ j=>
    obtain⟨k1,k2⟩:=h4 j q (by simpa using hq);rw[show zAa+(i+1)+j=zAa+i+(j+1) by omega] at k1 k2;exact⟨k1,k2.trans (W.rest _ (by omega) (by omega)).2⟩
  ·obtain⟨k1,k2⟩:=h5 s hs (by simp at kC;omega);obtain⟨k3,k4⟩:=W.rest s hs (by simp at kC;omega);exact⟨k1.trans k3,k2.trans k4⟩
theorem zPj(C:Conf w0 U Φ0 w Φ rv E L){s n:Nat}:∀ (ps:List (Nat×PV)) (vs:List (Nat×Value)) (k:Nat) (xs:List PV) (us:List Value) (cells:Array Value) (Lx:LN),vs.length=ps.length ->
  (∀ (j:Nat) (x:Nat×PV) (y:Nat×Value),ps[j]? = some x->vs[j]? = some y->x.1=y.1/\x.1<n/\E (zAa+k+j)=x.2/\rv (zAa+k+j)=y.2/\x.2.ways=[]/\x.2.whole=true/\x.2.cells.length=s) ->
  xs.length=n->us.length=n->cells.toList=flat us->(∀ x∈xs,x.cells.length=s)->(∀ u∈us,u.cells.size=s)->us.map zCv=xs.map PV.isAgg->zA8 w Φ zCm xs us Lx->Lx.Nodup->(∀ b∈Lx,∃ t,zAa<=t/\t<zAa+k/\b∈L t) ->
  ∃ cells' us' Lc,Instr.fill (fun i=>some (i*s,s)) cells vs=some cells'/\cells'.toList=flat us'/\us'.length=n/\(∀ u∈us',u.cells.size=s)/\(∀ x∈ps.foldl (fun xs (i,v)=>xs.set i v) xs,x.cells.length=s)/\us'.map zCv=(ps.foldl (fun xs (i,v)=>xs.set i v) xs).map PV.isAgg /\
   zA8 w Φ zCm (ps.foldl (fun xs (i,v)=>xs.set i v) xs) us' Lc/\Lc.Nodup/\∀ b∈Lc,∃ t,zAa<=t/\t<zAa+k+ps.length/\b∈L t
 |[],vs,k,xs,us,cells,Lx,hl,_,h1,h2,h3,h4,h5,h6,h7,h8,h9=>by
  have:vs=[]:=bq (by simpa using hl);subst this;exact⟨cells,us,Lx,rfl,h3,h2,h5,h4,h6,h7,h8,by simpa using h9⟩
 | (i, p)::ps,vs,k,xs,us,cells,Lx,hl,hj,h1,h2,h3,h4,h5,h6,h7,h8,h9=>by
  match vs,hl,hj with
  | (i',v)::vs,hl,hj =>
   obtain⟨q1,q2,q3,q4,q5,q6,q7⟩:=hj 0 (i,p) (i',v) rfl rfl;simp only[bQ] at q1 q2 q3 q4 q5 q6 q7;subst q1;have hZ:=C.rep (zAa+k);rw[q3,q4] at hZ;obtain⟨w1,w2⟩:=zJP (fun a v hw h=>zDd hw h) hZ q6;have yn:v.cells.size=s:=by omega
   have hrep0:Rep w Φ zCm p v (L (zAa+k)):=zWx q5 (fun a v hw h=>zJn hw h) hZ;obtain⟨L1,L2,L3,hL,hk⟩:=h7.replace i 1;subst hL;have j2:=hk (w':=w) (Φ':=Φ) (A':=zCm) (fun _ _ _ h=>h) zDq.refl (fun _ _=>rfl) (show zA8 w Φ zCm [p] [v] (L (zAa+k)) from⟨v,[],_,[],rfl,by simp,hrep0,rfl,rfl⟩);rw[<- zEQ (by omega),<- zEQ (by omega)] at j2;have hci:cells.size=n*s:=by
    have:=congrArg length h3;rw[zBr h5,h2] at this;simpa using this
   have qP:i*s+s<=n*s:=by rw[<- cZ];exact cY _ q2
   have uH:(zBk cells (i*s) v.cells.toList).toList=flat (us.set i v):=by
    simp only[zBk];rw[h3,zEQ (by omega:i<us.length),zC3,zC3,show(v.cells.toList).length=s by simpa using yn,zJb h5];have:i*s+s=(i+1)*s:=by rw[cZ]
    rw[this,zKa h5];simp[flat]
   simp only[bK] at h8;have uT:∀ b∈L (zAa+k),b∉L1++L2++L3:=by
    intro b hb j0;obtain⟨t,k1,k2,k3⟩:=h9 b j0;exact C.disj t (zAa+k) (by omega) b k3 hb
   have jA:(us.set i v).map zCv=(xs.set i p).map PV.isAgg:=by
    apply cW;intro m;have hm:=congrArg (·[m]?) h6;simp only[cH,dV] at hm ⊢;by_cases hmi:i=m
    ·subst hmi;have e1:i<us.length:=by omega
     have e2:i<xs.length:=by omega
     simp[e1,e2,w1]
    ·simp only[hmi,if_false];exact hm
   obtain⟨cells',us',Lc,g1,g2,g3,g4,g5,g6,g7,g8,g9⟩:=zPj C ps vs (k+1) (xs.set i p) (us.set i v) (zBk cells (i*s) v.cells.toList) (L1++L (zAa+k)++L3) (by simpa using hl) (fun j x y hx hy=>by
    rw[show zAa+(k+1)+j=zAa+k+(j+1) by omega];exact hj (j+1) x y (by simpa using hx) (by simpa using hy)) (by simpa using h1) (by simpa using h2) uH
    (fun x hx=>(dD hx).elim (h4 x) (fun h=>h▸q7)) (fun u hu=>(dD hu).elim (h5 u) (fun h=>h▸yn)) jA j2
    (by
     simp only[bK];refine⟨⟨h8.1.1,C.nodup _,fun x hx y hy e=>uT y hy (by rw[<- e];simp[hx])⟩,h8.2.1,fun x hx y hy e=>?_⟩;rcases bj.1 hx with hx|hx
     ·exact h8.2.2 x (by simp[hx]) y hy e
     ·exact uT x hx (by rw[e];simp[hy]))
    (fun b hb=>by
     simp only[bj] at hb;rcases hb with(hb|hb)|hb
     ·obtain⟨t,k1,k2,k3⟩:=h9 b (by simp[hb]);exact⟨t,k1,by omega,k3⟩
     ·exact⟨zAa+k,by omega,by omega,hb⟩
     ·obtain⟨t,k1,k2,k3⟩:=h9 b (by simp[hb]);exact⟨t,k1,by omega,k3⟩)
   refine⟨cells',us',Lc,?_,g2,g3,g4,g5,g6,g7,g8,fun b hb=>?_⟩
   ·simp only[Instr.fill];rw[if_neg (by simp;omega),zQj (i*s) v cells (by omega)];exact g1
   ·obtain⟨t,k1,k2,k3⟩:=g9 b hb;exact⟨t,k1,by simp;omega,k3⟩
theorem zNW:∀ {ps:List PV},zBx ps=[]->∀ p∈ps,p.ways=[]
 |[],_,_,h=>by cases h|q::qs,h,p,hp=>by
  simp only[zBx,dx] at h;rcases bx.1 hp with rfl|hp
  ·exact h.1
  ·exact zNW h.2 p hp
theorem zMt(S:St w0 U Φ0 nt hv a w e Φ rv E L)(hb:zBs E){d:ON}(hd:∀ x,d=some x->x<nt){tk:Bool}{t:TypeId}{n:Nat}{ps:Array (Nat×Operand)}(yg:∀ x∈ps.toList,zAZ nt x.2=true)(h:(zDS P tk d t n ps.toList).run o e=some e') :
  ∃ v w',(Instr.buildSlice t n (ps.map fun x=>(x.1,a.eval x.2))).run P w = .ok v w'/\Fr w0 U Φ0 nt hv (a.put d v) w' e':=by
 have uj:(ps.map fun x=>(x.1,a.eval x.2)).toList=ps.toList.map fun x=>(x.1,a.eval x.2):=by simp
 simp only[zDS] at h;split at h
 ·rename_i el jH;split at h
  ·rename_i s z hs hz;obtain⟨hc,h1⟩:=zDk h;simp only[bb,decide_eq_true_eq,bi] at hc;obtain⟨⟨hns,kj⟩,hpn⟩:=hc;have kj:=bd kj;obtain⟨i,zv,hi,hzv,yC,kd⟩:=zDN hz;obtain⟨i2,uZ,ww⟩:=zCu hs;rw[hi] at uZ;cases uZ;have ht:=zCI jH;obtain⟨e1,rv1,E1,L1,vs,h2,S1,h3,h4,h5⟩:=zPD (ps.toList.map (·.2)) 0 S (fun x hx=>by
    obtain⟨y,hy,rfl⟩:=b4.1 hx;exact yg y hy) h1
   obtain⟨e2,Φ2,rv2,E2,L2,qs,h6,S2,h7,h8,h9⟩:=zK6 vs 0 S1 (fun j p hp=>by
    have hj:j<(ps.toList.map (·.2)).length:=by
     have:=(bg.1 hp).1;omega
    exact(h4 j p _ hp (bl hj)).1) h2
   obtain⟨hq,jZ⟩:=zDk h6;simp only[bb,bi,d5,decide_eq_true_eq] at hq;obtain⟨hw,hq⟩:=hq;simp only[be] at h3 h5;have yA:((ps.toList.map (·.1)).zip qs).length=ps.toList.length:=by simp;simp at h3;omega
   obtain⟨vu,v6,kK,_⟩:=zCq (w:=w) (Φ:=Φ2) (A:=zCm) kd;have vL:zv.cells.size=s:=by rw[v6,kj]
   have hzz:zA8 w Φ2 zCm (replicate n z) (replicate n zv) []:=by
    clear jZ yA hq h6 h2 hns hpn h1 h kj
    induction n with
    |zero=>exact⟨rfl,rfl⟩|succ n ih=>exact⟨zv,_,[],[],rfl,rfl,(zCq kd).1,ih⟩
   have kU:(madeCells zv.cells (n*s)).toList=flat (replicate n zv):=by
    have hl:(flat (replicate n zv)).length=n*s:=by
     rw[zBr (sz:=s) (fun u hu=>by rw[ce hu];exact vL)];simp
    apply cW;intro m;by_cases hm:m<n*s
    ·have:=zGC vL (l:=n) (k:=m) (bl (by omega));rw[bS,zPb (m:=m+1) hm (by omega),this,bl (by omega)]
    ·rw[cV (by simp[size_madeCells];omega),cV (by omega)]
   obtain⟨cells',us',Lc,g1,g2,g3,g4,g5,g6,g7,g8,g9⟩:=zPj S2.conf (s:=s) (n:=n) ((ps.toList.map (·.1)).zip qs) (ps.toList.map fun x=>(x.1,a.eval x.2)) 0 (replicate n z) (replicate n zv) (madeCells zv.cells (n*s)) [] (by simp;simp at h3;omega)
    (fun j x y hx hy=>by
     obtain⟨ji,j4⟩:=fA.1 hx;rw[cH] at ji hy
     cases vf:ps.toList[j]? with
     |none=>rw[vf] at hy;cases hy|some q=>
      rw[vf] at ji hy;simp only[bv,ba] at ji hy;have jC:q∈ps.toList:=bH vf;obtain⟨k1,k2⟩:=h8 j x.2 j4;have hvj:j<vs.length:=by have:=(bg.1 j4).1;omega
      obtain⟨k3,k4⟩:=h4 j _ q.2 (bl hvj) (by rw[cH,vf];rfl);have hqx:=hq x.2 (bH j4);refine⟨by rw[<- ji,<- hy],by rw[<- ji];exact hpn q jC,k1,?_,zNW hw _ (bH j4),hqx.2,hqx.1.1⟩;rw[bQ] at k2 k4 ⊢;rw[k2,k4,<- hy])
    (by simp) (by simp) kU (fun x hx=>by rw[ce hx];exact kj) (fun u hu=>by rw[ce hu];exact vL) (by simp[kK]) hzz b8 (by simp)
   have jO:cells'.size=n*s:=by
    have:=congrArg length g2;rw[zBr g4,g3] at this;simpa using this
   refine⟨.slice (some ⟨w.heap.size,0,none⟩) n n,zGT w cells' el,?_,?_⟩
   ·subst ww;have vg:∀ y:Array Value,(n*i.size=0\/y=zv.cells)->(Array.range (n*i.size)).map (fun k=>y[k % y.size]!)=madeCells zv.cells (n*i.size):=by
     rintro y (h0|rfl)
     ·simp[h0,madeCells]
     ·rfl
    have yG:¬ n*i.size>2 ^ 24:=by omega
    simp only[Instr.buildSlice,bo,run_underlying ht,bh,zA7 hi];rw[if_neg yG];split
    ·rename_i h0;simp only[bA,bh,bo,vg #[] (.inl h0),uj,g1,zFi]
    ·simp only[bA,bh,bo,yC,vg zv.cells (.inr rfl),uj,g1,zFi]
   ·have hold:∀ b,b<w.heap.size->(zGT w cells' el).heap[b]? = w.heap[b]?:=fun b hb=>zHC hb;have hΦ:zDq w (zGT w cells' el) Φ2 Φ2:=fun b hb=>⟨hb,hold b (S2.conf.frz b hb).1⟩;have jW:zA8 (zGT w cells' el) Φ2 zCm (zNC n z ((ps.toList.map (·.1)).zip qs)) us' Lc:=g7.mono hΦ (fun _ _ _ h=>h) fun b hb=>by
     obtain⟨t,_,_,k3⟩:=g9 b hb;exact hold b (S2.conf.own t b k3).1
    have jr:(zNC n z ((ps.toList.map (·.1)).zip qs)).length=n:=jW.length.symm.trans g3;refine S2.madeN ps.toList.length (fun s hs=>?_) hd (p := .own s (zNC n z ((ps.toList.map (·.1)).zip qs))) (Lp:=w.heap.size::Lc) (fun A _=>?_) ?_ (fun b yL=>?_) (by rw[zGt];omega) (fun b yL _=>hold b yL) ⟨rfl,rfl,rfl⟩ jZ
    ·rw[(h9 s (by omega) (.inr (by omega))).1,(h5 s (by omega) (.inr (by omega))).1];exact hb s (by omega)
    ·refine .inr ⟨⟨w.heap.size,0,none⟩,n,cells',us',Lc,rfl,by rw[jr],rfl,by omega,zNj,by rw[jO];simp,g5,⟨g4,g6⟩,?_,jW⟩;rw[jr];refine zGU (by rw[zBr g4,g3]) fun k u hk=>?_;rw[dq,<- hk,<- g2,bS]
    ·refine cB.2 ⟨fun hm=>?_,g8⟩;obtain⟨t,_,_,k3⟩:=g9 _ hm;exact absurd (S2.conf.own t _ k3).1 (fJ _)
    ·rcases bx.1 yL with rfl|yL
     ·exact .inr ⟨bf _,by rw[zGt];omega⟩
     ·obtain⟨t,k1,k2,k3⟩:=g9 b yL;exact .inl ⟨t,k1,by omega,k3⟩
  ·cases h
 ·cases h
end
end Go.Eng
namespace Go.Eng
open Go
section
variable {P:Program} {w0 w:World} {U Φ0 Φ:Nat->Prop} {nt:Nat} {hv:Hid} {a:Act} {e e':Env} {rv:Nat->Value} {E:Nat->PV} {L:Nat->LN} {o:zAK} {A:Al}
theorem zXQ(S:St w0 U Φ0 nt hv a w e Φ rv E L)(hb:zBs E){d:ON}(hd:∀ x,d=some x->x<nt){t t2 ty:TypeId}{x y:Operand}(hx:zAZ nt x=true)(hy:zAZ nt y=true)
  (h:(zBB P d .copy [t,t2] [x,y]).run o e=some e'):∃ v w',(Builtin.copy_ #[t,t2] ty #[a.eval x,a.eval y]).run P w = .ok v w'/\Fr w0 U Φ0 nt hv (a.put d v) w' e':=by
 simp only[zBB] at h;obtain⟨sz,yI,h1⟩:=zBJ h;obtain⟨el,jH,jh⟩:=zXN (el:=0) yI;have ht:=zCI jH;obtain⟨i,hi,yw⟩:=zCu jh;obtain⟨p,h2,hp⟩:=zBw S hx h1;obtain⟨q,h3,hq⟩:=zBw S hy h2;obtain⟨ys,us,Ly,h4,km⟩:=zNR S hq h3;obtain⟨⟨xb,xc,v8,yU⟩,jV,wU,kJ⟩:=km;cases p<;>try (cases h4;done)
 rename_i r pre z lo n;obtain⟨hc,h5⟩:=zAP h4;simp only[bb,bi] at hc;obtain⟨⟨⟨vL,ke⟩,gv⟩,ja⟩:=hc;have vL:=bd vL;have ke:=zCe ke;have gv:=br gv;subst vL;have vN:∀ y∈ys,y.plain=true/\y.cells.length=z:=fun y hy=>⟨(ja y hy).1,bd (ja y hy).2⟩;have gF:Ly=[]:=zGn (fun y hy=>(vN y hy).1) jV;subst gF;have yx:=wU z (fun y hy=>(vN y hy).2);have S1:=S.hold (g:=zAa+2) (by omega) hp;obtain⟨w1,e1,rv1,E1,L1,k1,S2,k3,_,k4⟩:=zMy (z:=z) (lo:=lo) (n:=n) (v:=a.eval x) ke ys us 0 S1 zAi zAi (fun s hs hI=>by rw[zAe hI];exact hb s hs) vN kJ jV (by omega) (by simpa using h5);have yO:Fr w0 U Φ0 nt hv (a.put d (.int .i64 ys.length)) w1 e':=by
  obtain⟨Φ2,rv2,E2,L2,S3,gJ⟩:=S2.clear;exact zAC S3 gJ hd k1 (v := .int .i64 ys.length) ⟨rfl,rfl⟩
 have hf:=yU z (fun y hy=>(vN y hy).2) P w (fun _=>rfl);have hmin:Nat.min ys.length n=ys.length:=iI gv;obtain⟨_,hg,⟨b,cap,qI,yV,y7,yf⟩,hn⟩:=hp;rcases k4 with⟨rfl,rfl⟩|⟨b',cap',row,yK,yd,yH,yF,yQ,rfl⟩
 ·refine⟨.int .i64 0,w1,?_,yO⟩;have jG:us=[]:=bq (by have:=jV.length;simpa using this);subst jG;rw[qI,v8];rw[v8] at hf;have qZ:(Builtin.firstCells z 0 (.slice xb 0 xc)).run P w1 = .ok #[] w1:=hf
  cases b with
  |none=>simp[Builtin.copy_,run_underlying ht,Builtin.lenOf,zA7 hi,yw,qZ,goInt]|some b=>simp[Builtin.copy_,run_underlying ht,Builtin.lenOf,zA7 hi,yw,qZ,goInt,storeCells]
 ·rw[yK] at qI;simp only[dj] at qI;refine⟨_,_,?_,yO⟩;rw[yK,v8];rw[v8] at hf;obtain⟨et,jr⟩:=yH;have yD:=run_storeCells_at (P:=P) b'.block b'.off et (flat us) 0 row w jr (by simpa using yF) yQ;simp only[bQ] at yD;have yL:b'=⟨b'.block,b'.off,none⟩:=by cases b';simp_all
  rw[<- yL] at yD;simp[Builtin.copy_,run_underlying ht,Builtin.lenOf,zA7 hi,yw,hmin,hf,yD,goInt,zBk]
theorem zGI{z:Value}{n:Nat}:flat (replicate n z)=(Builtin.zeroCells z.cells n).toList:=by
 have yA:(flat (replicate n z)).length=n*z.cells.size:=by
  rw[zBr (sz:=z.cells.size) (fun u hu=>by rw[ce hu])];simp
 apply iz
 ·rw[yA];simp[Builtin.zeroCells]
 ·intro k h1 h2;rw[yA] at h1;have hs:0<z.cells.size:=Nat.pos_of_ne_zero fun h0=>by rw[h0] at h1;simp at h1
  have hdm:k / z.cells.size*z.cells.size+k % z.cells.size=k:=Nat.div_add_mod' k _;have hq:k / z.cells.size<n:=Nat.div_lt_of_lt_mul (by rw [Nat.mul_comm];exact h1);have hr:k % z.cells.size<z.cells.size:=Nat.mod_lt _ hs;have hzc : z.cells.toList[k % z.cells.size]? = some (z.cells[k % z.cells.size]'hr) := by simp
  have:=zEc (sz:=z.cells.size) (us:=replicate n z) (fun u hu=>by rw[ce hu]) (i:=k / z.cells.size) (c:=k % z.cells.size) (x:=z) (by simp[hq]) hzc;rw[hdm] at this;have h3:=(bg.1 this).2;rw[h3];simp[Builtin.zeroCells,getElem!_pos z.cells (k % z.cells.size) hr]
theorem zU9(S:St w0 U Φ0 nt hv a w e Φ rv E L)(hb:zBs E){d:ON}(hd:∀ x,d=some x->x<nt){t ty:TypeId}{ts:List TypeId}{x:Operand}(hx:zAZ nt x=true)
  (h:(zBB P d .clear (t::ts) [x]).run o e=some e'):∃ w',(Builtin.clear_ (t::ts).toArray ty #[a.eval x]).run P w = .ok (.tuple #[]) w'/\Fr w0 U Φ0 nt hv (a.put d (.tuple #[])) w' e':=by
 simp only[zBB] at h;obtain⟨p,h1,hp⟩:=zBw S hx h;simp only[zRA] at h1;have light:∀ {v:Value},a.eval x=v->d=none->PM.ok.run o e=some e'->(∃ el,P.underlying t=some (.slice el))->((∃ b c,v = .slice b 0 c))->∃ w',(Builtin.clear_ (t::ts).toArray ty #[a.eval x]).run P w = .ok (.tuple #[]) w'/\Fr w0 U Φ0 nt hv (a.put d (.tuple #[])) w' e':=by
  intro v yK uC yE ⟨el,ht⟩ ⟨b,c,hvb⟩;subst uC;have vC:Fr w0 U Φ0 nt hv (a.put none (.tuple #[])) w e':=by
   simp only[PM.run,ba] at yE;subst yE;exact⟨Φ,rv,E,L,S,hb⟩
  refine⟨w,?_,vC⟩;rw[yK,hvb];cases b<;>simp[Builtin.clear_,run_underlying ht]
 split at h1
 ·rename_i r pre z lo n q s v6 kK;obtain⟨hc,h2⟩:=zAP h1;simp only[bb] at hc;obtain⟨⟨⟨c1,c2⟩,c3⟩,c4⟩:=hc;have c1:=zCe c1;have c2:=bd c2;have c3:=bd c3;subst c2
  cases jH:zB1 P t with
  |none=>rw[jH] at v6;cases v6|some el=>
  rw[jH] at v6 kK;simp only[bc] at v6 kK;have ht:=zCI jH;obtain⟨i,z0,hi,_,ke,kd⟩:=zDN v6;have hrz:=zCq (w:=w) (Φ:=Φ) (A:=zCm) kd;have qX:z0.cells.size=z:=by rw[hrz.2.1,c3]
  by_cases ka:n=0
  ·subst ka;obtain⟨_,_,⟨b,cap,qI,_⟩,_⟩:=hp;exact light qI rfl (by simpa[zGB] using h2) ⟨el,ht⟩ ⟨b,cap,rfl⟩
  have uw:∀ k,zA8 w Φ zCm (replicate k q) (replicate k z0) []:=by
   intro k
   induction k with
   |zero=>exact⟨rfl,rfl⟩|succ k ih=>exact⟨z0,_,[],[],rfl,rfl,hrz.1,ih⟩
  have S1:=S.hold (g:=zAa+2) (by omega) hp;obtain⟨w1,e1,rv1,E1,L1,k1,S2,k3,_,k4⟩:=zMy (z:=z) (lo:=lo) (n:=n) (v:=a.eval x) c1 (replicate n q) (replicate n z0) 0 S1 zAi zAi (fun s hs hI=>by rw[zAe hI];exact hb s hs) (fun y hy=>by rw[ce hy];exact⟨c4,c3⟩) (by simp[hrz.2.2.1]) (uw n) (by simp) (by simpa using h2);have yO:Fr w0 U Φ0 nt hv (a.put none (.tuple #[])) w1 e':=by
   obtain⟨Φ2,rv2,E2,L2,S3,gJ⟩:=S2.clear;simp only[PM.run,ba] at k1;subst k1;exact⟨_,_,_,_,S3,gJ⟩
  obtain⟨_,hg,⟨b,cap,qI,yV,y7,yf⟩,hn⟩:=hp;refine⟨w1,?_,yO⟩;rcases k4 with⟨vu,rfl⟩|⟨b',cap',row,yK,yd,yH,yF,yQ,rfl⟩
  ·exact absurd (by simpa using vu) ka
  ·obtain⟨et,jr⟩:=yH;have yD:=run_storeCells_at (P:=P) b'.block b'.off et (flat (replicate n z0)) 0 row w jr (by simpa using yF) yQ;simp only[bQ] at yD;have yL:b'=⟨b'.block,b'.off,none⟩:=by cases b';simp_all
   rw[<- yL,zGI] at yD;rw[yK];obtain⟨m,rfl⟩:∃ m,n=m+1:=⟨n-1,by omega⟩;simp[Builtin.clear_,run_underlying ht,ke,yD,zBk,zGI]
 ·rename_i h3 h4;obtain⟨el,jH⟩:∃ el,zB1 P t=some el:=by
   cases jH:zB1 P t with
   |none=>rw[jH] at h3;cases h3|some el=>exact⟨el,rfl⟩
  obtain⟨_,⟨_,b,c,yK,_⟩|⟨b,n',c,us,sz,yK,_⟩⟩:=hp
  ·exact light yK rfl h1 ⟨el,zCI jH⟩ ⟨b,c,rfl⟩
  ·exact light yK rfl h1 ⟨el,zCI jH⟩ ⟨some b,n',rfl⟩
 ·rename_i h3 h4;obtain⟨el,jH⟩:∃ el,zB1 P t=some el:=by
   cases jH:zB1 P t with
   |none=>rw[jH] at h3;cases h3|some el=>exact⟨el,rfl⟩
  exact light hp.1 rfl h1 ⟨el,zCI jH⟩ ⟨none,0,rfl⟩
 ·cases h1
end
end Go.Eng
