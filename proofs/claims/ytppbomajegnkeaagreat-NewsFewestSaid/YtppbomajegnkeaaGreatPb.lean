/- The statement NewsFewest jQ for all arguments: further cries that are returned leave none and are as few as can be, and the gaps that are apart, or the errors, are as specified; arguments are not modified. -/
import Derived.Test.YtppbomajegnkeaaGreatPa
import Derived.Laws.AppendOwn
set_option linter.unusedVariables false
set_option linter.unusedSimpArgs false
set_option linter.unusedSectionVars false
open Nat (beq ble blt)
open List (map replicate take drop range length filter)
open Go.Eng.PV (own agg addr func sl bor tup omap bad bool int)
namespace Go.Eng
open Go
section
variable {P:Program} {w0 w w':World} {U Φ0 Φ:Nat->Prop} {nt:Nat} {hv:Hid} {a:Act} {e e':Env} {rv rv':Nat->Value} {E E':Nat->PV} {L L':Nat->LN} {o:zAO} {A:Al}
def Cov(w:World)(Φ:Nat->Prop)(rv:Nat->Value)(E:Nat->PV)(Φ1:Nat->Prop)(x:Nat×zA2):Prop :=
 ∀ nv q Li A,zAZ w (rv x.1) (E x.1).unlock x.2=some (nv,q)->Rep w Φ A q nv Li->∀ b∈Li,Φ1 b
def zNp(hb:Nat)(A:Al):Al:=fun a v=>A a v/\∀ x∈a.ways,hb<=x.1
structure Shown (w:World) (Φ:Nat->Prop) (rv:Nat->Value) (E:Nat->PV) (hb:Nat) (p:PV) (v:Value) (Lp:LN) (q:PV) (l:List (Nat×zA2)):Prop where
 low:∀ x∈l,x.1<zAa/\x.1<hb
 agg:q.isAgg=p.isAgg
 len:q.cells.length=p.cells.length
 rep:∀ Φ1:Nat->Prop,(∀ b,Φ b->Φ1 b)->(∀ x∈l,Cov w Φ rv E Φ1 x)->(∀ b∈Lp,Φ1 b)->Rep w Φ1 (zNp hb (zA9 w rv E)) q v []
structure Showns (w:World) (Φ:Nat->Prop) (rv:Nat->Value) (E:Nat->PV) (hb:Nat) (ps:List PV) (vs:List Value) (Lp:LN) (qs:List PV) (l:List (Nat×zA2)):Prop where
 low:∀ x∈l,x.1<zAa/\x.1<hb
 len:qs.length=ps.length
 rep:∀ Φ1:Nat->Prop,(∀ b,Φ b->Φ1 b)->(∀ x∈l,Cov w Φ rv E Φ1 x)->(∀ b∈Lp,Φ1 b)->zA5 w Φ1 (zNp hb (zA9 w rv E)) qs vs []
theorem zBR{r:Nat}{pre:zA2}{k:PV->PM}(h:(PM.deep r pre k).run o e=some e'):∃ q,zAF (e.get r).unlock pre=some q/\(k q).run o e=some e':=by
 simp only[PM.run] at h
 cases hq:zAF (e.get r).unlock pre with
 |none=>rw[hq] at h;cases h|some q=>rw[hq] at h;exact⟨q,rfl,h⟩
theorem zFJ{hb:Nat}{res:PV->(PV->List (Nat×zA2)->PM)->PM}
  (yk:∀ p v Lp k,Rep w Φ (zA9 w rv E) p v Lp->(res p k).run o e=some e'->∃ q l,(k q l).run o e=some e'/\Shown w Φ rv E hb p v Lp q l) :
  ∀ (ps:List PV) (vs:List Value) (Lp:LN) (k:List PV->List (Nat×zA2)->PM),zA5 w Φ (zA9 w rv E) ps vs Lp->(zEF res ps k).run o e=some e'->∃ qs l,(k qs l).run o e=some e'/\Showns w Φ rv E hb ps vs Lp qs l
 |[],vs,Lp,k,h,hr=>⟨[],[],hr,⟨by simp,rfl,fun _ _ _ _=>⟨h.1,rfl⟩⟩⟩
 |p::ps,vs,Lp,k,h,hr=>by
  obtain⟨v,vs',L1,L2,rfl,rfl,h1,h2⟩:=h;simp only[zEF] at hr;obtain⟨q,l,h3,h4⟩:=yk p v L1 _ h1 hr;obtain⟨qs,m,h5,h6⟩:=zFJ yk ps vs' L2 _ h2 h3;refine⟨q::qs,l++m,h5,⟨fun x hx=>?_,by simp[h6.len],fun Φ1 g1 g2 g3=>⟨v,vs',[],[],rfl,rfl,h4.rep Φ1 g1 (fun x hx=>g2 x (by simp[hx])) (fun b hb=>g3 b (by simp[hb])),h6.rep Φ1 g1 (fun x hx=>g2 x (by simp[hx])) (fun b hb=>g3 b (by simp[hb]))⟩⟩⟩;rcases bk.1 hx with hx|hx
  ·exact h4.low x hx
  ·exact h6.low x hx
theorem zPd{hb:Nat}{p:PV}{v:Value}{Lp:LN}(hp:Rep w Φ (zA9 w rv E) p v Lp)(hw:∀ x∈p.ways,hb<=x.1):Shown w Φ rv E hb p v Lp (zAY p) [] :=
 ⟨by simp,zC8 p,zDa p,fun Φ1 g1 _ g3=>(zEn g1 p v Lp g3 hp).ways _ _ _ fun a v _ hx ha=>⟨ha,fun x gj=>hw x (zGW p x (hx x gj))⟩⟩
theorem zIh{hb:Nat}{p:PV}{v:Value}(hp:Rep w Φ (zA9 w rv E) p v [])(hw:∀ x∈p.ways,hb<=x.1):Shown w Φ rv E hb p v [] p [] :=
 ⟨by simp,rfl,rfl,fun Φ1 g1 _ g3=>(hp.mono (fun b hb=>⟨g1 b hb,rfl⟩) (fun _ _ _ h=>h) (by simp)).ways _ _ _ fun a v _ hx ha=>⟨ha,fun x gj=>hw x (hx x gj)⟩⟩
theorem zIn{hb:Nat}{l:List (Nat×zA2)}(h:l.isEmpty=true):∀ x∈l,hb<=x.1:=by
 cases l with
 |nil=>simp|cons _ _=>cases h
theorem zLf (S:St w0 U Φ0 nt hv a w e Φ rv E L) {hb:Nat}:∀ (n:Nat) (p:PV) (v:Value) (Lp:LN) (k:PV->List (Nat×zA2)->PM),Rep w Φ (zA9 w rv E) p v Lp->(resolve hb n p k).run o e=some e' ->
  ∃ q l,(k q l).run o e=some e'/\Shown w Φ rv E hb p v Lp q l
 |0,p,v,Lp,k,hp,h=>by cases h
 | n + 1, p, v,Lp,k,hp,h=>by
  have ih:=zLf S (hb:=hb) n;have node:∀ r pre x,r<zAa->zAF (e.get r).unlock pre=some x->∃ nv Li,zAZ w (rv r) (E r).unlock pre=some (nv,x)/\Rep w Φ (zA9 w rv E) x nv Li/\∀ Φ1,Cov w Φ rv E Φ1 (r,pre)->∀ b∈Li,Φ1 b:=by
   intro r pre x hr hx;rw[<- S.env r hr] at hx;obtain⟨nv,Li,h1,_,h3⟩:=zBT (zB9 (S.conf.rep r)) hx;exact⟨nv,Li,h1,h3.mono zDt.refl (fun _ _ _ h=>zEO h) (fun _ _=>rfl),fun Φ1 hc b hb=>hc nv x Li _ h1 h3 b hb⟩
  have dflt:(∀ x∈p.ways,hb<=x.1)->(k (zAY p) []).run o e=some e'->∃ q l,(k q l).run o e=some e'/\Shown w Φ rv E hb p v Lp q l :=
   fun hw h=>⟨_,_,h,zPd hp hw⟩
  have dflt2:(bif p.ways.all (fun w=>ble hb w.1) then k (zAY p) [] else .fail).run o e=some e'->∃ q l,(k q l).run o e=some e'/\Shown w Φ rv E hb p v Lp q l:=by
   intro h;obtain⟨h1,h2⟩:=zAS h;exact dflt (fun x hx=>bu (bj.1 h1 x hx)) h2
  have keep:∀ r,(∀ x∈p.ways,x.1=r)->Lp=[]->(k p []).run o e=some e'->ble hb r=true->∃ q l,(k q l).run o e=some e'/\Shown w Φ rv E hb p v Lp q l:=by
   intro r hw hL hk hr;subst hL;exact⟨_,_,hk,zIh hp fun x hx=>by rw[hw x hx];exact bu hr⟩
  have jA:∀ r,ble hb r=false->r<hb:=by
   intro r hr;exact Nat.lt_of_not_le fun yR=>by rw[cU yR] at hr;cases hr
  cases p<;>simp only[resolve] at h<;>try (exact dflt2 h)
  case agg cs=>
   cases hw:(agg cs).ways.isEmpty with
   |true=>rw[hw] at h;exact dflt (zIn hw) h|false=>
    rw[hw] at h;simp only[cond_false] at h;obtain⟨vs,rfl,hr⟩:=hp;obtain⟨qs,l,h1,h2⟩:=zFJ ih cs _ Lp _ hr h;exact⟨_,_,h1,⟨h2.low,rfl,by simpa[PV.cells] using h2.len,fun Φ1 g1 g2 g3=>⟨vs,rfl,h2.rep Φ1 g1 g2 g3⟩⟩⟩
  case ref q=>
   have hL:=hp.1;subst hL
   cases hw:q.ways.isEmpty with
   |true=>rw[hw] at h;exact⟨_,_,h,zIh hp (zIn hw)⟩|false=>
    rw[hw] at h;simp only[cond_false] at h;obtain⟨_,b,c,u,h1,h2,h3,h4,h5,h6,h7⟩:=hp;obtain⟨q',l,h8,h9⟩:=ih q u [] _ h7 h;refine⟨_,_,h8,⟨h9.low,rfl,rfl,fun Φ1 g1 g2 g3=>⟨rfl,b,c,u,h1,h2,g1 _ h3,h4,by rw[h9.len];exact h5,by rw[h9.len,h9.agg];exact h6,h9.rep Φ1 g1 g2 (by simp)⟩⟩⟩
  case func f x y=>
   have hL:=hp.1;subst hL
   cases hw:(func f x y).ways.isEmpty with
   |true=>rw[hw] at h;exact⟨_,_,h,zIh hp (zIn hw)⟩|false=>
    rw[hw] at h;simp only[cond_false] at h;obtain⟨_,fs,cs,h1,h2,h3⟩:=hp;obtain⟨qs,l,h4,h5⟩:=zFJ ih x _ [] _ h2 h;obtain⟨qs',m,h6,h7⟩:=zFJ ih y _ [] _ h3 h4;refine⟨_,_,h6,⟨fun z hz=>?_,rfl,rfl,fun Φ1 g1 g2 g3=>⟨rfl,fs,cs,h1,h5.rep Φ1 g1 (fun z hz=>g2 z (by simp[hz])) (by simp),h7.rep Φ1 g1 (fun z hz=>g2 z (by simp[hz])) (by simp)⟩⟩⟩;rcases bk.1 hz with hz|hz
    ·exact h5.low z hz
    ·exact h7.low z hz
  case addr r pre i c sh =>
   have hL:=hp.1;have ha:=hp.2
   cases kI:ble hb r with
   |true=>rw[kI] at h;exact keep r (by simp[PV.ways]) hL h kI
   | false =>
    rw[kI] at h;simp only[cond_false] at h;obtain⟨x,hx,h1⟩:=zBR h;obtain⟨hg,ad,rfl,ye,hn⟩:=ha;obtain⟨nv,Li,hf,wV,jr⟩:=node r pre x hg hx
    cases hh:zBh x with
    |none=>rw[hh] at h1;cases h1
    | some xs =>
     rw[hh] at h1;simp only at h1
     cases hi:xs[i]? with
     |none=>rw[hi] at h1;cases h1
     | some y =>
      rw[hi] at h1;simp only at h1;obtain⟨ux,row,ad0,Lx,k1,k2,k3,k4,k5,k6,k7,k8,k9⟩:=zL3 wV hh hi;have jS:=hn nv x hf _ (k5 c);subst jS;have k9':=k9.mono (A':=zA9 w rv E) zDt.refl (fun _ _ _ h=>zGt h) (fun _ _=>rfl)
      cases sh with
      | some m =>
       simp only at h1;obtain⟨hc,h2⟩:=zAS h1;simp only[bb] at hc;have yR:=bu hc.1;cases hya:y<;>rw[hya] at hc<;>try (simp[PV.isAgg] at hc;done)
       rename_i cs;subst hya;obtain⟨vs,rfl,hr⟩:=k9';obtain⟨Ly,hly,qU⟩:=zGZ hr c m;have hZ:=hr.length;obtain⟨q',l,h3,h4⟩:=ih (.agg ((cs.drop c).take m)) (.agg ((vs.toList.drop c).take m).toArray) Ly _ ⟨_,rfl,by simpa using qU⟩ h2;have jv:q'.cells.length=m:=by rw[h4.len];simp[PV.cells] at yR ⊢;omega
       refine⟨_,_,h3,⟨fun z hz=>?_,rfl,rfl,fun Φ1 g1 g2 g3=>?_⟩⟩
       ·rcases bD.1 hz with rfl|hz
        ·exact⟨hg,jA r kI⟩
        ·exact h4.low z hz
       ·have jM:=jr Φ1 (g2 _ (by simp));refine⟨rfl,zAw ad0 c,row,_,rfl,rfl,jM _ k1,k3.any,?_,⟨?_,?_⟩,h4.rep Φ1 g1 (fun z hz=>g2 z (by simp[hz])) fun b hb=>jM b (k4 b (hly b hb))⟩
        ·rw[jv];simp only[zAw,Value.cells];rw[k6 c m yR];rfl
        ·rw[jv];simp[Value.cells,PV.cells] at yR hZ ⊢;omega
        ·rw[h4.agg];rfl
      | none =>
       simp only at h1
       cases hc:y.cells[c]? with
       |none=>rw[hc] at h1;cases h1
       | some z =>
        rw[hc] at h1;simp only at h1;obtain⟨vj,h2⟩:=zAS h1;obtain⟨u,La,Lu,Lb,hu,wT,uJ,_,_⟩:=k9'.cell hc k7;obtain⟨q',l,h3,h4⟩:=ih z u Lu _ uJ h2;have kR:=zBP (zCg (fun a v hw h=>zDc hw h) uJ vj);have wU:=zBo vj;have yO:c<y.cells.length:=(bg.1 hc).1;refine⟨_,_,h3,⟨fun z hz=>?_,rfl,rfl,fun Φ1 g1 g2 g3=>?_⟩⟩
        ·rcases bD.1 hz with rfl|hz
         ·exact⟨hg,jA r kI⟩
         ·exact h4.low z hz
        ·have jM:=jr Φ1 (g2 _ (by simp));refine⟨rfl,zAw ad0 c,row,u,rfl,rfl,jM _ k1,k3.any,?_,⟨?_,?_⟩,h4.rep Φ1 g1 (fun z hz=>g2 z (by simp[hz])) fun b hb=>jM b (k4 b (by rw[wT];simp[hb]))⟩
         ·rw[h4.len,wU.1,kR.1];have:=k6 c 1 (by omega);simp only[zAw,bX];rw[this];have yI:c<ux.cells.toList.length:=by simpa[k8] using yO
          rw[b9 yI];have:ux.cells.toList[c]=u:=by rw[bm yI] at hu;simpa using hu
          simp[this]
         ·rw[h4.len,wU.1,kR.1];rfl
         ·rw[h4.agg,wU.2,kR.2]
  case bor r pre z lo m =>
   have hL:=hp.1;have ha:=hp.2
   cases kI:ble hb r with
   |true=>rw[kI] at h;exact keep r (by simp[PV.ways]) hL h kI
   | false =>
    rw[kI] at h;simp only[cond_false] at h;obtain⟨x,hx,h1⟩:=zBR h;obtain⟨hg,_,hn⟩:=ha;obtain⟨nv,Li,hf,wV,jr⟩:=node r pre x hg hx;split at h1
    ·rename_i sz xs;obtain⟨hc,h2⟩:=zAS h1;refine⟨_,_,h2,⟨fun z hz=>?_,rfl,rfl,fun Φ1 g1 g2 g3=>?_⟩⟩
     ·simp only[bw] at hz;subst hz;exact⟨hg,jA r kI⟩
     ·have:=zIE (A':=zNp hb (zA9 w rv E)) g1 wV (jr Φ1 (g2 _ (by simp))) (z:=z) (lo:=lo) (n:=m) (v:=v) fun sz' xs' kP=>by
       obtain⟨sz2,xs2,h7,h8,h9⟩:=hn nv _ hf rfl;cases h7;cases kP;exact⟨h8,h9⟩
      simp only[zCh,hc,cond_true] at this;exact this
    ·cases h1
  case bmap r pre=>
   have hL:=hp.1;have ha:=hp.2
   cases kI:ble hb r with
   |true=>rw[kI] at h;exact keep r (by simp[PV.ways]) hL h kI
   | false =>
    rw[kI] at h;simp only[cond_false] at h;obtain⟨x,hx,h1⟩:=zBR h;obtain⟨hg,_,hn⟩:=ha;obtain⟨nv,Li,hf,wV,jr⟩:=node r pre x hg hx;split at h1
    ·rename_i es;refine⟨_,_,h1,⟨fun z hz=>?_,rfl,rfl,fun Φ1 g1 g2 g3=>?_⟩⟩
     ·simp only[bw] at hz;subst hz;exact⟨hg,jA r kI⟩
     ·exact zH1 (A':=zNp hb (zA9 w rv E)) g1 wV (jr Φ1 (g2 _ (by simp))) (v:=v) fun es' kP=>hn nv _ hf _ kP
    ·cases h1
  case bsl r pre i c sz ag m=>
   have hL:=hp.1;have ha:=hp.2
   cases kI:ble hb r with
   |true=>rw[kI] at h;exact keep r (by simp[PV.ways]) hL h kI
   | false =>
    rw[kI] at h;simp only[cond_false] at h;obtain⟨x,hx,h1⟩:=zBR h;obtain⟨hg,ad,cap,rfl,yZ,ye,hn⟩:=ha;obtain⟨nv,Li,hf,wV,jr⟩:=node r pre x hg hx
    cases hh:zBh x with
    |none=>rw[hh] at h1;cases h1
    | some xs =>
     rw[hh] at h1;simp only at h1
     cases hi:xs[i]? with
     |none=>rw[hi] at h1;cases h1|some y=>
      rw[hi] at h1;simp only at h1;obtain⟨hc,h2⟩:=zAS h1;refine⟨_,_,h2,⟨fun z hz=>?_,rfl,rfl,fun Φ1 g1 g2 g3=>?_⟩⟩
      ·simp only[bw] at hz;subst hz;exact⟨hg,jA r kI⟩
      ·have:=zHE (A':=zNp hb (zA9 w rv E)) (fun a v hw h=>zJJ hw h) g1 wV (jr Φ1 (g2 _ (by simp))) (i:=i) (c:=c) (sz:=sz) (ag:=ag) (m:=m) (v := .slice (some ad) m cap) rfl yZ fun a' kq=>hn nv x hf a' kq;simp only[zCA,hh,hi,hc,cond_true] at this;exact this
theorem zQL(S:St w0 U Φ0 nt hv a w e Φ rv E L){p:PV}{v:Value}{Lp:LN}{k:PV->List (Nat×zA2)->PM}(hp:Rep w Φ (zA9 w rv E) p v Lp)(h:(zRC p k).run o e=some e') :
  ∃ q l,(k q l).run o e=some e'/\(∀ x∈l,x.1<zAa)/\∀ Φ1:Nat->Prop,(∀ b,Φ b->Φ1 b)->(∀ x∈l,Cov w Φ rv E Φ1 x)->(∀ b∈Lp,Φ1 b)->Rep w Φ1 zCm q v []:=by
 obtain⟨q,l,h1,h2⟩:=zLf S (hb:=zAa) depth p v Lp k hp h;refine⟨q,l,h1,fun x hx=>(h2.low x hx).1,fun Φ1 g1 g2 g3=>(h2.rep Φ1 g1 g2 g3).mono zDt.refl (fun a v hw ha=>?_) (fun _ _=>rfl)⟩;have hr:=zC6 ha.1;have:=ha.2 (zBb a);cases a<;>first|(cases hw;done)|(exact ha.1.elim)|skip
 all_goals
  have:=this (by simp[PV.ways,zBb]);omega
theorem zNW{p q' p':PV}{i c:Nat}(hp:zB7 p i c q'=some p'):p'.unlock=p'/\p'.isTup=false:=by
 simp only[zB7] at hp;cases p<;>simp only[zA6,dV,bc] at hp<;>try cases hp
 case own sz xs=>
  cases hx:xs[i]?<;>rw[hx] at hp<;>simp[zAN] at hp;subst hp;exact⟨rfl,rfl⟩
 case box q=>
  cases i with
  |zero=>simp[zAN] at hp;subst hp;exact⟨rfl,rfl⟩|succ i=>simp at hp
 case agg cs=>
  cases i with
  |zero=>simp[zAN,zAH] at hp;subst hp;exact⟨rfl,rfl⟩|succ i=>simp at hp
theorem zBV{q' p p':PV}(h1:q'.unlock=q')(h2:q'.isTup=false):∀ {pre:zA2},zAA (fun _=>some q') p pre=some p'->p'.unlock=p'/\p'.isTup=false
 |[],h=>by simp only[zAA,ba] at h;subst h;exact⟨h1,h2⟩
 | (i,c)::rest,h=>by
  rw[zBx] at h
  cases hc:Eng.child p i c with
  |none=>rw[hc] at h;cases h|some q=>
   rw[hc] at h;simp only[bc] at h
   cases hm:zAA (fun _=>some q') q rest with
   |none=>rw[hm] at h;cases h|some q1=>rw[hm] at h;exact zNW (by simpa using h)
theorem zFm(q:PV):(zAY q).unlock=zAY q/\(zAY q).isTup=false:=by cases q<;>exact⟨rfl,rfl⟩
theorem zBI{p:PV}(h:p.isLock=false):p.unlock=p:=by cases p<;>first|rfl|cases h
theorem zTK(r:Nat)(pre:zA2)(q p:PV)(hp:p.isWay=true):(inl r pre q p).isTup=false:=by
 have h:=(zI3 r pre q).dull p hp;have h1 : ∀ i c sh x,(zDQ i c sh x).isTup=false:=by
  intro i c sh x;simp only[zDQ];split
  ·split
   ·split
    ·cases (ble _ _&&PV.isAgg _)<;>rfl
    ·split
     ·rename_i q _;cases q.oneCell<;>rfl
     ·rfl
   ·rfl
  ·rfl
 have h2:∀ lo n x,(zCh lo n x).isTup=false:=by
  intro lo n x;cases x<;>try rfl
  simp only[zCh];cases ble _ _<;>rfl
 have h5:∀ i c sz ag m x,(zCA i c sz ag m x).isTup=false:=by
  intro i c sz ag m x;simp only[zCA];split
  ·split
   ·cases (zCs ag sz m _&&_)<;>rfl
   ·rfl
  ·rfl
 have h3:∀ x,(zFa x).isTup=false:=by intro x;cases x<;>rfl
 have h4:∀ (o:Option PV) (f:PV->PV),(∀ x,(f x).isTup=false)->(zFN o f).isTup=false:=by
  intro o f hf;cases o with
  |none=>rfl|some x=>exact hf x
 cases p<;>first|(cases hp;done)|skip
 all_goals
  simp only[inl]
  first|rfl|skip
 all_goals
  cases zAT r pre _ _<;>first|rfl|exact h4 _ _ (h1 _ _ _)|exact h4 _ _ (h2 _ _)|exact h4 _ _ h3|exact h4 _ _ (h5 _ _ _ _ _)
theorem zYU(S:St w0 U Φ0 nt hv a w e Φ rv E L)(M:Nat->Bool){r:Nat}{pre:zA2}{q:PV}(hr:r<zAa)(hq:zAF (e.get r).unlock pre=some q){k:PM}(h:(PM.frz r pre k).run o e=some e') :
  ∃ e1 Φ1 E1 L1,k.run o e1=some e'/\St w0 U Φ0 nt hv a w e1 Φ1 rv E1 L1/\(∀ b,Φ b->Φ1 b)/\(∀ s,zAa<=s->E1 s=(if M s then(E s).mapW (inl r pre q) else E s)/\L1 s=L s):=by
 simp only[PM.run] at h
 cases hf:e.frz r pre with
 |none=>rw[hf] at h;cases h
 | some e1 =>
  rw[hf] at h;simp only at h;obtain⟨q0,root,hl,hn,hm,y5⟩:=Env.frz_eq hf;have yK:=zBI hl;rw[yK,hn] at hq;simp only[ba] at hq;subst hq;have hE:=S.env r hr;obtain⟨k1,k2⟩:=zBV (zFm q0).1 (zFm q0).2 hm;obtain⟨nv,Li,L',h1,h2,h3,h4⟩:=S.conf.ice M hr (pre:=pre) (q:=q0) (root':=root) (by rw[hE];exact yK) (by rw[hE];exact hn) (by rw[hE];exact hm) k1;refine⟨e1,_,_,L',h,S.turn h4 (fun s hs=>?_) (fun _ _=>rfl) (fun d ps hd hp=>?_),fun b hb=>.inl hb,fun s hs=>⟨?_,h3 s (by omega)⟩⟩
  ·simp only[hs,true_or,if_true];rw[y5 s];by_cases yV:s=r
   ·subst yV;simp
   ·rw[if_neg yV,if_neg yV,S.env s hs]
  ·have vI:d<zAa:=by simp only[zAa];omega
   simp only[vI,true_or,if_true] at hp;obtain⟨ps',h5,h6⟩:=zEk (zTK r pre q0) hp;by_cases jz:d=r
   ·rw[if_pos jz] at h5;rw[h5] at k2;cases k2
   ·rw[if_neg jz] at h5;exact⟨ps',h5,h6⟩
  ·have:¬ s<zAa:=by omega
   simp only[this,false_or];have yV:s≠r:=by omega
   rw[if_neg yV]
theorem zT9{l:List (Nat×zA2)}{hb:Nat}(h:l.find? (fun w=>blt w.1 hb)=none):∀ x∈l,hb<=x.1:=by
 intro x hx;have:=List.find?_eq_none.1 h x hx;exact fx fun yI=>this (cU yI)
theorem zH8{hb g:Nat}(hg:zAa<=g)(kI:hb<=zAa){k:PV->PM}:∀ (n:Nat) {e:Env} {Φ:Nat->Prop} {E:Nat->PV} {L:Nat->LN},St w0 U Φ0 nt hv a w e Φ rv E L->(zMh hb n (E g) k).run o e=some e' ->
  ∃ e1 Φ1 E1 L1,(k (E1 g)).run o e1=some e'/\St w0 U Φ0 nt hv a w e1 Φ1 rv E1 L1/\(∀ b,Φ b->Φ1 b)/\(∀ s,zAa<=s->s≠g->E1 s=E s)/\(∀ s,zAa<=s->L1 s=L s) /\
   (∀ x∈(E1 g).ways,hb<=x.1)/\(E1 g).isAgg=(E g).isAgg/\(E1 g).cells.length=(E g).cells.length
 |0,e,Φ,E,L,S,h=>by cases h
 | n + 1,e,Φ,E,L,S,h=>by
  simp only[zMh] at h;split at h
  ·rename_i hf;exact⟨e,Φ,E,L,h,S,fun _ h=>h,fun _ _ _=>rfl,fun _ _=>rfl,zT9 hf,rfl,rfl⟩
  ·rename_i r pre hf;have hr:r<zAa:=by
    have:=List.find?_some hf;have:r<hb:=bu this;omega
   obtain⟨q,hq,h1⟩:=zBR h;obtain⟨e1,Φ1,E1,L1,h2,S1,h3,h4⟩:=zYU S (fun s=>s==g) hr hq h1;have un:E1 g=(E g).mapW (inl r pre q):=by simpa using(h4 g hg).1
   rw[<- un] at h2;obtain⟨e2,Φ2,E2,L2,h5,S2,h6,h7,h8,h9,j5,vg⟩:=zH8 hg kI n S1 h2;refine⟨e2,Φ2,E2,L2,h5,S2,fun b hb=>h6 b (h3 b hb),fun s hs hI=>?_,fun s hs=>(h8 s hs).trans (h4 s hs).2,h9,?_,?_⟩
   ·rw[h7 s hs hI,(h4 s hs).1];simp[hI]
   ·rw[j5,un,zGC (zI3 r pre q).agg]
   ·rw[vg,un,zH4 (zI3 r pre q).agg]
end
end Go.Eng
namespace Go.Eng
open Go
section
variable {w w':World} {Φ Φ':Nat->Prop} {A A':Al}
theorem zA5.append:∀ {ps qs:List PV} {us vs:List Value} {L M:LN},zA5 w Φ A ps us L->zA5 w Φ A qs vs M->zA5 w Φ A (ps++qs) (us++vs) (L++M)
 |[],qs,us,vs,L,M,h,h'=>by obtain⟨rfl,rfl⟩:=h;simpa using h'
 |p::ps,qs,us,vs,L,M,h,h'=>by
  obtain⟨v,us',L1,L2,rfl,rfl,h1,h2⟩:=h;exact⟨v,us'++vs,L1,L2++M,rfl,by simp,h1,h2.append h'⟩
theorem zA5.cut:∀ {ps:List PV} {us:List Value} {L:LN} (n:Nat),zA5 w Φ A ps us L->∃ L1 L2,L=L1++L2/\zA5 w Φ A (ps.take n) (us.take n) L1/\zA5 w Φ A (ps.drop n) (us.drop n) L2
 |ps,us,L,0,h=>⟨[],L,rfl,by simp[zA5],by simpa using h⟩|[],us,L,n+1,h=>by obtain⟨rfl,rfl⟩:=h;exact⟨[],[],rfl,by simp[zA5],by simp[zA5]⟩
 |p::ps,us,L,n+1,h=>by
  obtain⟨v,us',L1,L2,rfl,rfl,h1,h2⟩:=h;obtain⟨M1,M2,rfl,h3,h4⟩:=h2.cut n;exact⟨L1++M1,M2,by simp,⟨v,_,L1,M1,rfl,rfl,h1,h3⟩,by simpa using h4⟩
theorem zA5.replace{ps:List PV}{us:List Value}{L:LN}(h:zA5 w Φ A ps us L)(c n:Nat):∃ L1 L2 L3,L=L1++L2++L3 /\
  ∀ {w':World} {Φ':Nat->Prop} {A':Al} {qs:List PV} {vs:List Value} {Lq:LN},(∀ a v,a.isWay=true->A a v->A' a v)->zDt w w' Φ Φ'->(∀ b∈L1++L3,w'.heap[b]? = w.heap[b]?)->zA5 w' Φ' A' qs vs Lq ->
   zA5 w' Φ' A' (ps.take c++qs++ps.drop (c+n)) (us.take c++vs++us.drop (c+n)) (L1++Lq++L3):=by
 obtain⟨L1,L23,rfl,h1,h2⟩:=h.cut c;obtain⟨L2,L3,rfl,_,h3⟩:=h2.cut n;rw[dJ,dJ] at h3;refine⟨L1,L2,L3,by simp,fun hA hs hb hq=>?_⟩;exact((h1.mono hs hA fun b h=>hb b (by simp[h])).append hq).append (h3.mono hs hA fun b h=>hb b (by simp[h]))
end
def zBk(c:Array Value)(o:Nat)(vs:List Value):Array Value:=(c.toList.take o++vs++c.toList.drop (o+vs.length)).toArray
theorem zG0{c:Array Value}{o:Nat}{vs:List Value}(h:o+vs.length<=c.size):(zBk c o vs).size=c.size:=by
 simp[zBk];omega
theorem zC2{α:Type}{l:List α}{o:Nat}{vs:List α}(h:o+vs.length<=l.length)(k:Nat) :
  (l.take o++vs++l.drop (o+vs.length))[k]? = if k<o then l[k]? else if k<o+vs.length then vs[k-o]? else l[k]?:=by
 have ho:(l.take o).length=o:=by simp;omega
 have hov:(l.take o++vs).length=o+vs.length:=by simp;omega
 by_cases h1:k<o
 ·rw[if_pos h1,dd (by omega),dd (by omega),cw,if_pos h1]
 ·rw[if_neg h1];by_cases h2:k<o+vs.length
  ·rw[if_pos h2,dd (by omega),dG (by omega),ho]
  ·rw[if_neg h2,dG (by omega),hov,ck,show o+vs.length+(k-(o+vs.length))=k by omega]
theorem zIc{c:Array Value}{o off m:Nat}{vs:List Value}(h1:off<=o)(h2:o+vs.length<=off+m)(h3:off+m<=c.size) :
  seg (zBk c o vs) off m=(seg c off m).take (o-off)++vs++(seg c off m).drop (o-off+vs.length):=by
 have jE:(seg c off m).length=m:=by simp[seg];omega
 apply cW;intro k;rw[zC2 (by rw[jE];omega)];simp only[seg,zBk,cw,ck];rw[zC2 (by simp;omega)];by_cases hk:k<m
 ·simp only[hk,if_true];by_cases h4:off+k<o
  ·have h6:k<o-off:=by omega
   simp only[h4,h6,if_true]
  ·have h6:¬ k<o-off:=by omega
   simp only[h4,h6,if_false];by_cases h5:off+k<o+vs.length
   ·have h7:k<o-off+vs.length:=by omega
    simp only[h5,h7,if_true];rw[show off+k-o=k-(o-off) by omega]
   ·have h7:¬ k<o-off+vs.length:=by omega
    simp only[h5,h7,if_false]
 ·have h6:¬ k<o-off:=by omega
  have h7:¬ k<o-off+vs.length:=by omega
  simp only[hk,h6,h7,if_false]
theorem zXA{c:Array Value}{off m:Nat}{l:List Value}(h:seg c off m=l)(hl:l.length=m)(hm:m≠0):off+m<=c.size:=by
 rw[<- h] at hl;simp[seg] at hl;omega
theorem zC5(us vs:List Value):flat (us++vs)=flat us++flat vs:=by simp[flat]
section
variable {w w':World} {Φ Φ':Nat->Prop} {A A':Al}
theorem zPE{x:PV}{u:Value}{L:LN}(h:Rep w Φ A x u L)(hn:zCr u=x.isAgg){c:Nat}{qs:List PV}{vs:List Value}(hq:∀ q∈qs,q.oneCell=true)(yq:∀ v∈vs,v.oneCell'=true)(hZ:vs.length=qs.length)(hc:c+qs.length<=x.cells.length) :
  ∃ u' L1 L2 L3,u'.cells.toList=u.cells.toList.take c++vs++u.cells.toList.drop (c+vs.length)/\zCr u'=zCr u/\L=L1++L2++L3/\(zAH x c qs).isAgg=x.isAgg/\(zAH x c qs).cells.length=x.cells.length /\
   ∀ {w':World} {Φ':Nat->Prop} {A':Al} {Lq:LN},(∀ a v,a.isWay=true->A a v->A' a v)->zDt w w' Φ Φ'->(∀ b∈L1++L3,w'.heap[b]? = w.heap[b]?)->zA5 w' Φ' A' qs vs Lq ->
    Rep w' Φ' A' (zAH x c qs) u' (L1++Lq++L3):=by
 cases hx:x.isAgg with
 |true=>
  cases x<;>simp[PV.isAgg] at hx;rename_i cs;obtain⟨us,rfl,hr⟩:=h;obtain⟨L1,L2,L3,rfl,hk⟩:=hr.replace c qs.length;have jG:=hr.length;refine⟨.agg (us.toList.take c++vs++us.toList.drop (c+vs.length)).toArray,L1,L2,L3,by simp[Value.cells],rfl,rfl,rfl,?_,fun hA hs hb hq=>⟨_,rfl,?_⟩⟩
  ·simp[zAH,PV.cells] at hc ⊢;omega
  ·have:=hk hA hs hb hq;rw[hZ];simpa using this
 | false =>
  have ja:x.cells=[x]:=by cases x<;>first|rfl|simp[PV.isAgg] at hx
  have hv:u.cells=#[u]:=by rw[hx] at hn;cases u<;>first|rfl|simp[zCr] at hn
  rw[ja] at hc ⊢
  match qs,vs,hZ,hq,yq with
  |[],[],_,_,_=>
   have he:zAH x c []=x:=by cases x<;>first|rfl|simp[PV.isAgg] at hx
   refine⟨u,L,[],[],by simp,rfl,by simp,by rw[he];exact hx,by rw[he,ja],fun hA hs hb hq=>?_⟩;obtain⟨_,rfl⟩:=hq;rw[he];simpa using h.mono hs hA (fun b yN=>hb b (by simp[yN]))
  |[q],[v],_,hq,yq=>
   have wH:c=0:=by simp at hc;exact hc
   subst wH;have he:zAH x 0 [q]=q:=by cases x<;>first|rfl|simp[PV.isAgg] at hx
   have h1:=zBo (hq q (by simp));have h2:=zBP (yq v (by simp));refine⟨v,[],L,[],by simp[hv,h2.1],by rw[h2.2,hn,hx],by simp,by rw[he];exact h1.2,by rw[he,h1.1];rfl,fun hA hs hb hq=>?_⟩;obtain⟨v',vs',L1,L2,h3,h4,h5,h6⟩:=hq;obtain⟨h7,h8⟩:=h6;cases h3;subst h8;rw[he,h4];simpa using h5
  |_::_::_,_,_,_,_=>simp only[bE,b8] at hc;omega
theorem zE1{α:Type}{l:List α}{i:Nat}{x:α}(h:i<l.length):l.set i x=l.take i++[x]++l.drop (i+1):=by
 rw[cm,if_pos h];simp
theorem zVc{np q':PV}{nv:Value}{Li:LN}(h:Rep w Φ A np nv Li){xs:List PV}(hx:zBh np=some xs){i c:Nat}{x:PV}(hi:xs[i]? = some x){qs:List PV}{vs:List Value}
  (hq:∀ q∈qs,q.oneCell=true) (yq:∀ v∈vs,v.oneCell'=true) (hZ:vs.length=qs.length) (hI:qs.length≠0) (hc:c+qs.length<=x.cells.length) (hw:zAN np (xs.set i (zAH x c qs))=some q') :
  ∃ ad row La Lm Lb,zBc nv np i c=some ad/\ad.spot=none/\zEY w ad.block row/\ad.off+vs.length<=row.size/\Li=ad.block::(La++Lm++Lb) /\
   ∀ {w':World} {Φ':Nat->Prop} {A':Al} {Lq:LN},(∀ a v,a.isWay=true->A a v->A' a v)->zDt w w' Φ Φ'->(∀ b∈La++Lb,w'.heap[b]? = w.heap[b]?)->zEY w' ad.block (zBk row ad.off vs)->zA5 w' Φ' (zGV A' np) qs vs Lq ->
    Rep w' Φ' A' q' nv (ad.block::(La++Lq++Lb)):=by
 have yB:i<xs.length:=(bg.1 hi).1;cases np<;>simp only[zBh] at hx<;>try cases hx
 case own sz=>
  obtain⟨h1,h2,h3⟩|⟨a,n,r,us,L',rfl,h1,h2,h3,h4,h5,h6,⟨h7,u3⟩,h8,h9⟩:=h
  ·subst h1;simp at hi
  ·simp only[zAN,ba] at hw;subst hw;have husl:us.length=xs.length:=by have:=congrArg length u3;simpa using this
   obtain⟨Ka,K23,rfl,hA1,hB⟩:=h9.cut i;have qX:i<us.length:=by omega
   have hxe:xs[i]=x:=by rw[bm yB] at hi;simpa using hi
   rw[b9 yB,b9 qX,hxe] at hB;obtain⟨u,us2,Lx,Kb,hue,rfl,hr,hB⟩:=hB;simp only[fg] at hue;obtain⟨hu0,rfl⟩:=hue;have hu:us[i]? = some u:=by rw[bm qX,hu0]
   have hg:zCr u=x.isAgg:=by
    have h1:(us.map zCr)[i]? = some (zCr u):=by simp[hu]
    have h2:(xs.map PV.isAgg)[i]? = some x.isAgg:=by simp[hi]
    rw[u3] at h1;rw[h1] at h2;simpa using h2
   have vi:=h6 x (bK hi);have jG:=h7 u (bK hu);obtain⟨u',L1,L2,L3,k1,k2,rfl,k4,k5,k6⟩:=zPE hr hg hq yq hZ hc;have qY:i*sz+sz<=xs.length*sz:=by rw[<- cY];exact cZ _ yB
   have hnsz:xs.length*sz<=n*sz:=cZ _ h3;have yH:a.off+(i*sz+c)+vs.length<=r.size:=by rw[hZ];omega
   refine⟨zAw a (i*sz+c),r,Ka++L1,L2,L3++Kb,by rw[h1];rfl,rfl,h4,yH,by simp[zAw],@fun w' Φ' A' Lq hA hs hb yG vk=>?_⟩;have yn:xs.set i (zAH x c qs)=xs.take i++([zAH x c qs]++xs.drop (i+1)):=by rw[zE1 yB];simp
   have gA:us.set i u'=us.take i++([u']++us.drop (i+1)):=by rw[zE1 qX];simp
   refine .inr ⟨a,n,_,us.set i u',(Ka++(L1++Lq++L3)++Kb),by simp[zAw],by simpa using h1,h2,by simpa using h3,yG,?_,?_,⟨?_,?_⟩,?_,?_⟩
   ·show a.off+n*sz<=(zBk r (a.off+(i*sz+c)) vs).size
    rw[zG0 yH];exact h5
   ·intro y hy;rcases dK hy with hy|hy
    ·exact h6 y hy
    ·rw[hy,k5];exact vi
   ·intro y hy;rcases dK hy with hy|hy
    ·exact h7 y hy
    ·rw[hy];have:=congrArg length k1;simp at this;omega
   ·rw[zEL hi k4,zEL hu k2,u3]
   ·have ua:flat us=flat (us.take i)++(u.cells.toList++flat (us.drop (i+1))):=by
     conv=>lhs;rw[<- cF i us,b9 qX,hu0]
     rw[zC5,zCy]
    have jZ:(flat (us.take i)).length=i*sz:=by
     rw[zBw (fun y hy=>h7 y (cL hy)),bZ,f9 (by omega)]
    have qZ:u.cells.toList.length=sz:=by simpa using jG
    rw[dN];show seg (zBk r (zAw a (i*sz+c)).off vs) a.off (xs.length*sz)=_
    simp only[zAw];rw[zIc (by omega) (by rw[hZ];omega) (by omega),h8,show a.off+(i*sz+c)-a.off=i*sz+c by omega];rw[gA,zC5,zC5,ua];have e1:(flat (us.take i)++(u.cells.toList++flat (us.drop (i+1)))).take (i*sz+c)=flat (us.take i)++u.cells.toList.take c:=by
     rw[iz,jZ,bp (by omega),show i*sz+c-i*sz=c by omega,dz (by omega)]
    have e2:(flat (us.take i)++(u.cells.toList++flat (us.drop (i+1)))).drop (i*sz+c+vs.length)=u.cells.toList.drop (c+vs.length)++flat (us.drop (i+1)):=by
     rw[fW,jZ,fP (by omega),show i*sz+c+vs.length-i*sz=c+vs.length by omega,List.drop_append_of_le_length (by omega)];rfl
    rw[e1,e2];have e3:flat [u']=u'.cells.toList:=by simp[flat]
    rw[e3,k1];simp
   ·rw[yn,gA];have kP:=k6 (fun a v _ h=>h) (Φ':=_) hs (fun b h=>hb b (by simp at h ⊢;rcases h with h|h<;>simp[h])) vk;have:=(hA1.mono hs (fun _ _ _ h=>h) (fun b h=>hb b (by simp[h]))).append ((show zA5 _ _ zCm [zAH x c qs] [u'] _ from⟨u',[],_,[],rfl,rfl,kP,rfl,rfl⟩).append (hB.mono hs (fun _ _ _ h=>h) (fun b h=>hb b (by simp[h]))));simpa using this
 case box q0=>
  obtain⟨a,r,u0,L',rfl,h1,h2,h4,h5,⟨h6,vG⟩,h7⟩:=h;have jn:i=0:=by simpa using yB
  subst jn;simp at hi;subst hi;simp only[cN,zAN,ba] at hw;subst hw;obtain⟨u',L1,L2,L3,k1,k2,rfl,k4,k5,k6⟩:=zPE h7 vG hq yq hZ hc;have jG:u0.cells.toList.length=q0.cells.length:=by simpa using h6
  have jj:a.off+q0.cells.length<=r.size:=zXA h5 jG (by omega);refine⟨zAw a c,r,L1,L2,L3,by rw[h1];rfl,rfl,h4,by simp only[zAw];omega,by simp[zAw],fun hA hs hb yG vk=>?_⟩;refine⟨a,_,u',_,rfl,h1,h2,yG,?_,⟨?_,?_⟩,k6 hA hs hb vk⟩
  ·rw[k5];simp only[zAw];rw[zIc (by omega) (by omega) (by omega),h5,show a.off+c-a.off=c by omega,k1]
  ·rw[k5];have:=congrArg length k1;simp at this jG;omega
  ·rw[k2,k4,vG]
theorem zR8{np:PV}{nv:Value}{Li:LN}(h:Rep w Φ A np nv Li){xs:List PV}(hx:zBh np=some xs){i:Nat}{x:PV}(hi:xs[i]? = some x) :
  ∃ M ux Lx ad,Li=ad.block::M/\(∀ c,zBc nv np i c=some (zAw ad c))/\Rep w Φ (zGV A np) x ux Lx/\(∀ b∈Lx,b∈M)/\zCr ux=x.isAgg/\∀ k u,ux.cells.toList[k]? = some u->kid w nv np i k=some u:=by
 cases np<;>simp only[zBh] at hx<;>try cases hx
 case own sz=>
  obtain⟨h1,h2,h3⟩|⟨a,n,r,us,L',rfl,h1,h2,h3,h4,h5,h6,⟨h7,u3⟩,h8,h9⟩:=h
  ·subst h1;simp at hi
  ·obtain⟨ux,La,Lx,Lb,hu,rfl,hr,_,_⟩:=h9.split hi;have hg:zCr ux=x.isAgg:=by
    have h1:(us.map zCr)[i]? = some (zCr ux):=by simp[hu]
    have h2:(xs.map PV.isAgg)[i]? = some x.isAgg:=by simp[hi]
    rw[u3] at h1;rw[h1] at h2;simpa using h2
   subst h1;refine⟨_,ux,Lx,zAw a (i*sz),rfl,fun c=>by simp[zBc,zAw,cg],hr,fun b hb=>by simp[hb],hg,fun k u hk=>?_⟩;have hf:=zEj h7 hu hk;rw[<- h8] at hf;have:=zDq hf;simp only[kid,zAw];rw[zCW h4.any];exact this
 case box q0=>
  obtain⟨a,r,u0,L',rfl,h1,h2,h4,h5,⟨h6,vG⟩,h7⟩:=h;have jn:i=0:=by
   cases i with
   |zero=>rfl|succ i=>simp at hi
  subst jn;simp at hi;subst hi;subst h1;refine⟨L',u0,L',a,rfl,fun c=>rfl,h7,fun b hb=>hb,vG,fun k u hk=>?_⟩;have:=zDq (c:=r) (o:=a.off) (n:=q0.cells.length) (k:=k) (u:=u) (by rw[h5];exact hk);simp only[kid,zAw];rw[zCW h4.any];exact this
end
mutual
theorem zE3{f g:PV->PV}:∀ p:PV,(p.mapW f).mapW g=p.mapW fun a=>(f a).mapW g
 |.agg cs=>by rw[PV.mapW,PV.mapW,PV.mapW,zE6]|.tup cs=>by rw[PV.mapW,PV.mapW,PV.mapW,zE6]|.func h a b=>by rw[PV.mapW,PV.mapW,PV.mapW,zE6,zE6]|.ref q=>by rw[PV.mapW,PV.mapW,PV.mapW,zE3]|.box q=>by rw[PV.mapW,PV.mapW,PV.mapW,zE3]|.lock q=>by rw[PV.mapW,PV.mapW,PV.mapW,zE3]|.addr .. => rfl|.bor .. => rfl|.bsl .. => rfl|.bmap .. => rfl|.yld .. => rfl|.log .. => rfl|.bad=>rfl|.und=>rfl|.int .. => rfl|.bool .. => rfl|.nilp=>rfl|.nilf=>rfl|.nilm=>rfl|.nn=>rfl|.nils _=>rfl|.sl _=>rfl|.own .. => rfl|.map _=>rfl|.omap _=>rfl
theorem zE6{f g:PV->PV}:∀ ps:List PV,zCR g (zCR f ps)=zCR (fun a=>(f a).mapW g) ps
 |[]=>rfl|p::ps=>by rw[zCR,zCR,zCR,zE3,zE6]
end
mutual
theorem zDK{f g:PV->PV}(h:∀ a,a.isWay=true->f a=g a):∀ p:PV,p.mapW f=p.mapW g
 |.agg cs=>by rw[PV.mapW,PV.mapW,zEu h]|.tup cs=>by rw[PV.mapW,PV.mapW,zEu h]|.func k a b=>by rw[PV.mapW,PV.mapW,zEu h,zEu h b]|.ref q=>by rw[PV.mapW,PV.mapW,zDK h]|.box q=>by rw[PV.mapW,PV.mapW,zDK h]|.lock q=>by rw[PV.mapW,PV.mapW,zDK h]|.addr .. => h _ rfl|.bor .. => h _ rfl|.bsl .. => h _ rfl|.bmap .. => h _ rfl|.yld .. => rfl|.log .. => h _ rfl|.bad=>rfl|.und=>rfl|.int .. => rfl|.bool .. => rfl|.nilp=>rfl|.nilf=>rfl|.nilm=>rfl|.nn=>rfl|.nils _=>rfl|.sl _=>rfl|.own .. => rfl|.map _=>rfl|.omap _=>rfl
theorem zEu{f g:PV->PV}(h:∀ a,a.isWay=true->f a=g a):∀ ps:List PV,zCR f ps=zCR g ps
 |[]=>rfl|p::ps=>by rw[zCR,zCR,zDK h,zEu h]
end
def zDZ(r:Nat)(pre:zA2)(i:Nat):Nat->List PV->PV->PV
 |_,[],a=>a|c,q::qs,a=>bif q.heavy then(if (lose r (pre++[(i,c)]) a).isWay=true then zDZ r pre i (c+1) qs a else lose r (pre++[(i,c)]) a) else zDZ r pre i (c+1) qs a
theorem zLG(r:Nat)(pre:zA2)(i:Nat):∀ (qs:List PV) (c:Nat) (p:PV),zDZ r pre i c qs p=p\/(p.isWay=true/\zDZ r pre i c qs p = .bad)
 |[],c,p=>.inl rfl
 | q :: qs,c,p=>by
  simp only[zDZ]
  cases hq:q.heavy with
  |false=>exact zLG r pre i qs (c+1) p|true=>
   simp only[cond_true];split
   ·exact zLG r pre i qs (c+1) p
   ·exact zG9 r (pre++[(i,c)]) p
theorem zG7{o:zAO}{r:Nat}{pre:zA2}{i:Nat}{k:PM}{e':Env}:∀ (qs:List PV) (c:Nat) {e:Env},(zD8 r pre i c qs k).run o e=some e' ->
  ∃ e1,k.run o e1=some e'/\∀ s,e1.get s=(e.get s).mapW (zDZ r pre i c qs)
 |[],c,e,h=>⟨e,h,fun s=>by rw[show zDZ r pre i c []=fun x=>x from rfl,zBl]⟩
 | q :: qs,c,e,h=>by
  simp only[zD8] at h
  cases hq:q.heavy with
  |false=>
   rw[hq] at h;obtain⟨e1,h1,h2⟩:=zG7 qs (c+1) h;refine⟨e1,h1,fun s=>?_⟩;rw[h2 s];exact zDK (fun a _=>by simp[zDZ,hq]) _
  |true=>
   rw[hq] at h;simp only[cond_true,PM.run] at h;obtain⟨e1,h1,h2⟩:=zG7 qs (c+1) h;refine⟨e1,h1,fun s=>?_⟩;rw[h2 s,Env.get_kill,zE3];refine zDK (fun a ha=>?_) _;simp only[zDZ,hq,cond_true];rcases zG9 r (pre++[(i,c)]) a with h3|⟨_,h3⟩
   ·rw[h3,if_pos ha,zGu ha]
   ·rw[h3];rfl
theorem zJM{r:Nat}{pre:zA2}{i:Nat}:∀ (qs:List PV) (c j:Nat) {q:PV},qs[j]? = some q->q.heavy=true->∀ a,a.isWay=true->∀ rest,zBb a=(r,pre++(i,c+j)::rest)->(∀ h,a ≠ .yld h)->(∀ xs k,a ≠ .log xs k)->zDZ r pre i c qs a≠a
 |[],_,_,_,h,_,_,_,_,_,_,_=>by simp at h
 | q0::qs,c,0,q,h,hh,a,ha,rest,hr,hy,hl=>by
  simp at h;subst h;simp only[zDZ,hh,cond_true];have hlose:lose r (pre++[(i,c)]) a = .bad:=by
   have hp:(pre++[(i,c)]).isPrefixOf (pre++(i,c)::rest)=true:=by
    rw[fB];exact⟨rest,by simp⟩
   cases a<;>first|(cases ha;done)|(exact absurd rfl (hy _))|(exact absurd rfl (hl _ _))|skip
   all_goals
    simp only[zBb,bR,bB] at hr;obtain⟨rfl,rfl⟩:=hr;simp[lose,hp]
  rw[hlose];simp only[PV.isWay,bq,if_false];intro he;rw[<- he] at ha;cases ha
 | q0::qs,c,j+1,q,h,hh,a,ha,rest,hr,hy,hl=>by
  have ih:=zJM (r:=r) (pre:=pre) (i:=i) qs (c+1) j (by simpa using h) hh a ha rest (by rw[hr];congr 4;omega) hy hl;simp only[zDZ]
  cases hq:q0.heavy with
  |false=>exact ih|true=>
   simp only[cond_true];rcases zG9 r (pre++[(i,c)]) a with h3|⟨_,h3⟩
   ·rw[h3,if_pos ha];exact ih
   ·rw[h3];simp only[PV.isWay,bq,if_false];intro he;rw[<- he] at ha;cases ha
theorem zJy{r:Nat}{pre:zA2}{i:Nat}:∀ (qs:List PV) (c:Nat) {a:PV},(∀ x∈a.ways,zAT r pre x.1 x.2=false\/x.2.length<=pre.length)->zDZ r pre i c qs a=a
 |[],_,_,_=>rfl
 | q :: qs,c,a,h=>by
  have ih:=zJy (r:=r) (pre:=pre) (i:=i) qs (c+1) h;have hl : lose r (pre++[(i,c)]) a=a:=by
   have key:∀ r' p,(zAT r pre r' p=false\/p.length<=pre.length)->(beq r' r&&(pre++[(i,c)]).isPrefixOf p)=false:=by
    intro r' p hp
    cases hb:(beq r' r&&(pre++[(i,c)]).isPrefixOf p) with
    |false=>rfl|true=>
     simp only[bb,fB] at hb;obtain⟨h1,rest,h2⟩:=hb;rcases hp with hp|hp
     ·have:zAT r pre r' p=true:=zEr.2 ⟨bd h1,(i,c)::rest,by rw[<- h2];simp⟩;rw[this] at hp;cases hp
     ·rw[<- h2] at hp;simp at hp;omega
   cases a<;>first|rfl|skip
   all_goals
    simp only[lose];rw[key _ _ (h (_,_) (bw.2 rfl))];rfl
  simp only[zDZ]
  cases hq:q.heavy with
  |false=>exact ih|true=>simp only[cond_true,hl];split<;>first|exact ih|rfl
theorem zOa{f:PV->Option PV}:∀ {pre:zA2} {p p':PV},zAA f p pre=some p'->∃ q q',zAF p pre=some q/\f q=some q'/\zAA (fun _=>some q') p pre=some p'
 |[],p,p',h=>⟨p,p',rfl,h,rfl⟩
 | (i, c)::rest,p,p',h=>by
  rw[zBx] at h
  cases hc:Eng.child p i c with
  |none=>rw[hc] at h;cases h
  | some q =>
   rw[hc] at h;simp only[bc] at h
   cases hm:zAA f q rest with
   |none=>rw[hm] at h;cases h|some q1=>
    rw[hm] at h;simp only[bc] at h;obtain⟨x,x',h1,h2,h3⟩:=zOa hm;exact⟨x,x',by rw[zCe,hc];exact h1,h2,by rw[zBx,hc];simp only[bc];rw[h3];exact h⟩
theorem zK2:∀ {pre:zA2} {p q:PV},zAF p pre=some q->q.unlock=q->p.unlock=p
 |[],p,q,h,hq=>by simp only[zAF,ba] at h;subst h;exact hq|(i,c)::rest,p,q,h,_=>by
  rw[zCe] at h;cases p<;>first|rfl|(simp[Eng.child,zA6] at h;done)
theorem zJ1{r:Nat}{pre:zA2}{i:Nat}{p:PV}(hh:p.heavy=false->∀ q∈p.cells,q.heavy=false)(h:p.heavy=false){c:Nat}(a:PV):zDZ r pre i c p.cells a=a:=by
 have key:∀ (qs:List PV) (c:Nat),(∀ q∈qs,q.heavy=false)->zDZ r pre i c qs a=a:=by
  intro qs
  induction qs with
  |nil=>intro c _;rfl|cons q qs ih=>intro c h;simp only[zDZ,h q (by simp),cond_false];exact ih (c+1) fun x hx=>h x (by simp[hx])
 exact key _ _ (hh h)
theorem zRc{p:PV}{x:Nat×zA2}(h:x∈zBq p.cells):x∈p.ways:=by
 cases p<;>simp only[PV.cells,zBq,dO] at h<;>exact h
theorem zMH(p:PV)(i c:Nat)(rest:zA2):zDN p ((i,c)::rest)=match p with
  |.own .. => true|p=>match Eng.child p i c with|some q=>zDN q rest|none=>false:=by
 cases p<;>simp only[zDN,Eng.child,zA6,dV,bc]
 ·cases i with
  |zero=>simp only[bM,bc];split<;>simp_all
  |succ i=>simp
 ·cases i with
  |zero=>simp only[bM,bc];split<;>simp_all
  |succ i=>simp
theorem zNn:∀ {pre:zA2} {p q:PV} {A:Al},zDN p pre=false->zAF p pre=some q->∀ a v,A a v->zGV (zJc A p pre) q a v
 |[],p,q,A,hc,hq,a,v,h=>by
  simp only[zAF,ba] at hq;subst hq;simp only[zJc];cases p<;>first|exact h|(simp[zDN] at hc;done)
 | (i,c)::rest,p,q,A,hc,hq,a,v,h=>by
  rw[zCe] at hq;rw[zMH] at hc
  cases y8:Eng.child p i c with
  |none=>rw[y8] at hq;cases hq|some q1=>
   rw[y8] at hq;simp only[bc] at hq;simp only[zJc,y8];cases p<;>simp only[y8] at hc<;>first|(cases hc;done)|exact zNn hc hq a v h
section
variable {P:Program} {w0 w:World} {U Φ0 Φ:Nat->Prop} {nt:Nat} {hv:Hid} {a:Act} {e e':Env} {rv:Nat->Value} {E:Nat->PV} {L:Nat->LN} {o:zAO}
theorem zK6{p:PV}(h:p.heavy=false):∀ q∈p.cells,q.heavy=false:=by
 intro q hq;cases p<;>simp only[PV.cells,bw] at hq<;>try (subst hq;exact h)
 obtain⟨i,hi⟩:=cq hq;exact zED h hi
theorem zGS{x:PV}{c:Nat}{qs:List PV}(hq:∀ q∈qs,q.oneCell=true)(hI:qs.length≠0)(yR:c+qs.length<=x.cells.length):(zAH x c qs).cells=x.cells.take c++qs++x.cells.drop (c+qs.length):=by
 cases hx:x.isAgg with
 |true=>cases x<;>simp[PV.isAgg] at hx;rfl
 | false =>
  have ja:x.cells=[x]:=by cases x<;>first|rfl|simp[PV.isAgg] at hx
  rw[ja] at yR ⊢
  match qs,hq,hI with
  |[],_,hI=>exact absurd rfl hI|[q],hq,_=>
   have wH:c=0:=by simp at yR;exact yR
   subst wH;have he:zAH x 0 [q]=q:=by cases x<;>first|rfl|simp[PV.isAgg] at hx
   rw[he,(zBo (hq q (by simp))).1];simp
  |_::_::_,_,_=>simp only[bE,b8] at yR;omega
theorem zJ4{b o k:Nat}{row:Array Value}{vs:List Value}(yG:zEY w b row)(yH:o+vs.length<=row.size)(hk:k<o\/o+vs.length<=k):(w.setRow b (zBk row o vs)).cell? ⟨b,k,none⟩=w.cell? ⟨b,k,none⟩:=by
 obtain⟨el,jH⟩:=yG;have j8:zKH (w.setRow b (zBk row o vs)) b (zBk row o vs):=⟨el,_,setRow_heap w _ _ _ el _ jH⟩;rw[zCW j8,zCW ⟨el,_,jH⟩];have:(zBk row o vs)[k]? = (row.toList.take o++vs++row.toList.drop (o+vs.length))[k]?:=by simp[zBk]
 rw[this,zC2 (by simpa using yH)];rcases hk with hk|hk
 ·rw[if_pos hk];simp
 ·rw[if_neg (by omega),if_neg (by omega)];simp
theorem zNG {A:Al} {np q':PV} {nv:Value} {Li:LN} (h:Rep w Φ A np nv Li) (yU:Li.Nodup) {xs:List PV} (hx:zBh np=some xs) {i c:Nat} {x:PV} (hi:xs[i]? = some x) {qs:List PV} {vs:List Value}
  (hq:∀ q∈qs,q.oneCell=true) (hZ:vs.length=qs.length) (hI:qs.length≠0) (hc:c+qs.length<=x.cells.length) (hw:zAN np (xs.set i (zAH x c qs))=some q') {ad:Addr} {row:Array Value}
  (jS:zBc nv np i c=some ad) (yG:zEY w ad.block row) (yH:ad.off+vs.length<=row.size) :
  ∀ (rest:zA2) (nv2:Value) (np2:PV),zAZ (w.setRow ad.block (zBk row ad.off vs)) nv q' rest=some (nv2,np2)->np2.heavy0=true ->
   (∃ j q rest',qs[j]? = some q/\q.heavy=true/\rest=(i,c+j)::rest')\/∃ np0,zAZ w nv np rest=some (nv2,np0)/\zCo np0 np2:=by
 intro rest nv2 np2 hf hh;have kS:zCo np q'/\zA6 q'=some (xs.set i (zAH x c qs)):=by
  cases np<;>simp only[zBh] at hx<;>try cases hx
  ·simp only[zAN,ba] at hw;subst hw;exact⟨rfl,rfl⟩
  ·have jn:i=0:=by have:=(bg.1 hi).1;simpa using this
   subst jn;simp only[cN,zAN,ba] at hw ⊢;subst hw;exact⟨trivial,rfl⟩
 cases rest with
 |nil=>
  simp only[zAZ,ba,bB] at hf;obtain⟨rfl,rfl⟩:=hf;exact .inr ⟨np,rfl,kS.1⟩
 | cons y rest =>
  obtain⟨i2,c2⟩:=y;rw[zA8] at hf
  cases y8:Eng.child q' i2 c2 with
  |none=>rw[y8] at hf;cases hf
  | some q2 =>
   rw[y8] at hf;simp only[bc] at hf
   cases hk:kid (w.setRow ad.block (zBk row ad.off vs)) nv q' i2 c2 with
   |none=>rw[hk] at hf;cases hf
   | some u2 =>
    rw[hk] at hf;simp only[bc] at hf;have yB:i<xs.length:=(bg.1 hi).1;simp only[Eng.child,kS.2,bc] at y8;by_cases hin:i2=i/\c<=c2/\c2<c+qs.length
    ·obtain⟨rfl,h1,h2⟩:=hin;rw[cn yB] at y8;simp only[bc] at y8;rw[zGS hq hI hc,zC2 hc,if_neg (by omega),if_pos h2] at y8
     cases gB:q2.heavy with
     |true=>exact .inl ⟨c2-c,q2,rest,y8,gB,by rw[show c+(c2-c)=c2 by omega]⟩|false=>
      have:=zEB gB hf;rw[zFU hh] at this;cases this
    ·
     have hold:∃ x2,xs[i2]? = some x2/\x2.cells[c2]? = some q2:=by
      by_cases uF:i2=i
      ·subst uF;rw[cn yB] at y8;simp only[bc] at y8;rw[zGS hq hI hc,zC2 hc] at y8;refine⟨x,hi,?_⟩;by_cases h1:c2<c
       ·rw[if_pos h1] at y8;exact y8
       ·rw[if_neg h1,if_neg (fun h2=>hin ⟨rfl,by omega,h2⟩)] at y8;exact y8
      ·rw[dm (dW uF)] at y8
       cases jX:xs[i2]? with
       |none=>rw[jX] at y8;cases y8|some x2=>rw[jX] at y8;exact⟨x2,rfl,y8⟩
     obtain⟨x2,jX,vd⟩:=hold;obtain⟨M,ux,Lx,ad2,g1,g2,g3,g4,g5,g6⟩:=zR8 h hx jX;obtain⟨u,La,Lu,Lb,hu,hLx,uJ,_,_⟩:=g3.cell vd g5;have kO:=g6 c2 u hu;have hblk:ad2.block=ad.block:=by
      have:=g2;cases np<;>simp only[zBh] at hx<;>try cases hx
      ·cases nv<;>try (simp[zBc] at jS;done)
       rename_i sa _ _
       cases sa with
       |none=>cases jS|some sa=>
        simp only[zBc,ba] at jS;have:=this 0;simp only[zBc,ba] at this;rw[<- jS];exact(congrArg Addr.block this).symm
      ·cases nv<;>try (cases i<;>simp[zBc] at jS;done)
       rename_i sa
       cases sa with
       |none=>cases i<;>cases jS
       |some sa=>
        have jn:i=0:=by have:=(bg.1 hi).1;simpa using this
        have gk:i2=0:=by have:=(bg.1 jX).1;simpa using this
        subst jn;subst gk;simp only[zBc,ba] at jS;have:=this 0;simp only[zBc,ba] at this;rw[<- jS];exact(congrArg Addr.block this).symm
     have y4:kid (w.setRow ad.block (zBk row ad.off vs)) nv q' i2 c2=kid w nv np i2 c2:=by
      have hc2l:c2<x2.cells.length:=(bg.1 vd).1;cases np<;>simp only[zBh] at hx<;>try cases hx
      case own sz=>
       simp only[zAN,ba] at hw;subst hw;cases nv<;>try (simp[zBc] at jS;done)
       rename_i sa _ _
       cases sa with
       |none=>cases jS
       | some sa =>
        simp only[zBc,ba] at jS;subst jS;simp only[kid];refine zJ4 yG yH ?_;obtain⟨hh1,_⟩|⟨_,_,_,_,_,_,_,_,_,_,_,yJ,_⟩:=h
        ·subst hh1;simp at hi
        ·have e1:=yJ x (bK hi);have e2:=yJ x2 (bK jX);simp only[zAw];rw[hZ];by_cases uF:i2=i
         ·subst uF;have:¬ (c<=c2/\c2<c+qs.length):=fun h=>hin ⟨rfl,h⟩;omega
         ·rcases Nat.lt_or_gt_of_ne uF with yI|hgt
          ·have:=cZ x.cells.length (Nat.succ_le_of_lt yI);rw[cY,e1] at this;left;omega
          ·have:=cZ x.cells.length (Nat.succ_le_of_lt hgt);rw[cY,e1] at this;right;omega
      case box q0=>
       have jn:i=0:=by have:=(bg.1 hi).1;simpa using this
       have gk:i2=0:=by have:=(bg.1 jX).1;simpa using this
       subst jn;subst gk;simp only[cN,zAN,ba] at hw;subst hw;cases nv<;>try (simp[zBc] at jS;done)
       rename_i sa
       cases sa with
       |none=>cases jS|some sa=>
        simp only[zBc,ba] at jS;subst jS;simp only[kid];refine zJ4 yG yH ?_;simp only[zAw];rw[hZ];have:¬ (c<=c2/\c2<c+qs.length):=fun h=>hin ⟨rfl,h⟩;omega
     rw[y4,kO] at hk;cases hk;have vh:=zFH (w':=w.setRow ad.block (zBk row ad.off vs)) (pre:=rest) uJ fun t ht=>setRow_other w _ t _ fun hc=>by
      rw[g1,hblk] at yU;exact(cz.1 yU).1 (g4 _ (by rw[hLx,<- hc];simp[ht]))
     rw[vh] at hf;refine .inr ⟨np2,?_,zCo.refl hh⟩;rw[zA8];have:Eng.child np i2 c2=some q2:=by simp only[Eng.child,zHv hx,bc,jX,vd]
     rw[this];simp only[bc];rw[kO];exact hf
theorem St.write (S:St w0 U Φ0 nt hv a w e Φ rv E L) {g r:Nat} {pre:zA2} {i c:Nat} {sh:ON} (hg:zAa<=g) {va:Value} (ha:Rep w Φ (zA9 w rv E) (.addr r pre i c sh) va [])
  (jM:(E g).heavy=false\/∀ x∈(E g).ways,zAT r pre x.1 x.2=false\/x.2.length<=pre.length) (yT:∀ q∈(E g).cells,q.oneCell=true) (hI:(E g).cells.length≠0)
  (hva:zCr (rv g)=(E g).isAgg) {k:PM} (h:(zD8 r pre i c (E g).cells (.wcells r pre i c (E g).cells k)).run o e=some e') :
  ∃ b row e1 E1 L1,va = .pointer (some b)/\b.spot=none/\zEY w b.block row/\b.off+(rv g).cells.size<=row.size/\(∀ v∈(rv g).cells.toList,v.oneCell'=true)/\k.run o e1=some e' /\
   St w0 U Φ0 nt hv a (w.setRow b.block (zBk row b.off (rv g).cells.toList)) e1 Φ rv E1 L1/\E1 g = .bad/\(∀ s,zAa<=s->s≠g->E s = .bad->E1 s = .bad)/\(∀ s,zAa<=s->s≠g->E1 s=(E s).mapW (zDZ r pre i c (E g).cells))/\b.block∈L r:=by
 obtain⟨e1,h1,y5⟩:=zG7 _ _ h;have hf:=zLG r pre i (E g).cells c;have kT:=ha.2;obtain⟨hr,b,rfl,ye,hn⟩:=ha.2;simp only[PM.run] at h1
 cases qa:zBG (e1.get r) pre i c (E g).cells with
 |none=>rw[qa] at h1;cases h1
 | some root =>
  rw[qa] at h1;simp only at h1;have wZ:e1.get r=(E r).mapW (zDZ r pre i c (E g).cells):=by rw[y5 r,S.env r hr]
  rw[wZ] at qa;simp only[zBG] at qa
  cases yO:(zDN ((E r).mapW (zDZ r pre i c (E g).cells)) pre && !(zBq (E g).cells).isEmpty) with
  |true=>rw[yO] at qa;cases qa
  | false =>
   rw[yO] at qa;simp only[cond_false] at qa;obtain⟨np,q',hnp,ka,yf⟩:=zOa qa
   cases hx:zBh np with
   |none=>rw[hx] at ka;cases ka
   | some xs =>
    rw[hx] at ka;simp only at ka
    cases hi:xs[i]? with
    |none=>rw[hi] at ka;cases ka
    | some x =>
     rw[hi] at ka;simp only at ka
     cases yR:ble (c+(E g).cells.length) x.cells.length with
     |false=>rw[yR] at ka;cases ka
     | true =>
      rw[yR] at ka;simp only[cond_true] at ka;have yR:=bu yR;have j6:((E r).mapW (zDZ r pre i c (E g).cells)).unlock=(E r).mapW (zDZ r pre i c (E g).cells):=zK2 hnp (by cases np<;>first|rfl|cases hx);obtain⟨nv,Li,vc,yA,gl,vN,w5⟩:=S.conf.mod hr hf j6 hnp;have jt:=(S.conf.rep g).cellsAll hva;have kU:(rv g).cells.toList.length=(E g).cells.length:=jt.length;have gC:∀ v∈(rv g).cells.toList,v.oneCell'=true:=by
       intro v hv;obtain⟨j,hj⟩:=cq hv;have jN:j<(E g).cells.length:=by rw[<- kU];exact(bg.1 hj).1
       obtain⟨v',La,Li',Lb,yL,_,jj,_⟩:=jt.split (i:=j) (bm jN);rw[hj] at yL;cases yL;exact zCg (fun a v hw h=>zDc hw h) jj (yT _ (cu jN))
      have gm:=zK6 (p:=E g);have qb:q'.isAgg=false/\q'.unlock=q'/\q'.isTup=false/\np.isAgg=false/\zCo np q':=by
       cases np<;>simp only[zBh] at hx<;>try cases hx
       ·simp only[zAN,ba] at ka;subst ka;exact⟨rfl,rfl,rfl,rfl,rfl⟩
       ·simp only[zAN] at ka;split at ka<;>first|(cases ka;done)|skip
        ·simp_all
        ·cases ka;exact⟨rfl,rfl,rfl,rfl,trivial⟩
        ·simp_all
      obtain⟨ad,row,La,Lm,Lb,k1,k2,k3,k4,um,kV⟩:=zVc yA hx hi yT gC kU hI yR ka;have hfo':∃ np0,zAZ w (rv r) (E r).unlock pre=some (nv,np0)/\zCo np0 np:=by
       rw[<- j6,zDD (zDF hf)] at vc;exact zCZ (zDF hf) vc (by cases np<;>first|rfl|cases hx)
      obtain⟨np0,hfo0,kS⟩:=hfo';have vl:=hn nv np0 hfo0 ad (by rw[zEH kS];exact k1);subst vl;have jY:b.block∈L r:=vN _ (by rw[um];simp);have gp:r≠g:=by omega
      have yv:∀ t,t≠b.block->(w.setRow b.block (zBk row b.off (rv g).cells.toList)).heap[t]? = w.heap[t]?:=fun t ht=>setRow_other w _ t _ ht;have j8:zEY (w.setRow b.block (zBk row b.off (rv g).cells.toList)) b.block (zBk row b.off (rv g).cells.toList):=by
       obtain⟨el,jH⟩:=k3;exact⟨el,setRow_heap w _ _ _ el _ jH⟩
      have hnotL:∀ t,t≠r->b.block∉L t:=fun t ht hm=>S.conf.disj t r ht _ hm jY;have hΦ:zDt w (w.setRow b.block (zBk row b.off (rv g).cells.toList)) Φ Φ:=fun t ht=>⟨ht,yv t fun hc=>(S.conf.own r _ jY).2.1 (hc▸ht)⟩;have w6:=gl;rw[um] at w6;have gq:∀ t∈La++Lb,t≠b.block:=by
       intro t ht hc;subst hc;refine(cz.1 w6).1 ?_;simp at ht ⊢;rcases ht with h|h<;>simp[h]
      have hstay:∀ a v,a.isWay=true->(∀ x∈a.ways,x∈(E g).ways)->zA9 w rv E a v->Eng.stays (zDZ r pre i c (E g).cells) (zA9 w rv E) a v:=by
       intro a v hw hx ha;refine⟨ha,?_⟩;rcases jM with jM|jM
       ·exact zJ1 gm jM a
       ·exact zJy _ _ fun x gj=>jM x (hx x gj)
      have hcont:∀ A:Al,(∀ a u,a.isWay=true->Eng.stays (zDZ r pre i c (E g).cells) (zA9 w rv E) a u->A a u) ->
        zA5 (w.setRow b.block (zBk row b.off (rv g).cells.toList)) Φ (zGV (zJc A ((E r).mapW (zDZ r pre i c (E g).cells)) pre) np) (E g).cells (rv g).cells.toList (L g):=by
       intro A hA
       have h1:zA5 (w.setRow b.block (zBk row b.off (rv g).cells.toList)) Φ (zA9 w rv E) (E g).cells (rv g).cells.toList (L g) :=
        jt.mono hΦ (fun _ _ _ h=>h) fun t ht=>yv t fun hc=>hnotL g (dW gp) (hc▸ht)
       refine h1.ways _ _ _ fun a v hw hx ha=>?_;simp only[fm] at yO;rcases yO with yO|yO
       ·exact zNn yO hnp a v (hA a v hw (hstay a v hw (fun y hy=>zRc (hx y hy)) ha))
       ·have h0:zBq (E g).cells=[]:=by simpa using yO
        rw[h0] at hx;have h1:=zJJ hw ha
        cases vL:a.ways with
        |nil=>exact absurd vL h1|cons z zs=>have:=hx z (by rw[vL];simp);cases this
      obtain⟨kk1,kk2⟩:=zBV qb.2.1 qb.2.2.1 yf
      obtain⟨L1,hL1,hconf⟩:=w5 (fun s=>s==g) (w.setRow b.block (zBk row b.off (rv g).cells.toList)) q' root (b.block::(La++L g++Lb)) (fun s hs=>by have:=eq_of_beq hs;omega)
       (fun _=>by rw[qb.1,qb.2.2.2.1]) yf kk1
       (fun A hA=>kV (zNu hA) hΦ (fun t ht=>yv t (gq t ht)) j8 (hcont A hA))
       (by
        have vI:∀ t∈L g,t∉L r:=fun t ht=>S.conf.disj g r (dW gp) t ht;have hin:∀ t,t=b.block\/t∈La++Lb->t∈L r:=by
         intro t ht;rcases ht with rfl|ht
         ·exact jY
         ·exact vN t (by rw[um];simp at ht ⊢;rcases ht with h|h<;>simp[h])
        have wG:=(cz.1 w6).2;simp only[bW] at wG;refine cz.2 ⟨fun hm=>?_,?_⟩
        ·simp only[bk] at hm;rcases hm with(hm|hm)|hm
         ·exact gq _ (by simp[hm]) rfl
         ·exact vI _ hm jY
         ·exact gq _ (by simp[hm]) rfl
        ·simp only[bW];refine⟨⟨wG.1.1,S.conf.nodup g,fun x hx y hy e=>vI y hy (e▸hin x (.inr (by simp[hx])))⟩,wG.2.1,fun x hx y hy e=>?_⟩;simp only[bk] at hx;rcases hx with hx|hx
         ·exact wG.2.2 x (by simp[hx]) y hy e
         ·exact vI x hx (e▸hin y (.inr (by simp[hy]))))
       (fun t ht=>by
        simp only[bD,bk] at ht;rcases ht with rfl|(ht|ht)|ht
        ·exact .inl (by rw[um];simp)
        ·exact .inl (by rw[um];simp[ht])
        ·exact .inr (.inl ⟨g,ht,by simp⟩)
        ·exact .inl (by rw[um];simp[ht]))
       (by rw[setRow_size];exact bi _)
       (fun t _ ht _=>yv t fun hc=>ht (by rw[um,hc];simp))
       (fun rest nv2 np2 kQ gB=>by
        rcases zNG yA gl hx hi yT kU hI yR ka k1 k3 k4 rest nv2 np2 kQ gB with⟨j,q,rest',h1,h2,h3⟩|h3
        ·refine .inl fun a ha vO=>?_;subst h3;refine zJM _ _ _ h1 h2 a ha rest' vO (fun y hy=>?_) (fun ys k hy=>?_)
         ·subst hy;simp only[zBb,bB] at vO;have:=vO.2;simp at this
         ·subst hy;simp only[zBb,bB] at vO;have:=vO.2;simp at this
        ·exact .inr h3)
       ⟨rfl,rfl,rfl⟩
      refine⟨b,row,e1.set r root,_,L1,rfl,ye,k3,by rw[show(rv g).cells.size=(rv g).cells.toList.length by simp];exact k4,gC,h1,S.turn hconf (fun s hs=>?_) (fun _ _=>rfl) (fun d ps hd hp=>?_),?_,?_⟩
      ·rw[Env.get_set];by_cases yV:s=r
       ·subst yV;simp
       ·have:(s==g)=false:=by simp;omega
        simp only[yV,if_false,this,bq];rw[y5 s,S.env s hs]
      ·by_cases jz:d=r
       ·simp only[jz,if_true] at hp;rw[hp] at kk2;cases kk2
       ·have:(d==g)=false:=by simp only[zAa] at hg;simp;omega
        simp only[jz,if_false,this,bq] at hp;refine zEk (fun p hp=>?_) hp;rcases hf p with h|⟨_,h⟩
        ·rw[h];cases p<;>first|rfl|cases hp
        ·rw[h];rfl
      ·simp[dW gp]
      ·refine⟨fun s hs yp hb=>?_,fun s hs yp=>?_,jY⟩
       ·have:s≠r:=by omega
        simp[this,yp,hb,PV.mapW]
       ·have:s≠r:=by omega
        simp[this,yp]
end
end Go.Eng
namespace Go.Eng
open Go
section
variable {P:Program} {w0 w:World} {U Φ0 Φ:Nat->Prop} {nt:Nat} {hv:Hid} {a:Act} {e e':Env} {rv:Nat->Value} {E:Nat->PV} {L:Nat->LN} {o:zAO}
theorem zB3{r:Nat}{pre:zA2}{q:PV}{k:PM}(h:(PM.wnode r pre q k).run o e=some e'):∃ root,(e.get r).isLock=false/\zAA (fun _=>some q) (e.get r) pre=some root/\k.run o (e.set r root)=some e':=by
 simp only[PM.run] at h
 cases hl:(e.get r).isLock with
 |true=>rw[hl] at h;cases h|false=>
  rw[hl] at h;simp only[cond_false] at h
  cases hm:zAA (fun _=>some q) (e.get r) pre with
  |none=>rw[hm] at h;cases h|some root=>rw[hm] at h;exact⟨root,rfl,rfl,h⟩
theorem zQG(S:St w0 U Φ0 nt hv a w e Φ rv E L){p:PV}{v:Value}(hp:Rep w Φ (zA9 w rv E) p v []){k:PV->PM}{k2:PM}(h:(zO3 p k k2).run o e=some e') :
  k2.run o e=some e'\/(k p).run o e=some e'\/∃ r pre q root,r<zAa/\(E r).unlock=E r/\zAF (E r) pre=some q/\q.oneCell=true/\p.oneCell=true/\zAA (fun _=>some .bad) (E r) pre=some root/\root.unlock=root/\root.isTup=false /\
   (k q).run o (e.set r root)=some e'/\∀ nv,zAZ w (rv r) (E r) pre=some (nv,q)->nv=v:=by
 cases p<;>simp only[zO3] at h<;>try (exact .inr (.inl h))
 case bor r pre z lo n=>
  obtain⟨q,hq,h1⟩:=zBR h;obtain⟨_,hr,⟨b,cap,yL,_⟩,hn⟩:=hp;split at h1
  ·rename_i sz xs
   cases hc:(beq lo 0&&beq n xs.length) with
   |false=>rw[hc] at h1;exact .inl h1
   | true =>
    rw[hc] at h1;simp only[cond_true] at h1;simp only[bb] at hc;have uK:=bd hc.1;have hnl:=bd hc.2;subst uK;obtain⟨root,hl,hm,h2⟩:=zB3 h1;have yK:=zBI hl;rw[yK,<- S.env r hr] at hq;rw[<- S.env r hr] at yK hm;obtain⟨k1,k2'⟩:=zBV (q' := .bad) rfl rfl hm;refine .inr (.inr ⟨r,pre,_,root,hr,yK,hq,rfl,rfl,hm,k1,k2',h2,fun nv hf=>?_⟩);obtain⟨sz2,xs2,g1,g2,g3⟩:=hn nv _ (by rw[yK];exact hf) rfl;cases g1;subst g2;obtain⟨nv',Li,yw,_,yA⟩:=zBT (S.conf.rep r) hq;rw[hf] at yw;cases yw;obtain⟨q1,q2,q3⟩|⟨x,m,c,us,M,q0,q1,q2,_⟩:=yA
    ·subst q3;exact g3.1.symm
    ·subst q1;simp only[zBZ] at g3;rw[g3.1,hnl];congr 2
     ·cases x;simp_all[zAw]
  ·exact .inl h1
 case bmap r pre=>
  obtain⟨q,hq,h1⟩:=zBR h;obtain⟨_,hr,⟨b,yL⟩,hn⟩:=hp;split at h1
  ·rename_i es;obtain⟨root,hl,hm,h2⟩:=zB3 h1;have yK:=zBI hl;rw[yK,<- S.env r hr] at hq;rw[<- S.env r hr] at yK hm;obtain⟨k1,k2'⟩:=zBV (q' := .bad) rfl rfl hm;exact .inr (.inr ⟨r,pre,_,root,hr,yK,hq,rfl,rfl,hm,k1,k2',h2,fun nv hf=>(hn nv _ (by rw[yK];exact hf) _ rfl).symm⟩)
  ·exact .inl h1
theorem St.taken(S:St w0 U Φ0 nt hv a w e Φ rv E L){g r:Nat}(hg:zAa<=g)(hr:r<zAa){pre:zA2}{q root:PV}(yK:(E r).unlock=E r)(hq:zAF (E r) pre=some q)(h1:q.oneCell=true)
  (hm:zAA (fun _=>some .bad) (E r) pre=some root) (hk:root.unlock=root) (uh:root.isTup=false) :
  ∃ nv Li,zAZ w (rv r) (E r) pre=some (nv,q)/\Rep w Φ (zA9 w rv E) q nv Li/\Li.Nodup/\(∀ b∈Li,b∉L g)/\∀ (p':PV) (v':Value) (Lg:LN),Rep w Φ (zA9 w rv E) p' v' Lg->Lg.Nodup->(∀ b∈Lg,b∈Li\/b∈L g) ->
   ∃ L',St w0 U Φ0 nt hv a w (e.set r root) Φ (upd rv g v') (upd (upd E r root) g p') L'/\∀ s,zAa<=s->s≠g->L' s=L s:=by
 obtain⟨nv,Li,g1,g2,g3,g4,g5⟩:=S.conf.takeNode hr hg yK hq (zBo h1).2 hm hk;refine⟨nv,Li,g1,g2,g3,fun b hb jR=>S.conf.disj r g (by omega) b (g4 b hb) jR,fun p' v' Lg q1 q2 q3=>?_⟩;obtain⟨L',hc,hL⟩:=g5 p' v' Lg q1 q2 q3;refine⟨L',S.turn hc (fun s hs=>?_) (fun s hs=>zAg (by omega)) (fun d ps hd hp=>?_),fun s hs yp=>hL s (by omega) yp⟩
 ·rw[zAg (by omega),Env.get_set];by_cases yV:s=r
  ·subst yV;rw[zAj,if_pos rfl]
  ·rw[zAg yV,if_neg yV];exact S.env s hs
 ·rw[zAg (by simp only[zAa] at hg;omega)] at hp;by_cases jz:d=r
  ·subst jz;rw[zAj] at hp;rw[hp] at uh;cases uh
  ·rw[zAg jz] at hp;exact⟨ps,hp,rfl⟩
structure Worked (w0:World) (U Φ0:Nat->Prop) (nt:Nat) (hv:Hid) (a:Act) (w:World) (rv:Nat->Value) (E:Nat->PV) (g:Nat) (e1:Env) (rv1:Nat->Value) (E1:Nat->PV):Prop where
 st:∃ Φ1 L1,St w0 U Φ0 nt hv a w e1 Φ1 rv1 E1 L1
 val:rv1 g=rv g
 low:∀ s,s<zAa->rv1 s=rv s
 rest:∀ s,zAa<=s->s≠g->E1 s=E s/\rv1 s=rv s
 agg:(E1 g).isAgg=(E g).isAgg
 len:(E1 g).cells.length=(E g).cells.length
theorem zNN{p:PV}(h:p.isWay=true):p.heavy=false:=by cases p<;>first|rfl|cases h
theorem zQJ(S:St w0 U Φ0 nt hv a w e Φ rv E L){g:Nat}(hg:zAa<=g){k:PV->PM}(h:(zM3 (E g) k).run o e=some e'):∃ e1 rv1 E1,(k (E1 g)).run o e1=some e'/\Worked w0 U Φ0 nt hv a w rv E g e1 rv1 E1:=by
 have gD:Worked w0 U Φ0 nt hv a w rv E g e rv E:=⟨⟨Φ,L,S⟩,rfl,fun _ _=>rfl,fun _ _ _=>⟨rfl,rfl⟩,rfl,rfl⟩;by_cases uL:(E g).isWay=true
 ·have yA:=S.conf.rep g;have hL:L g=[]:=zDi _ _ _ (zNN uL) yA;rw[hL] at yA;rcases zQG S yA h with h1|h1|⟨r,pre,q,root,c1,c2,c3,c4,c5,c6,c7,c8,c9,c10⟩
  ·obtain⟨e1,Φ1,E1,L1,h2,S1,_,h3,_,_,h4,h5⟩:=zH8 hg (bi _) zDf S h1;exact⟨e1,rv,E1,h2,⟨Φ1,L1,S1⟩,rfl,fun _ _=>rfl,fun s hs hI=>⟨h3 s hs hI,rfl⟩,h4,h5⟩
  ·exact⟨e,rv,E,h1,gD⟩
  ·obtain⟨nv,Li,g1,g2,g3,g4,g5⟩:=S.taken hg c1 c2 c3 c4 c6 c7 c8;have hnv:=c10 nv g1;obtain⟨L',S',wT⟩:=g5 q nv Li g2 g3 (fun b hb=>.inl hb);have jt:r≠g:=by omega
   refine⟨_,_,_,by rw[zAj];exact c9,⟨Φ,L',S'⟩,by rw[zAj,hnv],fun s hs=>zAg (by omega),fun s hs hI=>?_,?_,?_⟩
   ·rw[zAg hI,zAg hI,zAg (by omega)];exact⟨rfl,rfl⟩
   ·rw[zAj,(zBo c4).2,(zBo c5).2]
   ·rw[zAj,(zBo c4).1,(zBo c5).1];rfl
 ·have:(k (E g)).run o e=some e':=by
   revert h;simp only[zM3,zO3];cases hE:E g<;>first|(rw[hE] at uL;exact absurd rfl uL)|exact fun h=>h
  exact⟨e,rv,E,this,gD⟩
theorem Worked.self(S:St w0 U Φ0 nt hv a w e Φ rv E L){g:Nat}:Worked w0 U Φ0 nt hv a w rv E g e rv E:=⟨⟨Φ,L,S⟩,rfl,fun _ _=>rfl,fun _ _ _=>⟨rfl,rfl⟩,rfl,rfl⟩
theorem Worked.trans{g:Nat}{e1 e2:Env}{rv1 rv2:Nat->Value}{E1 E2:Nat->PV}(h1:Worked w0 U Φ0 nt hv a w rv E g e1 rv1 E1)(h2:Worked w0 U Φ0 nt hv a w rv1 E1 g e2 rv2 E2):Worked w0 U Φ0 nt hv a w rv E g e2 rv2 E2 :=
 ⟨h2.st,h2.val.trans h1.val,fun s hs=>(h2.low s hs).trans (h1.low s hs),fun s hs hI=>⟨(h2.rest s hs hI).1.trans (h1.rest s hs hI).1,(h2.rest s hs hI).2.trans (h1.rest s hs hI).2⟩,h2.agg.trans h1.agg,h2.len.trans h1.len⟩
theorem zP0(S:St w0 U Φ0 nt hv a w e Φ rv E L){g:Nat}(hg:zAa<=g){k:PV->PM}(h:(zMh zAa zDf (E g) k).run o e=some e'):∃ e1 rv1 E1,(k (E1 g)).run o e1=some e'/\Worked w0 U Φ0 nt hv a w rv E g e1 rv1 E1:=by
 obtain⟨e1,Φ1,E1,L1,h2,S1,_,h3,_,_,h4,h5⟩:=zH8 hg (bi _) zDf S h;exact⟨e1,rv,E1,h2,⟨Φ1,L1,S1⟩,rfl,fun _ _=>rfl,fun s hs hI=>⟨h3 s hs hI,rfl⟩,h4,h5⟩
theorem zHh{g:Nat}(hg:zAa<=g){k:PV->PM}:∀ (ps done:List PV) {e:Env} {Φ:Nat->Prop} {rv:Nat->Value} {E:Nat->PV} {L:Nat->LN},St w0 U Φ0 nt hv a w e Φ rv E L->E g = .agg (done++ps) ->
  (zJL ps fun qs=>k (.agg (done++qs))).run o e=some e'->∃ e1 rv1 E1,(k (E1 g)).run o e1=some e'/\Worked w0 U Φ0 nt hv a w rv E g e1 rv1 E1
 |[],done,e,Φ,rv,E,L,S,hE,h=>by
  refine⟨e,rv,E,?_,.self S⟩;rw[hE];exact h
 | p :: ps,done,e,Φ,rv,E,L,S,hE,h=>by
  have yA:=S.conf.rep g;rw[hE] at yA;obtain⟨vs,yL,hr⟩:=yA;have hpi:(done++p::ps)[done.length]? = some p:=by simp
  obtain⟨v,La,Lp,Lb,hvi,hL,uo,yn,_⟩:=hr.split hpi;simp only[zJL] at h;by_cases uL:p.isWay=true
  ·have hLp:=zDi _ _ _ (zNN uL) uo;subst hLp;rcases zQG S uo h with h1|h1|⟨r,pre,q,root,c1,c2,c3,c4,c5,c6,c7,c8,c9,c10⟩
   ·cases h1
   ·exact zHh hg ps (done++[p]) S (by rw[hE];simp) (by simpa using h1)
   ·obtain⟨nv,Li,g1,g2,g3,g4,g5⟩:=S.taken hg c1 c2 c3 c4 c6 c7 c8;have hnv:=c10 nv g1;subst hnv;have yU:=S.conf.nodup g;rw[hL] at yU;simp only[dO,bW] at yU;have j8:=yn w Φ (zA9 w rv E) q Li (fun _ _ _ h=>h) zDt.refl (fun _ _=>rfl) g2;have yc:∀ b∈La++Lb,b∈L g:=fun b hb=>by rw[hL];simpa using hb
    obtain⟨L',S',wT⟩:=g5 (.agg ((done++p::ps).set done.length q)) (rv g) (La++Li++Lb) ⟨vs,yL,j8⟩
     (by
      simp only[bW];refine⟨⟨yU.1,g3,fun x hx y hy e=>g4 y hy (yc y (by rw[<- e];simp[hx]))⟩,yU.2.1,fun x hx y hy e=>?_⟩;rcases bk.1 hx with hx|hx
      ·exact yU.2.2 x hx y hy e
      ·exact g4 x hx (yc x (by rw[e];simp[hy])))
     (fun b hb=>by
      simp only[bk] at hb;rcases hb with(hb|hb)|hb
      ·exact .inr (yc b (by simp[hb]))
      ·exact .inl hb
      ·exact .inr (yc b (by simp[hb])))
    have jt:r≠g:=by omega
    have hEq:(done++p::ps).set done.length q=done++q::ps:=by simp
    obtain⟨e1,rv1,E1,h2,W⟩:=zHh hg ps (done++[q]) S' (by rw[zAj,hEq];simp) (by simpa using c9);refine⟨e1,rv1,E1,h2,?_⟩;have W0:Worked w0 U Φ0 nt hv a w rv E g (e.set r root) (upd rv g (rv g)) (upd (upd E r root) g (.agg ((done++p::ps).set done.length q))):=by
     refine⟨⟨Φ,L',S'⟩,zAj,fun s hs=>zAg (by omega),fun s hs hI=>?_,?_,?_⟩
     ·rw[zAg hI,zAg hI,zAg (by omega)];exact⟨rfl,rfl⟩
     ·rw[zAj,hE];rfl
     ·rw[zAj,hE];simp[PV.cells]
    exact W0.trans W
  ·have:(zJL ps fun qs=>k (.agg (done++p::qs))).run o e=some e':=by
    revert h;cases p<;>first|(exact absurd rfl uL)|exact fun h=>h
   exact zHh hg ps (done++[p]) S (by rw[hE];simp) (by simpa using this)
theorem zNo(S:St w0 U Φ0 nt hv a w e Φ rv E L){g:Nat}(hg:zAa<=g){tk:Bool}{k:PV->PM}(h:(zF4 tk (E g) k).run o e=some e'):∃ e1 rv1 E1,(k (E1 g)).run o e1=some e'/\Worked w0 U Φ0 nt hv a w rv E g e1 rv1 E1:=by
 have plain:(k (E g)).run o e=some e'->∃ e1 rv1 E1,(k (E1 g)).run o e1=some e'/\Worked w0 U Φ0 nt hv a w rv E g e1 rv1 E1:=fun h=>⟨e,rv,E,h,.self S⟩;have ice:(zMh zAa zDf (E g) k).run o e=some e'->∃ e1 rv1 E1,(k (E1 g)).run o e1=some e'/\Worked w0 U Φ0 nt hv a w rv E g e1 rv1 E1:=zP0 S hg;have take:(zM3 (E g) k).run o e=some e'->∃ e1 rv1 E1,(k (E1 g)).run o e1=some e'/\Worked w0 U Φ0 nt hv a w rv E g e1 rv1 E1:=zQJ S hg;cases hE:E g<;>rw[hE] at h plain ice take<;>simp only[zF4] at h<;>try (exact plain h)
 case agg cs=>
  cases tk with
  |true=>exact zHh hg cs [] S (by rw[hE];rfl) (by simpa using h)|false=>
   simp only[cond_false] at h;revert h
   cases cs.any _ with
   |true=>exact ice|false=>exact plain
 case bor=>cases tk<;>first|exact take h|exact ice h
 case bmap=>cases tk<;>first|exact take h|exact ice h
 case bsl=>exact ice h
theorem St.iced(S:St w0 U Φ0 nt hv a w e Φ rv E L){g:Nat}(hg:zAa<=g):∃ Φ1 L1,St w0 U Φ0 nt hv a w e Φ1 rv (upd E g (zAY (E g))) L1:=by
 have hA:∀ a u,a.isWay=true->zA9 w rv E a u->zA9 w rv (upd E g (zAY (E g))) a u:=by
  intro a u _ ha;have:=zC6 ha;exact zCQ S.conf zCp ha (by rw[zAg (by omega),zBl]) rfl (fun _ _=>rfl)
 have hΦ:zDt w w Φ (fun b=>Φ b\/b∈L g):=fun b hb=>⟨.inl hb,rfl⟩;have hc:Conf w0 U Φ0 w (fun b=>Φ b\/b∈L g) rv (upd E g (zAY (E g))) (upd L g []):=by
  refine⟨fun s=>?_,fun s=>?_,fun s s' hI b hb yN=>?_,fun s b hb=>?_,fun b hb=>?_,fun b hb=>.inl (S.conf.frz0 b hb),S.conf.size,S.conf.kept,S.conf.os,S.conf.tape,S.conf.output⟩
  ·by_cases hs:s=g
   ·subst hs;rw[zAj,zAj];exact(zEn (fun b hb=>.inl hb) _ _ _ (fun b hb=>.inr hb) (S.conf.rep s)).mono zDt.refl hA (by simp)
   ·rw[zAg hs,zAg hs];exact(S.conf.rep s).mono hΦ hA (fun _ _=>rfl)
  ·by_cases hs:s=g
   ·subst hs;rw[zAj];exact cj
   ·rw[zAg hs];exact S.conf.nodup s
  ·by_cases hs:s=g
   ·subst hs;rw[zAj] at hb;cases hb
   ·rw[zAg hs] at hb;by_cases jF:s'=g
    ·subst jF;rw[zAj] at yN;cases yN
    ·rw[zAg jF] at yN;exact S.conf.disj s s' hI b hb yN
  ·by_cases hs:s=g
   ·subst hs;rw[zAj] at hb;cases hb
   ·rw[zAg hs] at hb;have:=S.conf.own s b hb;exact⟨this.1,fun hp=>hp.elim this.2.1 fun hbg=>S.conf.disj s g hs b hb hbg,this.2.2⟩
  ·rcases hb with hb|hb
   ·exact S.conf.frz b hb
   ·have:=S.conf.own g b hb;exact⟨this.1,.inr this.2.2⟩
 exact⟨_,_,S.turn hc (fun s hs=>by rw[zAg (by omega)];exact S.env s hs) (fun _ _=>rfl) fun d ps hd hp=>by
  rw[zAg (by simp only[zAa] at hg;omega)] at hp;exact⟨ps,hp,rfl⟩⟩
theorem St.clear(S:St w0 U Φ0 nt hv a w e Φ rv E L):Fr w0 U Φ0 nt hv a w e:=by
 have hc:=S.conf.drop fun s=>decide (zAa<=s);refine⟨_,_,_,_,S.turn hc (fun s hs=>?_) (fun _ _=>rfl) (fun d ps hd hp=>?_),fun s hs=>?_⟩
 ·have:decide (zAa<=s)=false:=by simp;omega
  simp only[this,bq,if_false];exact S.env s hs
 ·have:decide (zAa<=d)=false:=decide_eq_false (by simp only[zAa];omega);simp only[this,bq,if_false] at hp;exact⟨ps,hp,rfl⟩
 ·simp[hs]
theorem zJg{A:Al}{sz lo n:Nat}{xs:List PV}{nv v:Value}{Li:LN}(h:Rep w Φ A (.own sz xs) nv Li)(yR:lo+n<=xs.length)(hs:zBZ v nv sz lo n) :
  ∃ Lg,Rep w Φ A (.own sz ((xs.drop lo).take n)) v Lg/\(∀ b∈Lg,b∈Li)/\(Li.Nodup->Lg.Nodup):=by
 obtain⟨h1,h2,h3⟩|⟨x,m,c,us,M,rfl,h1,h2,h3,h4,h5,h6,⟨h7,u3⟩,h8,h9⟩:=h
 ·subst h1;subst h3;exact⟨[],.inl ⟨by simp,rfl,hs.1⟩,by simp,fun _=>cj⟩
 ·subst h1;simp only[zBZ] at hs;obtain⟨rfl,yZ⟩:=hs;have jG:us.length=xs.length:=by have:=congrArg length u3;simpa using this
  obtain⟨M1,M23,rfl,_,hB⟩:=h9.cut lo;obtain⟨M2,M3,rfl,hC,_⟩:=hB.cut n;have hZ:((xs.drop lo).take n).length=n:=by simp;omega
  refine⟨x.block::M2,.inr ⟨zAw x (lo*sz),m-lo,c,(us.drop lo).take n,M2,rfl,by rw[hZ],rfl,by rw[hZ];omega,h4,?_,fun y hy=>h6 y (cy (cL hy)),⟨fun u hu=>h7 u (cy (cL hu)),zA5.map_isAgg u3 lo n⟩,?_,hC⟩,?_,?_⟩
  ·simp only[zAw];have:lo*sz+(m-lo)*sz=m*sz:=by rw[<- cQ];congr 1;omega
   omega
  ·rw[hZ];exact zIU h7 jG h8 yR
  ·intro b hb;simp only[bD,bk] at hb ⊢;rcases hb with h|h<;>simp[h]
  ·intro hn;simp only[cz,bk,not_or,bW] at hn ⊢;exact⟨hn.1.2.1,hn.2.2.1.1⟩
theorem zM7{t:TypeId}{n:Nat}(hn:szT P t=some n){b:Addr}(ye:b.spot=none){row:Array Value}(yG:zEY w b.block row){v:Value}(hv:v.cells.size=n)(yH:b.off+v.cells.size<=row.size)(yT:∀ u∈v.cells.toList,u.oneCell'=true) :
  (Instr.storeAt t (.pointer (some b)) v).run P w = .ok () (w.setRow b.block (zBk row b.off v.cells.toList)):=by
 obtain⟨ti,jZ,yJ⟩:=zCu hn;obtain⟨el,jH⟩:=yG;have hb:b=⟨b.block,b.off,none⟩:=by cases b;simp_all
 simp only[Instr.storeAt,Instr.sureAddr,bo,bA,bh,storeVar,zA4 jZ];rw[if_neg (by simp only[ne_eq,fO];omega)];have:=run_storeCells_at (P:=P) b.block b.off el v.cells.toList 0 row w jH (by simpa using yH) yT;rw[<- hb] at this;simp only[bR] at this;exact this
theorem zLT(S:St w0 U Φ0 nt hv a w e Φ rv E L){g r:Nat}(hg:zAa<=g){pre:zA2}{i c:Nat}{sh:ON}{t:TypeId}{va:Value}(ha:Rep w Φ (zA9 w rv E) (.addr r pre i c sh) va [])
  (hn:szT P t=some (E g).cells.length) (h:(zIs r pre i c (E g)).run o e=some e') :
  ∃ w',(Instr.storeAt t va (rv g)).run P w = .ok () w'/\Fr w0 U Φ0 nt hv a w' e':=by
 simp only[zIs] at h;obtain⟨hc,h1⟩:=zAS h;simp only[bb,bS,bF] at hc;obtain⟨⟨jM,jL⟩,uq⟩:=hc;have yT:∀ q∈(E g).cells,q.oneCell=true:=fun q hq=>bj.1 jL q hq;have hva:zCr (rv g)=(E g).isAgg:=by
  have yA:=S.conf.rep g
  cases hx:(E g).isAgg with
  |true=>
   cases hE:E g<;>rw[hE] at hx<;>simp[PV.isAgg] at hx;rw[hE] at yA;obtain⟨vs,yL,_⟩:=yA;rw[yL];rfl
  |false=>
   have ja:(E g).cells=[E g]:=by cases hE:E g<;>first|rfl|(rw[hE] at hx;simp[PV.isAgg] at hx)
   have:=yT (E g) (by rw[ja];simp);exact(zBP (zCg (fun a v hw h=>zDc hw h) yA this)).2
 have jA:(E g).heavy=false\/∀ x∈(E g).ways,zAT r pre x.1 x.2=false\/x.2.length<=pre.length:=by
  rcases jM with h|h
  ·exact .inl h
  ·refine .inr fun x hx=>?_;have:=bj.1 h x hx;simp only[bF,fm] at this;rcases this with h|h
   ·exact .inl h
   ·refine .inr (fx fun yI=>?_);rw[show blt pre.length x.2.length=true from cU yI] at h;cases h
 have hI:(E g).cells.length≠0:=by
  intro h0;rw[br h0] at uq;cases uq
 obtain⟨b,row,e1,E1,L1,rfl,k1,k2,k3,k4,k5,k6,_,_⟩:=S.write hg ha jA yT hI hva h1;simp only[PM.run,ba] at k5;subst k5;have yJ:(rv g).cells.size=(E g).cells.length:=by
  have:=((S.conf.rep g).cellsAll hva).length;simpa using this
 exact⟨_,zM7 hn k1 k2 yJ k3 k4,k6.clear⟩
theorem zHA(S:St w0 U Φ0 nt hv a w e Φ rv E L){g:Nat}(hg:zAa<=g)(hE2:E (g+1) = .bad){r:Nat}{pre:zA2}{i c:Nat}{sh:ON}{t:TypeId}{va:Value}(ha:Rep w Φ (zA9 w rv E) (.addr r pre i c sh) va [])
  (hn:szT P t=some (E g).cells.length) {tk:Bool} (h:(zIN tk r pre i c (E g)).run o e=some e') :
  ∃ w',(Instr.storeAt t va (rv g)).run P w = .ok () w'/\Fr w0 U Φ0 nt hv a w' e':=by
 have S1:=S.hold (g:=g+1) (by omega) ha;have kA:g≠g+1:=by omega
 simp only[zIN] at h;split at h
 ·rename_i m ku;cases un:E g<;>rw[un] at ku<;>simp only[zTF] at ku<;>try (cases ku;done)
  rename_i r' q z lo n
  cases lo with
  |succ lo=>cases ku
  | zero =>
   simp only[zTF] at ku;split at ku
   ·rename_i hrq;simp only[bb,decide_eq_true_eq] at hrq;obtain⟨rfl,rfl⟩:=hrq;simp only[ba] at ku;subst ku;obtain⟨x,hx,h1⟩:=zBR h;split at h1
    ·rename_i s xs;obtain⟨yR,h2⟩:=zAS h1;have yR:=bu yR;obtain⟨root,hl,hm,h3⟩:=zB3 h2;have hr:r'<zAa:=ha.2.1;have yK:=zBI hl;rw[yK,<- S.env r' hr] at hx;rw[<- S.env r' hr] at yK hm;have hr1:r'≠g+1:=by omega
     obtain⟨kk1,kk2⟩:=zBV (q' := .bad) rfl rfl hm;have wZ:upd E (g+1) (.addr r' pre i c sh) r'=E r':=zAg hr1;obtain⟨nv,Li,g1,g2,g3,g4,g5⟩:=S1.taken (g:=g) hg hr (by rw[wZ];exact yK) (by rw[wZ];exact hx) rfl (by rw[wZ];exact hm) kk1 kk2;have gE:=S.conf.rep g;rw[un] at gE;obtain⟨_,_,_,wI⟩:=gE;have jE:zBZ (rv g) nv s 0 n:=by
      obtain⟨s2,xs2,q1,q2,q3⟩:=wI nv _ (by rw[yK];rw[wZ,zAg hr1] at g1;exact g1) rfl;cases q1;subst q2;exact q3
     obtain⟨Lg,p1,p2,p3⟩:=zJg g2 (by omega) jE;obtain⟨L',S2,_⟩:=g5 _ (rv g) Lg p1 (p3 g3) (fun b hb=>.inl (p2 b hb));have kJ:=S2.conf.rep (g+1);rw[zAg (dW kA),zAg (dW hr1),zAj,zAg (dW kA),zAj] at kJ;have ub:L' (g+1)=[]:=kJ.1;rw[ub] at kJ;have:=zLT (P:=P) (t:=t) S2 hg kJ (by rw[zAj];rw[un] at hn;exact hn) (by rw[zAj];exact h3);rw[zAj] at this;exact this
    ·cases h1
   ·cases ku
 ·have key:(zF4 tk (E g) fun v=>zIs r pre i c v).run o e=some e'\/(zIs r pre i c (E g)).run o e=some e':=by
   simp only[zI9] at h
   cases hb:(pre.isEmpty && !tk) with
   |false=>rw[hb] at h;exact .inl h|true=>
    rw[hb] at h;simp only[cond_true,PM.run] at h;split at h
    ·exact .inr h
    ·exact .inl h
  rcases key with h|h
  ·have hEg1:upd E (g+1) (.addr r pre i c sh) g=E g:=zAg kA;obtain⟨e1,rv1,E1,h1,W⟩:=zNo S1 (g:=g) hg (by rw[hEg1];exact h);obtain⟨Φ1,L1,S2⟩:=W.st;have kJ:=S2.conf.rep (g+1);obtain⟨q1,q2⟩:=W.rest (g+1) (by omega) (dW kA);rw[q1,q2,zAj,zAj] at kJ;have ub:L1 (g+1)=[]:=kJ.1;rw[ub] at kJ;have hZ:=W.len;rw[hEg1] at hZ;have:=zLT (P:=P) (t:=t) S2 hg kJ (by rw[hZ];exact hn) h1;rw[W.val,zAg kA] at this;exact this
  ·exact zLT S hg ha hn h
theorem zXZ{t el:TypeId}{s:Nat}(h:(zB1 P t).bind (szT P)=some s):∃ el,zB1 P t=some el/\szT P el=some s:=by
 cases he:zB1 P t with
 |none=>rw[he] at h;cases h|some el=>rw[he] at h;exact⟨el,rfl,h⟩
theorem zCE{t:TypeId}{el:TypeId}(h:zB1 P t=some el):P.underlying t=some (.slice el):=by
 simp only[zB1] at h;split at h
 ·cases h;assumption
 ·cases h
theorem zUN(S:St w0 U Φ0 nt hv a w e Φ rv E L)(hb:zBv E){fz tk:Bool}{t:TypeId}{x y:Operand}(hx:zAW nt x=true)(hy:zAW nt y=true)(h:(zQt P fz tk t x y).run o e=some e') :
  ∃ w',(Instr.storeAt t (a.eval x) (a.eval y)).run P w = .ok () w'/\Fr w0 U Φ0 nt hv a w' e':=by
 obtain⟨pa,h1,wY⟩:=zBz S hx h
 have gen:(match pa,shT P t,szT P t with
   |.addr r pre i c _,some sh,some n=>(bif fz&&tk then opd y else zOK y) fun v=>bif beq v.cells.length n&&v.isAgg==sh.isSome then zIN (tk && !fz) r pre i c (bif fz && !tk then zAY v else v) else .fail
   |_,_,_=>.fail).run o e=some e'->∃ w',(Instr.storeAt t (a.eval x) (a.eval y)).run P w = .ok () w'/\Fr w0 U Φ0 nt hv a w' e':=by
  intro h2;clear h1;split at h2
  ·rename_i r pre i c s' sh n jm hn;have S1:=S.hold (g:=zAa+2) (by omega) wY
   cases gF:(fz&&tk) with
   |true=>
    rw[bb] at gF;obtain⟨rfl,rfl⟩:=gF;simp only[dR,cond_true,dH,dC,cond_false] at h2;obtain⟨v,h2,hv⟩:=zBz S1 hy h2;obtain⟨hc,h5⟩:=zAS h2;simp only[bb] at hc;have hZ:=bd hc.1;have S2:=S1.hold (g:=zAa) (bi _) hv;have kJ:=S2.conf.rep (zAa+2);rw[zAg (show zAa+2≠zAa by omega),zAg (show zAa+2≠zAa by omega),zAg (show zAa+2≠zAa by omega),zAj,zAj,zAj] at kJ;have:=zHA (P:=P) (t:=t) S2 (bi zAa) (by rw[zAg (show zAa+1≠zAa by omega),zAg (show zAa+1≠zAa+2 by omega)];exact hb _ (by omega)) kJ (by rw[zAj,hZ];exact hn) (by rw[zAj];exact h5);rwa[zAj] at this
   |false=>
   rw[gF,cond_false] at h2;obtain⟨e1,rv1,E1,L1,h2,S2,h3,h4⟩:=zGg S1 hy (g:=zAa) (bi _) h2;obtain⟨hc,h5⟩:=zAS h2;simp only[bb] at hc;have hZ:=bd hc.1;have h6:=h4 (zAa+2) (by omega) (by omega);rw[zAj,zAj,zAj] at h6;have h7:=h4 (zAa+1) (by omega) (by omega);rw[zAg (show zAa+1≠zAa+2 by omega)] at h7;have wZ:E1 (zAa+1) = .bad:=by rw[h7.1];exact hb _ (by omega)
   cases fz with
   |false=>
    simp only[di,cond_false] at h5;have kJ:=S2.conf.rep (zAa+2);rw[h6.1,h6.2.1,h6.2.2] at kJ;have:=zHA (P:=P) (t:=t) S2 (bi zAa) wZ kJ (by rw[hZ];exact hn) h5;rwa[h3] at this
   |true=>
    simp only[ci] at gF;subst gF;simp only[il,dR,cond_true] at h5;obtain⟨Φ2,L2,S3⟩:=S2.iced (g:=zAa) (bi _);have kJ:=S3.conf.rep (zAa+2);rw[zAg (show zAa+2≠zAa by omega),h6.1,h6.2.1] at kJ;have ub:L2 (zAa+2)=[]:=kJ.1;rw[ub] at kJ;have:=zHA (P:=P) (t:=t) S3 (bi zAa) (by rw[zAg (show zAa+1≠zAa by omega)];exact wZ) kJ (by rw[zAj,zDa,hZ];exact hn) (by rw[zAj];exact h5);rwa[h3] at this
  ·cases h2
 split at h1
 ·rename_i r pre i c s';obtain⟨s,hs,ju⟩:=zBM h1;obtain⟨jE,h2⟩:=zDr ju;have S1:=S.hold (g:=zAa) (p := .own s []) (v := .slice none 0 0) (bi _) (.inl ⟨rfl,rfl,rfl⟩);have hpa':Rep w Φ (zA9 w (upd rv zAa (.slice none 0 0)) (upd E zAa (.own s []))) (.addr r pre i c s') (a.eval x) []:=by
   have hr:=zC6 wY.2;refine⟨rfl,zCQ S.conf zCp wY.2 ?_ ?_ (fun _ _=>rfl)⟩
   ·rw[zAg (Nat.ne_of_lt hr),zBl]
   ·rw[zAg (Nat.ne_of_lt hr)]
  have:=zHA (P:=P) (t:=t) S1 (bi zAa) (by rw[zAg (show zAa+1≠zAa by omega)];exact hb _ (by omega)) hpa' (by rw[zAj];exact jE) (by rw[zAj];exact h2);rwa[zAj] at this
 ·exact gen h1
theorem Fr.congr{e1 e2:Env}(h:∀ s,e1.get s=e2.get s)(hf:Fr w0 U Φ0 nt hv a w e1):Fr w0 U Φ0 nt hv a w e2:=by
 obtain⟨Φ,rv,E,L,S,hb⟩:=hf;exact⟨Φ,rv,E,L,{S with env:=fun s hs=>(S.env s hs).trans (h s)},hb⟩
theorem zH9(S:St w0 U Φ0 nt hv a w e Φ rv E L){g:Nat}(hg:zAa<=g){d:ON}(hd:∀ x,d=some x->x<nt)(hb:∀ s,zAa<=s->s≠g->E s = .bad)(h:(zFj d (E g)).run o e=some e'):Fr w0 U Φ0 nt hv (a.put d (rv g)) w e':=by
 have plain:(put d (E g)).run o e=some e'->Fr w0 U Φ0 nt hv (a.put d (rv g)) w e':=fun h=>zGf S hd hg h hb;have jl:=S.small;simp only[zFj] at h;split at h
 ·rename_i d' r z lo n un;split at h
  ·rename_i hrd;subst hrd;have hr:r<nt:=hd r rfl;have jt:r<zAa:=by simp only[zAa];omega
   simp only[PM.run] at h;split at h
   ·cases h
   ·rename_i root hnl;split at h
    ·rename_i sz xs uM;obtain⟨yR,h1⟩:=zAS h;have yR:=bu yR;simp only[PM.run,ba] at h1;have hE:E r = .own sz xs:=by rw[S.env r jt,uM]
     obtain⟨nv,Li,g1,g2,g3,g4,g5⟩:=S.taken (g:=g) hg jt (pre:=[]) (q := .own sz xs) (root := .bad) (by rw[hE];rfl) (by rw[hE];rfl) rfl rfl rfl rfl;have yA:=S.conf.rep g;rw[un] at yA;obtain⟨_,_,_,hn⟩:=yA;have jE:zBZ (rv g) nv sz lo n:=by
      obtain⟨s2,xs2,q1,q2,q3⟩:=hn nv _ (by rw[hE];rw[hE] at g1;exact g1) rfl;cases q1;subst q2;exact q3
     obtain⟨Lg,p1,p2,p3⟩:=zJg g2 yR jE;obtain⟨L',S2,_⟩:=g5 _ (rv g) Lg p1 (p3 g3) (fun b hb=>.inl (p2 b hb));have kV:(put (some r) (upd (upd E r .bad) g (.own sz ((xs.drop lo).take n)) g)).run o (e.set r .bad)=some (((e.set r .bad).kill r []).set r (.own sz ((xs.drop lo).take n))):=by
      rw[zAj];rfl
     have:=zGf S2 hd hg kV (fun s hs hI=>by rw[zAg hI,zAg (by omega)];exact hb s hs hI);rw[zAj] at this;refine this.congr fun s=>?_;rw[<- h1,Env.get_set,Env.get_set,Env.get_kill,Env.get_kill,Env.get_set];by_cases hs:s=r
     ·simp[hs]
     ·simp[hs]
    ·cases h
  ·exact plain h
 ·exact plain h
theorem zR2(S:St w0 U Φ0 nt hv a w e Φ rv E L)(hb:zBv E){d:ON}(hd:∀ x,d=some x->x<nt){tk nl:Bool}{t:TypeId}{x:Operand}(hx:zAW nt x=true)(h:(zGp P tk nl d t x).run o e=some e'):Fr w0 U Φ0 nt hv (a.put d (a.eval x)) w e':=by
 have gen:(zOK x fun p=>bif tk then zM3 p (zFj d) else zFj d p).run o e=some e'->Fr w0 U Φ0 nt hv (a.put d (a.eval x)) w e':=by
  intro h;obtain⟨e1,rv1,E1,L1,h1,S1,h2,h3⟩:=zGg S hx (g:=zAa) (bi _) h;have yd:∀ s,zAa<=s->s≠zAa->E1 s = .bad:=fun s hs hI=>by rw[(h3 s hs hI).1];exact hb s hs
  cases tk with
  |false=>
   have:=zH9 S1 (bi zAa) hd yd h1;rwa[h2] at this
  |true=>
   obtain⟨e2,rv2,E2,h4,W⟩:=zQJ S1 (bi zAa) h1;obtain⟨Φ2,L2,S2⟩:=W.st;have:=zH9 S2 (bi zAa) hd (fun s hs hI=>by rw[(W.rest s hs hI).1];exact yd s hs hI) h4;rw[W.val,h2] at this;exact this
 simp only[zGp] at h;split at h
 ·have nilR:∀ s,Rep w Φ (zA9 w rv E) (.own s []) (.slice none 0 0) []:=fun s=>.inl ⟨rfl,rfl,rfl⟩
  cases nl with
  |true=>obtain⟨s,_,h1⟩:=zBM h;exact zAC S hb hd h1 ⟨rfl,rfl⟩
  |false=>
   simp only[cond_false,zVU] at h;split at h
   ·exact zAC S hb hd h (nilR _)
   ·cases h
 ·exact gen h
theorem zSu(S:St w0 U Φ0 nt hv a w e Φ rv E L)(hb:zBv E){d:ON}(hd:∀ x,d=some x->x<nt){x:Operand}(hx:zAW nt x=true)(h:(zVQ d x).run o e=some e'):Fr w0 U Φ0 nt hv (a.put d (a.eval x)) w e':=by
 obtain⟨e1,rv1,E1,L1,h1,S1,h2,h3⟩:=zGg S hx (g:=zAa) (bi _) h;have yd:∀ s,zAa<=s->s≠zAa->E1 s = .bad:=fun s hs hI=>by rw[(h3 s hs hI).1];exact hb s hs
 obtain⟨e2,Φ2,E2,L2,h4,S2,_,h5,_,_,h6,h7⟩:=zH8 (bi zAa) (bi _) zDf S1 h1;have:=zH9 S2 (bi zAa) hd (fun s hs hI=>by rw[h5 s hs hI];exact yd s hs hI) h4;rwa[h2] at this
theorem zHU{d i d' i':Nat}(h:zBA d i=zBA d' i')(hi:i<16)(gr:i'<16):d=d'/\i=i':=by
 simp only[zBA] at h;omega
theorem zRe(S:St w0 U Φ0 nt hv a w e Φ rv E L)(hb:zBv E){d:ON}(hd:∀ x,d=some x->x<nt){s i:Nat}(hs:s<nt)(h:(zKI d s i).run o e=some e') :
  ∃ v,(Instr.extract (a.eval (.tmp s)) i).run P w = .ok v w/\Fr w0 U Φ0 nt hv (a.put d v) w e':=by
 have jl:=S.small;have yp:s<zAa:=by simp only[zAa];omega
 simp only[zKI,PM.run] at h;split at h
 ·cases h
 ·rename_i m hnl;split at h
  ·rename_i ps yj;obtain⟨hi,h1⟩:=zAS h;have hi:=zCb hi;have hE:E s = .tup ps:=by rw[S.env s yp,yj]
   obtain⟨vm,vs,uc,kh⟩:=S.parts s ps i hs hE hi;have hvg:zBA s i<zAa:=by simp only[zBA,zAa];omega
   have yX:a.eval (.tmp s) = .tuple vs:=by rw[<- uc];exact S.tmps s hs
   have yC:(Instr.extract (a.eval (.tmp s)) i).run P w = .ok (rv (zBA s i)) w:=by
    rw[yX];simp only[Instr.extract,kh];rfl
   refine⟨_,yC,?_⟩;simp only[PM.run] at h1;split at h1
   ·cases h1
   ·rename_i p hnl2;have yA:=S.conf.rep (zBA s i);rw[S.env _ hvg] at yA
    cases hh:(e.get (zBA s i)).heavy with
    |false=>
     rw[hh] at h1;simp only[cond_false] at h1;rw[zDi _ _ _ hh yA] at yA;exact zAC S hb hd h1 yA
    | true =>
     rw[hh] at h1;simp only[cond_true,PM.run] at h1;have hc:=S.conf.take (s:=zBA s i) (g:=zAa) hvg (bi _);have S1:=S.turn (e':=e.set (zBA s i) .bad) hc (fun t ht=>by
      rw[zAg (by omega),Env.get_set];by_cases vP:t=zBA s i
      ·subst vP;rw[zAj,if_pos rfl]
      ·rw[zAg vP,if_neg vP];exact S.env t ht) (fun t ht=>zAg (by omega)) (fun d ps hd hp=>by
      rw[zAg (by simp only[zAa];omega),zAg (by simp only[zBA];omega)] at hp;exact⟨ps,hp,rfl⟩)
     have:=zGf S1 hd (g:=zAa) (bi _) (by rw[zAj,S.env _ hvg];exact h1) (fun t ht hI=>by rw[zAg hI,zAg (by omega)];exact hb t ht);rwa[zAj] at this
  ·cases h
end
end Go.Eng
namespace Go.Eng
open Go
mutual
theorem zDS{f:PV->PV}:∀ p:PV,(∀ a,a.isWay=true->(∀ x∈a.ways,x∈p.ways)->(∀ xs k,a ≠ .log xs k)->f a=a)->(∀ xs k,f (.log xs k) = .log xs k)->p.mapW f=p
 |.agg cs,h,hl=>by rw[PV.mapW,zFc cs h hl]|.tup cs,h,hl=>by rw[PV.mapW,zFc cs h hl]|.func k a b,h,hl=>by rw[PV.mapW,zFc a (fun x hx hw hn=>h x hx (fun y hy=>bk.2 (.inl (hw y hy))) hn) hl,zFc b (fun x hx hw hn=>h x hx (fun y hy=>bk.2 (.inr (hw y hy))) hn) hl]
 |.ref q,h,hl=>by rw[PV.mapW,zDS q h hl]|.box q,h,hl=>by rw[PV.mapW,zDS q h hl]|.lock q,h,hl=>by rw[PV.mapW,zDS q h hl]|.addr ..,h,_=>h _ rfl (fun _ h=>h) (fun _ _=>by simp)
 |.bor ..,h,_=>h _ rfl (fun _ h=>h) (fun _ _=>by simp)
 |.bsl ..,h,_=>h _ rfl (fun _ h=>h) (fun _ _=>by simp)
 |.bmap ..,h,_=>h _ rfl (fun _ h=>h) (fun _ _=>by simp)
 |.yld ..,_,_=>rfl|.log ..,_,hl=>hl _ _|.bad,_,_=>rfl|.und,_,_=>rfl|.int ..,_,_=>rfl|.bool ..,_,_=>rfl|.nilp,_,_=>rfl|.nilf,_,_=>rfl|.nilm,_,_=>rfl|.nn,_,_=>rfl|.nils _,_,_=>rfl|.sl _,_,_=>rfl|.own ..,_,_=>rfl|.map _,_,_=>rfl|.omap _,_,_=>rfl
theorem zFc{f:PV->PV}:∀ ps:List PV,(∀ a,a.isWay=true->(∀ x∈a.ways,x∈zBq ps)->(∀ xs k,a ≠ .log xs k)->f a=a)->(∀ xs k,f (.log xs k) = .log xs k)->zCR f ps=ps
 |[],_,_=>rfl|p::ps,h,hl=>by
  rw[zCR,zDS p (fun x hx hw hn=>h x hx (fun y hy=>bk.2 (.inl (hw y hy))) hn) hl,zFc ps (fun x hx hw hn=>h x hx (fun y hy=>bk.2 (.inr (hw y hy))) hn) hl]
end
theorem zMX{p:PV}{x:Nat×zA2}:∀ {ps:List PV},p∈ps->x∈p.ways->x∈zBq ps
 |y::ys,h,hx=>by
  simp only[zBq,bk];rcases bD.1 h with rfl|hm
  ·exact .inl hx
  ·exact .inr (zMX hm hx)
theorem zTc{r:Nat}{p:PV}(h:∀ x∈p.ways,x.1≠r):p.mapW (lose r [])=p:=by
 refine zDS p (fun a ha hw hn=>?_) (fun _ _=>rfl);have key:∀ r',(∀ x∈a.ways,x.1=r')->a.ways≠[]->beq r' r=false:=by
  intro r' h1 h2
  cases hb:beq r' r with
  |false=>rfl
  | true =>
   have hr:=bd hb
   cases hy:a.ways with
   |nil=>exact absurd hy h2|cons z zs=>
    have hz:z∈a.ways:=by rw[hy];simp
    exact absurd ((h1 z hz).trans hr) (h z (hw z hz))
 cases a<;>first|(cases ha;done)|(exact absurd rfl (hn _ _))|skip
 all_goals
  simp only[lose];rw[key _ (by simp[PV.ways];done) (by simp[PV.ways])];rfl
section
variable {P:Program} {w0 w:World} {U Φ0 Φ:Nat->Prop} {nt:Nat} {hv:Hid} {a:Act} {e e':Env} {rv:Nat->Value} {E:Nat->PV} {L:Nat->LN} {o:zAO}
theorem zSm(S:St w0 U Φ0 nt hv a w e Φ rv E L)(hb:zBv E){d:ON}(hd:∀ x,d=some x->x<nt){tk:Bool}{t:TypeId}{x:Operand}(hx:zAW nt x=true)(h:(zQA P tk d t x).run o e=some e') :
  ∃ v,(Instr.loadAt t (a.eval x)).run P w = .ok v w/\Fr w0 U Φ0 nt hv (a.put d v) w e':=by
 obtain⟨sh,jm,h1⟩:=zBM h;obtain⟨p,h2,hp⟩:=zBz S hx h1
 cases tk with
 |false=>exact zPz S hb hd jm hp h2|true=>
  simp only[cond_true] at h2;split at h2
  ·rename_i r pre i c s';obtain⟨b,u,q,yN,h3,h4,h5⟩:=zME S jm hp h2;have S1:=S.hold (bi zAa) h5;obtain⟨e1,rv1,E1,h6,W⟩:=zP0 S1 (g:=zAa) (bi _) (by rw[zAj];exact h4);obtain⟨Φ1,L1,S2⟩:=W.st;have:=zGf S2 hd (g:=zAa) (bi _) h6 (fun s hs hI=>by rw[(W.rest s hs hI).1,zAg hI];exact hb s hs);rw[W.val,zAj] at this;refine⟨u,?_,this⟩;rw[yN];simp only[Instr.loadAt,Instr.sureAddr,bo,bA,bh];exact h3
  ·exact zPz S hb hd jm hp h2
theorem St.layPart(S:St w0 U Φ0 nt hv a w e Φ rv E L){d i g:Nat}(hd:d<nt)(hi:i<16)(hg:zAa<=g)(hEd:∀ ps,E d ≠ .tup ps){k:PM}(h:(lay (zBA d i) (E g) k).run o e=some e') :
  ∃ e1 E1 L1,k.run o e1=some e'/\St w0 U Φ0 nt hv a w e1 Φ (upd rv (zBA d i) (rv g)) E1 L1/\(∀ ps,E1 d ≠ .tup ps)/\E1 g = .bad/\∀ s,zAa<=s->s≠g->(∀ x∈(E s).ways,x.1≠zBA d i)->E1 s=E s:=by
 have jl:=S.small;have yq:zBA d i<zAm:=by simp only[zBA,zAm];omega
 obtain⟨e1,E1,L1,h1,h2,h3,h4,h5,h6,h7⟩:=zWl S yq hg h;have gG:∀ d' ps,d'<2000000->E1 d' = .tup ps->∃ ps',E d' = .tup ps'/\ps'.length=ps.length:=by
  intro d' ps qE hp;have hI:d'≠zBA d i:=by simp only[zBA];omega
  rcases h4 d' hI (by simp only[zAa];omega) with h8|h8
  ·exact⟨ps,by rw[<- h8];exact hp,rfl⟩
  ·rw[h8] at hp;exact zEk (zIX _ _) hp
 refine⟨e1,E1,L1,h1,⟨h2,h3,S.size,S.small,fun t ht=>?_,fun d' ps j qE hp hj=>?_,fun s u8 jo=>?_,S.dfr⟩,fun ps hp=>?_,h6,fun s hs hI hw=>?_⟩
 ·rw[zAg (by simp only[zBA];omega)];exact S.tmps t ht
 ·obtain⟨ps',h8,h9⟩:=gG d' ps (by omega) hp;obtain⟨j5,vs,vg,h12⟩:=S.parts d' ps' j qE h8 (by omega);have qB:d'≠d:=fun hc=>hEd ps' (hc▸h8);refine⟨j5,vs,by rw[zAg (by simp only[zBA];omega)];exact vg,?_⟩;rw[zAg fun hc=>qB (zHU hc j5 hi).1];exact h12
 ·rw[zAg (by omega)];exact S.hid s u8 jo
 ·obtain⟨ps',h8,_⟩:=gG d ps (by omega) hp;exact hEd ps' h8
 ·rcases h7 s hs hI with h8|h8
  ·exact h8
  ·rw[h8];exact zTc hw
theorem St.empty(S:St w0 U Φ0 nt hv a w e Φ rv E L){d:Nat}(hd:d<nt):∃ L',St w0 U Φ0 nt hv a w (e.set d .bad) Φ rv (upd E d .bad) L':=by
 have jl:=S.small;have hc:=S.conf.drop fun s=>s==d;have hE:(fun s=>if (s==d)=true then bad else E s)=upd E d .bad:=by
  funext s;by_cases hs:s=d<;>simp[upd,hs]
 rw[hE] at hc;refine⟨_,S.turn hc (fun s hs=>?_) (fun _ _=>rfl) (fun d' ps qE hp=>?_)⟩
 ·rw[Env.get_set];by_cases gu:s=d
  ·subst gu;rw[zAj,if_pos rfl]
  ·rw[zAg gu,if_neg gu];exact S.env s hs
 ·by_cases qB:d'=d
  ·subst qB;rw[zAj] at hp;cases hp
  ·rw[zAg qB] at hp;exact⟨ps,hp,rfl⟩
theorem St.mark(S:St w0 U Φ0 nt hv a w e Φ rv E L)(hb:zBv E){d n:Nat}(hd:d<nt)(hn:n<=16){vs:Array Value}(hs:vs.size=n)(hp:∀ i,i<n->vs[i]? = some (rv (zBA d i))) :
  Fr w0 U Φ0 nt hv (a.put (some d) (.tuple vs)) w (e.set d (.tup (replicate n .bad))):=by
 have jl:=S.small;have yA:Rep w Φ (zA9 w rv E) (.tup (replicate n .bad)) (.tuple vs) []:=by
  refine⟨vs,rfl,?_⟩;have key:∀ (n:Nat) (us:List Value),us.length=n->zA5 w Φ (zA9 w rv E) (replicate n .bad) us []:=by
   intro n
   induction n with
   |zero=>intro us h;rw[br h];exact⟨rfl,rfl⟩|succ n ih=>
    intro us h
    match us,h with
    |u::us,h=>exact⟨u,us,[],[],rfl,rfl,rfl,ih us (by simpa using h)⟩
  exact key n vs.toList (by simpa using hs)
 have kw:(tup (replicate n .bad)).heavy=false:=by
  have key:∀ n,zDb (replicate n .bad)=false:=by
   intro n
   induction n with
   |zero=>rfl|succ n ih=>simp[fG,zDb,PV.heavy,ih]
  exact key n
 have hc:=S.conf.put (s:=d) kw yA;have hds:d<a.tmps.size:=by rw[S.size];exact hd
 refine⟨_,_,_,_,⟨hc,fun s hs=>?_,by simp only[Act.put,iA];exact S.size,S.small,fun t ht=>?_,fun d' ps j qE jy hj=>?_,fun s u8 jo=>?_,S.dfr⟩,fun g hg=>?_⟩
 ·rw[Env.get_set];by_cases gu:s=d
  ·subst gu;rw[zAj,if_pos rfl]
  ·rw[zAg gu,if_neg gu];exact S.env s hs
 ·rw[Act.put_tmps a hds];by_cases wX:t=d
  ·subst wX;simp[zAj]
  ·rw[if_neg wX,zAg wX];exact S.tmps t ht
 ·by_cases qB:d'=d
  ·subst qB;rw[zAj] at jy;simp only[PV.tup.injEq] at jy;rw[<- jy] at hj;simp only[f5] at hj;exact⟨by omega,vs,zAj,by rw[zAg (by simp only[zBA];omega)];exact hp j hj⟩
  ·rw[zAg qB] at jy;obtain⟨j5,us,vg,h12⟩:=S.parts d' ps j qE jy hj;exact⟨j5,us,by rw[zAg qB];exact vg,by rw[zAg (by simp only[zBA];omega)];exact h12⟩
 ·rw[zAg (by simp only[zAm] at u8;omega)];exact S.hid s u8 jo
 ·rw[zAg (by simp only[zAa] at hg;omega)];exact hb g hg
theorem zIy{s d:Nat}(hd:d<nt)(hs:s<nt){vs:Array Value}:∀ (n i:Nat) {e:Env} {rv:Nat->Value} {E:Nat->PV} {L:Nat->LN},St w0 U Φ0 nt hv a w e Φ rv E L->zBv E->(∀ ps,E d ≠ .tup ps)->i+n<=16->vs.size=i+n ->
  (∀ j,j<i->vs[j]? = some (rv (zBA d j)))->(∀ j,i<=j->j<i+n->vs[j]? = some (rv (zBA s j)))->(zGl s d i n).run o e=some e'->Fr w0 U Φ0 nt hv (a.put (some d) (.tuple vs)) w e'
 |0,i,e,rv,E,L,S,hb,hE,vm,yJ,h1,h2,h=>by
  simp only[zGl,PM.run,ba] at h;subst h;exact S.mark hb hd (by omega) (by simpa using yJ) h1
 | n + 1,i,e,rv,E,L,S,hb,hE,vm,yJ,h1,h2,h=>by
  have jl:=S.small;have hvg:zBA s i<zAa:=by simp only[zBA,zAa];omega
  simp only[zGl,PM.run] at h;split at h
  ·cases h
  ·have hc:=S.conf.take (s:=zBA s i) (g:=zAa) hvg (bi _);have S1:=S.turn (e':=e.set (zBA s i) .bad) hc (fun t ht=>by
    rw[zAg (by omega),Env.get_set];by_cases vP:t=zBA s i
    ·subst vP;rw[zAj,if_pos rfl]
    ·rw[zAg vP,if_neg vP];exact S.env t ht) (fun t ht=>zAg (by omega)) (fun d ps hd hp=>by
    rw[zAg (by simp only[zAa];omega),zAg (by simp only[zBA];omega)] at hp;exact⟨ps,hp,rfl⟩)
   obtain⟨e2,E2,L2,k1,S2,k2,k3,k4⟩:=S1.layPart (i:=i) (g:=zAa) hd (by omega) (bi _) (fun ps hp=>by
    rw[zAg (by simp only[zAa];omega),zAg (by simp only[zBA];omega)] at hp;exact hE ps hp) (by rw[zAj,S.env _ hvg];exact h)
   have jU:∀ t,t<zAa->upd (upd rv zAa (rv (zBA s i))) (zBA d i) (upd rv zAa (rv (zBA s i)) zAa) t=if t=zBA d i then rv (zBA s i) else rv t:=by
    intro t ht;by_cases wX:t=zBA d i
    ·subst wX;rw[zAj,zAj,if_pos rfl]
    ·rw[zAg wX,zAg (by omega),if_neg wX]
   have yI:∀ x j,x<nt->j<16->zBA x j<zAa:=by intro x j hx hj;simp only[zBA,zAa];omega
   refine zIy hd hs n (i+1) S2 (fun t ht=>?_) k2 (by omega) (by omega) (fun j hj=>?_) (fun j hj1 hj2=>?_) k1
   ·by_cases yu:t=zAa
    ·subst yu;exact k3
    ·rw[k4 t ht yu (by rw[zAg yu,zAg (by omega),hb t ht];simp[PV.ways]),zAg yu,zAg (by omega)];exact hb t ht
   ·rw[jU _ (yI d j hd (by omega))];by_cases vQ:j=i
    ·subst vQ;rw[if_pos rfl];exact h2 j (by omega) (by omega)
    ·rw[if_neg fun hc=>vQ (zHU hc (by omega) (by omega)).2];exact h1 j (by omega)
   ·rw[jU _ (yI s j hs (by omega)),if_neg fun hc=>by have:=(zHU hc (by omega) (by omega)).2;omega];exact h2 j (by omega) (by omega)
theorem zW8(S:St w0 U Φ0 nt hv a w e Φ rv E L)(hb:zBv E){d:ON}(hd:∀ x,d=some x->x<nt){t:TypeId}{x:Operand}(hx:zAW nt x=true)(h:(zTQ P d t x).run o e=some e'):Fr w0 U Φ0 nt hv (a.put d (a.eval x)) w e':=by
 have gen:(opd x (put d)).run o e=some e'->Fr w0 U Φ0 nt hv (a.put d (a.eval x)) w e':=by
  intro h;obtain⟨p,h1,h2⟩:=zBz S hx h;exact zAC S hb hd h1 h2
 simp only[zTQ] at h;split at h
 ·simp only[zVU] at h;split at h
  ·exact zAC S hb hd h (.inl ⟨rfl,rfl,rfl⟩)
  ·cases h
 ·rename_i s;have hs:s<nt:=zCb hx;have jl:=S.small;have yp:(s:Nat)<zAa:=bL hs (bN S.small (by decide));simp only[zN5] at h;split at h
  ·rename_i ts d' _;simp only[PM.run] at h;split at h
   ·cases h
   ·split at h
    ·rename_i ps yj;obtain⟨⟨hZ,vm⟩,h1⟩:=zDr h;simp only[PM.run] at h1;have hE:E s = .tup ps:=by rw[S.env s yp,yj]
     have yA:=S.conf.rep s;rw[hE] at yA;obtain⟨vs,uc,hr⟩:=yA;have kU:vs.size=ps.length:=by have:=hr.length;simpa using this
     have yX:a.eval (.tmp s) = .tuple vs:=by rw[<- uc];exact S.tmps s hs
     obtain⟨L',S1⟩:=S.empty (hd d' rfl);rw[yX];refine zIy (vs:=vs) (hd d' rfl) hs ts.size 0 S1 (fun g hg=>?_) (fun ps hp=>by rw[zAj] at hp;cases hp) (by omega) (by omega) (fun j hj=>by omega) (fun j _ hj=>?_) h1
     ·rw[zAg (by have:=hd d' rfl;simp only[zAa] at hg;omega)];exact hb g hg
     ·obtain⟨_,us,g1,g2⟩:=S.parts s ps j hs hE (by omega);rw[uc] at g1;cases g1;exact g2
    ·cases h
  ·exact gen h
 ·exact gen h
theorem zFF{d:Nat}(hd:d<nt){vs:Array Value}:∀ (ps:List PV) (i:Nat) {e:Env} {rv:Nat->Value} {E:Nat->PV} {L:Nat->LN},St w0 U Φ0 nt hv a w e Φ rv E L->(∀ ps,E d ≠ .tup ps)->i+ps.length<=16->vs.size=i+ps.length ->
  (∀ j p,ps[j]? = some p->E (zAa+i+j)=p/\vs[i+j]? = some (rv (zAa+i+j)))->(∀ g,zAa<=g->(∀ j,j<ps.length->g≠zAa+i+j)->E g = .bad)->(∀ x∈zBq ps,zKB d x.1=false) ->
  (∀ j,j<i->vs[j]? = some (rv (zBA d j)))->(zFs d i ps .ok).run o e=some e'->Fr w0 U Φ0 nt hv (a.put (some d) (.tuple vs)) w e'
 |[],i,e,rv,E,L,S,hE,vm,yJ,hp,hb,hw,h1,h=>by
  simp only[zFs,PM.run,ba] at h;subst h;exact S.mark (fun g hg=>hb g hg (by simp)) hd (by simpa using vm) (by simpa using yJ) h1
 | p :: ps,i,e,rv,E,L,S,hE,vm,yJ,hp,hb,hw,h1,h=>by
  have jl:=S.small;simp only[bE] at vm yJ;obtain⟨q1,q2⟩:=hp 0 p rfl;simp only[bR] at q1 q2;simp only[zFs] at h;rw[<- q1] at h;obtain⟨e2,E2,L2,k1,S2,k2,k3,k4⟩:=S.layPart (i:=i) (g:=zAa+i) hd (by omega) (by omega) hE h;have hvd:zBA d i<zAa:=by simp only[zBA,zAa];omega
  have hinp:∀ j,j<16->zKB d (zBA d j)=true:=by
   intro j hj;simp only[zKB,bb];exact⟨cU (by simp only[zBA];omega),cU (by simp only[zBA];omega)⟩
  have hkeep:∀ j p',ps[j]? = some p'->E2 (zAa+(i+1)+j)=p':=by
   intro j p' hj;obtain⟨q3,_⟩:=hp (j+1) p' (by simpa using hj);have e1:zAa+i+(j+1)=zAa+(i+1)+j:=by omega
   rw[e1] at q3;rw[k4 _ (by omega) (by omega) (fun x hx hc=>?_),q3];rw[q3] at hx;have:=hw x (by
    simp only[zBq,bk];exact .inr (zMX (bK hj) hx))
   rw[hc,hinp i (by omega)] at this;cases this
  refine zFF hd ps (i+1) S2 k2 (by omega) (by omega) (fun j p' hj=>⟨hkeep j p' hj,?_⟩) (fun g hg hI=>?_) (fun x hx=>hw x (by simp[zBq,hx])) (fun j hj=>?_) k1
  ·obtain⟨_,q4⟩:=hp (j+1) p' (by simpa using hj);have e1:zAa+i+(j+1)=zAa+(i+1)+j:=by omega
   have e2:i+(j+1)=i+1+j:=by omega
   rw[e1,e2] at q4;rw[zAg (by omega)];exact q4
  ·by_cases js:g=zAa+i
   ·subst js;exact k3
   ·have vl:E g = .bad:=hb g hg fun j hj hc=>by
     cases j with
     |zero=>exact js (by simpa using hc)|succ j=>exact hI j (by simpa using hj) (by omega)
    rw[k4 g hg js (by rw[vl];simp[PV.ways]),vl]
  ·by_cases vQ:j=i
   ·subst vQ;rw[zAj];exact q2
   ·rw[zAg fun hc=>vQ (zHU hc (by omega) (by omega)).2];exact h1 j (by omega)
end
end Go.Eng
namespace Go.Eng
open Go
section
variable {P:Program} {w0 w:World} {U Φ0 Φ:Nat->Prop} {nt:Nat} {hv:Hid} {a:Act} {e e':Env} {rv:Nat->Value} {E:Nat->PV} {L:Nat->LN} {o:zAO} {A:Al}
theorem zPS{r:Nat}{pre:zA2}{z lo n i:Nat}{sh:ON}{v:Value}(hp:Rep w Φ (zA9 w rv E) (.bor r pre z lo n) v [])(yI:i<n) :
  ∃ b cap,v = .slice (some b) n cap/\b.spot=none/\Rep w Φ (zA9 w rv E) (.addr r pre (lo+i) 0 sh) (.pointer (some (b.add (i*z)))) []:=by
 obtain⟨_,hg,⟨x,cap,rfl,yZ,y9,yi⟩,hn⟩:=hp
 cases x with
 |none=>have:=y9 rfl;omega
 | some b =>
  refine⟨b,cap,rfl,yi b rfl,rfl,hg,b.add (i*z),rfl,by rw[zB4 (yi b rfl)];rfl,fun nv np hf a' ha=>?_⟩;have hh:np.heavy0=true:=by cases np<;>first|rfl|(simp[zBc] at ha;done)
  obtain⟨sz,xs,h3,h4,h5⟩:=hn nv np hf hh;subst h3;subst h4;cases nv<;>simp only[zBZ] at h5;rename_i y l c
  cases y with
  |none=>cases ha|some y=>
   simp only[zBZ,du,ba] at h5;simp only[zBc,ba] at ha;rw[<- ha,zB4 (yi b rfl),h5.1.1];simp[zAw,cQ,cg]
theorem zJQ{p:PV}(h:p.plain=true):∀ q∈p.cells,q.oneCell=true:=by
 have h0:∀ p:PV,p.plain0=true->p.oneCell=true:=by intro p h;cases p<;>first|rfl|cases h
 cases p<;>first|(intro q hq;simp only[PV.cells,bw] at hq;subst hq;exact h0 _ h)|skip
 rename_i cs;intro q hq;simp only[PV.plain,bj] at h;exact h0 q (h q hq)
theorem zLX{row:Array Value}{o:Nat}{xs ys:List Value}(h:o+xs.length+ys.length<=row.size):zBk (zBk row o xs) (o+xs.length) ys=zBk row o (xs++ys):=by
 apply ia;simp only[zBk,bt];rw[dz (by simp;omega),bp (by simp;omega)];have:drop (o+xs.length+ys.length) (take o row.toList++xs++drop (o+xs.length) row.toList)=drop (o+(xs.length+ys.length)) row.toList:=by
  rw[fW,fP (by simp;omega)];simp;congr 1;omega
 rw[this];simp
theorem zMi{p:PV}(h:p.plain=true):p.heavy=false/\p.ways=[]:=by
 have h0:∀ p:PV,p.plain0=true->p.heavy=false/\p.ways=[]:=by
  intro p h;cases p<;>first|(cases h;done)|exact⟨rfl,rfl⟩|skip
  simp only[PV.plain0] at h;exact⟨rfl,by simpa[PV.ways] using h⟩
 cases p<;>first|exact h0 _ h|skip
 rename_i cs;simp only[PV.plain] at h;have key:∀ cs:List PV,cs.all PV.plain0=true->zDb cs=false/\zBq cs=[]:=by
  intro cs
  induction cs with
  |nil=>intro _;exact⟨rfl,rfl⟩|cons c cs ih=>
   intro h;simp only[cO,bb] at h;obtain⟨h1,h2⟩:=h0 c h.1;obtain⟨h3,h4⟩:=ih h.2;exact⟨by simp[zDb,h1,h3],by simp[zBq,h2,h4]⟩
 exact key cs h
theorem zMA{r:Nat}{pre:zA2}{z lo n:Nat}{v:Value}{k:PM}(hz:0<z):∀ (ys:List PV) (us:List Value) (j:Nat) {w:World} {e:Env} {rv:Nat->Value} {E:Nat->PV} {L:Nat->LN},St w0 U Φ0 nt hv a w e Φ rv E L->E (zAa+2) = .bor r pre z lo n->rv (zAa+2)=v->(∀ s,zAa<=s->s≠zAa+2->E s = .bad) ->
  (∀ y∈ys,y.plain=true/\y.cells.length=z)->(us.map zCr=ys.map PV.isAgg)->zA5 w Φ zCm ys us []->j+ys.length<=n->(zGN r pre (lo+j) ys k).run o e=some e' ->
  ∃ w1 e1 rv1 E1 L1,k.run o e1=some e'/\St w0 U Φ0 nt hv a w1 e1 Φ rv1 E1 L1/\(∀ s,zAa<=s->s≠zAa+2->E1 s = .bad)/\(E1 (zAa+2) = .bor r pre z lo n/\rv1 (zAa+2)=v) /\
   (ys=[]/\w1=w\/∃ b cap row,v = .slice (some b) n cap/\b.spot=none/\zEY w b.block row/\b.off+j*z+(flat us).length<=row.size/\(∀ u∈flat us,u.oneCell'=true)/\w1=w.setRow b.block (zBk row (b.off+j*z) (flat us)))
 |[],us,j,w,e,rv,E,L,S,hE,jU,hb,hy,jp,hr,hl,h=>⟨w,e,rv,E,L,h,S,hb,⟨hE,jU⟩,.inl ⟨rfl,rfl⟩⟩
 | y :: ys,us,j,w,e,rv,E,L,S,hE,jU,hb,hy,jp,hr,hl,h=>by
  obtain⟨u,us',L1,L2,rfl,hL,uJ,j3⟩:=hr;have wT:=dF.1 hL.symm;obtain⟨rfl,rfl⟩:=wT;simp only[bO,fg] at jp;simp only[zGN] at h;obtain⟨ud,hyz⟩:=hy y (by simp);obtain⟨kw,yy⟩:=zMi ud;have qc:=S.conf.rep (zAa+2);rw[hE,jU] at qc;have ub:L (zAa+2)=[]:=qc.1;rw[ub] at qc;obtain⟨b,cap,hv,ye,uN⟩:=zPS (sh:=none) qc (i:=j) (by simp at hl;omega);have S1:=S.hold (g:=zAa) (bi _) (p:=y) (v:=u) (uJ.mono zDt.refl (fun _ _ _ h=>h.elim) (by simp));have gH:=S1.conf.rep (zAa+2);rw[zAg (show zAa+2≠zAa by omega),zAg (show zAa+2≠zAa by omega),zAg (show zAa+2≠zAa by omega),hE,jU,ub] at gH;obtain⟨b0,cap0,vR,_,w7⟩:=zPS (sh:=none) gH (i:=j) (by simp at hl;omega);rw[hv] at vR;simp only[du,ba] at vR;rw[<- vR.1] at w7;obtain⟨b',row,e1,E1,L1,yN,hsp',yG,yH,yT,h1,S2,kA,wF,hg3,jY⟩:=S1.write (g:=zAa) (bi _) w7 (.inl (by rw[zAj];exact kw)) (by rw[zAj];exact zJQ ud) (by rw[zAj,hyz];omega) (by rw[zAj,zAj];exact jp.1) (k:=zGN r pre (lo+(j+1)) ys k) (by rw[zAj];exact h);cases yN;have hub:u.cells.size=z:=by
   have h1:us'.length=ys.length:=j3.length;have:=((uJ.mono (A':=zCm) zDt.refl (fun _ _ _ h=>h) (by simp)).cellsAll jp.1).length;simpa[hyz] using this
  have jR:b.add (j*z)=⟨b.block,b.off+j*z,none⟩:=by rw[zB4 ye];rfl
  rw[jR] at yG yH jY S2;rw[zAj] at yH yT S2;simp only at yG yH jY S2;have hnΦ:¬ Φ b.block:=(S1.conf.own _ _ jY).2.1;have wZ:E1 (zAa+2) = .bor r pre z lo n:=by
   rw[hg3 _ (by omega) (by omega),zAg (show zAa+2≠zAa by omega),zAj,hE];show zDZ _ _ _ _ _ _=_
   exact zJ1 (zK6) kw _
  obtain⟨w1,e2,rv2,E2,L2,k1,k2,k3,k3',k4⟩:=zMA hz ys us' (j+1) S2 wZ (by rw[zAg (show zAa+2≠zAa by omega),jU]) (fun s hs hI=>by
   by_cases yp:s=zAa
   ·subst yp;exact kA
   ·exact wF s hs yp (by rw[zAg yp];exact hb s hs hI)) (fun y u7=>hy y (by simp[u7])) jp.2 (j3.mono (fun b' yN=>⟨yN,setRow_other w _ _ _ (fun hc:b'=b.block=>hnΦ (hc▸yN))⟩) (fun _ _ _ h=>h) (by simp)) (by simp at hl;omega) h1
  refine⟨w1,e2,rv2,E2,L2,k1,k2,k3,k3',.inr ⟨b,cap,row,hv,ye,yG,?_⟩⟩;have ua:flat (u::us')=u.cells.toList++flat us':=by simp[flat]
  have qZ:u.cells.toList.length=z:=by simpa using hub
  rcases k4 with⟨rfl,rfl⟩|⟨b2,cap2,row2,kh,_,hrow2,ur,hone2,rfl⟩
  ·have:us'=[]:=br (by have:=j3.length;simpa using this);subst this;rw[ua];simp only[flat,List.flatMap_nil,dO];refine⟨by rw[qZ];omega,yT,?_⟩;first|rfl|trivial
  ·rw[hv] at kh;simp only[du,ba] at kh;obtain⟨rfl,_⟩:=kh;have j8:zEY (w.setRow b.block (zBk row (b.off+j*z) u.cells.toList)) b.block (zBk row (b.off+j*z) u.cells.toList):=by
    obtain⟨el,jH⟩:=yG;exact⟨el,setRow_heap w _ _ _ el _ jH⟩
   have:row2=zBk row (b.off+j*z) u.cells.toList:=by
    obtain⟨e1,h1⟩:=j8;obtain⟨e2,h2⟩:=hrow2;rw[h1] at h2;cases h2;rfl
   subst this;rw[zG0 (by rw[qZ];omega)] at ur;have gv:b.off+(j+1)*z=b.off+j*z+u.cells.toList.length:=by rw[qZ,cQ];omega
   rw[gv] at ur ⊢;refine⟨by rw[ua,bt];omega,fun x hx=>?_,?_⟩
   ·rw[ua] at hx;rcases bk.1 hx with h|h
    ·exact yT x h
    ·exact hone2 x h
   ·rw[setRow_setRow,zLX ur,ua]
end
end Go.Eng
namespace Go.Eng
open Go
section
variable {P:Program} {w:World}
theorem zEz{t t2 ty el e2:TypeId}{i:TypeInfo}(ht:P.underlying t=some (.slice el))(uO:P.underlying t2=some (.slice e2))(hi:P.info? el=some i){a xb:Option Addr}{sLen sCap n xc:Nat}{news:List Value}
  (vS:(Builtin.firstCells i.size n (.slice xb n xc)).run P w = .ok news.toArray w) (yH:sLen+n<=sCap) (w':World) (yD:∀ b,a=some b->(storeCells (b.add (sLen*i.size)) news).run P w = .ok () w') (jT:a=none->w'=w) :
  (Builtin.append_ #[t,t2] ty #[.slice a sLen sCap,.slice xb n xc]).run P w = .ok (.slice a (sLen+n) sCap) w':=by
 cases a with
 |none=>
  rw[jT rfl];simp[Builtin.append_,run_underlying ht,run_underlying uO,sizeOf,typeInfo,hi,Builtin.lenOf,yH,vS]
 |some b=>
  have:=yD b rfl;simp[Builtin.append_,run_underlying ht,run_underlying uO,sizeOf,typeInfo,hi,Builtin.lenOf,yH,vS,this]
theorem zF1{t t2 ty el e2:TypeId}{i:TypeInfo}{z:Value}(ht:P.underlying t=some (.slice el))(uO:P.underlying t2=some (.slice e2))(hi:P.info? el=some i)(hz:i.zero=some z){a xb:Option Addr}{sLen sCap n xc:Nat}{old news:List Value}
  (hold:(Builtin.firstCells i.size sLen (.slice a sLen sCap)).run P w.drew = .ok old.toArray w.drew) (vS:(Builtin.firstCells i.size n (.slice xb n xc)).run P w.drew = .ok news.toArray w.drew)
  (yH:¬ sLen+n<=sCap) (h32:sLen+n<=4294967296) (qd:i.bytes<=16384) :
  (Builtin.append_ #[t,t2] ty #[.slice a sLen sCap,.slice xb n xc]).run P w =
   .ok (.slice (some ⟨w.heap.size,0,none⟩) (sLen+n) (grownCap w (sLen+n) sCap el)) (w.drew.alloc (.cells (old.toArray++news.toArray++Builtin.zeroCells z.cells (grownCap w (sLen+n) sCap el-(sLen+n))) el)):=by
 have hgr':¬ (281474976710656<Builtin.nextslicecap (sLen+n) sCap*i.bytes):=by
  have h1:(sLen+n)*i.bytes<=4294967296*16384:=fo h32 qd;have:=growslice_fits (need:=sLen+n) (old:=sCap) (bytes:=i.bytes) (by omega) (by omega);omega
 have h63':¬ (9223372036854775807<((sLen:Int)+(n:Int))):=by omega
 simp[Builtin.append_,run_underlying ht,run_underlying uO,sizeOf,typeInfo,zeroValue,hi,hz,Builtin.lenOf,yH,h63',hgr',Question.forced,hold,vS,newRow,grownCap];congr 2;apply ia;simp[cK]
end
section
variable {P:Program} {w0 w:World} {U Φ0 Φ:Nat->Prop} {nt:Nat} {hv:Hid} {a:Act} {e e':Env} {rv:Nat->Value} {E:Nat->PV} {L:Nat->LN} {o:zAO}
structure Listed (w:World) (Φ:Nat->Prop) (v:Value) (ys:List PV) (us:List Value) (Ly:LN):Prop where
 val:∃ xb xc,v = .slice xb ys.length xc/\∀ sz,(∀ y∈ys,y.cells.length=sz)->∀ (P:Program) (w1:World),(∀ t,w1.cell? t=w.cell? t)->(Builtin.firstCells sz ys.length v).run P w1 = .ok (flat us).toArray w1
 reps:zA5 w Φ zCm ys us Ly
 size:∀ sz,(∀ y∈ys,y.cells.length=sz)->∀ u∈us,u.cells.size=sz
 agg:us.map zCr=ys.map PV.isAgg
theorem zI5{b:Addr}{n xc sz:Nat}{us:List Value}(ye:b.spot=none){row:Array Value}(yG:zKH w b.block row)(hl:us.length=n)(yJ:∀ u∈us,u.cells.size=sz)(h:seg row b.off (n*sz)=flat us)(P:Program)(w1:World)(hw:∀ t,w1.cell? t=w.cell? t) :
  (Builtin.firstCells sz n (.slice (some b) n xc)).run P w1 = .ok (flat us).toArray w1:=by
 refine run_firstCells_some w1 sz n b n xc (flat us) (by rw[zBw yJ,hl]) fun j v hj=>?_;rw[hw];exact zII ye yG (by rw[zBw yJ,hl];exact h) j v hj
theorem zE4{v:Value}{xb:Option Addr}{xc:Nat}(hv:v = .slice xb 0 xc):Listed w Φ v [] [] []:=by
 refine⟨⟨xb,xc,hv,fun sz _ P w1 _=>?_⟩,⟨rfl,rfl⟩,by simp,rfl⟩;subst hv
 cases xb with
 |none=>exact run_firstCells_none w1 sz 0 0 xc|some b=>exact run_firstCells_some w1 sz 0 b 0 xc [] (by simp) (by simp)
theorem zGo{A:Al}:∀ {ys:List PV} {us:List Value} {Ly:LN},(∀ y∈ys,y.plain=true)->zA5 w Φ A ys us Ly->Ly=[]
 |[],_,_,_,h=>h.2|y::ys,us,Ly,hp,h=>by
  obtain⟨v,vs,L1,L2,rfl,rfl,h1,h2⟩:=h;rw[zDi _ _ _ (zMi (hp y (by simp))).1 h1,zGo (fun z hz=>hp z (by simp[hz])) h2];rfl
theorem zRt{c:Array Value}{o m n:Nat}(h:m<=n):seg c o m=(seg c o n).take m:=by
 simp only[seg,im];rw[f9 h]
theorem zNJ (S:St w0 U Φ0 nt hv a w e Φ rv E L) {p:PV} {v:Value} (hp:Rep w Φ (zA9 w rv E) p v []) {k:List PV->PM} (h:(zHI p k).run o e=some e'):∃ ys us Ly,(k ys).run o e=some e'/\Listed w Φ v ys us Ly:=by
  cases p<;>simp only[zHI] at h<;>try (cases h;done)
  case nils=>exact⟨[],[],[],h,zE4 hp.1⟩
  case nn=>
    obtain⟨_,b,n,yL⟩:=hp;exact⟨[],[],[],h,zE4 yL⟩
  case sl xs =>
    obtain⟨_,⟨rfl,b,n,yL,_⟩|⟨b,n,c,us,sz,yL,ye,yR,hΦ,yG,jb,⟨kR,wE⟩,jO,hr⟩⟩:=hp
    · exact⟨[],[],[],h,zE4 yL⟩
    · have hl:us.length=xs.length:=by have:=congrArg length wE;simpa using this
      refine⟨xs,us,[],h,⟨some b,n,yL,fun sz' j0 P w1 hw=>?_⟩,hr,fun sz' j0 u hu=>?_,wE⟩
      · by_cases hx:xs=[]
        · subst hx;have:us=[]:=br (by simpa using hl);subst this;subst yL;exact run_firstCells_some w1 sz' 0 b 0 n [] (by simp) (by simp)
        · obtain⟨y,ys,rfl⟩:=List.exists_cons_of_ne_nil hx;have:sz'=sz:=by rw[<- j0 y (by simp),jb y (by simp)]
          subst this;subst yL;exact zI5 ye yG hl kR jO P w1 hw
      · cases xs with
        | nil => have h0:us=[]:=br (by simpa using hl)
                 rw[h0] at hu;cases hu
        |cons y ys=>rw[kR u hu,<- j0 y (by simp),jb y (by simp)]
  case bor r pre z lo n=>
    obtain⟨_,hr,_,hn⟩:=hp;obtain⟨q,hq,h1⟩:=zBR h;split at h1
    · rename_i sz xs;obtain⟨yR,h2⟩:=zAS h1;have yR:=bu yR;rw[<- S.env r hr] at hq;obtain⟨nv,Li,hf,_,yA⟩:=zBT (zB9 (S.conf.rep r)) hq;obtain⟨sz2,xs2,g1,g2,g3⟩:=hn nv _ hf rfl;cases g1;subst g2;obtain⟨q1,q2,q3⟩|⟨x,m,c,us,M,q0,q1,q2,q3,q4,q5,q6,⟨q7,q7'⟩,q8,q9⟩:=yA
      · subst q1;subst q3;have kj:n=0:=by simp at yR;omega
        subst kj;simp only[zBZ] at g3;refine⟨_,[],[],h2,?_⟩;simp only[List.drop_nil,List.take_nil];exact zE4 g3.1
      · subst q1;simp only [zBZ] at g3;obtain ⟨yL,yZ⟩:=g3;have jG:us.length=xs.length:=by have:=congrArg length q7';simpa using this
        obtain⟨Ly,_,qU⟩:=zGZ q9 lo n;have hZ:((xs.drop lo).take n).length=n:=by simp;omega
        have gI:((us.drop lo).take n).length=n:=by simp;omega
        refine⟨_,(us.drop lo).take n,Ly,h2,⟨_,_,by rw[hZ];exact yL,fun sz' j0 P w1 hw=>?_⟩,qU,fun sz' j0 u hu=>?_,zA5.map_isAgg q7' lo n⟩
        · rw[hZ,yL];by_cases kj:n=0
          · subst kj;simp only[List.take_zero];exact run_firstCells_some w1 sz' 0 _ 0 _ [] (by simp) (by simp)
          · have:sz'=z:=by
              cases jb:(xs.drop lo).take n with
              |nil=>rw[jb] at hZ;simp at hZ;omega
              | cons y ys =>
                have hy:y∈(xs.drop lo).take n:=by rw[jb];simp
                rw[<- j0 y hy,q6 y (cy (cL hy))]
            subst this;exact zI5 (b:=zAw x (lo*sz')) rfl q4.any gI (fun u hu=>q7 u (cy (cL hu))) (zIU q7 jG q8 yR) P w1 hw
        · cases jb:(xs.drop lo).take n with
          | nil =>
            rw[jb] at hZ;have h0:(us.drop lo).take n=[]:=br (by rw[gI];simpa using hZ.symm);rw[h0] at hu;cases hu
          | cons y ys =>
            have hy:y∈(xs.drop lo).take n:=by rw[jb];simp
            rw[q7 u (cy (cL hu)),<- j0 y hy,q6 y (cy (cL hy))]
    · cases h1
  case bsl r pre i c sz ag n=>
    obtain⟨_,hr,b,cap,yL,yZ,ye,hn⟩:=hp;simp only[PM.run] at h;split at h
    · rename_i g cs hq;rw[<- S.env r hr] at hq;obtain⟨nv,np,ad,us,h1,h2,h3,h4,h5,h6⟩:=S.conf.cells hr hq;have:=hn nv np h1 ad h2;subst this;obtain⟨hc,h7⟩:=zAS h;simp only[bb,zCs] at hc;obtain⟨⟨yO,vK⟩,ud⟩:=hc;have yO:=bd yO;have hw0:∀ (cs:List PV),cs.all (fun q=>q.plain0)=true->zBq cs=[]:=by
        intro cs
        induction cs with
        |nil=>intro _;rfl
        | cons c cs ih =>
          intro h;simp only[cO,bb] at h;have wH:c.ways=[]:=by
            have h0:=h.1;cases c<;>first|(cases h0;done)|rfl|skip
            simpa[PV.plain0,PV.ways] using h0
          simp[zBq,wH,ih h.2]
      have vT:zA5 w Φ zCm cs us []:=h6.ways _ _ _ fun a v hw hx ha=>by
        rw[hw0 cs ud] at hx;have h1:=zJJ hw ha
        cases vL:a.ways with
        |nil=>exact absurd vL h1|cons z zs=>have:=hx z (by rw[vL];simp);cases this
      obtain⟨us',q1,q2,q3,q4,q5⟩:=zGD (ag:=ag) (sz:=sz) (fun a v _ h=>h.elim) n cs us yO (fun jp=>by
        simp only[jp,co,bb] at vK;exact⟨bd vK.1,fun q hq=>bj.1 vK.2 q hq⟩) vT
      have hZ:=zEf ag sz n cs;refine⟨_,us',[],h7,⟨some b,cap,by rw[hZ];exact yL,fun sz' j0 P w1 hw=>?_⟩,q1,fun sz' j0 u hu=>?_,q4⟩
      · rw[hZ,yL,q2];by_cases kj:n=0
        · subst kj;have:us=[]:=br (by rw[h4];simp);subst this;exact run_firstCells_some w1 sz' 0 b 0 cap [] (by simp) (by simp)
        · have:sz'=sz:=by
            cases jb:zCt ag sz n cs with
            |nil=>rw[jb] at hZ;simp at hZ;omega
            | cons y ys =>
              have hy:y∈zCt ag sz n cs:=by rw[jb];simp
              rw[<- j0 y hy,q5 y hy]
          subst this;exact run_firstCells_some w1 sz' n b n cap us h4 (fun j v hj=>by rw[hw];exact h5 j v hj)
      · cases jb:zCt ag sz n cs with
        | nil =>
          have jG:us'.length=(zCt ag sz n cs).length:=q1.length;rw[jb] at jG;have h0:us'=[]:=br (by simpa using jG);rw[h0] at hu;cases hu
        | cons y ys =>
          have hy:y∈zCt ag sz n cs:=by rw[jb];simp
          rw[q3 u hu,<- j0 y hy,q5 y hy]
    · cases h
theorem zVz(S:St w0 U Φ0 nt hv a w e Φ rv E L){g:Nat}(hg:zAa<=g)(un:E g = .bad){x:Operand}(hx:zAW nt x=true){k:List PV->PM}(h:(zOv x k).run o e=some e') :
  ∃ e1 rv1 E1 L1 ys us Ly,(k ys).run o e1=some e'/\St w0 U Φ0 nt hv a w e1 Φ rv1 E1 L1/\zYw g rv rv1 E E1 L L1/\Listed w Φ (a.eval x) ys us Ly/\Ly.Nodup/\∀ b∈Ly,b∈L1 g:=by
 have hLg:L g=[]:=by have:=S.conf.rep g;rw[un] at this;exact this
 have copy:∀ {p:PV},Rep w Φ (zA9 w rv E) p (a.eval x) []->(zHI p fun xs=>if xs.all (fun x=>x.plain) then k xs else .fail).run o e=some e' ->
   ∃ e1 rv1 E1 L1 ys us Ly,(k ys).run o e1=some e'/\St w0 U Φ0 nt hv a w e1 Φ rv1 E1 L1/\zYw g rv rv1 E E1 L L1/\Listed w Φ (a.eval x) ys us Ly/\Ly.Nodup/\∀ b∈Ly,b∈L1 g:=by
  intro p hp h;obtain⟨ys,us,Ly,h1,h2⟩:=zNJ S hp h;obtain⟨h3,h4⟩:=zDr h1;have:Ly=[]:=zGo (fun y hy=>bj.1 h3 y hy) h2.reps;subst this;exact⟨e,rv,E,L,ys,us,[],h4,S,fun _ _ _=>⟨rfl,rfl,rfl⟩,h2,cj,by simp⟩
 cases x with
 |const v=>simp only[zOv] at h;obtain⟨p,h1,h2⟩:=zBz S hx h;exact copy h2 h1
 |func f=>simp only[zOv] at h;obtain⟨p,h1,h2⟩:=zBz S hx h;exact copy h2 h1
 |global f=>cases h
 | tmp t =>
  have ht:(t:Nat)<nt:=zCb hx;have yu:(t:Nat)<zAa:=bL ht (bN S.small (by decide));have yX:a.eval (.tmp t)=rv t:=S.tmps t ht;simp only[zOv,PM.run] at h;split at h
  ·cases h
  ·split at h
   ·rename_i sz xs uM;simp only[PM.run] at h;have hE:E t = .own sz xs:=by rw[S.env t yu,uM]
    have hc:=S.conf.take (s:=t) (g:=g) yu hg;have hgt:t≠g:=by intro hc;subst hc;exact absurd yu (Nat.not_lt.2 hg)
    have S1:=S.turn (e':=e.set t .bad) hc (fun s hs=>by
     rw[zAg (by omega),Env.get_set];by_cases yD:s=t
     ·subst yD;rw[zAj,if_pos rfl]
     ·rw[zAg yD,if_neg yD];exact S.env s hs) (fun s hs=>zAg (by omega)) (fun d ps hd hp=>by
     rw[zAg (by simp only[zAa] at hg;omega)] at hp;by_cases hdt:d=t
     ·subst hdt;rw[zAj] at hp;cases hp
     ·rw[zAg hdt] at hp;exact⟨ps,hp,rfl⟩)
    have yA:=S.conf.rep t;rw[hE] at yA;have yU:=S.conf.nodup t;have uP:zYw g rv (upd rv g (rv t)) E (upd (upd E t .bad) g (E t)) L (upd (upd L t []) g (L t)):=by
     intro s hs hI;have yD:s≠t:=by intro hc;subst hc;exact absurd yu (Nat.not_lt.2 hs)
     rw[zAg hI,zAg hI,zAg hI,zAg yD,zAg yD];exact⟨rfl,rfl,rfl⟩
    rw[yX];obtain⟨q1,q2,q3⟩|⟨x,m,c,us,M,q0,q1,q2,q3,q4,q5,q6,⟨q7,q7'⟩,q8,q9⟩:=yA
    ·subst q1;exact⟨_,_,_,_,[],[],[],h,S1,uP,zE4 q3,cj,by simp⟩
    ·have jG:us.length=xs.length:=by have:=congrArg length q7';simpa using this
     rw[q0] at yU;refine⟨_,_,_,_,xs,us,M,h,S1,uP,⟨⟨some x,m,q1,fun sz' j0 P w1 hw=>?_⟩,q9,fun sz' j0 u hu=>?_,q7'⟩,(cz.1 yU).2,fun b hb=>by rw[zAj,q0];simp[hb]⟩
     ·rw[q1]
      cases xs with
      |nil=>
       have h0:us=[]:=br (by simpa using jG);subst h0;exact run_firstCells_some w1 sz' 0 x 0 m [] (by simp) (by simp)
      |cons y ys=>
       have:sz'=sz:=by rw[<- j0 y (by simp),q6 y (by simp)]
       subst this;exact zI5 q2 q4.any jG q7 q8 P w1 hw
     ·cases xs with
      |nil=>
       have h0:us=[]:=br (by simpa using jG);rw[h0] at hu;cases hu
      |cons y ys=>rw[q7 u hu,<- j0 y (by simp),q6 y (by simp)]
   ·simp only[PM.run] at h;have hv:=S.conf.view yu;rw[S.env t yu] at hv;exact copy (by rw[yX];exact hv) h
theorem zTk{A:Al}{w':World}{z:Value}{sz len m cap:Nat}{xs ys:List PV}{us uys:List Value}{M Ly:LN}(hz:z.cells.size=sz)(hZ:us.length=len)(hm:uys.length=m)(vi:xs.length=len)(kb:ys.length=m)
  (jb:∀ x∈xs,x.cells.length=sz) (gJ:∀ y∈ys,y.cells.length=sz) (w8:∀ u∈us,u.cells.size=sz) (qe:∀ u∈uys,u.cells.size=sz) (jp:us.map zCr=xs.map PV.isAgg) (gw:uys.map zCr=ys.map PV.isAgg)
  (hr:zA5 w' Φ zCm xs us M) (qU:zA5 w' Φ zCm ys uys Ly) (yZ:len+m<=cap) {b:Nat} (yG:zEY w' b ((flat us).toArray++(flat uys).toArray++Builtin.zeroCells z.cells (cap-(len+m)))) :
  Rep w' Φ A (.own sz (xs++ys)) (.slice (some ⟨b,0,none⟩) (len+m) cap) (b::(M++Ly)):=by
 have ua:(flat us++flat uys).length=(len+m)*sz:=by rw[bt,zBw w8,zBw qe,hZ,hm,cQ]
 refine .inr ⟨⟨b,0,none⟩,cap,_,us++uys,M++Ly,rfl,by simp[vi,kb],rfl,by simp[vi,kb,yZ],yG,?_,fun x hx=>?_,⟨fun u hu=>?_,by simp[jp,gw]⟩,?_,hr.append qU⟩
 ·simp only[Array.size_append,size_zeroCells,hz];have h1:=congrArg (·) ua;simp at ua;have:(len+m)*sz+(cap-(len+m))*sz=cap*sz:=by rw[<- cQ];congr 1;omega
  simp;omega
 ·rcases bk.1 hx with h|h
  ·exact jb x h
  ·exact gJ x h
 ·rcases bk.1 hu with h|h
  ·exact w8 u h
  ·exact qe u h
 ·rw[zC5,bt,vi,kb];simp only[seg,fc,Array.toList_append];rw[<- ua];exact List.take_left
theorem zPO:∀ {ys:List PV} {us:List Value} {Ly:LN},zA5 w Φ zCm ys us Ly->us.map zCr=ys.map PV.isAgg->(∀ y∈ys,∀ q∈y.cells,q.oneCell=true)->∀ u∈flat us,u.oneCell'=true
 |[],us,Ly,h,_,_,u,hu=>by rw[h.1] at hu;cases hu
 | y :: ys,us,Ly,h,ha,ho,u,hu=>by
  obtain⟨v,vs,L1,L2,rfl,rfl,h1,h2⟩:=h;simp only[bO,fg] at ha;rw[zCy] at hu;rcases bk.1 hu with hu|hu
  ·have hc:=h1.cellsAll ha.1;obtain⟨j,hj⟩:=cq hu;have jN:j<y.cells.length:=by rw[<- hc.length];exact(bg.1 hj).1
   obtain⟨v',La,Li',Lb,yL,_,jj,_⟩:=hc.split (i:=j) (bm jN);rw[hj] at yL;cases yL;exact zCg (fun a v _ h=>h.elim) jj (ho y (by simp) _ (cu jN))
  ·exact zPO h2 ha.2 (fun z hz=>ho z (by simp[hz])) u hu
theorem St.made(S:St w0 U Φ0 nt hv a w e Φ rv E L)(hb:∀ s,zAa+3<=s->E s = .bad){d:ON}(hd:∀ x,d=some x->x<nt){w':World}{p:PV}{v:Value}{Lp:LN}(hr:∀ A:Al,Rep w' Φ A p v Lp)(u9:Lp.Nodup)
  (ho:∀ b∈Lp,(∃ t,zAa<=t/\t<zAa+3/\b∈L t)\/(w.heap.size<=b/\b<w'.heap.size)) (hw:w.heap.size<=w'.heap.size)
  (hk:∀ b,b<w.heap.size->(∀ t,zAa<=t->t<zAa+3->b∉L t)->w'.heap[b]? = w.heap[b]?) (u4:w'.os=w.os/\w'.tape=w.tape/\w'.output=w.output) (h:(put d p).run o e=some e') :
  Fr w0 U Φ0 nt hv (a.put d v) w' e':=by
 have hG:∀ s,decide (zAa<=s/\s<zAa+3)=true↔zAa<=s/\s<zAa+3:=fun s=>decide_eq_true_iff
 have hc:=S.conf.make (w':=w') (fun s=>decide (zAa<=s/\s<zAa+3)) (fun s hs=>((hG s).1 hs).1) (g:=zAa+3) (by omega) (fun A _=>hr A) u9
  (fun b hb=>(ho b hb).imp (fun⟨t,h1,h2,h3⟩=>⟨t,h3,(hG t).2 ⟨h1,h2⟩⟩) id) hw
  (fun b hb hn=>hk b hb fun t h1 h2 h3=>by have:=hn t h3;rw[(hG t).2 ⟨h1,h2⟩] at this;cases this) u4
 have S1:=S.turn (e':=e) hc (fun s hs=>by
  rw[zAg (by omega)];have:decide (zAa<=s/\s<zAa+3)=false:=decide_eq_false (by omega);simp only[this,bq,if_false];exact S.env s hs) (fun s hs=>zAg (by omega)) (fun d ps hd hp=>by
  rw[zAg (by simp only[zAa];omega)] at hp;have:decide (zAa<=d/\d<zAa+3)=false:=decide_eq_false (by simp only[zAa];omega);simp only[this,bq,if_false] at hp;exact⟨ps,hp,rfl⟩)
 have:=zGf S1 hd (g:=zAa+3) (by omega) (by rw[zAj];exact h) (fun s hs hI=>by
  rw[zAg hI];by_cases h3:s<zAa+3
  ·have:decide (zAa<=s/\s<zAa+3)=true:=(hG s).2 ⟨hs,h3⟩;simp[this]
  ·have:decide (zAa<=s/\s<zAa+3)=false:=decide_eq_false (by omega);simp only[this,bq,if_false];exact hb s (by omega))
 rwa[zAj] at this
theorem St.regrown(S:St w0 U Φ0 nt hv a w e Φ rv E L)(hb:∀ s,zAa+3<=s->E s = .bad){d:ON}(hd:∀ x,d=some x->x<nt){z:Value}{el:TypeId}{sz len m cap:Nat}{xs ys:List PV}{us uys:List Value}{M Ly:LN}(hz:z.cells.size=sz)(hZ:us.length=len)(hm:uys.length=m)(vi:xs.length=len)(kb:ys.length=m)
  (jb:∀ x∈xs,x.cells.length=sz) (gJ:∀ y∈ys,y.cells.length=sz) (w8:∀ u∈us,u.cells.size=sz) (qe:∀ u∈uys,u.cells.size=sz) (jp:us.map zCr=xs.map PV.isAgg) (gw:uys.map zCr=ys.map PV.isAgg)
  (hr:zA5 w Φ zCm xs us M) (qU:zA5 w Φ zCm ys uys Ly) (yZ:len+m<=cap) (w9:∀ b∈M,b∈L (zAa+1)) (gK:∀ b∈Ly,b∈L zAa) (hMn:M.Nodup) (hLn:Ly.Nodup) (h:(put d (.own sz (xs++ys))).run o e=some e') :
  Fr w0 U Φ0 nt hv (a.put d (.slice (some ⟨w.heap.size,0,none⟩) (len+m) cap)) (w.drew.alloc (.cells ((flat us).toArray++(flat uys).toArray++Builtin.zeroCells z.cells (cap-(len+m))) el)) e':=by
 have hold:∀ t,t<w.heap.size->(w.drew.alloc (.cells ((flat us).toArray++(flat uys).toArray++Builtin.zeroCells z.cells (cap-(len+m))) el)).heap[t]? = w.heap[t]?:=fun t ht=>by
  show(w.heap.push _)[t]? = _
  rw[ff,if_neg (by omega)]
 have hΦ:zDt w (w.drew.alloc (.cells ((flat us).toArray++(flat uys).toArray++Builtin.zeroCells z.cells (cap-(len+m))) el)) Φ Φ:=fun t ht=>⟨ht,hold t (S.conf.frz t ht).1⟩;refine S.made hb hd (Lp:=w.heap.size::(M++Ly)) (fun A=>zTk hz hZ hm vi kb jb gJ w8 qe jp gw (hr.mono hΦ (fun _ _ _ h=>h) fun b hb=>hold b (S.conf.own _ b (w9 b hb)).1) (qU.mono hΦ (fun _ _ _ h=>h) fun b hb=>hold b (S.conf.own _ b (gK b hb)).1) yZ ⟨el,?_⟩) ?_ (fun b hb=>?_) ?_ (fun b hb _=>hold b hb) ⟨rfl,rfl,rfl⟩ h
 ·show(w.heap.push _)[w.heap.size]? = _
  simp
 ·refine cz.2 ⟨fun hm=>?_,?_⟩
  ·rcases bk.1 hm with hm|hm
   ·exact absurd (S.conf.own _ _ (w9 _ hm)).1 (fC _)
   ·exact absurd (S.conf.own _ _ (gK _ hm)).1 (fC _)
  ·rw[bW];exact⟨hMn,hLn,fun x hx y hy e=>S.conf.disj (zAa+1) zAa (by omega) x (w9 x hx) (e▸gK y hy)⟩
 ·rcases bD.1 hb with rfl|hb
  ·exact .inr ⟨bi _,by show _<(w.heap.push _).size;simp⟩
  ·rcases bk.1 hb with hb|hb
   ·exact .inl ⟨zAa+1,by omega,by omega,w9 b hb⟩
   ·exact .inl ⟨zAa,by omega,by omega,gK b hb⟩
 ·show _<=(w.heap.push _).size
  simp
theorem zOS(S1:St w0 U Φ0 nt hv a w e Φ rv E L)(yr:∀ s,zAa<=s->s≠zAa->s≠zAa+2->E s = .bad){d:ON}(hd:∀ x,d=some x->x<nt){t t2 ty el e2:TypeId}{i:TypeInfo}{vx vy:Value}{r:Nat}{pre:zA2}{zz lo n s sz:Nat}{xs ys:List PV}{uys:List Value}{Ly:LN}{xb:Option Addr}{xc:Nat}
  (hE2:E (zAa+2) = .bor r pre zz lo n) (hrv2:rv (zAa+2)=vx) (gx:(Builtin.firstCells sz ys.length (.slice xb ys.length xc)).run P w = .ok (flat uys).toArray w) (j1:zA5 w Φ zCm ys uys Ly) (kW:∀ y∈ys,y.cells.length=sz) (kX:uys.map zCr=ys.map PV.isAgg)
  (hq:zAF (E r).unlock pre=some (.own s xs)) (hs:s=sz) (ht:P.underlying t=some (.slice el)) (uO:P.underlying t2=some (.slice e2)) (hi:P.info? el=some i) (yx:i.size=sz) (vn:vy = .slice xb ys.length xc) (uq:beq (lo+n) xs.length=false)
  (h:(zLW d r pre zz lo n s xs ys).run o e=some e'):∃ v w',(Builtin.append_ #[t,t2] ty #[vx,vy]).run P w = .ok v w'/\Fr w0 U Φ0 nt hv (a.put d v) w' e':=by
 subst hs;obtain⟨hc,h1⟩:=zAS h;simp only[bb,bj] at hc;obtain⟨⟨⟨c1,c2⟩,c3⟩,c4⟩:=hc;have c1:=zCb c1;have c2:=bd c2;have c3:=bu c3;subst c2;have gK:Ly=[]:=zGo c4 j1;subst gK;have h2:=S1.conf.drop fun s=>s==zAa;have S2:=S1.turn (e':=e) h2 (fun s hs=>by
  have:(s==zAa)=false:=by simp;omega
  simp only[this,bq,if_false];exact S1.env s hs) (fun _ _=>rfl) (fun d ps hd hp=>by
  have:(d==zAa)=false:=by simp only[zAa,beq_eq_false_iff_ne];omega
  simp only[this,bq,if_false] at hp;exact⟨ps,hp,rfl⟩)
 have hp:=S2.conf.rep (zAa+2);have wF:((zAa+2:Nat)==zAa)=false:=by simp
 simp only[wF,bq,if_false] at hp;rw[hE2,hrv2] at hp;obtain⟨_,hr,⟨b,cap,yL,yZ,qG,uG⟩,hn⟩:=hp;have jt:(r==zAa)=false:=by simp;omega
 obtain⟨nv,Li,hf,_,yA⟩:=zBT (zB9 (S2.conf.rep r)) (by simp only[jt,bq,if_false];exact hq);obtain⟨sz2,xs2,g1,g2,g3⟩:=hn nv _ hf rfl;cases g1;obtain⟨q1,q2,q3⟩|⟨x,m,c,us,M,q0,q1,q2,q3,q4,q5,q6,⟨q7,q7'⟩,q8,q9⟩:=yA
 ·subst q1;have:lo+n=0:=by simp at c3;omega
  rw[this] at uq;cases uq
 ·subst q1;simp only[zBZ] at g3;obtain⟨g3,g4⟩:=g3;have hZ:lo+n+ys.length<=m:=by omega
  have hw:Rep w Φ (zA9 w rv fun s=>if (s==zAa)=true then .bad else E s) (.bor r pre zz lo (n+ys.length)) (.slice (some (zAw x (lo*zz))) (n+ys.length) (m-lo)) []:=by
   refine⟨rfl,hr,⟨_,_,rfl,by omega,by simp,fun b hb=>by simp only[ba] at hb;rw[<- hb];rfl⟩,fun nv' np' yw hh=>?_⟩;rw[hf] at yw;cases yw;exact⟨_,_,rfl,rfl,rfl,by omega⟩
  have S3:=S2.hold (g:=zAa+2) (by omega) hw;obtain⟨w1,e1,rv1,E1,L1,k1,S4,k3,⟨k5,k6⟩,k4⟩:=zMA (z:=zz) (lo:=lo) (n:=n+ys.length) (v := .slice (some (zAw x (lo*zz))) (n+ys.length) (m-lo)) c1 ys uys n S3 zAj zAj (fun s hs hI=>by
   rw[zAg hI];by_cases yp:s=zAa
   ·subst yp;simp
   ·have:(s==zAa)=false:=by simpa using yp
    simp only[this,bq,if_false];exact yr s hs yp hI) (fun y hy=>⟨c4 y hy,kW y hy⟩) kX j1 (bi _) h1
  have yQ:=zGf S4 hd (g:=zAa+2) (by omega) (by rw[k5];exact k1) k3;rw[k6] at yQ;refine⟨_,w1,?_,yQ⟩;rw[g3,vn];have yH:n+ys.length<=m-lo:=by omega
  rcases k4 with⟨rfl,rfl⟩|⟨b',cap',row,kh,ye,yG,hrm,yT,rfl⟩
  ·have jG:uys=[]:=br (by have:=j1.length;simpa using this);subst jG;exact zEz (i:=i) ht uO hi (by rw[yx];exact gx) yH w1 (fun b hb=>by simp[storeCells,flat]) (by simp)
  ·simp only[du,ba] at kh;obtain⟨rfl,_,_⟩:=kh;obtain⟨et,kB⟩:=yG;have yD:=run_storeCells_at (P:=P) (zAw x (lo*zz)).block ((zAw x (lo*zz)).off+n*zz) et (flat uys) 0 row w kB (by simpa using hrm) yT;simp only[bR] at yD;have gy:(zAw x (lo*zz)).add (n*zz)=⟨(zAw x (lo*zz)).block,(zAw x (lo*zz)).off+n*zz,none⟩:=by rw[zB4 rfl];rfl
   exact zEz (i:=i) ht uO hi (by rw[yx];exact gx) yH _ (fun b hb=>by cases hb;rw[yx,gy];exact yD) (by simp)
theorem zTW (S:St w0 U Φ0 nt hv a w e Φ rv E L) (hb:zBv E) {d:ON} (hd:∀ x,d=some x->x<nt) {t t2 ty:TypeId} {x y:Operand} (hx:zAW nt x=true) (hy:zAW nt y=true)
  (h:(zBy P d .append [t,t2] [x,y]).run o e=some e'):∃ v w',(Builtin.append_ #[t,t2] ty #[a.eval x,a.eval y]).run P w = .ok v w'/\Fr w0 U Φ0 nt hv (a.put d v) w' e':=by
 simp only[zBy] at h
 cases j4:(zB1 P t2).isNone with
 |true=>rw[j4] at h;cases h|false=>
 rw[j4] at h;simp only[cond_false] at h;have uO:∃ e2,P.underlying t2=some (.slice e2):=by
  cases he:zB1 P t2 with
  |none=>rw[he] at j4;cases j4|some e2=>exact⟨e2,zCE he⟩
 obtain⟨e2,uO⟩:=uO;split at h
 ·rename_i sz by_ z yJ qd hzz;obtain⟨⟨hby16,kz⟩,h1⟩:=zDr h
  cases jH:zB1 P t with
  |none=>rw[jH] at yJ;cases yJ
  | some el =>
   rw[jH] at yJ qd hzz;simp only[bc] at yJ qd hzz;have ht:=zCE jH;obtain⟨i,hi,yx⟩:=zCu yJ;have hib:i.bytes=by_:=by simp only[zIt,hi,bz,ba] at qd;exact qd
   obtain⟨i2,z0,uZ,ko,_,km⟩:=zDT hzz;rw[hi] at uZ;cases uZ;have qf:z0.cells.size=sz:=by rw[(zCn (w:=w) (Φ:=Φ) (A:=zCm) km).2.1,kz]
   obtain⟨p,h2,hp⟩:=zBz S hx h1;have S0:=S.hold (g:=zAa+2) (by omega) hp;obtain⟨e1,rv1,E1,L1,ys,uys,Ly,h3,S1,uP,uA,qg,hLyg⟩:=zVz S0 (g:=zAa) (bi _) (by rw[zAg (show zAa≠zAa+2 by omega)];exact hb _ (bi _)) hy h2;obtain⟨⟨xb,xc,vn,yW⟩,j1,wa,kX⟩:=uA;simp only[zMl] at h3;obtain⟨hc,h4⟩:=zAS h3;simp only[bb] at hc;have kW:∀ q∈ys,q.cells.length=sz:=fun q hq=>by
    have:=bj.1 hc.1 q hq;simp only[bb] at this;exact bd this.1
   have uQ:=wa sz kW;have vo:uys.length=ys.length:=j1.length;have jc:=uP (zAa+2) (by omega) (by omega);rw[zAj,zAj,zAj] at jc;have uR:=S1.conf.rep (zAa+2);rw[jc.1,jc.2.1,jc.2.2] at uR;have uB:∀ s,zAa<=s->s≠zAa->s≠zAa+2->E1 s = .bad:=fun s hs h1 h2=>by rw[(uP s hs h1).1,zAg h2];exact hb s hs
   have yT:∀ u∈flat uys,u.oneCell'=true:=zPO j1 kX fun q hq z hz=>by
    have:=bj.1 hc.1 q hq;simp only[bb] at this;exact bj.1 this.2 z hz
   have yr:∀ s,zAa+3<=s->E1 s = .bad:=fun s hs=>uB s (by omega) (by omega) (by omega);have gL:∀ t,w.drew.cell? t=w.cell? t:=fun t=>rfl;have hfd:=yW sz kW P w.drew gL;have gx:=yW sz kW P w (fun _=>rfl);rw[vn] at hfd gx;split at h4
   ·rename_i r pre zz lo n;obtain⟨q,hq,h5⟩:=zBR h4;split at h5
    ·rename_i s xs;obtain⟨jL,h6⟩:=zAS h5
     cases uq:beq (lo+n) xs.length with
     |false=>
      rw[uq] at h6;simp only[cond_false] at h6;simp only[bb] at jL;exact zOS S1 uB hd jc.1 jc.2.1 gx j1 kW kX (by rw[S1.env r uR.2.1];exact hq) (bd jL.1.1) ht uO hi yx vn uq h6
     |true=>
     rw[uq] at h6;have h7:=h6;simp only[cond_true] at h7;obtain⟨hc4,h8⟩:=zAS h7;simp only[bb] at jL;have hs:=bd jL.1.1;have kC:=bu jL.2;have gz:=bd uq;have uK:=bd hc4;subst hs;subst uK;have wI:n=xs.length:=by omega
     subst wI;obtain⟨root,hl,hm,h9⟩:=zB3 h8;have hr:r<zAa:=uR.2.1;have yK:=zBI hl;rw[yK,<- S1.env r hr] at hq;rw[<- S1.env r hr] at yK hm;obtain⟨kk1,kk2⟩:=zBV (q' := .bad) rfl rfl hm;obtain⟨nv,Li,g1,g2,g3,g4,g5⟩:=S1.taken (g:=zAa+1) (by omega) hr yK hq rfl hm kk1 kk2;have jE:zBZ (a.eval x) nv s 0 xs.length:=by
      obtain⟨_,_,_,hn⟩:=uR;obtain⟨s2,xs2,q1,q2,q3⟩:=hn nv _ (by rw[yK];exact g1) rfl;cases q1;subst q2;exact q3
     obtain⟨L2,S2,ub⟩:=g5 _ nv Li g2 g3 (fun b hb=>.inl hb);have ut:∀ t,zAa+3<=t->upd (upd E1 r root) (zAa+1) (own s xs) t = .bad:=fun t ht=>by
      rw[zAg (by omega),zAg (by omega)];exact yr t ht
     have vp:∀ b∈Ly,b∈L2 zAa:=fun b hb=>by rw[ub zAa (bi _) (by omega)];exact hLyg b hb
     have hg1r:zAa+1≠r:=by omega
     have hLi2:Rep w Φ (zA9 w (upd rv1 (zAa+1) nv) (upd (upd E1 r root) (zAa+1) (.own s xs))) (.own s xs) nv (L2 (zAa+1)):=by
      have:=S2.conf.rep (zAa+1);rwa[zAj,zAj] at this
     have hLiE:Li=L2 (zAa+1):=Rep.uniq _ _ _ _ g2 hLi2;obtain⟨q1,q2,q3⟩|⟨b,cap,c,us,M,q0,q1,q2,q3,q4,q5,q6,⟨q7,q7'⟩,q8,q9⟩:=g2
     ·
      subst q1;subst q3;have vR:a.eval x = .slice none 0 0:=jE.1;rw[vR,vn];by_cases hy0:ys.length=0
      ·have hyn:ys=[]:=br hy0;subst hyn;have hun:uys=[]:=br (by simpa using vo);subst hun;refine⟨_,w,zEz (i:=i) ht uO hi (by rw[yx];exact gx) (by simp) w (by simp) (fun _=>rfl),?_⟩;exact zAC (S2.clear.choose_spec.choose_spec.choose_spec.choose_spec.1) (S2.clear.choose_spec.choose_spec.choose_spec.choose_spec.2) hd h9 (v := .slice none (0+0) 0) (.inl ⟨rfl,rfl,rfl⟩)
      ·have yZ:0+ys.length<=grownCap w (0+ys.length) 0 el:=grownCap_ge w _ _ _;refine⟨_,_,zF1 (a:=none) (old:=[]) (news:=flat uys) ht uO hi ko (by rw[yx];exact run_firstCells_none _ _ _ _ _) (by rw[yx];exact hfd) (by omega) (by simp only[zAJ,b8] at kC;omega) (by omega),?_⟩;have:=S2.regrown ut hd (z:=z0) (el:=el) (sz:=s) (len:=0) (m:=ys.length) (xs:=[]) (us:=[]) (M:=[]) qf rfl vo rfl rfl (by simp) kW (by simp) uQ rfl kX ⟨rfl,rfl⟩ j1 yZ (by simp) vp cj qg (by simpa using h9);simpa[flat] using this
     ·have jG:us.length=xs.length:=by have:=congrArg length q7';simpa using this
      subst q1;simp only[zBZ] at jE;have gM:zAw b (0*s)=b:=by cases b;simp_all[zAw]
      have qS:a.eval x = .slice (some b) xs.length cap:=by rw[jE.1,gM];rfl
      have w9:∀ t∈M,t∈L2 (zAa+1):=fun t ht=>by rw[<- hLiE,q0];simp[ht]
      have jY:b.block∈L2 (zAa+1):=by rw[<- hLiE,q0];simp
      have hMn:M.Nodup/\b.block∉M:=by rw[q0] at g3;exact⟨(cz.1 g3).2,(cz.1 g3).1⟩
      rw[qS,vn];by_cases yH:xs.length+ys.length<=cap
      ·
       have qY:(xs.length+ys.length)*s<=cap*s:=cZ _ yH;rw[cQ] at qY;have hful:(flat uys).length=ys.length*s:=by rw[zBw uQ,vo]
       have zN4:b.off+xs.length*s+(flat uys).length<=c.size:=by omega
       obtain⟨et,kB⟩:=q4;have yD:=run_storeCells_at (P:=P) b.block (b.off+xs.length*s) et (flat uys) 0 c w kB (by simpa using zN4) yT;simp only[bR] at yD;have gy:b.add (xs.length*s)=⟨b.block,b.off+xs.length*s,none⟩:=by rw[zB4 q2];rfl
       refine⟨_,_,zEz (i:=i) ht uO hi (by rw[yx];exact gx) yH (w.setRow b.block (zBk c (b.off+xs.length*s) (flat uys))) (fun b' yN=>by cases yN;rw[yx,gy];exact yD) (by simp),?_⟩;have yv:∀ t,t≠b.block->(w.setRow b.block (zBk c (b.off+xs.length*s) (flat uys))).heap[t]? = w.heap[t]?:=fun t ht=>setRow_other w _ t _ ht;have hΦ:zDt w (w.setRow b.block (zBk c (b.off+xs.length*s) (flat uys))) Φ Φ:=fun t ht=>⟨ht,yv t fun hc=>(S2.conf.own _ _ jY).2.1 (hc▸ht)⟩;refine S2.made ut hd (Lp:=b.block::(M++Ly)) (fun A=>?_) ?_ (fun t ht=>?_) (by rw[setRow_size];exact bi _) (fun t _ hn=>yv t fun hc=>hn (zAa+1) (by omega) (by omega) (hc▸jY)) ⟨rfl,rfl,rfl⟩ h9
       ·refine .inr ⟨b,cap,_,us++uys,M++Ly,rfl,by simp,q2,by simpa using yH,⟨et,setRow_heap w _ _ _ et _ kB⟩,?_,fun y hy=>?_,⟨fun u hu=>?_,by simp[q7',kX]⟩,?_,?_⟩
        ·rw[zG0 zN4];exact q5
        ·rcases bk.1 hy with h|h
         ·exact q6 y h
         ·exact kW y h
        ·rcases bk.1 hu with h|h
         ·exact q7 u h
         ·exact uQ u h
        ·rw[bt,cQ,zC5,zIc (by omega) (by omega) (by omega),show b.off+xs.length*s-b.off=xs.length*s by omega,<- zRt (by omega),q8];have:(seg c b.off (xs.length*s+ys.length*s)).drop (xs.length*s+(flat uys).length)=[]:=by
          apply fP;simp only[seg,bZ];omega
         rw[this];simp
        ·exact(q9.mono hΦ (fun _ _ _ h=>h) fun t ht=>yv t fun hc=>hMn.2 (hc▸ht)).append (j1.mono hΦ (fun _ _ _ h=>h) fun t ht=>yv t fun hc=>S2.conf.disj (zAa+1) zAa (by omega) _ jY (hc▸vp t ht))
       ·refine cz.2 ⟨fun hm=>?_,?_⟩
        ·rcases bk.1 hm with hm|hm
         ·exact hMn.2 hm
         ·exact S2.conf.disj (zAa+1) zAa (by omega) _ jY (vp _ hm)
        ·rw[bW];exact⟨hMn.1,qg,fun t ht y hy e=>S2.conf.disj (zAa+1) zAa (by omega) t (w9 t ht) (e▸vp y hy)⟩
       ·rcases bD.1 ht with rfl|ht
        ·exact .inl ⟨zAa+1,by omega,by omega,jY⟩
        ·rcases bk.1 ht with ht|ht
         ·exact .inl ⟨zAa+1,by omega,by omega,w9 t ht⟩
         ·exact .inl ⟨zAa,by omega,by omega,vp t ht⟩
      ·have yZ:xs.length+ys.length<=grownCap w (xs.length+ys.length) cap el:=grownCap_ge w _ _ _;have hold:=zI5 (n:=xs.length) (xc:=cap) q2 q4.any jG q7 q8 P w.drew gL;refine⟨_,_,zF1 (a:=some b) (old:=flat us) (news:=flat uys) ht uO hi ko (by rw[yx];exact hold) (by rw[yx];exact hfd) yH (by simp only[zAJ] at kC;omega) (by omega),?_⟩;exact S2.regrown ut hd (z:=z0) (el:=el) (sz:=s) (len:=xs.length) (m:=ys.length) qf jG vo rfl rfl q6 kW q7 uQ q7' kX q9 j1 yZ w9 vp hMn.1 qg h9
    ·cases h5
   ·rename_i zz;obtain⟨kC,h5⟩:=zAS h4;have kC:=bu kC;have vR:a.eval x = .slice none 0 0:=uR.1;rw[vR,vn];by_cases hy0:ys.length=0
    ·have hyn:ys=[]:=br hy0;subst hyn;have hun:uys=[]:=br (by simpa using vo);subst hun;have hf:=yW sz (by simp) P w (fun _=>rfl);rw[vn] at hf;refine⟨_,w,zEz (i:=i) ht uO hi (by rw[yx];exact hf) (by simp) w (by simp) (fun _=>rfl),?_⟩;have:=zAC (S1.clear.choose_spec.choose_spec.choose_spec.choose_spec.1) (S1.clear.choose_spec.choose_spec.choose_spec.choose_spec.2) hd h5 (v := .slice none (0+0) 0) (.inl ⟨rfl,rfl,rfl⟩);exact this
    ·have hL1:L1 (zAa+1)=[]:=by
      have:=S1.conf.rep (zAa+1);rw[uB (zAa+1) (by omega) (by omega) (by omega)] at this;exact this
     have yZ:0+ys.length<=grownCap w (0+ys.length) 0 el:=grownCap_ge w _ _ _;refine⟨_,_,zF1 (a:=none) (old:=[]) (news:=flat uys) ht uO hi ko (by rw[yx];exact run_firstCells_none _ _ _ _ _) (by rw[yx];exact hfd) (by omega) (by simp only[zAJ] at kC;omega) (by omega),?_⟩;have:=S1.regrown yr hd (z:=z0) (el:=el) (sz:=sz) (len:=0) (m:=ys.length) (xs:=[]) (us:=[]) (M:=[]) qf rfl vo rfl rfl (by simp) kW (by simp) uQ rfl kX ⟨rfl,rfl⟩ j1 yZ (by simp) hLyg cj qg (by simpa using h5);simpa[flat] using this
   ·cases h4
 ·cases h
end
end Go.Eng
namespace Go.Eng
open Go
section
variable {P:Program} {w0 w:World} {U Φ0 Φ:Nat->Prop} {nt:Nat} {hv:Hid} {a:Act} {e e':Env} {rv:Nat->Value} {E:Nat->PV} {L:Nat->LN} {o:zAO}
theorem zQY(S:St w0 U Φ0 nt hv a w e Φ rv E L)(hb:zBv E){d:ON}(hd:∀ x,d=some x->x<nt){t:TypeId}(h:(put d (.omap [])).run o e=some e') :
  ∃ v w',(Instr.makeMap t none).run P w = .ok v w'/\Fr w0 U Φ0 nt hv (a.put d v) w' e':=by
 refine⟨.map (some w.heap.size),{w with heap:=w.heap.push (.map #[] 0)},by simp[Instr.makeMap],?_⟩;refine S.made (p := .omap []) (v := .map (some w.heap.size)) (fun s hs=>hb s (by omega)) hd (Lp:=[w.heap.size]) (fun A=>⟨w.heap.size,#[],rfl,rfl,by simp,rfl⟩) (by simp) (fun b yN=>.inr ?_) (by simp) (fun b yN _=>?_) ⟨rfl,rfl,rfl⟩ h
 ·simp only[bw] at yN;subst yN;exact⟨bi _,by simp⟩
 ·show(w.heap.push _)[b]? = _
  rw[ff,if_neg (by omega)]
theorem zGP{z:Value}{s:Nat}(hz:z.cells.size=s){l k:Nat}{u:Value}(h:(flat (replicate l z))[k]? = some u):(madeCells z.cells (k+1))[k]? = some u:=by
 have hZ:(flat (replicate l z)).length=l*s:=by
  rw[zBw (sz:=s) (fun u hu=>by rw[cf hu];exact hz)];simp
 have hk:k<l*s:=by rw[<- hZ];exact(bg.1 h).1
 have hs:0<s:=Nat.pos_of_ne_zero fun h0=>by subst h0;simp at hk
 have hdm:k / s*s+k % s=k:=Nat.div_add_mod' k s;have hq:k / s<l:=Nat.div_lt_of_lt_mul (by rw [Nat.mul_comm];exact hk);have hr:k % s<s:=Nat.mod_lt _ hs;have hzc : z.cells.toList[k % s]? = some (z.cells[k % s]'(by omega)) := by simp
 have:=zEj (sz:=s) (us:=replicate l z) (fun u hu=>by rw[cf hu];exact hz) (i:=k / s) (c:=k % s) (x:=z) (by simp[hq]) hzc;rw[hdm,h] at this;simp only[ba] at this;subst this;simp[madeCells,hz,getElem!_pos,hr]
theorem zQe{z:Array Value}{n m k:Nat}(hk:k<n)(hm:k<m):(madeCells z n)[k]? = (madeCells z m)[k]?:=by
 simp[madeCells,hk,hm]
theorem zN2(S:St w0 U Φ0 nt hv a w e Φ rv E L)(hb:zBv E){d:ON}(hd:∀ x,d=some x->x<nt){t:TypeId}{l c:Operand}(hl:zAW nt l=true)(hc:zAW nt c=true)(h:(zFE P d t l c).run o e=some e') :
  ∃ v w',(Instr.makeSlice t (a.eval l) (a.eval c)).run P w = .ok v w'/\Fr w0 U Φ0 nt hv (a.put d v) w' e':=by
 obtain⟨p,h1,hp⟩:=zBz S hl h;obtain⟨kl,l,rfl,wc,h2⟩:=zEm h1;obtain⟨q,h3,hq⟩:=zBz S hc h2;obtain⟨kc,c,rfl,wH,h4⟩:=zEm h3;split at h4
 ·rename_i el jH;split at h4
  ·rename_i z s by_ hz hs qd;obtain⟨⟨LA,kC,hb16,kz⟩,h5⟩:=zDr h4;obtain⟨i,zv,hi,hzv,_,km⟩:=zDT hz;obtain⟨i2,uZ,qH⟩:=zCu hs;rw[hi] at uZ;cases uZ;have hib:i.bytes=by_:=by simp only[zIt,hi,bz,ba] at qd;exact qd
   have ht:=zCE jH;simp only[zAJ] at kC;have qh:(i.bytes:Int)*c<=281474976710656:=by
    have h1:i.bytes*c.toNat<=16384*4294967296:=fo (by omega) kC;have h2:((i.bytes*c.toNat:Nat):Int)=(i.bytes:Int)*c:=by rw[Int.natCast_mul,cT wH]
    omega
   have yC:=run_make (P:=P) w t el i zv ht hi hzv kl kc l c wc (by omega) qh (by omega);obtain⟨vT,vj,uH,_⟩:=zCn (w:=w) (Φ:=Φ) (A:=zCm) km;have vU:zv.cells.size=s:=by rw[vj,kz]
   rw[hp.1,hq.1];refine⟨_,_,yC,?_⟩;refine S.made (p := .own s (replicate l.toNat z)) (fun s hs=>hb s (by omega)) hd (Lp:=[w.heap.size]) (fun A=>?_) (by simp) (fun b yN=>.inr ?_) (by simp) (fun b yN _=>?_) ⟨rfl,rfl,rfl⟩ h5
   ·refine .inr ⟨⟨w.heap.size,0,none⟩,c.toNat,_,replicate l.toNat zv,[],rfl,by simp,rfl,by simpa using LA,⟨el,by show(w.heap.push _)[w.heap.size]? = _;simp;rfl⟩,?_,fun x hx=>?_,⟨fun u hu=>?_,?_⟩,?_,?_⟩
    ·rw[size_madeCells,qH];simp
    ·rw[cf hx];exact kz
    ·rw[cf hu];exact vU
    ·simp[uH]
    ·rw[f5];refine zG4 ?_ fun k u hk=>?_
     ·rw[zBw (sz:=s) (fun u hu=>by rw[cf hu];exact vU)];simp
     ·have hZ:(flat (replicate l.toNat zv)).length=l.toNat*s:=by
       rw[zBw (sz:=s) (fun u hu=>by rw[cf hu];exact vU)];simp
      have kd:k<l.toNat*s:=by rw[<- hZ];exact(bg.1 hk).1
      have yR:l.toNat*s<=c.toNat*s:=cZ _ LA;rw[dh,qH,zQe (m:=k+1) (by omega) (by omega)];exact zGP vU hk
    ·have key:∀ n,zA5 (w.alloc (.cells (madeCells zv.cells (c.toNat*i.size)) el)) Φ zCm (replicate n z) (replicate n zv) []:=by
      intro n
      induction n with
      |zero=>exact⟨rfl,rfl⟩|succ n ih=>
       exact⟨zv,_,[],[],rfl,rfl,(zCn km).1,ih⟩
     exact key _
   ·simp only[bw] at yN;subst yN;exact⟨bi _,by show _<(w.heap.push _).size;simp⟩
   ·show(w.heap.push _)[b]? = _
    rw[ff,if_neg (by omega)]
  ·cases h4
 ·cases h4
theorem zJq(S:St w0 U Φ0 nt hv a w e Φ rv E L){x:Option Operand}(hx:∀ y,x=some y->zAW nt y=true){n:Nat}{k:Nat->PM}(h:(zUC x n k).run o e=some e') :
  ∃ m,(k m).run o e=some e'/\((x=none/\m=n)\/∃ y ik z,x=some y/\a.eval y = .int ik z/\0<=z/\m=z.toNat):=by
 cases x with
 |none=>exact⟨n,h,.inl ⟨rfl,rfl⟩⟩|some y=>
  obtain⟨p,h1,h2⟩:=zBz S (hx y rfl) h;obtain⟨ik,z,rfl,hz,h3⟩:=zEm h1;exact⟨z.toNat,h3,.inr ⟨y,ik,z,rfl,h2.1,hz,rfl⟩⟩
theorem zE2{ik:IntKind}{z:Int}{y:Nat}{cd:BoundsCode}(h0:0<=z)(h:z.toNat<=y):(Instr.sliceBound (.int ik z) y cd).run P w = .ok z.toNat w:=by
 have:z<=y:=by omega
 simp[Instr.sliceBound,asIntOf,h0,this]
theorem zLD{isS:Bool}{len cap l h:Nat}{lo hi:Option Value}(hh:(hi=none/\h=len)\/∃ ik z,hi=some (.int ik z)/\0<=z/\h=z.toNat)(hl:(lo=none/\l=0)\/∃ ik z,lo=some (.int ik z)/\0<=z/\l=z.toNat)
  (hlh:l<=h) (hhc:hi≠none->h<=cap):(Instr.sliceBounds isS len cap lo hi none).run P w = .ok (l,h,cap) w:=by
 rcases hh with⟨rfl,rfl⟩|⟨ik,z,rfl,hz,rfl⟩
 ·simp only[Instr.sliceBounds,bo,bA,bh,dZ,bq,if_false];rcases hl with⟨rfl,rfl⟩|⟨ik',z',rfl,hz',rfl⟩
  ·simp
  ·simp only[bo,zE2 hz' hlh,bh,bA]
 ·simp only[Instr.sliceBounds,bo,bA,bh,dZ,bq,if_false];rw[zE2 hz (hhc (by simp))];simp only[bh];rcases hl with⟨rfl,rfl⟩|⟨ik',z',rfl,hz',rfl⟩
  ·simp
  ·simp only[bo,zE2 hz' hlh,bh,bA]
theorem zVj (S : St w0 U Φ0 nt hv a w e Φ rv E L) (hb:zBv E) {d:ON} (hd:∀ x,d=some x->x<nt) {t:TypeId} {x:Operand} {lo hi mx:Option Operand} (hx:zAW nt x=true) (uK:∀ y,lo=some y->zAW nt y=true) (hhi:∀ y,hi=some y->zAW nt y=true) (hmx:∀ y,mx=some y->zAW nt y=true)
  (h:(zJV P d t x lo hi mx).run o e=some e'):∃ v,(Instr.sliceAt t (a.eval x) (lo.map a.eval) (hi.map a.eval) (mx.map a.eval)).run P w = .ok v w/\Fr w0 U Φ0 nt hv (a.put d v) w e':=by
 cases mx with
 | some m =>
  simp only[zJV] at h;obtain⟨p,h1,hp⟩:=zBz S hx h;split at h1
  ·rename_i r pre z a0 n el ht;obtain⟨s,hs,h2⟩:=zBM h1;obtain⟨ti,jZ,yJ⟩:=zCu hs;obtain⟨mm,h3,h4⟩:=zJq S hmx h2;obtain⟨_,hg,⟨b,cap,yL,yZ,qG,uG⟩,qF⟩:=hp;rcases h4 with⟨h4,_⟩|⟨ym,ikm,zm,hym,hem,hzm,rfl⟩
   ·cases h4
   cases hym
   cases hi with
   |none=>cases h3|some hi=>
    obtain⟨hm,h5,h6⟩:=zJq S hhi h3;rcases h6 with⟨h6,_⟩|⟨yh,ikh,zh,hyh,heh,hzh,rfl⟩
    ·cases h6
    cases hyh;obtain⟨lm,h7,h8⟩:=zJq S uK h5;obtain⟨hc,h9⟩:=zAS h7;simp only[bb] at hc;have c1:=bu hc.1.1;have c2:=bu hc.1.2;have c3:=bu hc.2;refine⟨_,?_,zAC S hb hd h9 (p := .bad) (v := .slice (if zm.toNat=lm then b else b.map (·.add (lm*ti.size))) (zh.toNat-lm) (zm.toNat-lm)) rfl⟩;rw[yL];simp only[Instr.sliceAt,Instr.slice,bo,run_underlying ht,bh,bz,hem,heh,Instr.sliceBounds,zE2 hzm (show zm.toNat<=cap by omega),zE2 hzh c2];rcases h8 with⟨rfl,rfl⟩|⟨yl,ikl,zl,rfl,jH,kz,rfl⟩
    ·simp only[ib,bA,bh,zA4 jZ,bo]
    ·simp only[bz,jH,zE2 kz c1,bA,bh,zA4 jZ,bo]
  ·cases h1
 | none =>
  simp only[zJV] at h;obtain⟨p,h1,hp⟩:=zBz S hx h;have low:∀ {m:Nat},((lo=none/\m=0)\/∃ y ik z,lo=some y/\a.eval y = .int ik z/\0<=z/\m=z.toNat)->(lo.map a.eval=none/\m=0)\/∃ ik z,lo.map a.eval=some (.int ik z)/\0<=z/\m=z.toNat:=by
   rintro m (⟨rfl,rfl⟩|⟨y,ik,z,rfl,h2,h3,h4⟩)
   ·exact .inl ⟨rfl,rfl⟩
   ·exact .inr ⟨ik,z,by simp[h2],h3,h4⟩
  have hgh:∀ {m n:Nat},((hi=none/\m=n)\/∃ y ik z,hi=some y/\a.eval y = .int ik z/\0<=z/\m=z.toNat)->(hi.map a.eval=none/\m=n)\/∃ ik z,hi.map a.eval=some (.int ik z)/\0<=z/\m=z.toNat:=by
   rintro m n (⟨rfl,rfl⟩|⟨y,ik,z,rfl,h2,h3,h4⟩)
   ·exact .inl ⟨rfl,rfl⟩
   ·exact .inr ⟨ik,z,by simp[h2],h3,h4⟩
  split at h1
  ·
   rename_i n el ht;split at h1
   ·rename_i s sh hs jm;obtain⟨hm,h2,h3⟩:=zJq S hhi h1;obtain⟨lm,h4,h5⟩:=zJq S uK h2;obtain⟨hc,h6⟩:=zAS h4;simp only[bb,bS] at hc;obtain⟨⟨c1,c2⟩,c3⟩:=hc;have c1:=bu c1;have c2:=bu c2;obtain⟨ti,jZ,yJ⟩:=zCu hs;have hbnd:=zLD (P:=P) (w:=w) (isS:=false) (len:=n) (cap:=n) (hgh h3) (low h5) c1 (fun _=>c2);have uN:∀ b:Addr,b.spot=none->(if n=lm then b else b.add (lm*ti.size))=zAw b (lm*s):=by
     intro b ye;split
     ·rename_i hnl;have wc:lm=0:=by
       rcases c3 with c3|c3
       ·exact bd c3
       ·have:=zCb c3;omega
      rw[wc];cases b;simp_all[zAw]
     ·rw[zB4 ye,yJ]
    split at h6
    ·rename_i r pre i c s';obtain⟨_,hg,b,yd,ye,hn⟩:=hp;refine⟨.slice (some (zAw b (lm*s))) (hm-lm) (n-lm),?_,zAC S hb hd h6 ⟨rfl,hg,zAw b (lm*s),n-lm,rfl,by omega,rfl,fun nv np hf a' kq=>?_⟩⟩
     ·rw[yd];simp only[Instr.sliceAt,bo,run_underlying ht,bh,Instr.sureAddr,bA,ib];rw[hbnd];simp only[bh,zA4 jZ,bo,bA];rw[uN b ye]
     ·have key:∃ a0,zBc nv np i c=some a0/\a'=zAw a0 (lm*s):=by
       cases np<;>try (simp[zBc] at kq;done)
       ·cases nv with
        |slice x _ _=>
         cases x with
         |none=>cases kq|some x=>simp only[zBc] at kq ⊢;cases kq;exact⟨_,rfl,by simp[zAw,cg]⟩
        |pointer x=>cases x<;>cases kq
        |_=>cases kq
       ·cases nv with
        |pointer x=>
         cases x with
         |none=>cases i<;>cases kq
         |some x=>cases i<;>simp only[zBc] at kq ⊢ <;> cases kq;exact⟨_,rfl,by simp[zAw,cg]⟩
        |slice x _ _=>cases x<;>cases kq
        |_=>cases kq
      obtain⟨a0,k1,k2⟩:=key;rw[k2,hn nv np hf a0 k1]
    ·rename_i cs;obtain⟨hc4,h7⟩:=zAS h6;simp only[bb,zCs] at hc4;obtain⟨⟨c4,⟨c5,c6⟩⟩,c7⟩:=hc4;have c4:=bu c4;have c5:=bd c5;obtain⟨_,b,c,u,yd,ye,hΦ,yG,jO,⟨jG,jp⟩,hr⟩:=hp;obtain⟨vs,rfl,hr⟩:=hr;have kU:=hr.length;have vT:zA5 w Φ zCm cs vs.toList []:=hr.ways _ _ _ fun a v hw hx ha=>by
      have h0:zBq cs=[]:=by simpa using c7
      rw[h0] at hx;have h1:=zJJ hw ha
      cases vL:a.ways with
      |nil=>exact absurd vL h1|cons z zs=>have:=hx z (by rw[vL];simp);cases this
     obtain⟨us',q1,q2,q3,q4,q5⟩:=zGD (ag:=sh.isSome) (sz:=s) (fun a v _ h=>h.elim) (hm-lm) _ _ c5 (fun jp=>by
      simp only[jp,co,bb] at c6;exact⟨bd c6.1,fun q hq=>bj.1 c6.2 q hq⟩) (zB5 vT (lm*s) ((hm-lm)*s))
     have yO:=zEf sh.isSome s (hm-lm) ((cs.drop (lm*s)).take ((hm-lm)*s));refine⟨.slice (some (zAw b (lm*s))) (hm-lm) (n-lm),?_,zAC S hb hd h7 ?_⟩
     ·rw[yd];simp only[Instr.sliceAt,bo,run_underlying ht,bh,Instr.sureAddr,bA,ib];rw[hbnd];simp only[bh,zA4 jZ,bo,bA];rw[uN b ye]
     ·by_cases LB:hm-lm=0
      ·rw[LB];exact⟨rfl,.inl ⟨rfl,_,_,rfl,fun h=>by cases h⟩⟩
      ·refine⟨rfl,.inr ⟨zAw b (lm*s),n-lm,c,us',s,by rw[yO],rfl,by rw[yO];omega,hΦ,yG,q5,⟨q3,q4⟩,?_,q1⟩⟩;rw[yO,q2];simp only[PV.cells,Value.cells] at jO kU;refine zG4 (by simp at c5 kU ⊢;omega) fun k y hk=>?_;simp only[cw,ck] at hk;split at hk
       ·have:(seg c b.off cs.length)[lm*s+k]? = some y:=by rw[jO];exact hk
        have:=zDq this;simp only[zAw,cg];exact this
       ·cases hk
    ·cases h6
   ·cases h1
  ·
   rename_i el ht;split at h1
   ·rename_i s n hs hn;obtain⟨hm,h2,h3⟩:=zJq S hhi h1;obtain⟨lm,h4,h5⟩:=zJq S uK h2;obtain⟨ti,jZ,yJ⟩:=zCu hs;have yC:∀ (b:Option Addr) (cap:Nat),a.eval x = .slice b n cap->lm<=hm->hm<=cap->(Instr.sliceAt t (a.eval x) (lo.map a.eval) (hi.map a.eval) (Option.map a.eval none)).run P w = .ok (.slice (if cap=lm then b else b.map (·.add (lm*ti.size))) (hm-lm) (cap-lm)) w:=by
     intro b cap yL k1 k2;rw[yL];simp only[Instr.sliceAt,Instr.slice,bo,run_underlying ht,bh,ib];rw[zLD (hgh h3) (low h5) k1 (fun _=>k2)];simp only[bh,zA4 jZ,bo,bA]
    cases p<;>simp only[zPk] at h4<;>try (cases h4;done)
    case sl xs=>
     simp only[lenOf,ba] at hn;obtain⟨hc,h6⟩:=zAS h4;simp only[bb] at hc;obtain⟨⟨c1,c2⟩,c3⟩:=hc;have c1:=bu c1;have c2:=bu c2;obtain⟨_,⟨rfl,b,n',yL,qG⟩|⟨b,n',c,us,sz,yL,ye,yR,hΦ,yG,jb,⟨kR,wE⟩,jO,hr⟩⟩:=hp
     ·have LB:hm=0:=by simpa using c2
      have wc:lm=0:=by omega
      subst LB;subst wc;refine⟨_,yC b n' (by rw[yL,<- hn];rfl) (bi _) (bG _),zAC S hb hd h6 ?_⟩;simp only[List.drop_nil,List.take_nil];exact⟨rfl,.inl ⟨rfl,_,_,rfl,fun h=>by
       have gM:b=none:=by cases b<;>first|rfl|(split at h<;>cases h)
       rw[qG gM]⟩⟩
     ·refine⟨_,yC (some b) n' (by rw[yL,<- hn]) c1 (by omega),zAC S hb hd h6 ?_⟩;have hZ:((xs.drop lm).take (hm-lm)).length=hm-lm:=by simp;omega
      by_cases LB:hm-lm=0
      ·have:(xs.drop lm).take (hm-lm)=[]:=br (by rw[hZ,LB]);rw[this,LB];exact⟨rfl,.inl ⟨rfl,_,_,rfl,fun h=>by split at h<;>cases h⟩⟩
      ·have jG:us.length=xs.length:=by have:=congrArg length wE;simpa using this
       have hx0:∃ x,x∈xs:=by
        cases xs with
        |nil=>simp at c2;omega|cons x _=>exact⟨x,by simp⟩
       obtain⟨x0,hx0⟩:=hx0;have uu:sz=s:=by
        have:=bd (bj.1 c3 x0 hx0);rw[<- jb x0 hx0,this]
       subst uu;rw[if_neg (by omega)];simp only[bz];rw[zB4 ye,yJ];refine⟨rfl,.inr ⟨zAw b (lm*sz),n'-lm,c,(us.drop lm).take (hm-lm),sz,by rw[hZ],rfl,by rw[hZ];omega,hΦ,yG,fun y hy=>jb y (cy (cL hy)),⟨fun u hu=>kR u (cy (cL hu)),zA5.map_isAgg wE lm (hm-lm)⟩,?_,zB5 hr lm (hm-lm)⟩⟩;rw[hZ];exact zIU kR jG jO (by omega)
    case bor r pre z a0 n0 =>
     simp only [lenOf,ba] at hn;subst hn;obtain ⟨hc,h6⟩:=zAS h4;simp only [bb] at hc;have vU:=bd hc.1;have c1:=bu hc.2;subst vU;obtain ⟨_,hg,⟨b,cap,yL,yZ,qG,uG⟩,qF⟩:=hp;have go : hm<=cap->(put d (bif beq lm 0||blt lm hm then .bor r pre z (a0+lm) (hm-lm) else .sl [])).run o e=some e'->∃ v,(Instr.sliceAt t (a.eval x) (lo.map a.eval) (hi.map a.eval) (Option.map a.eval none)).run P w = .ok v w/\Fr w0 U Φ0 nt hv (a.put d v) w e':=by
      intro k1 h6;refine⟨_,yC b cap yL c1 k1,zAC S hb hd h6 ?_⟩
      cases kY:(beq lm 0||blt lm hm) with
      | false =>
       simp only[cx] at kY;have:¬ lm<hm:=fun yI=>by rw[show blt lm hm=true from cU yI] at kY;exact absurd kY.2 (by simp)
       have:hm-lm=0:=by omega
       rw[this];exact⟨rfl,.inl ⟨rfl,_,_,rfl,fun h=>by
        have gM:b=none:=by cases b<;>first|rfl|(split at h<;>cases h)
        have:=qG gM;omega⟩⟩
      | true =>
       simp only[cond_true];have kD:lm=0\/lm<hm:=by
        simp only[bS] at kY;rcases kY with h|h
        ·exact .inl (bd h)
        ·exact .inr (zCb h)
       have uN:(if cap=lm then b else b.map (·.add (lm*ti.size)))=b.map (fun y=>zAw y (lm*z)):=by
        cases b with
        |none=>simp
        | some y =>
         have hy:=uG y rfl;simp only[bz];split
         ·have wc:lm=0:=by omega
          subst wc;cases y;simp_all[zAw]
         ·rw[zB4 hy,yJ]
       rw[uN];refine⟨rfl,hg,⟨_,cap-lm,rfl,by omega,fun gM=>?_,fun y hy=>?_⟩,fun nv np hf hh=>?_⟩
       ·have:b=none:=by cases b<;>first|rfl|cases gM
        have:=qG this;omega
       ·cases b with
        |none=>cases hy|some y0=>simp only[bz,ba] at hy;rw[<- hy];rfl
       ·obtain⟨sz2,xs2,g1,g2,g3⟩:=qF nv np hf hh;refine⟨sz2,xs2,g1,g2,?_⟩;subst g2;rw[yL] at g3;cases nv<;>simp only[zBZ] at g3;rename_i y l c
        cases y with
        |none=>
         simp only[zBZ,du] at g3 ⊢;obtain⟨⟨k2,k3,k4⟩,k5⟩:=g3;subst k2;refine⟨⟨rfl,by omega,by omega⟩,by omega⟩
        |some y=>
         simp only[zBZ,du] at g3 ⊢;obtain⟨⟨k2,_,k4⟩,k5⟩:=g3;subst k2;refine⟨⟨?_,trivial,by omega⟩,by omega⟩;simp[zAw,cQ,cg]
     cases LC:ble hm n0 with
     |true=>
      rw[LC] at h6;exact go (bN (bu LC) yZ) h6
     | false =>
      rw[LC] at h6;simp only[cond_false] at h6;obtain⟨q,hq,h7⟩:=zBR h6;split at h7
      ·rename_i sz2 xs2;obtain⟨yR,h8⟩:=zAS h7;have yR:=bu yR;refine go ?_ h8;rw[<- S.env r hg] at hq;obtain⟨nv,Li,hf,_,yA⟩:=zBT (zB9 (S.conf.rep r)) hq;obtain⟨sz3,xs3,g1,g2,g3⟩:=qF nv _ hf rfl;cases g1;subst g2;rw[yL] at g3;obtain⟨q1,_,q3⟩|⟨y,m,c,us,M,_,q1,_,q3,_⟩:=yA
       ·subst q1;simp at yR;omega
       ·subst q1;simp only[zBZ,du] at g3;omega
      ·cases h7
   ·cases h1
  ·cases h1
end
end Go.Eng
namespace Go.Eng
open Go
section
variable {w w':World} {Φ Φ':Nat->Prop}
mutual
theorem Rep.free{A A':Al}:∀ (p:PV) (v:Value) (L:LN),p.free=true->Rep w Φ A p v L->Rep w Φ' A' p v L
 |.int ..,_,_,_,h=>h|.bool _,_,_,_,h=>h|.nilp,_,_,_,h=>h|.nilf,_,_,_,h=>h|.nilm,_,_,_,h=>h|.nn,_,_,_,h=>h|.nils _,_,_,_,h=>h|.und,_,_,_,h=>h|.sl [],v,L,_,h=>by
  obtain⟨h0,⟨_,a,n,h1⟩|⟨a,n,c,us,sz,h1,_⟩⟩:=h
  ·exact⟨h0,.inl ⟨rfl,a,n,h1⟩⟩
  ·exact⟨h0,.inl ⟨rfl,_,n,h1,fun h=>by cases h⟩⟩
 |.sl (_::_),_,_,hf,_=>by cases hf|.agg cs,v,L,hf,h=>by
  obtain⟨vs,rfl,h⟩:=h;exact⟨vs,rfl,zA5.free cs _ L hf h⟩
 |.tup cs,v,L,hf,h=>by
  obtain⟨vs,rfl,h⟩:=h;exact⟨vs,rfl,zA5.free cs _ L hf h⟩
 |.own sz xs,v,L,hf,h=>by
  obtain h|⟨a,n,c,us,L',h0,h1,h2,h3,h4,h5,h6,h7,h8,h9⟩:=h
  ·exact .inl h
  ·exact .inr ⟨a,n,c,us,L',h0,h1,h2,h3,h4,h5,h6,h7,h8,zA5.free xs us L' hf h9⟩
 |.box q,v,L,hf,h=>by
  obtain⟨a,c,u,L',h0,h1,h2,h4,h5,h6,h7⟩:=h;exact⟨a,c,u,L',h0,h1,h2,h4,h5,h6,Rep.free q u L' hf h7⟩
 |.omap es,v,L,hf,h=>by
  obtain⟨b,ents,h0,h1,h3,h4⟩:=h;exact⟨b,ents,h0,h1,h3,zEa.free es _ 0 hf h4⟩
 |.bad,_,_,hf,_=>by cases hf|.ref _,_,_,hf,_=>by cases hf|.map _,_,_,hf,_=>by cases hf|.func ..,_,_,hf,_=>by cases hf|.addr ..,_,_,hf,_=>by cases hf|.bor ..,_,_,hf,_=>by cases hf|.bsl ..,_,_,hf,_=>by cases hf|.bmap ..,_,_,hf,_=>by cases hf|.lock _,_,_,hf,_=>by cases hf|.yld _,_,_,hf,_=>by cases hf|.log ..,_,_,hf,_=>by cases hf
theorem zA5.free{A A':Al}:∀ (ps:List PV) (vs:List Value) (L:LN),zDu ps=true->zA5 w Φ A ps vs L->zA5 w Φ' A' ps vs L
 |[],_,_,_,h=>h|p::ps,vs,L,hf,h=>by
  simp only[zDu,bb] at hf;obtain⟨v,vs',L1,L2,h0,h1,h2,h3⟩:=h;exact⟨v,vs',L1,L2,h0,h1,Rep.free p v L1 hf.1 h2,zA5.free ps vs' L2 hf.2 h3⟩
theorem zEa.free:∀ (es:List (PV×PV)) (ms:List MapEntry) (i:Nat),zQM es=true->zEa w Φ es ms i->zEa w Φ' es ms i
 |[],_,_,_,h=>h|(k,p)::es,ms,i,hf,h=>by
  simp only[zQM,bb] at hf;obtain⟨m,ms',h0,h1,h2,h3,h4⟩:=h;exact⟨m,ms',h0,h1,Rep.free k _ [] hf.1.1 h2,Rep.free p _ [] hf.1.2 h3,zEa.free es ms' (i+1) hf.2 h4⟩
end
end
theorem zC0(m:List (Nat×Nat)):Tame (zEM m):=by
 constructor
 ·intro p;cases p<;>simp only[zEM]<;>first|rfl|(split<;>rfl)
 ·intro p hp;cases p<;>first|(cases hp;done)|skip
  all_goals
   simp only[zEM]
   first|rfl|(split<;>rfl)
section
variable {w w':World} {rv rv':Nat->Value} {E E':Nat->PV}
theorem zNM{m:List (Nat×Nat)}{Φ:Nat->Prop}{a:PV}{v:Value}(ha:zA9 w rv E a v)
  (h:∀ r h',m.lookup r=some h'->r<zAa->h'<zAa/\∀ pre nv np,zAZ w' (rv' h') (E' h').unlock pre=some (nv,np)->np.heavy0=true->∃ np0,zAZ w (rv r) (E r).unlock pre=some (nv,np0)/\zCo np0 np) :
  Rep w' Φ (zA9 w' rv' E') (zEM m a) v []:=by
 have hr:=zC6 ha;have key:∀ nv np i c a',zBc nv np i c=some a'->np.heavy0=true:=by
  intro nv np i c a' h;cases np<;>first|rfl|(simp[zBc] at h)
 cases a<;>simp only[zEM]<;>try (exact ha.elim)
 case addr r pre i c sh=>
  cases hm:m.lookup r with
  |none=>rfl|some h'=>
   obtain⟨h1,h2⟩:=h r h' hm hr;obtain⟨_,b,h3,h4,h5⟩:=ha;refine⟨rfl,h1,b,h3,h4,fun nv np hn a' kq=>?_⟩;obtain⟨np0,h6,h7⟩:=h2 pre nv np hn (key _ _ _ _ _ kq);exact h5 nv np0 h6 a' (by rw[zEH h7];exact kq)
 case bor r pre z lo n=>
  cases hm:m.lookup r with
  |none=>rfl|some h'=>
   obtain⟨h1,h2⟩:=h r h' hm hr;obtain⟨_,h3,h5⟩:=ha;refine⟨rfl,h1,h3,fun nv np hn hh=>?_⟩;obtain⟨np0,h6,h7⟩:=h2 pre nv np hn hh;obtain⟨sz,xs,g1,g2,g3⟩:=h5 nv np0 h6 (zDY h7);subst g1;cases np<;>simp only[zCo] at h7;subst h7;exact⟨_,_,rfl,g2,g3⟩
 case bsl r pre i c sz ag n=>
  cases hm:m.lookup r with
  |none=>rfl|some h'=>
   obtain⟨h1,h2⟩:=h r h' hm hr;obtain⟨_,b,cap,h3,wy,h4,h5⟩:=ha;refine⟨rfl,h1,b,cap,h3,wy,h4,fun nv np hn a' kq=>?_⟩;obtain⟨np0,h6,h7⟩:=h2 pre nv np hn (key _ _ _ _ _ kq);exact h5 nv np0 h6 a' (by rw[zEH h7];exact kq)
 case bmap r pre=>
  cases hm:m.lookup r with
  |none=>rfl|some h'=>
   obtain⟨h1,h2⟩:=h r h' hm hr;obtain⟨_,h3,h5⟩:=ha;refine⟨rfl,h1,h3,fun nv np hn es he=>?_⟩;subst he;obtain⟨np0,h6,h7⟩:=h2 pre nv _ hn rfl;cases np0<;>simp only[zCo] at h7;exact h5 nv _ h6 _ rfl
end
theorem zIg{f:Nat->Nat->Nat×Nat}:∀ (R:LN) (k x y:Nat),((R.zipIdx k).map fun p=>f p.1 p.2).lookup x=some y->∃ j r,R[j]? = some r/\f r (k+j)=(x,y)
 |[],k,x,y,h=>by simp at h
 | r :: R,k,x,y,h=>by
  simp only[fX,bO] at h
  cases hf:f r k with
  | mk p1 p2 =>
   rw[hf,List.lookup_cons] at h;by_cases hx:x=p1
   ·have:(x==p1)=true:=by simp[hx]
    rw[this] at h;simp only[ba] at h;exact⟨0,r,rfl,by rw[bR,hf,hx,h]⟩
   ·have:(x==p1)=false:=by simp[hx]
    rw[this] at h;obtain⟨j,r',h1,h2⟩:=zIg R (k+1) x y h;exact⟨j+1,r',by simpa using h1,by rw[show k+(j+1)=k+1+j by omega];exact h2⟩
theorem zNB{R:LN}{r h:Nat}(hl:(zDC R).lookup r=some h):∃ j,R[j]? = some r/\h=zAm+j:=by
 obtain⟨j,r',h1,h2⟩:=zIg (f:=fun r j=>(r,zAm+j)) R 0 r h hl;simp only[dh,bB] at h2;exact⟨j,h2.1▸h1,h2.2.symm⟩
theorem zOO{R:LN}{h r:Nat}(hl:(zCj R).lookup h=some r):∃ j,R[j]? = some r/\h=zAm+j:=by
 obtain⟨j,r',h1,h2⟩:=zIg (f:=fun r j=>(zAm+j,r)) R 0 h r hl;simp only[dh,bB] at h2;exact⟨j,h2.2▸h1,h2.1.symm⟩
theorem zGK:∀ {R:LN},zHT R=true->R.Nodup
 |[],_=>cj|r::R,h=>by
  simp only[zHT,bb,bF] at h;exact cz.2 ⟨fun hm=>by have:=dy.2 hm;rw[this] at h;exact absurd h.1 (by simp),zGK h.2⟩
section
variable {o:zAO} {e e':Env}
theorem zKd:∀ {R:LN} {k:List PV->PM},(zOR R k).run o e=some e'->(∀ r∈R,(e.get r).isLock=false)/\(k (R.map e.get)).run o e=some e'
 |[],k,h=>⟨by simp,h⟩
 | r :: R,k,h=>by
  simp only[zOR,PM.run] at h;split at h
  ·cases h
  ·rename_i p hp;obtain⟨h1,h2⟩:=zKd h;refine⟨fun x hx=>?_,h2⟩;rcases bD.1 hx with rfl|hx
   ·cases hl:(e.get x)<;>first|rfl|exact absurd hl (hp _)
   ·exact h1 x hx
theorem zLh:∀ {n:Nat} {R:LN} {k:LN->PM},(zLr n R k).run o e=some e'->∃ R',(k R').run o e=some e'
 |0,R,k,h=>⟨R,h⟩|n+1,R,k,h=>by
  simp only[zLr] at h;obtain⟨_,h1⟩:=zKd h;revert h1
  cases beq _ _ with
  |true=>exact fun h=>⟨_,h⟩
  |false=>exact fun h=>zLh h
def zDX:LN->PV->PV
 |[],a=>a|r::R,a=>if (zBU r [] a).isWay=true then zDX R a else zBU r [] a
theorem zH2(r:Nat)(p:PV):zBU r [] p=p\/(p.isWay=true/\zBU r [] p = .bad):=by
 cases p<;>first|exact .inl rfl|skip
 all_goals
  simp only[zBU,PV.isWay,true_and];cases (beq _ r&&_)<;>simp
theorem zKO:∀ (R:LN) (p:PV),zDX R p=p\/(p.isWay=true/\zDX R p = .bad)
 |[],p=>.inl rfl|r::R,p=>by
  simp only[zDX];split
  ·exact zKO R p
  ·exact zH2 r p
theorem zLo{k:PM}:∀ {R:LN} {e:Env},(zLB R k).run o e=some e'->∃ e1,k.run o e1=some e'/\∀ s,e1.get s=(e.get s).mapW (zDX R)
 |[],e,h=>⟨e,h,fun s=>by rw[show zDX []=fun x=>x from rfl,zBl]⟩
 |r::R,e,h=>by
  simp only[zLB,PM.run] at h;obtain⟨e1,h1,h2⟩:=zLo h;refine⟨e1,h1,fun s=>?_⟩;rw[h2 s,Env.get_killEx,zE3];refine zDK (fun a ha=>?_) _;simp only[zDX];rcases zH2 r a with h3|⟨_,h3⟩
  ·rw[h3,if_pos ha,zGu ha]
  ·rw[h3];rfl
theorem zYW{pre:zA2}{y:PV}(hI:bad≠y)(h:(bif !pre.isEmpty then bad else y)=y):pre=[]:=by
 cases pre with
 |nil=>rfl|cons x xs=>exact absurd h hI
theorem zKv:∀ {R:LN} {a:PV},a.isWay=true->zDX R a=a->(∀ k,a ≠ .yld k)->(∀ xs k,a ≠ .log xs k)->(zBb a).1∈R->(zBb a).2=[]
 |[],_,_,_,_,_,h=>by cases h
 | r :: R,a,ha,hk,hy,hl,hm=>by
  simp only[zDX] at hk;by_cases hr:(zBb a).1=r
  ·have uK:zBU r [] a=a:=by
    rcases zH2 r a with h3|⟨_,h3⟩
    ·exact h3
    ·rw[h3] at hk;simp only[PV.isWay,bq,if_false] at hk;rw[<- hk] at ha;cases ha
   cases a<;>first|(cases ha;done)|(exact absurd rfl (hy _))|(exact absurd rfl (hl _ _))|skip
   all_goals
    simp only[zBb] at hr ⊢;subst hr;simp only[zBU,cH,ci,iW,fU] at uK;exact zYW (by simp) uK
  ·have hm':(zBb a).1∈R:=(bD.1 hm).resolve_left hr;rcases zH2 r a with h3|⟨_,h3⟩
   ·rw[h3,if_pos ha] at hk;exact zKv ha hk hy hl hm'
   ·rw[h3] at hk;simp only[PV.isWay,bq,if_false] at hk;rw[<- hk] at ha;cases ha
theorem zNS{k:PM}:∀ {R:LN} {os ps:List PV} {e:Env},R.Nodup->(zOt R os ps k).run o e=some e'->∃ e1,k.run o e1=some e'/\ps.length=R.length/\os.length=R.length/\(∀ (j:Nat) (x y:PV),os[j]? = some x->ps[j]? = some y->zGO x y=true) /\
   (∀ s,s∉R->e1.get s=e.get s)/\∀ (j r:Nat) (p:PV),R[j]? = some r->ps[j]? = some p->e1.get r=p
 |[],os,ps,e,hn,h=>by
  cases os<;>cases ps<;>simp only[zOt] at h<;>try (cases h;done)
  exact⟨e,h,rfl,rfl,by simp,fun _ _=>rfl,by simp⟩
 | r :: R,os,ps,e,hn,h=>by
  cases os<;>cases ps<;>simp only[zOt] at h<;>try (cases h;done)
  rename_i x os y ps;obtain⟨h1,h2⟩:=zAS h;obtain⟨root,_,hm,h3⟩:=zB3 h2;simp only[zAA,ba] at hm;subst hm;obtain⟨hnr,hnR⟩:=cz.1 hn;obtain⟨e1,g1,g2,g3,g4,g5,g6⟩:=zNS hnR h3;refine⟨e1,g1,by simp[g2],by simp[g3],fun j x' y' hx hy=>?_,fun s hs=>?_,fun j r' p hr hp=>?_⟩
  ·cases j with
   |zero=>simp at hx hy;subst hx;subst hy;exact h1|succ j=>exact g4 j x' y' (by simpa using hx) (by simpa using hy)
  ·simp only[bD,not_or] at hs;rw[g5 s hs.2,Env.get_set,if_neg hs.1]
  ·cases j with
   |zero=>
    simp at hr hp;subst hr;subst hp;rw[g5 _ hnr,Env.get_set,if_pos rfl]
   |succ j=>exact g6 j r' p (by simpa using hr) (by simpa using hp)
theorem zOm(k:Nat):∀ (ps:List PV) (i:Nat) (s:Nat),Env.get ((ps.zipIdx i).map fun x=>(k+x.2,x.1)) s=if k+i<=s/\s<k+i+ps.length then ps.getD (s-k-i) .bad else .bad
 |[],i,s=>by simp[Env.get]
 | p :: ps,i,s=>by
  simp only[fX,bO,Env.get,zOm k ps (i+1) s];by_cases h:s=k+i
  ·subst h;simp
  ·have:beq (k+i) s=false:=by
    cases hb:beq (k+i) s with
    |false=>rfl|true=>exact absurd (bd hb).symm h
   rw[this,cond_false];by_cases h2:k+i<=s/\s<k+i+(p::ps).length
   ·have h3:k+(i+1)<=s/\s<k+(i+1)+ps.length:=by simp at h2;omega
    rw[if_pos h2,if_pos h3];have e1:s-k-i=(s-k-(i+1))+1:=by omega
    rw[e1];simp
   ·have h3:¬ (k+(i+1)<=s/\s<k+(i+1)+ps.length):=by simp at h2 ⊢;omega
    rw[if_neg h2,if_neg h3]
theorem zRr(a b:Env)(s:Nat):Env.get (a++b) s=bif a.any (fun x=>beq x.1 s) then Env.get a s else Env.get b s:=by
 induction a with
 |nil=>rfl|cons x a ih=>
  obtain⟨k,v⟩:=x;simp only[iy,Env.get,ih,fD];cases beq k s<;>rfl
end
structure Gave (v:PV) (u:Value) (rv:Nat->Value) (E:Nat->PV):Prop where
 one:(∀ ps,v ≠ .tup ps)->E zAG=v/\rv zAG=u
 many:∀ ps,v = .tup ps->∃ us:Array Value,u = .tuple us/\us.size=ps.length/\∀ (j:Nat) (p:PV),ps[j]? = some p->E (zAG+j)=p/\us[j]? = some (rv (zAG+j))
def Means(P:Program)(f:FuncId)(args hid:List PV)(v:PV)(hX:List PV):Prop :=
 ∀ (w:World) (Φ:Nat->Prop) (rv:Nat->Value) (E:Nat->PV) (L:Nat->LN) (vs:Array Value),(∀ s,s<zAa->E s=(zBe args hid).get s)->(∀ s,zAa<=s->E s = .bad)->Conf w (fun b=>∃ s,b∈L s) Φ w Φ rv E L->vs.size=args.length->(∀ i,i<args.length->vs[i]? = some (rv i))->(∀ s,args.length<=s->s<zAm->rv s=undef) ->
  Calls P f vs w fun e w'=>∃ u Φ' rv' E' L',e = .returned u/\Conf w (fun b=>∃ s,b∈L s) Φ w' Φ' rv' E' L'/\hX.length=hid.length /\
   (∀ j,j<hid.length->E' (zAm+j)=hX.getD j .bad/\rv' (zAm+j)=rv (zAm+j))/\Gave v u rv' E'
def Callable(P:Program)(f:FuncId):Prop:=∃ fn,P.funcs[f]? = some fn/\fn.body.isNone=false
def zGG(P:Program)(o:zAO):Prop:=∀ f args hid v hX,o f args hid=some (v,hX)->Callable P f/\Means P f args hid v hX
theorem zDj {args hid:List PV} (ha:args.length<=zAm) (s:Nat):(zBe args hid).get s=if s<args.length then args.getD s .bad else if zAm<=s/\s<zAm+hid.length then hid.getD (s-zAm) .bad else .bad:=by
  have e1:(args.zipIdx.map fun(p,i)=>(i,p))=(args.zipIdx 0).map fun x=>(0+x.2,x.1):=by
    apply de;intro x _;simp
  have e2:(hid.zipIdx.map fun(p,j)=>(zAm+j,p))=(hid.zipIdx 0).map fun x=>(zAm+x.2,x.1):=rfl;have hany:∀ (ps:List PV) (i:Nat),((ps.zipIdx i).map fun x=>(0+x.2,x.1)).any (fun x=>beq x.1 s)=decide (i<=s/\s<i+ps.length):=by
    intro ps
    induction ps with
    | nil => intro i;have:¬ (i<=s/\s<i):=by omega
             simp[this]
    | cons p ps ih =>
      intro i;simp only[fX,bO,fD,ih (i+1)];by_cases h:s=i
      · subst h;simp
      · have:beq (0+i) s=false:=by
          cases hb:beq (0+i) s with
          |false=>rfl|true=>exact absurd (bd hb) (by omega)
        rw[this,co];apply decide_eq_decide.2;simp;omega
  simp only[zBe];rw[e1,e2,zRr,hany args 0,zOm,zOm];by_cases h:s<args.length
  · have h1:decide (0<=s/\s<0+args.length)=true:=decide_eq_true (by omega);rw[h1,cond_true,if_pos (by omega),if_pos h];simp
  · have h1:decide (0<=s/\s<0+args.length)=false:=decide_eq_false (by omega);rw[h1,cond_false,if_neg h];simp
section
variable {w0 w w':World} {U Φ0 Φ Φ1 Φ' Φ2:Nat->Prop} {rv rv':Nat->Value} {E E':Nat->PV} {L L':Nat->LN}
def zYM(w:World)(rv:Nat->Value)(E:Nat->PV)(Φ1:Nat->Prop)(i:Nat)(x:Arg):Prop :=
 (x.byref=true/\x.p=E (zAa+i))\/(x.byref=false/\x.p=E (zAa+i)/\(E (zAa+i)).ways=[])\/(x.byref=false/\Rep w Φ1 zCm x.p (rv (zAa+i)) [])
def zON(R:LN)(x:Arg):PV:=if x.byref then zGY (zDC R) x.p else x.p
theorem zWz{A A':Al}{p:PV}{v:Value}{M:LN}(hp:p.ways=[])(hA:∀ a v,a.isWay=true->A a v->a.ways≠[])(h:Rep w Φ A p v M):Rep w Φ A' p v M :=
 h.ways _ _ _ fun a v hw hx ha=>by
  rw[hp] at hx;have h1:=hA a v hw ha
  cases vL:a.ways with
  |nil=>exact absurd vL h1|cons z zs=>have:=hx z (by rw[vL];simp);cases this
open Classical in
theorem zRy(C:Conf w0 U Φ0 w Φ rv E L){R:LN}(hR:R.Nodup)(hRl:∀ r∈R,(E r).isLock=false)(wd:∀ r∈R,r<zAa)(hRn:R.length<=1000){as:List Arg}(hAn:as.length<=1000)(hΦ:∀ b,Φ b->Φ1 b)(hΦs:∀ b,Φ1 b->b<w.heap.size)
  (hΦR:∀ r∈R,∀ b∈L r,¬ Φ1 b) (hΦa:∀ i,i<as.length->∀ b∈L (zAa+i),¬ Φ1 b) (hA:∀ i x,as[i]? = some x->zYM w rv E Φ1 i x) :
  ∃ rvc Ec Lc,(∀ s,s<zAa->Ec s=(zBe (as.map (zON R)) (R.map fun r=>zGY (zDC R) (E r))).get s)/\(∀ s,zAa<=s->Ec s = .bad)/\Conf w (fun b=>∃ s,b∈Lc s) Φ1 w Φ1 rvc Ec Lc /\
   (∀ i,i<as.length->rvc i=rv (zAa+i))/\(∀ (j r:Nat),R[j]? = some r->rvc (zAm+j)=rv r)/\(∀ s,as.length<=s->s<zAm->rvc s=undef)/\∀ b,(∃ s,b∈Lc s)->(∃ r∈R,b∈L r)\/∃ i,i<as.length/\b∈L (zAa+i):=by
 let K:Nat->Prop:=fun i=>∃ x,as[i]? = some x/\x.byref=false/\Rep w Φ1 zCm x.p (rv (zAa+i)) []
 let src:Nat->ON:=fun s=>if s<as.length then(if K s then none else some (zAa+s)) else if zAm<=s then R[s-zAm]? else none
 let rvc:Nat->Value:=fun s=>if s<as.length then rv (zAa+s) else match src s with|some t=>rv t|none=>undef
 let Lc:Nat->LN:=fun s=>match src s with|some t=>L t|none=>[]
 let Ec:Nat->PV:=fun s=>if s<zAa then(zBe (as.map (zON R)) (R.map fun r=>zGY (zDC R) (E r))).get s else .bad
 have hh:zAm=50000000:=rfl;have qI:zAa=1000000000:=rfl;have y5:∀ s,s<zAa->Ec s=if s<as.length then(as.map (zON R)).getD s .bad else if zAm<=s/\s<zAm+R.length then(R.map fun r=>zGY (zDC R) (E r)).getD (s-zAm) .bad else .bad:=by
  intro s hs;simp only[Ec,if_pos hs];rw[zDj (by simp;omega)];simp
 have hEh:∀ (j r:Nat),R[j]? = some r->Ec (zAm+j)=(E r).mapW (zEM (zDC R)):=by
  intro j r hj;have jN:j<R.length:=(bg.1 hj).1;rw[y5 _ (by omega),if_neg (by omega),if_pos (by omega)];simp[List.getD,hj,zGY]
 have hrh:∀ (j r:Nat),R[j]? = some r->rvc (zAm+j)=rv r:=by
  intro j r hj;have jN:j<R.length:=(bg.1 hj).1;have:src (zAm+j)=some r:=by
   simp only[src];rw[if_neg (by omega),if_pos (by omega),dT,hj]
  simp only[rvc,this];rw[if_neg (by omega)]
 have LD:∀ s t,src s=some t->(t∈R/\∃ j,s=zAm+j/\R[j]? = some t)\/(s<as.length/\t=zAa+s/\¬ K s):=by
  intro s t h;simp only[src] at h;split at h
  ·rename_i hs;split at h
   ·cases h
   ·rename_i hk;cases h;exact .inr ⟨hs,rfl,hk⟩
  ·split at h
   ·rename_i hs;exact .inl ⟨bK h,s-zAm,by omega,h⟩
   ·cases h
 have LE:∀ s s' t,src s=some t->src s'=some t->s=s':=by
  intro s s' t h h';rcases LD s t h with⟨h1,j,h2,h3⟩|⟨h1,h2,_⟩<;>rcases LD s' t h' with⟨ji,j',ju,wy⟩|⟨ji,ju,_⟩
  ·have hj:j<R.length:=(bg.1 h3).1;have:j=j':=(List.getElem?_inj hj hR).1 (h3.trans wy.symm);omega
  ·have:=wd t h1;omega
  ·have:=wd t ji;omega
  ·omega
 have kS:∀ a v,a.isWay=true->zA9 w rv E a v->Rep w Φ1 (zA9 w rvc Ec) (zEM (zDC R) a) v []:=by
  intro a v _ ha;refine zNM ha fun r h' hl hr=>?_;obtain⟨j,hj,rfl⟩:=zNB hl;have jN:j<R.length:=(bg.1 hj).1;refine⟨by omega,fun pre nv np hn hh=>?_⟩;rw[hrh j r hj,hEh j r hj,zDD (zC0 _)] at hn;exact zCZ (zC0 _) hn hh
 have hS:zDt w w Φ Φ1:=fun b hb=>⟨hΦ b hb,rfl⟩;have hLs:∀ s b,b∈Lc s->∃ t,src s=some t/\b∈L t:=by
  intro s b hb;simp only[Lc] at hb
  cases h:src s with
  |none=>rw[h] at hb;cases hb|some t=>rw[h] at hb;exact⟨t,rfl,hb⟩
 have hU:∀ b,(∃ s,b∈Lc s)->(∃ r∈R,b∈L r)\/∃ i,i<as.length/\b∈L (zAa+i):=by
  rintro b ⟨s,hb⟩;obtain⟨t,h1,h2⟩:=hLs s b hb;rcases LD s t h1 with⟨h3,_⟩|⟨h3,rfl,_⟩
  ·exact .inl ⟨t,h3,h2⟩
  ·exact .inr ⟨s,h3,h2⟩
 have hnΦ:∀ b,(∃ s,b∈Lc s)->¬ Φ1 b:=by
  intro b hb;rcases hU b hb with⟨r,h1,h2⟩|⟨i,h1,h2⟩
  ·exact hΦR r h1 b h2
  ·exact hΦa i h1 b h2
 refine⟨rvc,Ec,Lc,fun s hs=>if_pos hs,fun s hs=>if_neg (by omega),⟨fun s=>?_,fun s=>?_,fun s s' hI b hb yN=>?_,fun s b hb=>?_,fun b hb=>⟨hΦs b hb,.inl hb⟩,fun b hb=>hb,bi _,fun _ _ _=>rfl,rfl,rfl,rfl⟩,fun i hi=>if_pos hi,hrh,fun s h1 h2=>by simp only[rvc,src,if_neg (by omega:¬ s<as.length),if_neg (by omega:¬ zAm<=s)],hU⟩
 ·by_cases hs:s<as.length
  ·have hx:as[s]? = some (as[s]):=bm hs;have hE:Ec s=zON R as[s]:=by rw[y5 s (by omega),if_pos hs];simp[List.getD,hx]
   have hrvs:rvc s=rv (zAa+s):=if_pos hs;rw[hE,hrvs];by_cases hk:K s
   ·have hL:Lc s=[]:=by simp only[Lc,src,if_pos hs,if_pos hk]
    rw[hL];obtain⟨x,h1,h2,h3⟩:=hk;rw[hx] at h1;cases h1;simp only[zON,h2,bq,if_false];exact h3.mono zDt.refl (fun _ _ _ h=>h.elim) (by simp)
   ·have hL:Lc s=L (zAa+s):=by simp only[Lc,src,if_pos hs,if_neg hk]
    rw[hL];rcases hA s _ hx with⟨h1,h2⟩|⟨h1,h2,h3⟩|⟨h1,h2⟩
    ·simp only[zON,h1,if_true,h2];exact Rep.map (zC0 _).agg hS kS _ _ _ (fun _ _=>rfl) (C.rep (zAa+s))
    ·simp only[zON,h1,bq,if_false,h2];exact(zWz h3 (fun a v hw h=>zJJ hw h) (C.rep (zAa+s))).mono (A:=zCm) hS (fun _ _ _ h=>h.elim) (fun _ _=>rfl)
    ·exact absurd ⟨_,hx,h1,h2⟩ hk
  ·by_cases hhs:zAm<=s/\s<zAm+R.length
   ·obtain⟨j,rfl⟩:∃ j,s=zAm+j:=⟨s-zAm,by omega⟩;have jN:j<R.length:=by omega
    obtain⟨r,hj⟩:∃ r,R[j]? = some r:=⟨_,bm jN⟩;have hL:Lc (zAm+j)=L r:=by simp only[Lc,src,if_neg hs,if_pos hhs.1,dT,hj]
    rw[hL,hEh j r hj,hrh j r hj];exact Rep.map (zC0 _).agg hS kS _ _ _ (fun _ _=>rfl) (C.rep r)
   ·have hL:Lc s=[]:=by
     simp only[Lc,src,if_neg hs];by_cases hb:zAm<=s
     ·rw[if_pos hb,cV (by omega)]
     ·rw[if_neg hb]
    have hE:Ec s = .bad:=by
     by_cases hg:s<zAa
     ·rw[y5 s hg,if_neg hs,if_neg hhs]
     ·exact if_neg hg
    rw[hL,hE];rfl
 ·simp only[Lc]
  cases h:src s with
  |none=>exact cj|some t=>exact C.nodup t
 ·obtain⟨t,h1,h2⟩:=hLs s b hb;obtain⟨t',ji,ju⟩:=hLs s' b yN;have:t=t':=cI fun h=>C.disj t t' h b h2 ju;subst this;exact hI (LE s s' t h1 ji)
 ·obtain⟨t,h1,h2⟩:=hLs s b hb;exact⟨(C.own t b h2).1,hnΦ b ⟨s,hb⟩,.inl ⟨s,hb⟩⟩
theorem zND{x y:PV}(h:zGO x y=true)(hx:x.isLock=false)(hh:y.unlock.heavy0=true):y.unlock=y/\zCo x.unlock y:=by
 cases y<;>simp only[PV.unlock,PV.heavy0] at hh<;>try (cases hh;done)
 ·cases x<;>simp only[zGO] at h<;>try (cases h;done)
  exact⟨rfl,(bd h).symm⟩
 ·cases x<;>simp only[zGO] at h<;>try (cases h;done)
  exact⟨rfl,trivial⟩
 ·cases x<;>simp only[zGO] at h<;>try (cases h;done)
  exact⟨rfl,trivial⟩
 ·cases x<;>simp only[zGO] at h<;>cases h
theorem zK4 (C:Conf w0 U Φ0 w Φ rv E L) {R:LN} (hR:R.Nodup) (hRl:∀ r∈R,(E r).isLock=false) (wd:∀ r∈R,r<zAa) (hRn:R.length<=1000) {m:Nat} {Uc:Nat->Prop}
    (hUc:∀ b,Uc b->(∃ r∈R,b∈L r)\/∃ i,i<m/\b∈L (zAa+i)) (C':Conf w Uc Φ1 w' Φ' rv' E' L') (jU:∀ (j r:Nat),R[j]? = some r->rv' (zAm+j)=rv r)
    (yE:∀ (j r:Nat),R[j]? = some r->zGO (E r) (zGY (zCj R) (E' (zAm+j)))=true) {n:Nat} (hn:n<=1000)
    (hΦ2:∀ b,Φ b->Φ2 b) (hΦ2s:∀ b,Φ2 b->b<w'.heap.size/\(Φ0 b\/U b\/w0.heap.size<=b)) (hΦ2o:∀ s,s<zAa->s∉R->∀ b∈L s,¬ Φ2 b) (hΦ2n:∀ t b,b∈L' t->¬ Φ2 b)
    (hT:∀ t,((∃ j,j<R.length/\t=zAm+j)\/∃ j,j<n/\t=zAG+j)->Rep w' Φ2 (zA9 w' rv' E') (E' t) (rv' t) (L' t)) :
    ∃ rv2 E2 L2,Conf w0 U Φ0 w' Φ2 rv2 E2 L2/\(∀ s,s<zAa->rv2 s=rv s)/\(∀ s,s<zAa->s∉R->E2 s=(E s).mapW (zDX R))/\(∀ (j r:Nat),R[j]? = some r->E2 r=zGY (zCj R) (E' (zAm+j))) /\
      (∀ j,j<n->E2 (zAa+j)=zGY (zCj R) (E' (zAG+j))/\rv2 (zAa+j)=rv' (zAG+j))/\∀ s,zAa+n<=s->E2 s = .bad:=by
  have hh:zAm=50000000:=rfl;have ho:zAG=60000000:=rfl;have qI:zAa=1000000000:=rfl
  let cal:Nat->ON:=fun s=>if s<zAa then(match R.findIdx? (· == s) with|some j=>some (zAm+j)|none=>none) else if s<zAa+n then some (zAG+(s-zAa)) else none
  let rv2:Nat->Value:=fun s=>if s<zAa then rv s else match cal s with|some t=>rv' t|none=>undef
  let E2:Nat->PV:=fun s=>match cal s with|some t=>zGY (zCj R) (E' t)|none=>if s<zAa then(E s).mapW (zDX R) else .bad
  let L2:Nat->LN:=fun s=>match cal s with|some t=>L' t|none=>if s<zAa then L s else[]
  have uS:∀ (j r:Nat),R[j]? = some r->cal r=some (zAm+j):=by
    intro j r hj;have hr:=wd r (bK hj);have:R.findIdx? (· == r)=some j:=by
      rw[dj];have jN:j<R.length:=(bg.1 hj).1;have hjr:R[j]=r:=(bg.1 hj).2;refine⟨jN,by simp[hjr],fun k hk=>?_⟩;simp only[beq_iff_eq,ce,beq_eq_false_iff_ne];intro hc;have kd:k<R.length:=by omega
      have h1:R[k]? = R[j]?:=by rw[bm kd,hc,hj]
      have:=(List.getElem?_inj kd hR).1 h1;omega
    simp only[cal,if_pos hr,this]
  have wg:∀ s,s<zAa->s∉R->cal s=none:=by
    intro s hs jI;have:R.findIdx? (· == s)=none:=by
      rw[dw];intro x hx;simp only[beq_eq_false_iff_ne];intro hc;subst hc;exact jI hx
    simp only[cal,if_pos hs,this]
  have yg:∀ s t,cal s=some t->(∃ j,R[j]? = some s/\t=zAm+j/\j<R.length/\s<zAa)\/∃ j,j<n/\s=zAa+j/\t=zAG+j:=by
    intro s t h;by_cases hs:s<zAa
    · by_cases jI:s∈R
      · obtain⟨j,hj⟩:=cq jI;rw[uS j s hj] at h;cases h;exact .inl ⟨j,hj,rfl,(bg.1 hj).1,hs⟩
      · rw[wg s hs jI] at h;cases h
    · simp only[cal,if_neg hs] at h;split at h
      · have h:=Option.some.inj h;exact .inr ⟨s-zAa,by omega,by omega,h.symm⟩
      · cases h
  have LE:∀ s s' t,cal s=some t->cal s'=some t->s=s':=by
    intro s s' t h h';rcases yg s t h with⟨j,h1,h2,h3,_⟩|⟨j,h1,h2,h3⟩<;>rcases yg s' t h' with⟨j',ji,ju,wy,_⟩|⟨j',ji,ju,wy⟩
    · have:j=j':=by omega
      subst this;rw[h1] at ji;simpa using ji
    · omega
    · omega
    · omega
  have y9:∀ s,cal s=none->s<zAa->s∉R:=by
    intro s h hs jI;obtain⟨j,hj⟩:=cq jI;rw[uS j s hj] at h;cases h
  have gN:∀ s,s<zAa->s∉R->∀ b∈L s,¬ Uc b:=by
    intro s hs jI b hb hu;rcases hUc b hu with⟨r,h1,h2⟩|⟨i,h1,h2⟩
    · exact C.disj s r (fun hc=>jI (hc▸h1)) b hb h2
    · exact C.disj s (zAa+i) (by omega) b hb h2
  have y4:∀ s,s<zAa->s∉R->∀ b∈L s,w'.heap[b]? = w.heap[b]?:=fun s hs jI b hb=>C'.kept b (C.own s b hb).1 (gN s hs jI b hb);have hΦsame:zDt w w' Φ Φ2:=fun b hb=>⟨hΦ2 b hb,C'.kept b (C.frz b hb).1 fun hu=>by
    rcases hUc b hu with⟨r,_,h2⟩|⟨i,_,h2⟩
    · exact(C.own r b h2).2.1 hb
    · exact(C.own _ b h2).2.1 hb⟩
  have LF:=zKO R;have hown:∀ a v,a.isWay=true->zA9 w rv E a v->zDX R a=a->zA9 w' rv2 E2 a v:=by
    intro a v hw ha hk;have hr:=zC6 ha;have hy:∀ k,a ≠ .yld k:=fun k hc=>by subst hc;exact ha.elim
    have hl:∀ xs k,a ≠ .log xs k:=fun xs k hc=>by subst hc;exact ha.elim
    by_cases hrR:(zBb a).1∈R
    · have hp:=zKv hw hk hy hl hrR;obtain⟨j,hj⟩:=cq hrR;refine ha.mono fun nv np j4 gB=>?_;rw[hp] at j4 ⊢;simp only[zAZ,ba,bB] at j4;obtain⟨h1,h2⟩:=j4;have hE2:E2 (zBb a).1=zGY (zCj R) (E' (zAm+j)):=by simp only[E2,uS j _ hj]
      rw[hE2] at h2;obtain⟨g1,g2⟩:=zND (yE j _ hj) (hRl _ hrR) (by rw[h2];exact gB);refine⟨(E (zBb a).1).unlock,?_,by rw[<- h2,g1];exact g2⟩;simp only[zAZ,ba,bB,and_true];rw[<- h1];simp only[rv2,if_pos hr]
    · refine zCQ C (zDF LF) ha ?_ ?_ (y4 _ hr hrR)
      · simp only[E2,wg _ hr hrR,if_pos hr]
      · simp only[rv2,if_pos hr]
  have hown':∀ a v,a.isWay=true->zA9 w rv E a v->Rep w' Φ2 (zA9 w' rv2 E2) (zDX R a) v []:=by
    intro a v hw ha;rcases LF a with hk|⟨_,hk⟩
    · rw[hk];exact zC1 hw (hown a v hw ha hk)
    · rw[hk];rfl
  have hback:∀ a v,a.isWay=true->zA9 w' rv' E' a v->Rep w' Φ2 (zA9 w' rv2 E2) (zEM (zCj R) a) v []:=by
    intro a v _ ha;refine zNM ha fun r h' hl hr=>?_;obtain⟨j,hj,rfl⟩:=zOO hl;have jj:=wd h' (bK hj);refine⟨jj,fun pre nv np j4 gB=>?_⟩;have e1:rv2 h'=rv' (zAm+j):=by simp only[rv2,if_pos jj];exact(jU j h' hj).symm
    have e2:E2 h'=(E' (zAm+j)).mapW (zEM (zCj R)):=by simp only[E2,uS j h' hj];rfl
    rw[e1,e2,zDD (zC0 _)] at j4;exact zCZ (zC0 _) j4 gB
  have ub:∀ s b,b∈L2 s->(∃ t,cal s=some t/\b∈L' t)\/(cal s=none/\s<zAa/\b∈L s):=by
    intro s b hb;simp only[L2] at hb
    cases h:cal s with
    |some t=>rw[h] at hb;exact .inl ⟨t,rfl,hb⟩
    | none =>
      rw[h] at hb;by_cases hs:s<zAa
      · simp only[if_pos hs] at hb;exact .inr ⟨rfl,hs,hb⟩
      · simp only[if_neg hs] at hb;cases hb
  have wh:∀ t s b,b∈L' t->s<zAa->s∉R->b∉L s:=by
    intro t s b hb hs jI uG;rcases(C'.own t b hb).2.2 with h1|h1
    · exact gN s hs jI b uG h1
    · have:=(C.own s b uG).1;omega
  refine⟨rv2,E2,L2,⟨fun s=>?_,fun s=>?_,fun s s' hI b hb yN=>?_,fun s b hb=>?_,hΦ2s,fun b hb=>hΦ2 b (C.frz0 b hb),bN C.size C'.size,fun b hb hu=>?_,C'.os.trans C.os,C'.tape.trans C.tape,C'.output.trans C.output⟩,fun s hs=>if_pos hs,fun s hs jI=>?_,fun j r hj=>?_,fun j hj=>?_,fun s hs=>?_⟩
  · cases h:cal s with
    | some t =>
      have e1:E2 s=zGY (zCj R) (E' t):=by simp only[E2,h]
      have e2:L2 s=L' t:=by simp only[L2,h]
      have e3:rv2 s=rv' t:=by
        rcases yg s t h with⟨j,h1,h2,_,h4⟩|⟨j,h1,h2,h3⟩
        · simp only[rv2,if_pos h4];rw[h2];exact(jU j s h1).symm
        · simp only[rv2];rw[if_neg (by omega),h]
      rw[e1,e2,e3];refine Rep.map (zC0 _).agg zDt.refl hback _ _ _ (fun _ _=>rfl) (hT t ?_);rcases yg s t h with⟨j,_,h2,h3,_⟩|⟨j,h1,_,h3⟩
      · exact .inl ⟨j,h3,h2⟩
      · exact .inr ⟨j,h1,h3⟩
    | none =>
      by_cases hs:s<zAa
      · have e1:E2 s=(E s).mapW (zDX R):=by simp only[E2,h,if_pos hs]
        have e2:L2 s=L s:=by simp only[L2,h,if_pos hs]
        have e3:rv2 s=rv s:=if_pos hs;rw[e1,e2,e3];exact Rep.map (zDF LF).agg hΦsame hown' _ _ _ (y4 s hs (y9 s h hs)) (C.rep s)
      · have e1:E2 s = .bad:=by simp only[E2,h,if_neg hs]
        have e2:L2 s=[]:=by simp only[L2,h,if_neg hs]
        rw[e1,e2];rfl
  · simp only [L2]
    cases h:cal s with
    |some t=>exact C'.nodup t
    | none => by_cases hs:s<zAa
              · simp only[if_pos hs];exact C.nodup s
              · simp only[if_neg hs];exact cj
  · rcases ub s b hb with⟨t,h1,h2⟩|⟨h1,h2,h3⟩<;>rcases ub s' b yN with⟨t',ji,ju⟩|⟨ji,ju,wy⟩
    · have:t=t':=cI fun h=>C'.disj t t' h b h2 ju;subst this;exact hI (LE s s' t h1 ji)
    · exact wh t s' b h2 ju (y9 s' ji ju) wy
    · exact wh t' s b ju h2 (y9 s h1 h2) h3
    · exact C.disj s s' hI b h3 wy
  · rcases ub s b hb with⟨t,h1,h2⟩|⟨h1,h2,h3⟩
    · have:=C'.own t b h2;refine⟨this.1,hΦ2n t b h2,?_⟩;rcases this.2.2 with h4|h4
      · rcases hUc b h4 with⟨r,_,h5⟩|⟨i,_,h5⟩
        · exact(C.own r b h5).2.2
        · exact(C.own _ b h5).2.2
      · exact .inr (bN C.size h4)
    · have:=C.own s b h3;exact⟨bL this.1 C'.size,hΦ2o s h2 (y9 s h1 h2) b h3,this.2.2⟩
  · rw[C'.kept b (bL hb C.size) fun h=>?_]
    · exact C.kept b hb hu
    · have hx:∀ t,b∈L t->False:=fun t ht=>by
        rcases(C.own t b ht).2.2 with h1|h1
        · exact hu h1
        · omega
      rcases hUc b h with⟨r,_,h5⟩|⟨i,_,h5⟩
      · exact hx r h5
      · exact hx _ h5
  · simp only[E2,wg s hs jI,if_pos hs]
  · simp only[E2,uS j r hj]
  · have:cal (zAa+j)=some (zAG+j):=by
      simp only[cal];rw[if_neg (by omega),if_pos (by omega),dT]
    refine⟨by simp only[E2,this],?_⟩;simp only[rv2,this];rw[if_neg (by omega)]
  · have:cal s=none:=by simp only[cal];rw[if_neg (by omega),if_neg (by omega)]
    simp only[E2,this];rw[if_neg (by omega)]
end
theorem zEU{w:World}:∀ {pre:zA2} {v nv:Value} {p q:PV},zAZ w v p pre=some (nv,q)->zAF p pre=some q
 |[],v,nv,p,q,h=>by simp only[zAZ,ba,bB] at h;simp[zAF,h.2]
 | (i,c)::rest,v,nv,p,q,h=>by
  rw[zA8] at h;rw[zCe]
  cases hc:Eng.child p i c with
  |none=>rw[hc] at h;cases h|some x=>
   rw[hc] at h;simp only[bc] at h ⊢
   cases hk:kid w v p i c with
   |none=>rw[hk] at h;cases h|some u=>rw[hk] at h;exact zEU h
theorem zRA(R:LN)(p:PV)(hp:p.isWay=true):(zDX R p).isTup=false:=by
 rcases zKO R p with h|⟨_,h⟩
 ·rw[h];cases p<;>first|rfl|cases hp
 ·rw[h];rfl
theorem zRl(m:List (Nat×Nat))(p:PV)(hp:p.isWay=true):(zEM m p).isTup=false:=by
 cases p<;>first|(cases hp;done)|skip
 all_goals
  simp only[zEM]
  first|rfl|(split<;>rfl)
section
variable {P:Program} {w0 w:World} {U Φ0 Φ:Nat->Prop} {nt:Nat} {hv:Hid} {a:Act} {e e':Env} {rv:Nat->Value} {E:Nat->PV} {L:Nat->LN} {o:zAO}
def zO7(w:World)(Φ:Nat->Prop)(rv:Nat->Value)(E:Nat->PV)(i:Nat)(x:Arg):Prop :=
 (∀ y∈x.shared,y.1<zAa)/\((x.byref=true/\x.p=E (zAa+i))\/(x.byref=false/\x.p=E (zAa+i)/\(E (zAa+i)).ways=[]) \/
  (x.byref=false/\∀ Φ1:Nat->Prop,(∀ b,Φ b->Φ1 b)->(∀ y∈x.shared,Cov w Φ rv E Φ1 y)->Rep w Φ1 zCm x.p (rv (zAa+i)) []))
theorem zQI (jB:zGG P o) (S:St w0 U Φ0 nt hv a w e Φ rv E L) {d:ON} (hd:∀ x,d=some x->x<nt) {f:FuncId} {as:List Arg} {vs:Array Value} (yJ:vs.size=as.length) (yq:∀ i,i<as.length->vs[i]? = some (rv (zAa+i)))
  (hA:∀ i x,as[i]? = some x->zO7 w Φ rv E i x) {again:PM} (h:(zR4 d f as again).run o e=some e') :
  again.run o e=some e'\/Callable P f/\Calls P f vs w fun en w''=>∃ u,en = .returned u/\Fr w0 U Φ0 nt hv (a.put d u) w'' e':=by
 have hh:zAm=50000000:=rfl;have ho:zAG=60000000:=rfl;have qI:zAa=1000000000:=rfl;have jl:=S.small;obtain⟨R,h1⟩:=zLh h;obtain⟨hc,h2⟩:=zAS h1;simp only[bb] at hc;obtain⟨⟨⟨⟨jM,jL⟩,uq⟩,hc4⟩,hc5⟩:=hc;have hR:=zGK jM;have wd:∀ r∈R,r<zAa:=fun r hr=>zCb (bj.1 jL r hr);have hRn:=bu uq;have hAn:=bu hc4;obtain⟨hRl',h3⟩:=zKd h2;have hRl:∀ r∈R,(E r).isLock=false:=fun r hr=>by rw[S.env r (wd r hr)];exact hRl' r hr
 have uv:R.map e.get=R.map E:=de fun r hr=>(S.env r (wd r hr)).symm;rw[uv] at h3;simp only[PM.run] at h3
 cases kK:o f (as.map fun a=>if a.byref then zGY (zDC R) a.p else a.p) ((R.map E).map (zGY (zDC R))) with
 |none=>rw[kK] at h3;cases h3
 | some r =>
  obtain⟨v,hX⟩:=r;rw[kK] at h3;simp only at h3
  cases hb:((as.flatMap (·.shared)).isEmpty||v.free&&zDu hX) with
  |false=>rw[hb] at h3;exact .inl h3
  | true =>
   rw[hb] at h3;simp only[cond_true] at h3;refine .inr ⟨(jB f _ _ v hX kK).1,?_⟩
   let sh:=as.flatMap (·.shared)
   let Φ1:Nat->Prop:=fun b=>Φ b\/∃ y∈sh,∃ nv q Li A,zAZ w (rv y.1) (E y.1).unlock y.2=some (nv,q)/\Rep w Φ A q nv Li/\b∈Li
   have jA:∀ y∈sh,y.1∉R:=fun y hy hyR=>by
    have:=bj.1 hc5 y hy;rw[dy.2 hyR] at this;cases this
   have um:∀ (y:Nat×zA2) nv q Li A,zAZ w (rv y.1) (E y.1).unlock y.2=some (nv,q)->Rep w Φ A q nv Li->∀ b∈Li,b∈L y.1:=by
    intro y nv q Li A hf hr b jY;obtain⟨nv',Li',h4,h5,h6⟩:=zBT (zB9 (S.conf.rep y.1)) (zEU hf);rw[hf] at h4;cases h4;have:=Rep.uniq _ _ _ _ hr h6;subst this;exact h5 b jY
   have hshg:∀ y∈sh,y.1<zAa:=by
    intro y hy;obtain⟨x,hx,hyx⟩:=cS.1 hy;obtain⟨i,hi⟩:=cq hx;exact(hA i x hi).1 y hyx
   have hΦ:∀ b,Φ b->Φ1 b:=fun b hb=>.inl hb;have ve:∀ t,(∀ y∈sh,y.1≠t)->∀ b∈L t,¬ Φ1 b:=by
    intro t ht b jd yd;rcases yd with h4|⟨y,hy,nv,q,Li,A,h4,h5,h6⟩
    ·exact(S.conf.own t b jd).2.1 h4
    ·exact S.conf.disj y.1 t (ht y hy) b (um y nv q Li A h4 h5 b h6) jd
   have hΦs:∀ b,Φ1 b->b<w.heap.size:=by
    rintro b (yd|⟨y,hy,nv,q,Li,A,h4,h5,h6⟩)
    ·exact(S.conf.frz b yd).1
    ·exact(S.conf.own _ b (um y nv q Li A h4 h5 b h6)).1
   have hA':∀ i x,as[i]? = some x->zYM w rv E Φ1 i x:=by
    intro i x hx;rcases(hA i x hx).2 with h4|h4|⟨h4,h5⟩
    ·exact .inl h4
    ·exact .inr (.inl h4)
    ·refine .inr (.inr ⟨h4,h5 Φ1 hΦ fun y hy nv q Li A hf hr b jY=>.inr ⟨y,cS.2 ⟨x,bK hx,hy⟩,nv,q,Li,A,hf,hr,jY⟩⟩)
   obtain⟨rvc,Ec,Lc,q1,q2,q3,q4,q5,q5u,q6⟩:=zRy S.conf hR hRl wd hRn hAn hΦ hΦs (fun r hr=>ve r fun y hy hc=>jA y hy (hc▸hr)) (fun i hi=>ve (zAa+i) fun y hy hc=>by have:=hshg y hy;omega) hA';have LG:=(jB f _ _ v hX kK).2 w Φ1 rvc Ec Lc vs (fun s hs=>by rw[q1 s hs,f8];rfl) q2 q3 (by simpa using yJ) (fun i hi=>by
    have gr:i<as.length:=by simpa using hi
    rw[q4 i gr];exact yq i gr) (fun s h1 h2=>q5u s (by simpa using h1) h2)
   refine LG.mono fun en w' wi=>?_;obtain⟨u,Φ',rv',E',L',rfl,C',hZ,uw,vV⟩:=wi;refine⟨u,rfl,?_⟩;obtain⟨e1,g1,g2⟩:=zLo h3;obtain⟨e2,g3,g4,g5,g6,g7,g8⟩:=zNS hR g1;simp only[bf] at g4 hZ uw;have hE'h:∀ (j r:Nat),R[j]? = some r->∃ p,hX[j]? = some p/\E' (zAm+j)=p:=by
    intro j r hj;have jN:j<R.length:=(bg.1 hj).1;have hjh:j<hX.length:=by omega
    refine⟨hX[j],bm hjh,?_⟩;rw[(uw j jN).1];simp[List.getD,bm hjh]
   have jU:∀ (j r:Nat),R[j]? = some r->rv' (zAm+j)=rv r:=fun j r hj=>by
    rw[(uw j (bg.1 hj).1).2,q5 j r hj]
   have yE:∀ (j r:Nat),R[j]? = some r->zGO (E r) (zGY (zCj R) (E' (zAm+j)))=true:=by
    intro j r hj;obtain⟨p,wU,qQ⟩:=hE'h j r hj;rw[qQ];exact g6 j _ _ (by simp[hj]) (by simp[wU])
   have hΦ1sh:sh.isEmpty=true->∀ b,Φ1 b->Φ b:=by
    intro hs b yd;rcases yd with h4|⟨y,hy,_⟩
    ·exact h4
    ·rw[dc.1 hs] at hy;cases hy
   have yt:∀ s,s<zAa->s∉R->∀ b∈L s,¬ (∃ t,b∈Lc t):=by
    intro s hs jI b hb hu;rcases q6 b hu with⟨r,h4,h5⟩|⟨i,h4,h5⟩
    ·exact S.conf.disj s r (fun hc=>jI (hc▸h4)) b hb h5
    ·exact S.conf.disj s (zAa+i) (by omega) b hb h5
   have wj:zDu hX=true->∀ j,j<R.length->(E' (zAm+j)).free=true:=by
    intro hf j hj;rw[(uw j hj).1];have hjh:j<hX.length:=by omega
    have key:∀ (l:List PV),zDu l=true->∀ j,j<l.length->(l.getD j .bad).free=true:=by
     intro l
     induction l with
     |nil=>intro _ j hj;simp at hj|cons x l ih=>
      intro h j hj;simp only[zDu,bb] at h
      cases j with
      |zero=>exact h.1|succ j=>simpa using ih h.2 j (by simpa using hj)
    exact key hX hf j hjh
   have back : ∀ n,n<=1000->(v.free=true->∀ j,j<n->(E' (zAG+j)).free=true) ->
     ∃ Φ2 rv2 E2 L2,Conf w0 U Φ0 w' Φ2 rv2 E2 L2/\(∀ s,s<zAa->rv2 s=rv s)/\(∀ s,s<zAa->s∉R->E2 s=(E s).mapW (zDX R))/\(∀ (j r:Nat),R[j]? = some r->E2 r=zGY (zCj R) (E' (zAm+j))) /\
     (∀ j,j<n->E2 (zAa+j)=zGY (zCj R) (E' (zAG+j))/\rv2 (zAa+j)=rv' (zAG+j))/\∀ s,zAa+n<=s->E2 s = .bad:=by
    intro n hn uk;by_cases jq:sh.isEmpty=true
    ·obtain⟨rv2,E2,L2,hl⟩:=zK4 (Φ2:=Φ') S.conf hR hRl wd hRn q6 C' jU yE hn (fun b yd=>C'.frz0 b (hΦ b yd))
      (fun b yd=>by
       refine⟨(C'.frz b yd).1,?_⟩;rcases(C'.frz b yd).2 with h4|h4|h4
       ·exact(S.conf.frz b (hΦ1sh jq b h4)).2
       ·rcases q6 b h4 with⟨r,_,h5⟩|⟨i,_,h5⟩
        ·exact .inr (S.conf.own r b h5).2.2
        ·exact .inr (S.conf.own _ b h5).2.2
       ·exact .inr (.inr (bN S.conf.size h4)))
      (fun s hs jI b yd hp=>by
       rcases(C'.frz b hp).2 with h4|h4|h4
       ·exact(S.conf.own s b yd).2.1 (hΦ1sh jq b h4)
       ·exact yt s hs jI b yd h4
       ·have:=(S.conf.own s b yd).1;omega)
      (fun t b yd=>(C'.own t b yd).2.1) (fun t _=>C'.rep t)
     exact⟨Φ',rv2,E2,L2,hl⟩
    ·have hvf:v.free=true/\zDu hX=true:=by
      have hse':sh.isEmpty=false:=by simpa using jq
      rw[show(as.flatMap (·.shared)).isEmpty=false from hse'] at hb;simpa using hb
     obtain⟨rv2,E2,L2,hl⟩:=zK4 (Φ2:=Φ) S.conf hR hRl wd hRn q6 C' jU yE hn (fun b yd=>yd)
      (fun b yd=>⟨bL (S.conf.frz b yd).1 C'.size,(S.conf.frz b yd).2⟩)
      (fun s _ _ b yd=>(S.conf.own s b yd).2.1)
      (fun t b yd hp=>(C'.own t b yd).2.1 (C'.frz0 b (hΦ b hp)))
      (fun t ht=>by
       refine Rep.free _ _ _ ?_ (C'.rep t);rcases ht with⟨j,hj,rfl⟩|⟨j,hj,rfl⟩
       ·exact wj hvf.2 j hj
       ·exact uk hvf.1 j hj)
     exact⟨Φ,rv2,E2,L2,hl⟩
   have st:∀ {Φ2:Nat->Prop} {rv2:Nat->Value} {E2:Nat->PV} {L2:Nat->LN},Conf w0 U Φ0 w' Φ2 rv2 E2 L2->(∀ s,s<zAa->rv2 s=rv s)->(∀ s,s<zAa->s∉R->E2 s=(E s).mapW (zDX R)) ->
     (∀ (j r:Nat),R[j]? = some r->E2 r=zGY (zCj R) (E' (zAm+j)))->St w0 U Φ0 nt hv a w' e2 Φ2 rv2 E2 L2:=by
    intro Φ2 rv2 E2 L2 C2 k1 k2 k3;refine S.turn C2 (fun s hs=>?_) k1 (fun d ps hd hp=>?_)
    ·by_cases jI:s∈R
     ·obtain⟨j,hj⟩:=cq jI;obtain⟨p,wU,qQ⟩:=hE'h j s hj;rw[k3 j s hj,g8 j s (zGY (zCj R) p) hj (by simp[wU]),qQ]
     ·rw[k2 s hs jI,g7 s jI,g2 s,S.env s hs]
    ·have vI:d<zAa:=by omega
     by_cases hdR:d∈R
     ·obtain⟨j,hj⟩:=cq hdR;have:=yE j d hj;rw[k3 j d hj] at hp;rw[hp] at this;cases E d<;>cases this
     ·rw[k2 d vI hdR] at hp;exact zEk (zRA R) hp
   cases d with
   | none =>
    obtain⟨Φ2,rv2,E2,L2,C2,k1,k2,k3,k4,k5⟩:=back 0 (by omega) (fun _ j hj=>by omega);have kV:(put none (zGY (zCj R) v)).run o e2=some e':=by
     revert g3;cases zGY (zCj R) v<;>exact fun h=>h
    simp only[put,PM.run,ba] at kV;subst kV;exact⟨Φ2,rv2,E2,L2,st C2 k1 k2 k3,fun g hg=>k5 g hg⟩
   | some d =>
    have u9:=hd d rfl
    cases hvt:v.isTup with
    | false =>
     have uy:∀ ps,v ≠ .tup ps:=fun ps hc=>by rw[hc] at hvt;cases hvt
     obtain⟨o1,o2⟩:=vV.one uy;obtain⟨Φ2,rv2,E2,L2,C2,k1,k2,k3,k4,k5⟩:=back 1 (by omega) (fun hf j hj=>by
      have:j=0:=by omega
      subst this;rw[bR,o1];exact hf)
     obtain⟨m1,m2⟩:=k4 0 (by omega);simp only[bR] at m1 m2;have kV:(put (some d) (zGY (zCj R) v)).run o e2=some e':=by
      have hnt2:∀ ps,zGY (zCj R) v ≠ .tup ps:=fun ps hc=>by
       obtain⟨ps',jy,_⟩:=zEk (zRl _) hc;exact uy ps' jy
      revert g3;simp only[zDy];split
      ·rename_i hc;exact absurd hc (hnt2 _)
      ·exact fun h=>h
     have:=zGf (st C2 k1 k2 k3) hd (g:=zAa) (bi _) (by rw[m1,o1];exact kV) (fun s hs hI=>k5 s (by omega));rw[m2,o2] at this;exact this
    | true =>
     cases uc:v<;>rw[uc] at hvt<;>try (cases hvt;done)
     rename_i ps;subst uc;obtain⟨us,rfl,o2,o3⟩:=vV.many ps rfl;have e1:zGY (zCj R) (.tup ps) = .tup (zCR (zEM (zCj R)) ps):=rfl;rw[e1] at g3;simp only[zDy] at g3;obtain⟨kY,g9⟩:=zAS g3;simp only[bb] at kY;have hl16:=bu kY.1;rw[zC9] at hl16;obtain⟨Φ2,rv2,E2,L2,C2,k1,k2,k3,k4,k5⟩:=back ps.length (by omega) (fun hf j hj=>by
      obtain⟨p,hp⟩:∃ p,ps[j]? = some p:=⟨_,bm hj⟩;rw[(o3 j p hp).1];have key:∀ (l:List PV),zDu l=true->∀ p∈l,p.free=true:=by
       intro l
       induction l with
       |nil=>intro _ p hp;cases hp|cons x l ih=>
        intro h p hp;simp only[zDu,bb] at h;rcases bD.1 hp with rfl|hp
        ·exact h.1
        ·exact ih h.2 p hp
      exact key ps hf p (bK hp))
     simp only[PM.run] at g9;obtain⟨L3,S3⟩:=(st C2 k1 k2 k3).empty u9;have vf:∀ g,zAa<=g->g≠d:=fun g hg=>by omega
     refine zFF u9 (vs:=us) (zCR (zEM (zCj R)) ps) 0 S3 (fun ps hp=>by rw[zAj] at hp;cases hp) (by rw[zC9];omega) (by rw[zC9];omega) (fun j p hp=>?_) (fun g hg hI=>?_) (fun x hx=>?_) (fun j hj=>by omega) g9
     ·rw[zHo] at hp
      cases vq:ps[j]? with
      |none=>rw[vq] at hp;cases hp|some p0=>
       rw[vq] at hp;simp only[bz,ba] at hp;have hj:j<ps.length:=(bg.1 vq).1;obtain⟨m1,m2⟩:=k4 j hj;obtain⟨m3,m4⟩:=o3 j p0 vq;simp only[bR,dh];rw[zAg (vf _ (by omega)),m1,m3,m2];exact⟨hp,m4⟩
     ·rw[zAg (vf g hg)];refine k5 g ?_;refine fx fun yI=>hI (g-zAa) (by rw[zC9];omega) (by omega)
     ·have:=bj.1 kY.2 x hx;simpa using this
end
end Go.Eng
namespace Go.Eng
open Go
theorem zQv(off:Nat):∀ (vs:List Value) (k:Nat) (cells:Array Value),off+k+vs.length<=cells.size ->
  ((vs.zipIdx k).foldl (fun cs x=>cs.setIfInBounds (off+x.2) x.1) cells).toList=cells.toList.take (off+k)++vs++cells.toList.drop (off+k+vs.length)
 |[],k,cells,h=>by simp
 | v :: vs,k,cells,h=>by
  simp only[bE] at h;simp only[fX,bY];rw[zQv off vs (k+1) (cells.setIfInBounds (off+k) v) (by simp;omega)];apply cW;intro m;rw[zC2 (by simp;omega),zC2 (by simp;omega)];simp only[Array.toList_setIfInBounds,d9,bE,fH];by_cases h1:m<off+k
  ·have:¬ off+k=m:=by omega
   rw[if_pos (by omega),if_pos h1,if_neg this]
  ·by_cases h2:m=off+k
   ·subst h2;have h5:off+k<off+(k+1):=by omega
    have h6:off+k<cells.size:=by omega
    have h7:off+k<off+k+(vs.length+1):=by omega
    simp[h5,h6,h7]
   ·have h3:¬ off+k=m:=by omega
    by_cases h4:m<off+k+(vs.length+1)
    ·rw[if_neg (by omega),if_pos (by omega),if_neg h1,if_pos h4];rw[show m-(off+k)=(m-(off+(k+1)))+1 by omega];simp
    ·rw[if_neg (by omega),if_neg (by omega),if_neg h1,if_neg h4,if_neg h3]
theorem zPw(off:Nat)(v:Value)(cells:Array Value)(h:off+v.cells.size<=cells.size):v.cells.zipIdx.foldl (fun cs (c,j)=>cs.setIfInBounds (off+j) c) cells=zBk cells off v.cells.toList:=by
 apply ia;rw[<- Array.foldl_toList,Array.toList_zipIdx];have:=zQv off v.cells.toList 0 cells (by simpa using h);simpa[zBk] using this
section
variable {P:Program} {w0 w:World} {U Φ0 Φ:Nat->Prop} {nt:Nat} {hv:Hid} {a:Act} {e e':Env} {rv:Nat->Value} {E:Nat->PV} {L:Nat->LN} {o:zAO} {A:Al}
theorem zPr:∀ (xs:List Operand) (i:Nat) {k:List PV->PM} {e:Env} {rv:Nat->Value} {E:Nat->PV} {L:Nat->LN},St w0 U Φ0 nt hv a w e Φ rv E L->(∀ x∈xs,zAW nt x=true)->(zVT xs k).run o e=some e' ->
  ∃ e1 rv1 E1 L1 ps,(k ps).run o e1=some e'/\St w0 U Φ0 nt hv a w e1 Φ rv1 E1 L1/\ps.length=xs.length/\(∀ (j:Nat) (p:PV) (x:Operand),ps[j]? = some p->xs[j]? = some x->E1 (zAa+i+j)=p/\rv1 (zAa+i+j)=a.eval x) /\
   ∀ s,zAa<=s->(s<zAa+i\/zAa+i+xs.length<=s)->E1 s=E s/\rv1 s=rv s
 |[],i,k,e,rv,E,L,S,hx,h=>⟨e,rv,E,L,[],h,S,rfl,by simp,fun _ _ _=>⟨rfl,rfl⟩⟩
 | x :: xs,i,k,e,rv,E,L,S,hx,h=>by
  simp only[zVT] at h;obtain⟨e1,rv1,E1,L1,h1,S1,h2,h3⟩:=zGg S (hx x (by simp)) (g:=zAa+i) (by omega) h;obtain⟨e2,rv2,E2,L2,ps,h4,S2,h5,h6,h7⟩:=zPr xs (i+1) S1 (fun y hy=>hx y (by simp[hy])) h1;refine⟨e2,rv2,E2,L2,E1 (zAa+i)::ps,h4,S2,by simp[h5],fun j p y hp hy=>?_,fun s hs kL=>?_⟩
  ·cases j with
   |zero=>
    simp at hp hy;subst hp;subst hy;obtain⟨k1,k2⟩:=h7 (zAa+i) (by omega) (.inl (by omega));simp only[bR];rw[k1,k2];exact⟨rfl,h2⟩
   |succ j=>
    have:=h6 j p y (by simpa using hp) (by simpa using hy);rwa[show zAa+i+(j+1)=zAa+(i+1)+j by omega]
  ·obtain⟨k1,k2⟩:=h7 s hs (by simp at kL;omega);obtain⟨k3,k4,_⟩:=h3 s hs (by simp at kL;omega);exact⟨k1.trans k3,k2.trans k4⟩
theorem zXo(S:St w0 U Φ0 nt hv a w e Φ rv E L){nz:ON}{x:Operand}(hx:zAW nt x=true){g:Nat}(hg:zAa<=g){k:PV->PM}(h:(zZa nz x k).run o e=some e') :
  ∃ e1 rv1 E1 L1,(k (E1 g)).run o e1=some e'/\St w0 U Φ0 nt hv a w e1 Φ rv1 E1 L1/\rv1 g=a.eval x/\zYw g rv rv1 E E1 L L1:=by
 unfold zZa at h;split at h
 ·rename_i s;have hr:Rep w Φ (zA9 w rv E) (.own s []) (a.eval (.const (.slice none 0 0))) [] := .inl ⟨rfl,rfl,rfl⟩;refine⟨e,_,_,_,?_,S.hold hg hr,zAj,fun s _ hI=>⟨zAg hI,zAg hI,zAg hI⟩⟩;rw[zAj];exact h
 ·exact zGg S hx hg h
theorem zQy{nz:ON}:∀ (xs:List Operand) (i:Nat) {k:List PV->PM} {e:Env} {rv:Nat->Value} {E:Nat->PV} {L:Nat->LN},St w0 U Φ0 nt hv a w e Φ rv E L->(∀ x∈xs,zAW nt x=true)->(zQS nz xs k).run o e=some e' ->
  ∃ e1 rv1 E1 L1 ps,(k ps).run o e1=some e'/\St w0 U Φ0 nt hv a w e1 Φ rv1 E1 L1/\ps.length=xs.length/\(∀ (j:Nat) (p:PV) (x:Operand),ps[j]? = some p->xs[j]? = some x->E1 (zAa+i+j)=p/\rv1 (zAa+i+j)=a.eval x) /\
   ∀ s,zAa<=s->(s<zAa+i\/zAa+i+xs.length<=s)->E1 s=E s/\rv1 s=rv s
 |[],i,k,e,rv,E,L,S,hx,h=>⟨e,rv,E,L,[],h,S,rfl,by simp,fun _ _ _=>⟨rfl,rfl⟩⟩
 | x :: xs,i,k,e,rv,E,L,S,hx,h=>by
  simp only[zQS] at h;obtain⟨e1,rv1,E1,L1,h1,S1,h2,h3⟩:=zXo S (hx x (by simp)) (g:=zAa+i) (by omega) h;obtain⟨e2,rv2,E2,L2,ps,h4,S2,h5,h6,h7⟩:=zQy xs (i+1) S1 (fun y hy=>hx y (by simp[hy])) h1;refine⟨e2,rv2,E2,L2,E1 (zAa+i)::ps,h4,S2,by simp[h5],fun j p y hp hy=>?_,fun s hs kL=>?_⟩
  ·cases j with
   |zero=>
    simp at hp hy;subst hp;subst hy;obtain⟨k1,k2⟩:=h7 (zAa+i) (by omega) (.inl (by omega));simp only[bR];rw[k1,k2];exact⟨rfl,h2⟩
   |succ j=>
    have:=h6 j p y (by simpa using hp) (by simpa using hy);rwa[show zAa+i+(j+1)=zAa+(i+1)+j by omega]
  ·obtain⟨k1,k2⟩:=h7 s hs (by simp at kL;omega);obtain⟨k3,k4,_⟩:=h3 s hs (by simp at kL;omega);exact⟨k1.trans k3,k2.trans k4⟩
theorem zKJ(hA:∀ a v,a.isWay=true->A a v->v.oneCell'=true){p:PV}{v:Value}{M:LN}(h:Rep w Φ A p v M)(hw:p.whole=true):zCr v=p.isAgg/\v.cells.size=p.cells.length:=by
 simp only[PV.whole,bS] at hw;have ha:zCr v=p.isAgg:=by
  rcases hw with hw|hw
  ·cases p<;>simp[PV.isAgg] at hw;obtain⟨vs,rfl,_⟩:=h;rfl
  ·rw[(zBP (zCg hA h hw)).2,(zBo hw).2]
 have:=(h.cellsAll ha).length;exact⟨ha,by simpa using this⟩
theorem zSp(C:Conf w0 U Φ0 w Φ rv E L){place place':Nat->Option (Nat×Nat)}(ud:∀ i x,place i=some x->place' i=some x):∀ (ps:List (Nat×PV)) (vs:List (Nat×Value)) (k:Nat) (z cs:List PV) (zc:Array Value) (Lz:LN),
  zF8 place z ps=some cs->vs.length=ps.length->(∀ (j:Nat) (x:Nat×PV) (y:Nat×Value),ps[j]? = some x->vs[j]? = some y->x.1=y.1/\E (zAa+k+j)=x.2/\rv (zAa+k+j)=y.2) ->
  zA5 w Φ (zA9 w rv E) z zc.toList Lz->Lz.Nodup->(∀ b∈Lz,∃ t,zAa<=t/\t<zAa+k/\b∈L t) ->
  ∃ cells Lc,Instr.fill place' zc vs=some cells/\zA5 w Φ (zA9 w rv E) cs cells.toList Lc/\Lc.Nodup/\∀ b∈Lc,∃ t,zAa<=t/\t<zAa+k+ps.length/\b∈L t
 |[],vs,k,z,cs,zc,Lz,h,hl,_,hr,hn,hm=>by
  have:vs=[]:=br (by simpa using hl);subst this;simp only[zF8,ba] at h;subst h;exact⟨zc,Lz,rfl,hr,hn,by simpa using hm⟩
 | (i, p) :: ps,vs,k,z,cs,zc,Lz,h,hl,hj,hr,hn,hm=>by
  match vs,hl,hj with
  | (i', v) :: vs,hl,hj =>
   obtain⟨h1,h2,h3⟩:=hj 0 (i,p) (i',v) rfl rfl;simp only[bR] at h1 h2 h3;subst h1;simp only[zF8] at h
   cases hp:place i with
   |none=>rw[hp] at h;cases h
   | some x =>
    obtain⟨off,n⟩:=x;rw[hp] at h;simp only at h;split at h
    ·rename_i hc;obtain⟨c1,c2,c3⟩:=hc;have yA:=C.rep (zAa+k);rw[h2,h3] at yA;obtain⟨q1,q2⟩:=zKJ (fun a v hw h=>zDc hw h) yA c3;have kz:zc.size=z.length:=by have:=hr.length;simpa using this
     obtain⟨L1,L2,L3,hL,hk⟩:=hr.replace off n;subst hL;have j8:=hk (w':=w) (Φ':=Φ) (A':=zA9 w rv E) (fun _ _ _ h=>h) zDt.refl (fun _ _=>rfl) (yA.cellsAll q1);have kU:v.cells.toList.length=n:=by simp;omega
     have ye:(zBk zc off v.cells.toList).toList=zc.toList.take off++v.cells.toList++zc.toList.drop (off+n):=by
      simp only[zBk];rw[kU]
     simp only[bW] at hn;have uT:∀ b∈L (zAa+k),b∉L1++L2++L3:=by
      intro b hb jR;obtain⟨t,k1,k2,k3⟩:=hm b jR;exact C.disj t (zAa+k) (by omega) b k3 hb
     obtain⟨cells,Lc,g1,g2,g3,g4⟩:=zSp C ud ps vs (k+1) _ cs (zBk zc off v.cells.toList) (L1++L (zAa+k)++L3) h (by simpa using hl) (fun j x y hx hy=>by
      rw[show zAa+(k+1)+j=zAa+k+(j+1) by omega];exact hj (j+1) x y (by simpa using hx) (by simpa using hy)) (by rw[ye];exact j8)
      (by
       simp only[bW];refine⟨⟨hn.1.1,C.nodup _,fun x hx y hy e=>uT y hy (by rw[<- e];simp[hx])⟩,hn.2.1,fun x hx y hy e=>?_⟩;rcases bk.1 hx with hx|hx
       ·exact hn.2.2 x (by simp[hx]) y hy e
       ·exact uT x hx (by rw[e];simp[hy]))
      (fun b hb=>by
       simp only[bk] at hb;rcases hb with(hb|hb)|hb
       ·obtain⟨t,k1,k2,k3⟩:=hm b (by simp[hb]);exact⟨t,k1,by omega,k3⟩
       ·exact⟨zAa+k,by omega,by omega,hb⟩
       ·obtain⟨t,k1,k2,k3⟩:=hm b (by simp[hb]);exact⟨t,k1,by omega,k3⟩)
     refine⟨cells,Lc,?_,g2,g3,fun b hb=>?_⟩
     ·simp only[Instr.fill,ud i _ hp];rw[if_neg (by simp;omega),zPw off v zc (by omega)];exact g1
     ·obtain⟨t,k1,k2,k3⟩:=g4 b hb;exact⟨t,k1,by simp;omega,k3⟩
    ·cases h
theorem St.madeN(S:St w0 U Φ0 nt hv a w e Φ rv E L)(N:Nat)(hb:∀ s,zAa+N<=s->E s = .bad){d:ON}(hd:∀ x,d=some x->x<nt){w':World}{p:PV}{v:Value}{Lp:LN}(hr:∀ A:Al,(∀ a u,a.isWay=true->zA9 w rv E a u->A a u)->Rep w' Φ A p v Lp)(u9:Lp.Nodup)
  (ho:∀ b∈Lp,(∃ t,zAa<=t/\t<zAa+N/\b∈L t)\/(w.heap.size<=b/\b<w'.heap.size)) (hw:w.heap.size<=w'.heap.size)
  (hk:∀ b,b<w.heap.size->(∀ t,zAa<=t->t<zAa+N->b∉L t)->w'.heap[b]? = w.heap[b]?) (u4:w'.os=w.os/\w'.tape=w.tape/\w'.output=w.output) (h:(put d p).run o e=some e') :
  Fr w0 U Φ0 nt hv (a.put d v) w' e':=by
 have hG:∀ s,decide (zAa<=s/\s<zAa+N)=true↔zAa<=s/\s<zAa+N:=fun s=>decide_eq_true_iff
 have hc:=S.conf.make (w':=w') (fun s=>decide (zAa<=s/\s<zAa+N)) (fun s hs=>((hG s).1 hs).1) (g:=zAa+N) (by omega) (fun A hA=>hr A hA) u9
  (fun b hb=>(ho b hb).imp (fun⟨t,h1,h2,h3⟩=>⟨t,h3,(hG t).2 ⟨h1,h2⟩⟩) id) hw
  (fun b hb hn=>hk b hb fun t h1 h2 h3=>by have:=hn t h3;rw[(hG t).2 ⟨h1,h2⟩] at this;cases this) u4
 have S1:=S.turn (e':=e) hc (fun s hs=>by
  rw[zAg (by omega)];have:decide (zAa<=s/\s<zAa+N)=false:=decide_eq_false (by omega);simp only[this,bq,if_false];exact S.env s hs) (fun s hs=>zAg (by omega)) (fun d ps hd hp=>by
  rw[zAg (by simp only[zAa];omega)] at hp;have:decide (zAa<=d/\d<zAa+N)=false:=decide_eq_false (by simp only[zAa];omega);simp only[this,bq,if_false] at hp;exact⟨ps,hp,rfl⟩)
 have:=zGf S1 hd (g:=zAa+N) (by omega) (by rw[zAj];exact h) (fun s hs hI=>by
  rw[zAg hI];by_cases h3:s<zAa+N
  ·have:decide (zAa<=s/\s<zAa+N)=true:=(hG s).2 ⟨hs,h3⟩;simp[this]
  ·have:decide (zAa<=s/\s<zAa+N)=false:=decide_eq_false (by omega);simp only[this,bq,if_false];exact hb s (by omega))
 rwa[zAj] at this
theorem zPP(S:St w0 U Φ0 nt hv a w e Φ rv E L)(hb:zBv E){d:ON}(hd:∀ x,d=some x->x<nt){place place':Nat->Option (Nat×Nat)}(ud:∀ i x,place i=some x->place' i=some x){t:TypeId}{z:PV}(hz:zCM P t=some z){ps:List (Nat×Operand)}(yj:∀ x∈ps,zAW nt x.2=true)
  (h:(zPJ place z.cells ps fun cs=>put d (.agg cs)).run o e=some e'):∃ v cells,(∀ w:World,(zeroValue t).run P w = .ok v w)/\Instr.fill place' v.cells (ps.map fun x=>(x.1,a.eval x.2))=some cells/\Fr w0 U Φ0 nt hv (a.put d (.agg cells)) w e':=by
 obtain⟨i,zv,hi,hzv,yC,km⟩:=zDT hz;simp only[zPJ] at h;obtain⟨e1,rv1,E1,L1,vs,h1,S1,h2,h3,h4⟩:=zPr (ps.map (·.2)) 0 S (fun x hx=>by
  obtain⟨y,hy,rfl⟩:=bQ.1 hx;exact yj y hy) h
 simp only[bf] at h2 h4;split at h1
 ·rename_i cs hf;obtain⟨hr,vj,uH,_⟩:=zCn (w:=w) (Φ:=Φ) (A:=zA9 w rv1 E1) km;obtain⟨cells,Lc,g1,g2,g3,g4⟩:=zSp S1.conf ud ((ps.map (·.1)).zip vs) (ps.map fun x=>(x.1,a.eval x.2)) 0 z.cells cs zv.cells [] hf (by simp[h2]) (fun j x y hx hy=>by
   obtain⟨j7,jX⟩:=fJ.1 hx;rw[cC] at j7 hy
   cases vq:ps[j]? with
   |none=>rw[vq] at hy;cases hy|some q=>
    rw[vq] at j7 hy;simp only[bz,ba] at j7 hy;obtain⟨k1,k2⟩:=h3 j x.2 q.2 jX (by rw[cC,vq];rfl);exact⟨by rw[<- j7,<- hy],k1,by rw[k2,<- hy]⟩) (hr.cellsAll uH) cj (by simp)
  refine⟨zv,cells,yC,g1,S1.madeN ps.length (fun s hs=>?_) hd (p := .agg cs) (v := .agg cells) (w':=w) (Lp:=Lc) (fun A hA=>⟨cells,rfl,g2.mono zDt.refl hA (fun _ _=>rfl)⟩) g3 (fun b hb=>.inl ?_) (bi _) (fun _ _ _=>rfl) ⟨rfl,rfl,rfl⟩ h1⟩
  ·rw[(h4 s (by omega) (.inr (by omega))).1];exact hb s (by omega)
  ·obtain⟨t,k1,k2,k3⟩:=g4 b hb;have hl:((ps.map (·.1)).zip vs).length=ps.length:=by simp[h2]
   exact⟨t,k1,by omega,k3⟩
 ·cases h1
theorem zT4{α β:Type}{f:α->Sem β}{g:α->β}(l:List α)(h:∀ x∈l,∀ w:World,(f x).run P w = .ok (g x) w)(w:World):(l.mapM f).run P w = .ok (l.map g) w:=by
 induction l with
 |nil=>rfl|cons x l ih=>simp only[io,bo,h x (by simp),bh,ih (fun y hy=>h y (by simp[hy])),bA,bO]
theorem zUS(S:St w0 U Φ0 nt hv a w e Φ rv E L)(hb:zBv E){d:ON}(hd:∀ x,d=some x->x<nt){t:TypeId}{ps:Array (Nat×Operand)}(yj:∀ x∈ps.toList,zAW nt x.2=true)(h:(zOP P d t ps.toList).run o e=some e') :
  ∃ v,(Instr.build t (ps.map fun x=>(x.1,a.eval x.2))).run P w = .ok v w/\Fr w0 U Φ0 nt hv (a.put d v) w e':=by
 have uv:(ps.map fun x=>(x.1,a.eval x.2)).toList=ps.toList.map fun x=>(x.1,a.eval x.2):=by simp
 simp only[zOP] at h;split at h
 ·rename_i fs z ht hz;obtain⟨vh,h1⟩:=zAS h;simp only[bl] at hz;obtain⟨zp,hz,rfl⟩:=hz
  let sz:Field->Nat:=fun f=>(szT P f.type).getD 0
  have wa:∀ f∈fs.toList,∀ w:World,(sizeOf f.type).run P w = .ok (sz f) w:=by
   intro f hf w;rw[<- Array.all_toList] at vh;have:=bj.1 vh f hf;obtain⟨n,hn⟩:=fd.1 this;obtain⟨i,hi,qH⟩:=zCu hn;simp only[sz,hn,dn];rw[zA4 hi,qH]
  obtain⟨zv,cells,k1,k2,k3⟩:=zPP (P:=P) S hb hd (place':=fun i=>(fs.map fun f=>(f.offset,sz f))[i]?) (fun i x hx=>by
   cases wJ:fs[i]? with
   |none=>rw[wJ] at hx;cases hx
   | some f =>
    rw[wJ] at hx;simp only[bc] at hx
    cases hs:szT P f.type with
    |none=>rw[hs] at hx;cases hx|some n=>
     rw[hs] at hx;simp only[bz,ba] at hx;subst hx;simp[wJ,sz,hs]) hz yj h1
  refine⟨.agg cells,?_,k3⟩;have hm:∀ w:World,(fs.mapM fun f=>(do pure (f.offset,<- sizeOf f.type):Sem (Nat×Nat))).run P w = .ok (fs.map fun f=>(f.offset,sz f)) w:=by
   intro w;have:=zT4 (P:=P) (f:=fun f=>(do pure (f.offset,<- sizeOf f.type):Sem (Nat×Nat))) (g:=fun f=>(f.offset,sz f)) fs.toList (fun f hf w=>by
    simp only[bo,wa f hf w,bh,bA]) w
   rw[iv];simp only[Sem.run_map,this,bh];rw[<- iB,Array.toArray_toList]
  simp only[Instr.build,bo,k1,bh,run_underlying ht,hm];rw[uv,k2];rfl
 ·rename_i len el z ht hz;obtain⟨n,hn,h1⟩:=zBM h;simp only[bl] at hz;obtain⟨zp,hz,rfl⟩:=hz;obtain⟨i,hi,qH⟩:=zCu hn;obtain⟨zv,cells,k1,k2,k3⟩:=zPP (P:=P) S hb hd (place':=fun i=>some (i*n,n)) (fun i x hx=>hx) hz yj h1;refine⟨.agg cells,?_,k3⟩;simp only[Instr.build,bo,k1,bh,run_underlying ht,zA4 hi,qH];rw[uv,k2];rfl
 ·cases h
theorem zLt{tk:Bool}:∀ (ps:List PV) (i:Nat) {k:List PV->PM} {e:Env} {Φ:Nat->Prop} {rv:Nat->Value} {E:Nat->PV} {L:Nat->LN},St w0 U Φ0 nt hv a w e Φ rv E L->(∀ (j:Nat) (p:PV),ps[j]? = some p->E (zAa+i+j)=p)->(zGv tk ps k).run o e=some e' ->
  ∃ e1 Φ1 rv1 E1 L1 qs,(k qs).run o e1=some e'/\St w0 U Φ0 nt hv a w e1 Φ1 rv1 E1 L1/\qs.length=ps.length/\(∀ (j:Nat) (q:PV),qs[j]? = some q->E1 (zAa+i+j)=q/\rv1 (zAa+i+j)=rv (zAa+i+j)) /\
   ∀ s,zAa<=s->(s<zAa+i\/zAa+i+ps.length<=s)->E1 s=E s/\rv1 s=rv s
 |[],i,k,e,Φ,rv,E,L,S,hp,h=>⟨e,Φ,rv,E,L,[],h,S,rfl,by simp,fun _ _ _=>⟨rfl,rfl⟩⟩
 | p :: ps,i,k,e,Φ,rv,E,L,S,hp,h=>by
  simp only[zGv] at h;have hE:=hp 0 p rfl;simp only[bR] at hE;rw[<- hE] at h;obtain⟨e1,rv1,E1,h1,W⟩:=zNo S (g:=zAa+i) (by omega) h;obtain⟨Φ1,L1,S1⟩:=W.st;obtain⟨e2,Φ2,rv2,E2,L2,qs,h2,S2,h3,h4,h5⟩:=zLt ps (i+1) S1 (fun j q hq=>by
   rw[(W.rest _ (by omega) (by omega)).1,show zAa+(i+1)+j=zAa+i+(j+1) by omega];exact hp (j+1) q (by simpa using hq)) h1
  refine⟨e2,Φ2,rv2,E2,L2,E1 (zAa+i)::qs,h2,S2,by simp[h3],fun j q hq=>?_,fun s hs kL=>?_⟩
  ·cases j with
   |zero=>
    simp at hq;subst hq;obtain⟨k1,k2⟩:=h5 (zAa+i) (by omega) (.inl (by omega));simp only[bR];exact⟨k1,k2.trans W.val⟩
   |succ j=>
    obtain⟨k1,k2⟩:=h4 j q (by simpa using hq);rw[show zAa+(i+1)+j=zAa+i+(j+1) by omega] at k1 k2;exact⟨k1,k2.trans (W.rest _ (by omega) (by omega)).2⟩
  ·obtain⟨k1,k2⟩:=h5 s hs (by simp at kL;omega);obtain⟨k3,k4⟩:=W.rest s hs (by simp at kL;omega);exact⟨k1.trans k3,k2.trans k4⟩
theorem zQa(C:Conf w0 U Φ0 w Φ rv E L){s n:Nat}:∀ (ps:List (Nat×PV)) (vs:List (Nat×Value)) (k:Nat) (xs:List PV) (us:List Value) (cells:Array Value) (Lx:LN),vs.length=ps.length ->
  (∀ (j:Nat) (x:Nat×PV) (y:Nat×Value),ps[j]? = some x->vs[j]? = some y->x.1=y.1/\x.1<n/\E (zAa+k+j)=x.2/\rv (zAa+k+j)=y.2/\x.2.ways=[]/\x.2.whole=true/\x.2.cells.length=s) ->
  xs.length=n->us.length=n->cells.toList=flat us->(∀ x∈xs,x.cells.length=s)->(∀ u∈us,u.cells.size=s)->us.map zCr=xs.map PV.isAgg->zA5 w Φ zCm xs us Lx->Lx.Nodup->(∀ b∈Lx,∃ t,zAa<=t/\t<zAa+k/\b∈L t) ->
  ∃ cells' us' Lc,Instr.fill (fun i=>some (i*s,s)) cells vs=some cells'/\cells'.toList=flat us'/\us'.length=n/\(∀ u∈us',u.cells.size=s)/\(∀ x∈ps.foldl (fun xs (i,v)=>xs.set i v) xs,x.cells.length=s)/\us'.map zCr=(ps.foldl (fun xs (i,v)=>xs.set i v) xs).map PV.isAgg /\
   zA5 w Φ zCm (ps.foldl (fun xs (i,v)=>xs.set i v) xs) us' Lc/\Lc.Nodup/\∀ b∈Lc,∃ t,zAa<=t/\t<zAa+k+ps.length/\b∈L t
 |[],vs,k,xs,us,cells,Lx,hl,_,h1,h2,h3,h4,h5,h6,h7,h8,h9=>by
  have:vs=[]:=br (by simpa using hl);subst this;exact⟨cells,us,Lx,rfl,h3,h2,h5,h4,h6,h7,h8,by simpa using h9⟩
 | (i, p)::ps,vs,k,xs,us,cells,Lx,hl,hj,h1,h2,h3,h4,h5,h6,h7,h8,h9=>by
  match vs,hl,hj with
  | (i',v)::vs,hl,hj =>
   obtain⟨q1,q2,q3,q4,q5,q6,q7⟩:=hj 0 (i,p) (i',v) rfl rfl;simp only[bR] at q1 q2 q3 q4 q5 q6 q7;subst q1;have yA:=C.rep (zAa+k);rw[q3,q4] at yA;obtain⟨w1,w2⟩:=zKJ (fun a v hw h=>zDc hw h) yA q6;have yq:v.cells.size=s:=by omega
   have hrep0:Rep w Φ zCm p v (L (zAa+k)):=zWz q5 (fun a v hw h=>zJJ hw h) yA;obtain⟨L1,L2,L3,hL,hk⟩:=h7.replace i 1;subst hL;have j8:=hk (w':=w) (Φ':=Φ) (A':=zCm) (fun _ _ _ h=>h) zDt.refl (fun _ _=>rfl) (show zA5 w Φ zCm [p] [v] (L (zAa+k)) from⟨v,[],_,[],rfl,by simp,hrep0,rfl,rfl⟩);rw[<- zE1 (by omega),<- zE1 (by omega)] at j8;have hci:cells.size=n*s:=by
    have:=congrArg length h3;rw[zBw h5,h2] at this;simpa using this
   have qY:i*s+s<=n*s:=by rw[<- cY];exact cZ _ q2
   have ua:(zBk cells (i*s) v.cells.toList).toList=flat (us.set i v):=by
    simp only[zBk];rw[h3,zE1 (by omega:i<us.length),zC5,zC5,show(v.cells.toList).length=s by simpa using yq,zJo h5];have:i*s+s=(i+1)*s:=by rw[cY]
    rw[this,zKb h5];simp[flat]
   simp only[bW] at h8;have uT:∀ b∈L (zAa+k),b∉L1++L2++L3:=by
    intro b hb jR;obtain⟨t,k1,k2,k3⟩:=h9 b jR;exact C.disj t (zAa+k) (by omega) b k3 hb
   have yz:(us.set i v).map zCr=(xs.set i p).map PV.isAgg:=by
    apply cW;intro m;have hm:=congrArg (·[m]?) h6;simp only[cC,d9] at hm ⊢;by_cases hmi:i=m
    ·subst hmi;have e1:i<us.length:=by omega
     have e2:i<xs.length:=by omega
     simp[e1,e2,w1]
    ·simp only[hmi,if_false];exact hm
   obtain⟨cells',us',Lc,g1,g2,g3,g4,g5,g6,g7,g8,g9⟩:=zQa C ps vs (k+1) (xs.set i p) (us.set i v) (zBk cells (i*s) v.cells.toList) (L1++L (zAa+k)++L3) (by simpa using hl) (fun j x y hx hy=>by
    rw[show zAa+(k+1)+j=zAa+k+(j+1) by omega];exact hj (j+1) x y (by simpa using hx) (by simpa using hy)) (by simpa using h1) (by simpa using h2) ua
    (fun x hx=>(dK hx).elim (h4 x) (fun h=>h▸q7)) (fun u hu=>(dK hu).elim (h5 u) (fun h=>h▸yq)) yz j8
    (by
     simp only[bW];refine⟨⟨h8.1.1,C.nodup _,fun x hx y hy e=>uT y hy (by rw[<- e];simp[hx])⟩,h8.2.1,fun x hx y hy e=>?_⟩;rcases bk.1 hx with hx|hx
     ·exact h8.2.2 x (by simp[hx]) y hy e
     ·exact uT x hx (by rw[e];simp[hy]))
    (fun b hb=>by
     simp only[bk] at hb;rcases hb with(hb|hb)|hb
     ·obtain⟨t,k1,k2,k3⟩:=h9 b (by simp[hb]);exact⟨t,k1,by omega,k3⟩
     ·exact⟨zAa+k,by omega,by omega,hb⟩
     ·obtain⟨t,k1,k2,k3⟩:=h9 b (by simp[hb]);exact⟨t,k1,by omega,k3⟩)
   refine⟨cells',us',Lc,?_,g2,g3,g4,g5,g6,g7,g8,fun b hb=>?_⟩
   ·simp only[Instr.fill];rw[if_neg (by simp;omega),zPw (i*s) v cells (by omega)];exact g1
   ·obtain⟨t,k1,k2,k3⟩:=g9 b hb;exact⟨t,k1,by simp;omega,k3⟩
theorem zM4:∀ {ps:List PV},zBq ps=[]->∀ p∈ps,p.ways=[]
 |[],_,_,h=>by cases h|q::qs,h,p,hp=>by
  simp only[zBq,dF] at h;rcases bD.1 hp with rfl|hp
  ·exact h.1
  ·exact zM4 h.2 p hp
theorem zL8(S:St w0 U Φ0 nt hv a w e Φ rv E L)(hb:zBv E){d:ON}(hd:∀ x,d=some x->x<nt){tk:Bool}{t:TypeId}{n:Nat}{ps:Array (Nat×Operand)}(yj:∀ x∈ps.toList,zAW nt x.2=true)(h:(zD4 P tk d t n ps.toList).run o e=some e') :
  ∃ v w',(Instr.buildSlice t n (ps.map fun x=>(x.1,a.eval x.2))).run P w = .ok v w'/\Fr w0 U Φ0 nt hv (a.put d v) w' e':=by
 have uv:(ps.map fun x=>(x.1,a.eval x.2)).toList=ps.toList.map fun x=>(x.1,a.eval x.2):=by simp
 simp only[zD4] at h;split at h
 ·rename_i el jH;split at h
  ·rename_i s z hs hz;obtain⟨hc,h1⟩:=zDr h;simp only[bb,decide_eq_true_eq,bj] at hc;obtain⟨⟨hns,kz⟩,hpn⟩:=hc;have kz:=bd kz;obtain⟨i,zv,hi,hzv,yC,km⟩:=zDT hz;obtain⟨i2,uZ,qH⟩:=zCu hs;rw[hi] at uZ;cases uZ;have ht:=zCE jH;obtain⟨e1,rv1,E1,L1,vs,h2,S1,h3,h4,h5⟩:=zQy (ps.toList.map (·.2)) 0 S (fun x hx=>by
    obtain⟨y,hy,rfl⟩:=bQ.1 hx;exact yj y hy) h1
   obtain⟨e2,Φ2,rv2,E2,L2,qs,h6,S2,h7,h8,h9⟩:=zLt vs 0 S1 (fun j p hp=>by
    have hj:j<(ps.toList.map (·.2)).length:=by
     have:=(bg.1 hp).1;omega
    exact(h4 j p _ hp (bm hj)).1) h2
   obtain⟨hq,j5⟩:=zDr h6;simp only[bb,bj,dc,decide_eq_true_eq] at hq;obtain⟨hw,hq⟩:=hq;simp only[bf] at h3 h5;have hZ:((ps.toList.map (·.1)).zip qs).length=ps.toList.length:=by simp;simp at h3;omega
   obtain⟨vT,vj,uH,_⟩:=zCn (w:=w) (Φ:=Φ2) (A:=zCm) km;have vU:zv.cells.size=s:=by rw[vj,kz]
   have hzz:zA5 w Φ2 zCm (replicate n z) (replicate n zv) []:=by
    clear j5 hZ hq h6 h2 hns hpn h1 h kz
    induction n with
    |zero=>exact⟨rfl,rfl⟩|succ n ih=>exact⟨zv,_,[],[],rfl,rfl,(zCn km).1,ih⟩
   have hmade:(madeCells zv.cells (n*s)).toList=flat (replicate n zv):=by
    have hl:(flat (replicate n zv)).length=n*s:=by
     rw[zBw (sz:=s) (fun u hu=>by rw[cf hu];exact vU)];simp
    apply cW;intro m;by_cases hm:m<n*s
    ·have:=zGP vU (l:=n) (k:=m) (bm (by omega));rw[bU,zQe (m:=m+1) hm (by omega),this,bm (by omega)]
    ·rw[cV (by simp[size_madeCells];omega),cV (by omega)]
   obtain⟨cells',us',Lc,g1,g2,g3,g4,g5,g6,g7,g8,g9⟩:=zQa S2.conf (s:=s) (n:=n) ((ps.toList.map (·.1)).zip qs) (ps.toList.map fun x=>(x.1,a.eval x.2)) 0 (replicate n z) (replicate n zv) (madeCells zv.cells (n*s)) [] (by simp;simp at h3;omega)
    (fun j x y hx hy=>by
     obtain⟨j7,jX⟩:=fJ.1 hx;rw[cC] at j7 hy
     cases vq:ps.toList[j]? with
     |none=>rw[vq] at hy;cases hy|some q=>
      rw[vq] at j7 hy;simp only[bz,ba] at j7 hy;have yc:q∈ps.toList:=bK vq;obtain⟨k1,k2⟩:=h8 j x.2 jX;have hvj:j<vs.length:=by have:=(bg.1 jX).1;omega
      obtain⟨k3,k4⟩:=h4 j _ q.2 (bm hvj) (by rw[cC,vq];rfl);have hqx:=hq x.2 (bK jX);refine⟨by rw[<- j7,<- hy],by rw[<- j7];exact hpn q yc,k1,?_,zM4 hw _ (bK jX),hqx.2,hqx.1.1⟩;rw[bR] at k2 k4 ⊢;rw[k2,k4,<- hy])
    (by simp) (by simp) hmade (fun x hx=>by rw[cf hx];exact kz) (fun u hu=>by rw[cf hu];exact vU) (by simp[uH]) hzz cj (by simp)
   have ja:cells'.size=n*s:=by
    have:=congrArg length g2;rw[zBw g4,g3] at this;simpa using this
   refine⟨.slice (some ⟨w.heap.size,0,none⟩) n n,zG6 w cells' el,?_,?_⟩
   ·subst qH;have qJ:∀ y:Array Value,(n*i.size=0\/y=zv.cells)->(Array.range (n*i.size)).map (fun k=>y[k % y.size]!)=madeCells zv.cells (n*i.size):=by
     rintro y (h0|rfl)
     ·simp[h0,madeCells]
     ·rfl
    have yI:¬ n*i.size>2 ^ 24:=by omega
    simp only[Instr.buildSlice,bo,run_underlying ht,bh,zA4 hi];rw[if_neg yI];split
    ·rename_i h0;simp only[bA,bh,bo,qJ #[] (.inl h0),uv,g1,zFA]
    ·simp only[bA,bh,bo,yC,qJ zv.cells (.inr rfl),uv,g1,zFA]
   ·have hold:∀ b,b<w.heap.size->(zG6 w cells' el).heap[b]? = w.heap[b]?:=fun b hb=>zHn hb;have hΦ:zDt w (zG6 w cells' el) Φ2 Φ2:=fun b hb=>⟨hb,hold b (S2.conf.frz b hb).1⟩;have j3:zA5 (zG6 w cells' el) Φ2 zCm (zM0 n z ((ps.toList.map (·.1)).zip qs)) us' Lc:=g7.mono hΦ (fun _ _ _ h=>h) fun b hb=>by
     obtain⟨t,_,_,k3⟩:=g9 b hb;exact hold b (S2.conf.own t b k3).1
    have kB:(zM0 n z ((ps.toList.map (·.1)).zip qs)).length=n:=j3.length.symm.trans g3;refine S2.madeN ps.toList.length (fun s hs=>?_) hd (p := .own s (zM0 n z ((ps.toList.map (·.1)).zip qs))) (Lp:=w.heap.size::Lc) (fun A _=>?_) ?_ (fun b yN=>?_) (by rw[zGA];omega) (fun b yN _=>hold b yN) ⟨rfl,rfl,rfl⟩ j5
    ·rw[(h9 s (by omega) (.inr (by omega))).1,(h5 s (by omega) (.inr (by omega))).1];exact hb s (by omega)
    ·refine .inr ⟨⟨w.heap.size,0,none⟩,n,cells',us',Lc,rfl,by rw[kB],rfl,by omega,zOb,by rw[ja];simp,g5,⟨g4,g6⟩,?_,j3⟩;rw[kB];refine zG4 (by rw[zBw g4,g3]) fun k u hk=>?_;rw[dh,<- hk,<- g2,bU]
    ·refine cz.2 ⟨fun hm=>?_,g8⟩;obtain⟨t,_,_,k3⟩:=g9 _ hm;exact absurd (S2.conf.own t _ k3).1 (fC _)
    ·rcases bD.1 yN with rfl|yN
     ·exact .inr ⟨bi _,by rw[zGA];omega⟩
     ·obtain⟨t,k1,k2,k3⟩:=g9 b yN;exact .inl ⟨t,k1,by omega,k3⟩
  ·cases h
 ·cases h
end
end Go.Eng
namespace Go.Eng
open Go
section
variable {P:Program} {w0 w:World} {U Φ0 Φ:Nat->Prop} {nt:Nat} {hv:Hid} {a:Act} {e e':Env} {rv:Nat->Value} {E:Nat->PV} {L:Nat->LN} {o:zAO} {A:Al}
theorem zXi(S:St w0 U Φ0 nt hv a w e Φ rv E L)(hb:zBv E){d:ON}(hd:∀ x,d=some x->x<nt){t t2 ty:TypeId}{x y:Operand}(hx:zAW nt x=true)(hy:zAW nt y=true)
  (h:(zBy P d .copy [t,t2] [x,y]).run o e=some e'):∃ v w',(Builtin.copy_ #[t,t2] ty #[a.eval x,a.eval y]).run P w = .ok v w'/\Fr w0 U Φ0 nt hv (a.put d v) w' e':=by
 simp only[zBy] at h;obtain⟨sz,yJ,h1⟩:=zBM h;obtain⟨el,jH,jq⟩:=zXZ (el:=0) yJ;have ht:=zCE jH;obtain⟨i,hi,yx⟩:=zCu jq;obtain⟨p,h2,hp⟩:=zBz S hx h1;obtain⟨q,h3,hq⟩:=zBz S hy h2;obtain⟨ys,us,Ly,h4,uA⟩:=zNJ S hq h3;obtain⟨⟨xb,xc,vn,yW⟩,j1,wa,kX⟩:=uA;cases p<;>try (cases h4;done)
 rename_i r pre z lo n;obtain⟨hc,h5⟩:=zAS h4;simp only[bb,bj] at hc;obtain⟨⟨⟨vU,ko⟩,gz⟩,kT⟩:=hc;have vU:=bd vU;have ko:=zCb ko;have gz:=bu gz;subst vU;have vW:∀ y∈ys,y.plain=true/\y.cells.length=z:=fun y hy=>⟨(kT y hy).1,bd (kT y hy).2⟩;have gK:Ly=[]:=zGo (fun y hy=>(vW y hy).1) j1;subst gK;have yS:=wa z (fun y hy=>(vW y hy).2);have S1:=S.hold (g:=zAa+2) (by omega) hp;obtain⟨w1,e1,rv1,E1,L1,k1,S2,k3,_,k4⟩:=zMA (z:=z) (lo:=lo) (n:=n) (v:=a.eval x) ko ys us 0 S1 zAj zAj (fun s hs hI=>by rw[zAg hI];exact hb s hs) vW kX j1 (by omega) (by simpa using h5);have yQ:Fr w0 U Φ0 nt hv (a.put d (.int .i64 ys.length)) w1 e':=by
  obtain⟨Φ2,rv2,E2,L2,S3,gO⟩:=S2.clear;exact zAC S3 gO hd k1 (v := .int .i64 ys.length) ⟨rfl,rfl⟩
 have hf:=yW z (fun y hy=>(vW y hy).2) P w (fun _=>rfl);have hmin:Nat.min ys.length n=ys.length:=f9 gz;obtain⟨_,hg,⟨b,cap,qS,yZ,y9,yi⟩,hn⟩:=hp;rcases k4 with⟨rfl,rfl⟩|⟨b',cap',row,yL,ye,yG,yH,yT,rfl⟩
 ·refine⟨.int .i64 0,w1,?_,yQ⟩;have jG:us=[]:=br (by have:=j1.length;simpa using this);subst jG;rw[qS,vn];rw[vn] at hf;have LH:(Builtin.firstCells z 0 (.slice xb 0 xc)).run P w1 = .ok #[] w1:=hf
  cases b with
  |none=>simp[Builtin.copy_,run_underlying ht,Builtin.lenOf,zA4 hi,yx,LH,goInt]|some b=>simp[Builtin.copy_,run_underlying ht,Builtin.lenOf,zA4 hi,yx,LH,goInt,storeCells]
 ·rw[yL] at qS;simp only[du] at qS;refine⟨_,_,?_,yQ⟩;rw[yL,vn];rw[vn] at hf;obtain⟨et,kB⟩:=yG;have yD:=run_storeCells_at (P:=P) b'.block b'.off et (flat us) 0 row w kB (by simpa using yH) yT;simp only[bR] at yD;have yN:b'=⟨b'.block,b'.off,none⟩:=by cases b';simp_all
  rw[<- yN] at yD;simp[Builtin.copy_,run_underlying ht,Builtin.lenOf,zA4 hi,yx,hmin,hf,yD,goInt,zBk]
theorem zGT{z:Value}{n:Nat}:flat (replicate n z)=(Builtin.zeroCells z.cells n).toList:=by
 have hZ:(flat (replicate n z)).length=n*z.cells.size:=by
  rw[zBw (sz:=z.cells.size) (fun u hu=>by rw[cf hu])];simp
 apply iC
 ·rw[hZ];simp[Builtin.zeroCells]
 ·intro k h1 h2;rw[hZ] at h1;have hs:0<z.cells.size:=Nat.pos_of_ne_zero fun h0=>by rw[h0] at h1;simp at h1
  have hdm:k / z.cells.size*z.cells.size+k % z.cells.size=k:=Nat.div_add_mod' k _;have hq:k / z.cells.size<n:=Nat.div_lt_of_lt_mul (by rw [Nat.mul_comm];exact h1);have hr:k % z.cells.size<z.cells.size:=Nat.mod_lt _ hs;have hzc : z.cells.toList[k % z.cells.size]? = some (z.cells[k % z.cells.size]'hr) := by simp
  have:=zEj (sz:=z.cells.size) (us:=replicate n z) (fun u hu=>by rw[cf hu]) (i:=k / z.cells.size) (c:=k % z.cells.size) (x:=z) (by simp[hq]) hzc;rw[hdm] at this;have h3:=(bg.1 this).2;rw[h3];simp[Builtin.zeroCells,getElem!_pos z.cells (k % z.cells.size) hr]
theorem zU9(S:St w0 U Φ0 nt hv a w e Φ rv E L)(hb:zBv E){d:ON}(hd:∀ x,d=some x->x<nt){t ty:TypeId}{ts:List TypeId}{x:Operand}(hx:zAW nt x=true)
  (h:(zBy P d .clear (t::ts) [x]).run o e=some e'):∃ w',(Builtin.clear_ (t::ts).toArray ty #[a.eval x]).run P w = .ok (.tuple #[]) w'/\Fr w0 U Φ0 nt hv (a.put d (.tuple #[])) w' e':=by
 simp only[zBy] at h;obtain⟨p,h1,hp⟩:=zBz S hx h;simp only[zTs] at h1;have light:∀ {v:Value},a.eval x=v->d=none->PM.ok.run o e=some e'->(∃ el,P.underlying t=some (.slice el))->((∃ b c,v = .slice b 0 c))->∃ w',(Builtin.clear_ (t::ts).toArray ty #[a.eval x]).run P w = .ok (.tuple #[]) w'/\Fr w0 U Φ0 nt hv (a.put d (.tuple #[])) w' e':=by
  intro v yL u9 yE ⟨el,ht⟩ ⟨b,c,hvb⟩;subst u9;have uk:Fr w0 U Φ0 nt hv (a.put none (.tuple #[])) w e':=by
   simp only[PM.run,ba] at yE;subst yE;exact⟨Φ,rv,E,L,S,hb⟩
  refine⟨w,?_,uk⟩;rw[yL,hvb];cases b<;>simp[Builtin.clear_,run_underlying ht]
 split at h1
 ·rename_i r pre z lo n q s vj uH;obtain⟨hc,h2⟩:=zAS h1;simp only[bb] at hc;obtain⟨⟨⟨c1,c2⟩,c3⟩,c4⟩:=hc;have c1:=zCb c1;have c2:=bd c2;have c3:=bd c3;subst c2
  cases jH:zB1 P t with
  |none=>rw[jH] at vj;cases vj|some el=>
  rw[jH] at vj uH;simp only[bc] at vj uH;have ht:=zCE jH;obtain⟨i,z0,hi,_,ko,km⟩:=zDT vj;have hrz:=zCn (w:=w) (Φ:=Φ) (A:=zCm) km;have qf:z0.cells.size=z:=by rw[hrz.2.1,c3]
  by_cases kj:n=0
  ·subst kj;obtain⟨_,_,⟨b,cap,qS,_⟩,_⟩:=hp;exact light qS rfl (by simpa[zGN] using h2) ⟨el,ht⟩ ⟨b,cap,rfl⟩
  have vH:∀ k,zA5 w Φ zCm (replicate k q) (replicate k z0) []:=by
   intro k
   induction k with
   |zero=>exact⟨rfl,rfl⟩|succ k ih=>exact⟨z0,_,[],[],rfl,rfl,hrz.1,ih⟩
  have S1:=S.hold (g:=zAa+2) (by omega) hp;obtain⟨w1,e1,rv1,E1,L1,k1,S2,k3,_,k4⟩:=zMA (z:=z) (lo:=lo) (n:=n) (v:=a.eval x) c1 (replicate n q) (replicate n z0) 0 S1 zAj zAj (fun s hs hI=>by rw[zAg hI];exact hb s hs) (fun y hy=>by rw[cf hy];exact⟨c4,c3⟩) (by simp[hrz.2.2.1]) (vH n) (by simp) (by simpa using h2);have yQ:Fr w0 U Φ0 nt hv (a.put none (.tuple #[])) w1 e':=by
   obtain⟨Φ2,rv2,E2,L2,S3,gO⟩:=S2.clear;simp only[PM.run,ba] at k1;subst k1;exact⟨_,_,_,_,S3,gO⟩
  obtain⟨_,hg,⟨b,cap,qS,yZ,y9,yi⟩,hn⟩:=hp;refine⟨w1,?_,yQ⟩;rcases k4 with⟨vT,rfl⟩|⟨b',cap',row,yL,ye,yG,yH,yT,rfl⟩
  ·exact absurd (by simpa using vT) kj
  ·obtain⟨et,kB⟩:=yG;have yD:=run_storeCells_at (P:=P) b'.block b'.off et (flat (replicate n z0)) 0 row w kB (by simpa using yH) yT;simp only[bR] at yD;have yN:b'=⟨b'.block,b'.off,none⟩:=by cases b';simp_all
   rw[<- yN,zGT] at yD;rw[yL];obtain⟨m,rfl⟩:∃ m,n=m+1:=⟨n-1,by omega⟩;simp[Builtin.clear_,run_underlying ht,ko,yD,zBk,zGT]
 ·rename_i h3 h4;obtain⟨el,jH⟩:∃ el,zB1 P t=some el:=by
   cases jH:zB1 P t with
   |none=>rw[jH] at h3;cases h3|some el=>exact⟨el,rfl⟩
  obtain⟨_,⟨_,b,c,yL,_⟩|⟨b,n',c,us,sz,yL,_⟩⟩:=hp
  ·exact light yL rfl h1 ⟨el,zCE jH⟩ ⟨b,c,rfl⟩
  ·exact light yL rfl h1 ⟨el,zCE jH⟩ ⟨some b,n',rfl⟩
 ·rename_i h3 h4;obtain⟨el,jH⟩:∃ el,zB1 P t=some el:=by
   cases jH:zB1 P t with
   |none=>rw[jH] at h3;cases h3|some el=>exact⟨el,rfl⟩
  exact light hp.1 rfl h1 ⟨el,zCE jH⟩ ⟨none,0,rfl⟩
 ·cases h1
end
end Go.Eng
