/- For all numbers, cries, which and when the law NewsSpared ends in true: without a cry that is told all yn hold the same, without another one some hold something else; without conditions. -/
import Derived.Test.YtppbomajegnkeaaGreatPc
import Derived.Test.YtppbomajegnkeaaGreatPa
import Derived.KernelRfl
import Derived.IntWalk
set_option linter.unusedVariables false
set_option linter.unusedSimpArgs false
set_option linter.unusedSectionVars false
namespace Go.Eng
open Go
section
variable {P:Program} {H:zBh} {w0 w:World} {U Φ0 Φ:Nat→Prop} {nt:Nat} {hv:Hid} {a:Act} {e e':Env} {rv:Nat→Value} {E:Nat→PV} {L:Nat→List Nat} {o:zAF}
theorem zVh (S:St w0 U Φ0 nt hv a w e Φ rv E L) {g:Nat} (hg:zAb≤g) {k:PV→PM} {k2:PM} (h:(zRb (E g) k k2).run o e=some e') :
  k2.run o e=some e'∨∃ e1 rv1 E1,(k (E1 g)).run o e1=some e'∧Worked w0 U Φ0 nt hv a w rv E g e1 rv1 E1:=by
 have hX:=S.conf.rep g
 have fin:∀ {r:Nat} {pre:zAU} {q root p':PV} (hr:r<zAb) (yF:(E r).unlock=E r) (hq:zAz (E r) pre=some q) (h1:q.oneCell=true) (hm:zAu (fun _=>some .bad) (E r) pre=some root),
   (E g).oneCell=true→p'.oneCell=true→(∀ nv Li,zAR w (rv r) (E r) pre=some (nv,q)→Rep w Φ (zA8 w rv E) q nv Li→Li.Nodup→∃ Lg,Rep w Φ (zA8 w rv E) p' (rv g) Lg∧Lg.Nodup∧∀ b∈Lg,b∈Li) →
   (k p').run o (e.set r root)=some e'→∃ e1 rv1 E1,(k (E1 g)).run o e1=some e'∧Worked w0 U Φ0 nt hv a w rv E g e1 rv1 E1:=by
  intro r pre q root p' hr yF hq h1 hm uV jh ya hk
  obtain ⟨kk1,kk2⟩:=zBR (q' := .bad) rfl rfl hm
  obtain ⟨nv,Li,g1,g2,g3,g4,g5⟩:=S.taken hg hr yF hq h1 hm kk1 kk2
  obtain ⟨Lg,p1,p2,p3⟩:=ya nv Li g1 g2 g3
  obtain ⟨L',S1,vl⟩:=g5 p' (rv g) Lg p1 p2 (fun b hb => .inl (p3 b hb))
  have j3:∀ s,upd rv g (rv g) s=rv s:=fun s=>by
   by_cases hs:s=g
   ·subst hs;rw [zAj]
   ·rw [zAf hs]
  refine ⟨_,_,_,by rw [zAj];exact hk,⟨⟨_,_,S1⟩,j3 g,fun s _=>j3 s,fun s hs hI=>⟨by rw [zAf hI,zAf (by omega)],j3 s⟩,?_,?_⟩⟩
  ·rw [zAj,(zBp jh).2,(zBp uV).2]
  ·rw [zAj,(zBp jh).1,(zBp uV).1];rfl
 generalize hE:E g=p at h
 rw [hE] at hX
 simp only [zRb] at h
 split at h
 ·rename_i r pre z lo n
  obtain ⟨q,hq,h1⟩:=zBL h
  obtain ⟨_,hr,⟨b,cap,yE,_⟩,hn⟩:=hX
  split at h1
  ·rename_i sz xs
   cases hc:Nat.ble (lo+n) xs.length with
   | false=>rw [hc] at h1;exact .inl h1
   | true =>
    rw [hc] at h1;simp only [cond_true] at h1
    obtain ⟨root,hl,hm,h2⟩:=zBY h1
    have yF:=zBC hl
    rw [yF,← S.env r hr] at hq
    rw [← S.env r hr] at yF hm
    refine .inr (fin hr yF hq rfl hm (by rw [hE];rfl) rfl (fun nv Li hf uX yT=>?_) h2)
    obtain ⟨s2,xs2,q1,q2,q3⟩:=hn nv _ (by rw [yF];exact hf) rfl
    cases q1;subst q2
    obtain ⟨Lg,p1,p2,p3⟩:=zIg uX (Nat.le_of_ble_eq_true hc) q3
    exact ⟨Lg,p1,p3 yT,p2⟩
  ·exact .inl h1
 ·rename_i r pre sh
  obtain ⟨q,hq,h1⟩:=zBL h
  obtain ⟨_,hr,b,yE,y4,hn⟩:=hX
  split at h1
  ·rename_i q
   obtain ⟨root,hl,hm,h2⟩:=zBY h1
   have yF:=zBC hl
   rw [yF,← S.env r hr] at hq
   rw [← S.env r hr] at yF hm
   refine .inr (fin hr yF hq rfl hm (by rw [hE];rfl) rfl (fun nv Li hf uX yT=>?_) h2)
   refine ⟨Li,?_,yT,fun b hb=>hb⟩
   have hrp':=uX
   obtain ⟨x,c,u,L',h3,h4,h5,_⟩:=hrp'
   have h6:nv=rv g:=by
    rw [yE,h4]
    have:=hn nv _ (by rw [yF];exact hf) x (by rw [h4];cases x;simp_all [zBa,zAt])
    rw [this]
   rw [← h6];exact uX
  ·exact .inl h1
 ·rename_i r pre
  obtain ⟨q,hq,h1⟩:=zBL h
  obtain ⟨_,hr,⟨b,yE⟩,hn⟩:=hX
  split at h1
  ·rename_i es
   obtain ⟨root,hl,hm,h2⟩:=zBY h1
   have yF:=zBC hl
   rw [yF,← S.env r hr] at hq
   rw [← S.env r hr] at yF hm
   refine .inr (fin hr yF hq rfl hm (by rw [hE];rfl) rfl (fun nv Li hf uX yT=>⟨Li,?_,yT,fun b hb=>hb⟩) h2)
   rw [hn nv _ (by rw [yF];exact hf) _ rfl];exact uX
  ·exact .inl h1
 ·exact .inl h
theorem zMz (S:St w0 U Φ0 nt hv a w e Φ rv E L) {g:Nat} (hg:zAb≤g) {frz:Bool} {k:PV→PM} (h:(zFo frz (E g) k).run o e=some e'):∃ e1 rv1 E1,(k (E1 g)).run o e1=some e'∧Worked w0 U Φ0 nt hv a w rv E g e1 rv1 E1:=by
 have iced:(zLO zAl zDw (E g) k).run o e=some e'→∃ e1 rv1 E1,(k (E1 g)).run o e1=some e'∧Worked w0 U Φ0 nt hv a w rv E g e1 rv1 E1:=by
  intro h
  obtain ⟨e1,Φ1,E1,L1,h1,S1,h2,h3,h4,h5,h6,h7⟩:=zIW (hb:=zAl) hg (by decide) zDw S h
  exact ⟨e1,rv,E1,h1,⟨⟨_,_,S1⟩,rfl,fun _ _=>rfl,fun s hs hI=>⟨h3 s hs hI,rfl⟩,h6,h7⟩⟩
 simp only [zFo] at h
 cases hc:(frz||(E g).ways.any fun w=>Nat.ble zAl w.1) with
 | true=>rw [hc] at h;exact iced h
 | false =>
  rw [hc] at h;simp only [cond_false] at h
  rcases zVh S hg h with h | h
  ·exact iced h
  ·exact h
theorem zKF {frz:Bool}:∀ (ps:List PV) (i:Nat) {k:List PV→PM} {e:Env} {Φ:Nat→Prop} {rv:Nat→Value} {E:Nat→PV} {L:Nat→List Nat},St w0 U Φ0 nt hv a w e Φ rv E L→(∀ (j:Nat) (p:PV),ps[j]? = some p→E (zAb+i+j)=p)→(zCx frz ps k).run o e=some e' →
  ∃ e1 Φ1 rv1 E1 L1 qs,(k qs).run o e1=some e'∧St w0 U Φ0 nt hv a w e1 Φ1 rv1 E1 L1∧qs.length=ps.length∧(∀ (j:Nat) (q:PV),qs[j]? = some q→E1 (zAb+i+j)=q∧rv1 (zAb+i+j)=rv (zAb+i+j)) ∧
   (∀ s,s<zAb→rv1 s=rv s)∧∀ s,zAb≤s→(s<zAb+i∨zAb+i+ps.length≤s)→E1 s=E s∧rv1 s=rv s
 | [],i,k,e,Φ,rv,E,L,S,hp,h=>⟨e,Φ,rv,E,L,[],h,S,rfl,by simp,fun _ _=>rfl,fun _ _ _=>⟨rfl,rfl⟩⟩
 | p :: ps,i,k,e,Φ,rv,E,L,S,hp,h=>by
  simp only [zCx] at h
  have hE:=hp 0 p rfl
  simp only [Nat.add_zero] at hE
  rw [← hE] at h
  obtain ⟨e1,rv1,E1,h1,W⟩:=zMz S (g:=zAb+i) (by omega) h
  obtain ⟨Φ1,L1,S1⟩:=W.st
  obtain ⟨e2,Φ2,rv2,E2,L2,qs,h2,S2,h3,h4,h5,h6⟩:=zKF ps (i+1) S1 (fun j q hq=>by
   rw [(W.rest _ (by omega) (by omega)).1,show zAb+(i+1)+j=zAb+i+(j+1) by omega];exact hp (j+1) q (by simpa using hq)) h1
  refine ⟨e2,Φ2,rv2,E2,L2,E1 (zAb+i)::qs,h2,S2,by simp [h3],fun j q hq=>?_,fun s hs=>(h5 s hs).trans (W.low s hs),fun s hs jo=>?_⟩
  ·cases j with
   | zero =>
    simp at hq;subst hq
    obtain ⟨k1,k2⟩:=h6 (zAb+i) (by omega) (.inl (by omega))
    simp only [Nat.add_zero]
    exact ⟨k1,k2.trans W.val⟩
   | succ j =>
    obtain ⟨k1,k2⟩:=h4 j q (by simpa using hq)
    rw [show zAb+(i+1)+j=zAb+i+(j+1) by omega] at k1 k2
    exact ⟨k1,k2.trans (W.rest _ (by omega) (by omega)).2⟩
  ·obtain ⟨k1,k2⟩:=h6 s hs (by simp at jo;omega)
   obtain ⟨k3,k4⟩:=W.rest s hs (by simp at jo;omega)
   exact ⟨k1.trans k3,k2.trans k4⟩
theorem zKh (C:Conf w0 U Φ0 w Φ rv E L):∀ (qs:List PV) (vs:List Value) (i:Nat),vs.length=qs.length→(∀ (j:Nat) (q:PV) (v:Value),qs[j]? = some q→vs[j]? = some v→E (i+j)=q∧rv (i+j)=v) →
  ∃ Lp,zA2 w Φ (zA8 w rv E) qs vs Lp∧Lp.Nodup∧∀ b∈Lp,∃ t,i≤t∧t<i+qs.length∧b∈L t
 | [],vs,i,hl,h=>by
  have:vs=[]:=List.eq_nil_of_length_eq_zero (by simpa using hl)
  subst this;exact ⟨[],⟨rfl,rfl⟩,List.nodup_nil,by simp⟩
 | q :: qs,vs,i,hl,h=>by
  match vs,hl,h with
  | v :: vs,hl,h =>
   obtain ⟨h1,h2⟩:=h 0 q v rfl rfl
   simp only [Nat.add_zero] at h1 h2
   obtain ⟨Lp,k1,k2,k3⟩:=zKh C qs vs (i+1) (by simpa using hl) fun j q' v' hq hv=>by
    rw [show i+1+j=i+(j+1) by omega];exact h (j+1) q' v' (by simpa using hq) (by simpa using hv)
   have hr:=C.rep i
   rw [h1,h2] at hr
   refine ⟨L i++Lp,⟨v,vs,_,_,rfl,rfl,hr,k1⟩,?_,fun b hb=>?_⟩
   ·rw [List.nodup_append]
    refine ⟨C.nodup i,k2,fun x hx y hy e=>?_⟩
    obtain ⟨t,k4,k5,k6⟩:=k3 y hy
    exact C.disj i t (by omega) x hx (e▸k6)
   ·rcases List.mem_append.1 hb with hb | hb
    ·exact ⟨i,Nat.le_refl _,by simp,hb⟩
    ·obtain ⟨t,k4,k5,k6⟩:=k3 b hb
     exact ⟨t,by omega,by simp;omega,k6⟩
theorem zMa (S:St w0 U Φ0 nt hv a w e Φ rv E L) {j g:Nat} (hj:j<1000) (hg:zAb≤g) (hb:∀ s,zAb≤s→s≠g→E s = .bad) {k:PM} (h:(lay (zAA+j) (E g) k).run o e=some e') :
  ∃ e1 E1 L1,k.run o e1=some e'∧St w0 U Φ0 nt hv a w e1 Φ (upd rv (zAA+j) (rv g)) E1 L1∧zBs E1:=by
 have hh:zAl=50000000:=rfl
 have ho:zAA=60000000:=rfl
 have wa:zAb=1000000000:=rfl
 have kA:=S.small
 obtain ⟨e1,E1,L1,h1,C,h2,h3,h4,h5,h6⟩:=zQx S (d:=zAA+j) (by omega) hg h
 have uc:∀ d ps,d≠zAA+j→d<zAb→E1 d = .tup ps→∃ ps',E d = .tup ps'∧ps'.length=ps.length:=by
  intro d ps hd ug hp
  rcases h3 d hd ug with h7 | h7
  ·exact ⟨ps,by rw [← h7,hp],rfl⟩
  ·rw [h7] at hp;exact zD3 (zIu _ _) hp
 refine ⟨e1,E1,L1,h1,⟨C,h2,S.size,S.small,fun t ht=>?_,fun d ps i hd hp hi=>?_,fun s h7 h8=>?_,S.dfr⟩,fun s hs=>?_⟩
 ·rw [zAf (by omega)];exact S.tmps t ht
 ·obtain ⟨ps',h7,h8⟩:=uc d ps (by omega) (by omega) hp
  obtain ⟨h9,vs,jS,vH⟩:=S.parts d ps' i hd h7 (by omega)
  refine ⟨h9,vs,by rw [zAf (by omega)];exact jS,?_⟩
  rw [zAf (by simp only [zBw];omega)];exact vH
 ·rw [zAf (by omega)];exact S.hid s h7 h8
 ·by_cases yg:s=g
  ·subst yg;exact h5
  ·rcases h6 s hs yg with h7 | h7
   ·rw [h7];exact hb s hs yg
   ·rw [h7,hb s hs yg];rfl
theorem zXG (S:St w0 U Φ0 nt hv a w e Φ rv E L) (hb:zBs E) {frz:Bool} {j:Nat} (hj:j<1000) {p:PV} {v:Value} (hp:Rep w Φ (zA8 w rv E) p v []) {k:PM} (h:(zGB frz p fun q=>lay (zAA+j) q k).run o e=some e') :
  ∃ e1 Φ1 rv1 E1 L1,k.run o e1=some e'∧St w0 U Φ0 nt hv a w e1 Φ1 rv1 E1 L1∧zBs E1∧rv1 (zAA+j)=v∧∀ s,s<zAb→s≠zAA+j→rv1 s=rv s:=by
 have ho:zAA=60000000:=rfl
 have wa:zAb=1000000000:=rfl
 have single:(zFo frz p fun q=>lay (zAA+j) q k).run o e=some e'→∃ e1 Φ1 rv1 E1 L1,k.run o e1=some e'∧St w0 U Φ0 nt hv a w e1 Φ1 rv1 E1 L1∧zBs E1∧rv1 (zAA+j)=v∧∀ s,s<zAb→s≠zAA+j→rv1 s=rv s:=by
  intro h
  have S1:=S.hold (g:=zAb) (Nat.le_refl _) hp
  obtain ⟨e1,rv1,E1,h1,W⟩:=zMz S1 (g:=zAb) (Nat.le_refl _) (by rw [zAj];exact h)
  obtain ⟨Φ1,L1,S2⟩:=W.st
  obtain ⟨e2,E2,L2,h2,S3,qo⟩:=zMa S2 hj (Nat.le_refl zAb) (fun s hs hI=>by rw [(W.rest s hs hI).1,zAf hI];exact hb s hs) h1
  refine ⟨e2,Φ1,_,E2,L2,h2,S3,qo,?_,fun s hs hI=>?_⟩
  ·rw [zAj,W.val,zAj]
  ·rw [zAf hI,W.low s hs,zAf (by omega)]
 simp only [zGB] at h
 split at h
 ·rename_i cs
  obtain ⟨vs,rfl,hr⟩:=hp
  obtain ⟨rv1,E1,L1,S1,k1,k2,k3⟩:=zLm cs vs.toList 1 S hr
  have yO:=hr.length
  have yW:∀ (j:Nat) (p:PV),cs[j]? = some p→∃ v,vs.toList[j]? = some v:=fun j p hj=>⟨_,List.getElem?_eq_getElem (by have:=(List.getElem?_eq_some_iff.1 hj).1;omega)⟩
  obtain ⟨e2,Φ2,rv2,E2,L2,qs,h2,S2,h3,h4,h5,h6⟩:=zKF cs 1 S1 (fun j p hjp=>by
   obtain ⟨v,yE⟩:=yW j p hjp
   exact (k2 j p v hjp yE).1) h
  have vJ:∀ s,zAb≤s→(s<zAb+1∨zAb+1+cs.length≤s)→E2 s = .bad:=fun s hs jo=>by
   rw [(h6 s hs jo).1,(k3 s hs jo).1];exact hb s hs
  have gu:∀ (j:Nat) (q:PV) (v:Value),qs[j]? = some q→vs.toList[j]? = some v→E2 (zAb+1+j)=q∧rv2 (zAb+1+j)=v:=fun j q v hq yE=>by
   obtain ⟨m1,m2⟩:=h4 j q hq
   have jQ:j<cs.length:=by have:=(List.getElem?_eq_some_iff.1 hq).1;omega
   have:=k2 j _ v (List.getElem?_eq_getElem jQ) yE
   exact ⟨m1,m2.trans this.2.1⟩
  obtain ⟨Lp,r1,r2,r3⟩:=zKh S2.conf qs vs.toList (zAb+1) (by omega) gu
  have hG:∀ s,decide (zAb+1≤s∧s<zAb+1+cs.length)=true↔zAb+1≤s∧s<zAb+1+cs.length:=fun s=>decide_eq_true_iff
  have hc:=S2.conf.make (w':=w) (fun s=>decide (zAb+1≤s∧s<zAb+1+cs.length)) (fun s hs=>by have:=(hG s).1 hs;omega) (g:=zAb) (Nat.le_refl _) (p := .agg qs) (v := .agg vs) (Lp:=Lp)
   (fun A hA=>⟨vs,rfl,r1.mono zDc.refl hA (fun _ _=>rfl)⟩) r2 (fun b hb=>by
    obtain ⟨t,q1,q2,q3⟩:=r3 b hb
    exact .inl ⟨t,q3,(hG t).2 ⟨q1,by omega⟩⟩) (Nat.le_refl _) (fun _ _ _=>rfl) ⟨rfl,rfl,rfl⟩
  have yw:∀ s,s<zAb→decide (zAb+1≤s∧s<zAb+1+cs.length)=false:=fun s hs=>decide_eq_false (by omega)
  have S3:=S2.turn (e':=e2) hc (fun s hs=>by
   rw [zAf (by omega)]
   simp only [yw s hs,Bool.false_eq_true,if_false];exact S2.env s hs) (fun s hs=>zAf (by omega)) (fun d ps hd hp=>by
   rw [zAf (by omega)] at hp
   simp only [yw d (by omega),Bool.false_eq_true,if_false] at hp;exact ⟨ps,hp,rfl⟩)
  obtain ⟨e4,E4,L4,m1,S4,m2⟩:=zMa S3 hj (Nat.le_refl zAb) (fun s hs hI=>by
   rw [zAf hI]
   by_cases h7:s<zAb+1+cs.length
   ·simp only [(hG s).2 ⟨by omega,h7⟩,if_true]
   ·have:decide (zAb+1≤s∧s<zAb+1+cs.length)=false:=decide_eq_false (by omega)
    simp only [this,Bool.false_eq_true,if_false];exact vJ s hs (by omega)) (by rw [zAj];exact h2)
  refine ⟨e4,Φ2,_,E4,L4,m1,S4,m2,?_,fun s hs hI=>?_⟩
  ·rw [zAj,zAj]
  ·rw [zAf hI,zAf (by omega),h5 s hs,(k1 s hs).2]
 ·exact single h
def zXJ (nt:Nat):ResultVar→Bool
 | .tmp t=>Nat.blt t nt
 | .cell t _=>Nat.blt t nt
def zHb (a:Act):ResultVar→Sem Value
 | .tmp t=>pure (a.tmps.getD t undef)
 | .cell t ty=>do loadVar ty (← asAddr (a.tmps.getD t undef))
theorem zLP {frz:Bool}:∀ (rs:List ResultVar) (j:Nat) {e:Env} {Φ:Nat→Prop} {rv:Nat→Value} {E:Nat→PV} {L:Nat→List Nat},St w0 U Φ0 nt hv a w e Φ rv E L→zBs E→j+rs.length≤1000→(∀ x∈rs,zXJ nt x=true)→(zCN P frz j rs).run o e=some e' →
  ∃ Φ1 rv1 E1 L1,St w0 U Φ0 nt hv a w e' Φ1 rv1 E1 L1∧zBs E1∧(∀ s,s<zAA+j→rv1 s=rv s)∧∀ (i:Nat) (x:ResultVar),rs[i]? = some x→(zHb a x).run P w = .ok (rv1 (zAA+j+i)) w
 | [],j,e,Φ,rv,E,L,S,hb,hj,hr,h=>by
  simp only [zCN,PM.run,Option.some.injEq] at h;subst h
  exact ⟨Φ,rv,E,L,S,hb,fun _ _=>rfl,by simp⟩
 | x :: rs,j,e,Φ,rv,E,L,S,hb,hj,hr,h=>by
  have ho:zAA=60000000:=rfl
  have wa:zAb=1000000000:=rfl
  simp only [List.length_cons] at hj
  have hx:=hr x (by simp)
  have fin:∀ {p:PV} {v:Value},Rep w Φ (zA8 w rv E) p v []→(zHb a x).run P w = .ok v w→(zGB frz p fun q=>lay (zAA+j) q (zCN P frz (j+1) rs)).run o e=some e' →
    ∃ Φ1 rv1 E1 L1,St w0 U Φ0 nt hv a w e' Φ1 rv1 E1 L1∧zBs E1∧(∀ s,s<zAA+j→rv1 s=rv s)∧∀ (i:Nat) (y:ResultVar),(x::rs)[i]? = some y→(zHb a y).run P w = .ok (rv1 (zAA+j+i)) w:=by
   intro p v hp yE h
   obtain ⟨e1,Φ1,rv1,E1,L1,h1,S1,y7,h2,h3⟩:=zXG S hb (by omega) hp h
   obtain ⟨Φ2,rv2,E2,L2,S2,j1,h4,h5⟩:=zLP rs (j+1) S1 y7 (by omega) (fun y hy=>hr y (by simp [hy])) h1
   refine ⟨Φ2,rv2,E2,L2,S2,j1,fun s hs=>(h4 s (by omega)).trans (h3 s (by omega) (by omega)),fun i y hy=>?_⟩
   cases i with
   | zero =>
    simp at hy;subst hy
    rw [Nat.add_zero,h4 _ (by omega),h2];exact yE
   | succ i =>
    rw [show zAA+j+(i+1)=zAA+(j+1)+i by omega]
    exact h5 i y (by simpa using hy)
  cases x with
  | tmp t =>
   have uP:t<nt:=zB3 hx
   have yk:t<zAb:=Nat.lt_of_lt_of_le uP (Nat.le_trans S.small (by decide))
   simp only [zCN,PM.run] at h
   rw [← S.env t yk] at h
   exact fin (S.conf.view yk) (by simp only [zHb,Sem.run_pure];rw [S.tmps t uP]) h
  | cell t ty =>
   have uP:t<nt:=zB3 hx
   have yk:t<zAb:=Nat.lt_of_lt_of_le uP (Nat.le_trans S.small (by decide))
   simp only [zCN] at h
   obtain ⟨sh,j8,h1⟩:=zBG h
   simp only [PM.run] at h1
   rw [← S.env t yk] at h1
   have yE:=S.conf.view yk
   split at h1
   ·rename_i r pre i c s' ub
    rw [ub] at yE
    obtain ⟨b,u,q,q1,q2,q3,q4⟩:=zLj (P:=P) S j8 yE h1
    exact fin q4 (by simp only [zHb,Sem.run_bind];rw [S.tmps t uP,q1];simp [asAddr,q2]) q3
   ·cases h1
end
end Go.Eng
namespace Go.Eng
open Go
def zVo (P:Program) (fn:Func):Bool :=
 match fn.body with
 | none=>true
 | some c=>zCL P fn.ntmps c&&fn.results.toList.all (zXJ fn.ntmps)&&Nat.ble fn.ntmps 2000000&&Nat.ble fn.results.size 1000
section
variable {P:Program} {H:zBh} {w:World} {orc:zAF} {yo:zCV}
theorem zJk {α β:Type} {f:α→Sem β}:∀ (l:List α) (vs:List β),l.length=vs.length→(∀ (i:Nat) (x:α) (v:β),l[i]? = some x→vs[i]? = some v→(f x).run P w = .ok v w)→(l.mapM f).run P w = .ok vs w
 | [],[],_,_=>rfl
 | [],_::_,h,_=>by cases h
 | _::_,[],h,_=>by cases h
 | x::l,v::vs,h,hf=>by
  simp only [List.mapM_cons,Sem.run_bind,hf 0 x v rfl rfl,Result.andThen_ok,zJk l vs (by simpa using h) (fun i y u hy hu=>hf (i+1) y u (by simpa using hy) (by simpa using hu)),Sem.run_pure]
theorem zN6 {fn:Func} {a:Act} {vs:List Value} (hl:fn.results.size=vs.length) (h:∀ (i:Nat) (x:ResultVar) (v:Value),fn.results.toList[i]? = some x→vs[i]? = some v→(zHb a x).run P w = .ok v w) :
  (results fn a.tmps).run P w = .ok (if h:vs.toArray.size=1 then vs.toArray[0] else .tuple vs.toArray) w:=by
 have h1:=zJk (P:=P) (w:=w) (f:=zHb a) fn.results.toList vs (by simpa using hl) h
 have h2:(fn.results.mapM (zHb a)).run P w = .ok vs.toArray w:=by
  rw [Array.mapM_eq_mapM_toList]
  simp only [Sem.run_map,h1,Result.andThen_ok]
 have h3:(fun | .tmp t=>pure (a.tmps.getD t undef) | .cell t ty=>do loadVar ty (← asAddr (a.tmps.getD t undef)):ResultVar→Sem Value)=zHb a:=by
  funext x;cases x<;>rfl
 simp only [results,Sem.run_bind]
 have h4:(fn.results.mapM (fun | .tmp t=>pure (a.tmps.getD t undef) | .cell t ty=>do loadVar ty (← asAddr (a.tmps.getD t undef)):ResultVar→Sem Value)).run P w = .ok vs.toArray w:=by rw [h3];exact h2
 erw [h4]
 rfl
theorem zIO {fn:Func} {tmps:Array Value} {R:Ending→World→Prop}:∀ (ds:List Deferred) (w:World),(∀ d∈ds,∃ D,d.target = .collected D∧w.heap[D]? = some (.deferred (some [])))→ds.Pairwise (fun d d'=>∀ D D',d.target = .collected D→d'.target = .collected D'→D≠D') →
  (∀ w',w'.heap.size=w.heap.size→(∀ b,(∀ d∈ds,d.target ≠ .collected b)→w'.heap[b]? = w.heap[b]?)→(w'.os=w.os∧w'.tape=w.tape∧w'.output=w.output)→LeavesIn (FF none) 0 P fn tmps R [] .returning w')→LeavesInM (FF none) 0 P fn tmps R ds .returning w
 | [],w,_,_,h=>h w rfl (fun _ _=>rfl) ⟨rfl,rfl,rfl⟩
 | d :: ds,w,h1,h2,h=>by
  obtain ⟨D,q1,q2⟩:=h1 d (by simp)
  obtain ⟨p1,p2⟩:=List.pairwise_cons.1 h2
  refine ⟨by simp,.inl ⟨D,_,q1,run_takeDeferred q2,zIO ds _ (fun d' hd=>?_) p2 fun w' g1 g2 g3=>?_⟩⟩
  ·obtain ⟨D',r1,r2⟩:=h1 d' (by simp [hd])
   exact ⟨D',r1,(World.putObj_heap_other (Ne.symm (p1 d' hd D D' q1 r1))).trans r2⟩
  ·refine h w' (g1.trans (by simp)) (fun b hb=>(g2 b fun d' hd=>hb d' (by simp [hd])).trans (World.putObj_heap_other fun e=>hb d (by simp) (e▸q1))) g3
theorem zVR (zE3:P.follows .mixedOrders=true) (jF:zGc P orc) (hnm:zER P) (qx:zMc P yo) {f:FuncId} {fn:Func} {body:Code} {n:Nat} {args hid hO:List PV} {v:PV} (hf:P.funcs[f]? = some fn) (yY:fn.body=some body) (hwf:zVo P fn=true) (h:zI8 P H orc yo zB8 n f fn body args hid=some (v,hO)) :
    Means P f args hid v hO:=by
  have ho:zAA=60000000:=rfl
  have hh:zAl=50000000:=rfl
  have wa:zAb=1000000000:=rfl
  simp only [zVo,yY,Bool.and_eq_true] at hwf
  obtain ⟨⟨⟨jJ,yc⟩,u9⟩,jI⟩:=hwf
  have u9:=Nat.le_of_ble_eq_true u9
  have jI:=Nat.le_of_ble_eq_true jI
  simp only [zI8] at h
  cases hc:(Nat.ble args.length fn.ntmps&&Nat.ble hid.length 1000&&args.all fun p => !p.isTup) with
  | false=>rw [hc] at h;cases h
  | true =>
    rw [hc] at h;simp only [cond_true] at h
    simp only [Bool.and_eq_true] at hc
    obtain ⟨⟨yL,u7⟩,uc⟩:=hc
    have yL:=Nat.le_of_ble_eq_true yL
    have u7:=Nat.le_of_ble_eq_true u7
    have key : ∀ x e1,exec P H orc yo zB8 fn.ntmps (H f) n body (zBb args hid) none=some (x,e1,none)→(x = .norm∨x = .ret)→∀ e',(zCN P (H f).frz 0 fn.results.toList).run orc e1=some e' →
        (bif Nat.beq fn.results.size 1&&(e'.get zAA).isTup then none else some (zVy e' fn.results.size,(List.range hid.length).map fun j=>e'.get (zAl+j)))=some (v,hO)→Means P f args hid v hO:=by
      intro x e1 hx gm e' wP yj w Φ rv E L vs hE kD C yD ye jW
      refine callsIn_wide.1 (callsIn_of_wp_marks (n:=0) hf yY trivial ?_)
      have hntm:vs.size+(fn.ntmps-vs.size)=fn.ntmps:=by omega
      have S:St w (fun b=>∃ s,b∈L s) Φ fn.ntmps ⟨rv,[]⟩ {tmps:=vs++Array.replicate (fn.ntmps-vs.size) undef,defers:=[]} w (zBb args hid) Φ rv E L:=by
        refine ⟨C,hE,by simp;omega,u9,fun t ht=>?_,fun d ps i hd hp hi=>?_,fun _ _ _=>rfl,rfl⟩
        · simp only [Array.getD_eq_getD_getElem?,Array.getElem?_append]
          by_cases h1:t<vs.size
          · rw [if_pos h1,ye t (by omega)];rfl
          · rw [if_neg h1,Array.getElem?_replicate,if_pos (by omega),jW t (by omega) (by omega)];rfl
        · rw [hE d (by omega),zDl (by omega)] at hp
          split at hp
          · rename_i vi
            have:(args.getD d .bad)∈args:=by
              simp only [List.getD,List.getElem?_eq_getElem vi,Option.getD_some];exact List.getElem_mem vi
            have:=List.all_eq_true.1 uc _ this
            rw [hp] at this;cases this
          · split at hp
            · omega
            · cases hp
      have hw:=zHx (zWu jF hnm) zE3 n body (.inr (zW1 zE3 jF hnm qx)) jJ (fun _ _=>trivial) rfl (⟨rfl,w,_,Φ,[],Rel.refl,⟨fun _ h=>(by cases h),.nil⟩,Φ,rv,E,L,S,kD⟩:GB w (fun b=>∃ s,b∈L s) Φ fn.ntmps rv _ w _ none) hx
      refine wpIn_mono hw fun ex a' w1 ⟨gp,_,wz,Uz,Φz,ds,qN,vd,Φ1,rv1,E1,L1,Sz,y7⟩=>?_
      have ud:LeavesInM (FF none) 0 P fn a'.tmps (fun e w'=>∃ u Φ' rv' E' L',e = .returned u∧Conf w (fun b=>∃ s,b∈L s) Φ w' Φ' rv' E' L'∧hO.length=hid.length ∧
          (∀ j,j<hid.length→E' (zAl+j)=hO.getD j .bad∧rv' (zAl+j)=rv (zAl+j))∧Gave v u rv' E') a'.defers .returning w1:=by
       rw [Sz.dfr]
       have gv:∀ d∈ds,∀ D,d.target = .collected D→(∀ s,D∉L1 s)∧¬ Φ1 D∧w.heap.size≤D:=by
         intro d hd D hD
         obtain ⟨D',q1,q0,q2,q3,q4,q5⟩:=vd.each d hd
         rw [q1] at hD;cases hD
         refine ⟨fun s hs=>?_,fun h=>?_,q0⟩
         · rcases (Sz.conf.own s D hs).2.2 with h | h
           · exact q4 h
           · omega
         · rcases (Sz.conf.frz D h).2 with h | h | h
           · exact q5 h
           · exact q4 h
           · omega
       refine zIO ds w1 (fun d hd=>?_) vd.apart fun w' m1 m2 m3=>?_
       · obtain ⟨D,q1,_,q2,q3,q4,_⟩:=vd.each d hd
         exact ⟨D,q1,(Sz.conf.kept D q2 q4).trans q3⟩
       have C1:Conf w (fun b=>∃ s,b∈L s) Φ w' Φ1 rv1 E1 L1:=(Sz.conf.rebase qN).moved (by omega) (fun s b hb=>m2 b fun d hd h=>(gv d hd b h).1 s hb) (fun b hb=>m2 b fun d hd h=>(gv d hd b h).2.1 hb) (fun b hb _=>m2 b fun d hd h=>by have:=(gv d hd b h).2.2;omega) m3
       have S1:St w (fun b=>∃ s,b∈L s) Φ fn.ntmps ⟨rv,ds⟩ a' w' e1 Φ1 rv1 E1 L1:=Sz.with C1
       obtain ⟨Φ2,rv2,E2,L2,S2,j1,_,h3⟩:=zLP fn.results.toList 0 S1 y7 (by simpa using jI) (fun y hy=>List.all_eq_true.1 yc y hy) wP
       let us:List Value:=(List.range fn.results.size).map fun i=>rv2 (zAA+i)
       have yA:=zN6 (P:=P) (w:=w') (fn:=fn) (a:=a') (vs:=us) (by simp [us]) (fun i y u hy hu=>by
         have:=h3 i y hy
         rw [Nat.add_zero] at this
         rw [this]
         have hi:i<fn.results.size:=by have:=(List.getElem?_eq_some_iff.1 hy).1;simpa using this
         simp only [us,List.getElem?_map,List.getElem?_range hi,Option.map_some,Option.some.injEq] at hu
         rw [hu])
       refine ⟨_,yA,_,Φ2,rv2,E2,L2,rfl,S2.conf,?_⟩
       have hv:v=zVy e' fn.results.size∧hO=(List.range hid.length).map fun j=>e'.get (zAl+j):=by
         revert yj
         cases (Nat.beq fn.results.size 1&&(e'.get zAA).isTup) with
         | true=>intro h;cases h
         | false=>intro h;simp only [cond_false,Option.some.injEq,Prod.mk.injEq] at h;exact ⟨h.1.symm,h.2.symm⟩
       obtain ⟨kd,kf⟩:=hv
       refine ⟨by rw [kf];simp,fun j hj=>⟨?_,S2.hid _ (by omega) (by omega)⟩,?_⟩
       · rw [S2.env _ (by omega),kf]
         simp [List.getD,hj]
       · by_cases h1:fn.results.size=1
         · have u9:(e'.get zAA).isTup=false:=by
             revert yj
             cases hb:(e'.get zAA).isTup with
             | true=>simp [h1]
             | false=>intro _;rfl
           have hv3:v=e'.get zAA:=by rw [kd,zVy,if_pos h1]
           have vb:us=[rv2 zAA]:=by simp only [us,h1];rfl
           refine ⟨fun _=>⟨by rw [S2.env _ (by omega),hv3],?_⟩,fun ps y1=>?_⟩
           · rw [vb];rfl
           · rw [hv3] at y1;rw [y1] at u9;cases u9
         · have hv3:v = .tup ((List.range fn.results.size).map fun j=>e'.get (zAA+j)):=by rw [kd,zVy,if_neg h1]
           refine ⟨fun h=>absurd hv3 (h _),fun ps y1=>?_⟩
           rw [hv3] at y1
           simp only [PV.tup.injEq] at y1
           subst y1
           refine ⟨us.toArray,?_,by simp [us],fun j p hj=>?_⟩
           · rw [dif_neg (by simpa [us] using h1)]
           · simp only [List.getElem?_map] at hj
             cases hr:(List.range fn.results.size)[j]? with
             | none=>rw [hr] at hj;cases hj
             | some k =>
               rw [hr] at hj;simp only [Option.map_some,Option.some.injEq] at hj
               obtain ⟨jR,wn⟩:=List.getElem?_eq_some_iff.1 hr
               simp only [List.getElem_range] at wn
               subst wn
               simp only [List.length_range] at jR
               exact ⟨by rw [S2.env _ (by omega)];exact hj,by simp [us,jR]⟩
      subst gp
      rcases gm with rfl | rfl<;>exact ud
    revert h
    cases hx:exec P H orc yo zB8 fn.ntmps (H f) n body (zBb args hid) none with
    | none=>intro h;cases h
    | some r =>
      obtain ⟨x,e1,lg⟩:=r
      intro h
      cases x with
      | ex id=>cases lg<;>cases h
      | norm =>
        cases lg with
        | some g=>cases h
        | none =>
          cases wP:(zCN P (H f).frz 0 fn.results.toList).run orc e1 with
          | none=>simp only [wP] at h;cases h
          | some e'=>simp only [wP] at h;exact key .norm e1 hx (.inl rfl) e' wP h
      | ret =>
        cases lg with
        | some g=>cases h
        | none =>
          cases wP:(zCN P (H f).frz 0 fn.results.toList).run orc e1 with
          | none=>simp only [wP] at h;cases h
          | some e'=>simp only [wP] at h;exact key .ret e1 hx (.inr rfl) e' wP h
def zEI (P:Program) (H:zBh):Prop:=∀ (f:FuncId) (fn:Func) (args hid:List PV) (v:PV) (hO:List PV),P.funcs[f]? = some fn→(H f).intr≠0→intrin P fn (H f).intr args hid=some (v,hO)→Callable P f∧Means P f args hid v hO
def Fit (P:Program) (H:zBh):Prop:=∀ (f:FuncId) (fn:Func),P.funcs[f]? = some fn→(H f).intr=0→zVo P fn=true
def zUC (P:Program) (g:FuncId) (first:List PV) (i:Nat) (caps:List PV) (k:Int) (plan:List (List PV)):Prop :=
  ∀ (J:List (List PV)→World→(Nat→Prop)→Prop) (Jx:World→Prop) (Ψ:Nat→Prop),Client P i plan k Ψ J Jx→∀ (w:World) (Φ:Nat→Prop) (rv:Nat→Value) (E:Nat→PV) (L:Nat→List Nat) (vs:Array Value) (B:Nat→Prop),
   (∀ s,s<zAb→E s=(zBb (first++PV.yld i::caps) []).get s)→(∀ s,zAb≤s→E s = .bad)→Conf w (fun b=>∃ s,b∈L s) Φ w Φ rv E L→vs.size=(first++PV.yld i::caps).length→(∀ j,j<(first++PV.yld i::caps).length→vs[j]? = some (rv j)) →
   (∀ s,(first++PV.yld i::caps).length≤s→s<zAl→rv s=undef)→J [] w B→(∀ b,B b→∀ s,b∉L s)→(∀ b,Φ b→Ψ b∨¬ B b) →
   CallsIn (FF none) 0 P g vs w fun en w'=>(∃ v,en = .returned v)∧((k-plan.length≠0∧∃ B',J plan w' B')∨(k-plan.length=0∧Jx w'))
theorem zPu (zE3:P.follows .mixedOrders=true) (jF:zGc P orc) (hnm:zER P) (zMB:Fit P H) {n:Nat} {g:FuncId} {first caps:List PV} {i:Nat} {k:Int} {plan:List (List PV)} (h:zXD P H orc yo zB8 n g first i caps k=some plan):Callable P g∧(first++PV.yld i::caps).length≤zAl∧zUC P g first i caps k plan:=by
 have hh:zAl=50000000:=rfl
 simp only [zXD] at h
 split at h
 ·rename_i fn hf
  split at h
  ·rename_i body yY
   rcases zBn h with ⟨hc,h⟩ | ⟨_,h⟩
   ·simp only [Bool.and_eq_true] at hc
    obtain ⟨⟨⟨⟨h1,h2⟩,h3⟩,h4⟩,hint⟩:=hc
    have hint:=Nat.eq_of_beq_eq_true hint
    have h1:=Nat.le_of_ble_eq_true h1
    have hwf:=zMB g fn hf hint
    simp only [zVo,yY,Bool.and_eq_true] at hwf
    obtain ⟨⟨⟨jJ,yc⟩,u9⟩,jI⟩:=hwf
    have u9:=Nat.le_of_ble_eq_true u9
    have uc:(first++PV.yld i::caps).all (fun p => !p.isTup)=true:=by
     rw [List.all_append,List.all_cons,Bool.and_eq_true] 
     rw [List.all_append,Bool.and_eq_true] at h3
     exact ⟨h3.1,by rw [h3.2];rfl⟩
    have hk:k≠0:=by simpa using h4
    refine ⟨⟨fn,hf,by rw [yY];rfl⟩,by omega,?_⟩
    have key:∀ {x:X} {e1:Env} {l:Log},exec P H orc yo zB8 fn.ntmps (H g) n body (zBb (first++PV.yld i::caps) []) (some ⟨[],k,i⟩)=some (x,e1,some l)→(x = .norm∨x = .ret)→l.xs=plan→zUC P g first i caps k plan:=fun hx gm hg J Jx Ψ hC w Φ rv E L vs B hE kD C yD ye jW hJ hBL hBΦ =>
     zVu zE3 jF hnm hC hf yY jJ u9 h1 uc h2 hx gm hg hk hE kD C yD ye jW hJ hBL hBΦ
    split at h
    ·rename_i e1 l hx
     simp only [Option.some.injEq] at h
     exact key hx (.inl rfl) h
    ·rename_i e1 l hx
     simp only [Option.some.injEq] at h
     exact key hx (.inr rfl) h
    ·cases h
   ·cases h
  ·cases h
 ·cases h
theorem zEV [Yo] (zE3:P.follows .mixedOrders=true) (hnm:zER P) (zMB:Fit P H) (hin:zEI P H) (qx:zMc P Yo.yo):∀ n,zGc P (zCO P H n)
 | 0=>by intro f args hid v hO h;cases h
 | n + 1 => by
  have jF:=zEV zE3 hnm zMB hin qx n
  intro f args hid v hO h
  have h:zGv P H (zCO P H n) Yo.yo zB8 (n+1) f args hid=some (v,hO):=h
  simp only [zGv] at h
  split at h
  ·rename_i fn hf
   split at h
   ·rename_i hi
    exact hin f fn args hid v hO hf hi h
   ·rename_i hi
    split at h
    ·rename_i body yY
     exact ⟨⟨fn,hf,by rw [yY];rfl⟩,zVR zE3 jF hnm qx hf yY (zMB f fn hf (by simpa using hi)) h⟩
    ·cases h
  ·cases h
abbrev yo0:Yo:=⟨fun _ _ _ _ _=>none⟩
noncomputable def zTu (P:Program) (H:zBh) (n:Nat):zCV:=fun g first i caps k=>zXD P H (@zCO P H yo0 n) yo0.yo zB8 (n+1) g first i caps k
open Classical in
noncomputable def zWA (P:Program) (H:zBh):zCV:=fun g first i caps k=>if h:∃ xs n0,∀ n,n0≤n→zTu P H n g first i caps k=some xs then some (Classical.choose h) else none
noncomputable abbrev yo1 (P:Program) (H:zBh):Yo:=⟨zWA P H⟩
theorem zUN {g:FuncId} {first:List PV} {i:Nat} {caps:List PV} {k:Int} {xs:List (List PV)} {n0:Nat} (h:∀ n,n0≤n→zTu P H n g first i caps k=some xs):zWA P H g first i caps k=some xs:=by
 have h':∃ xs n0,∀ n,n0≤n→zTu P H n g first i caps k=some xs:=⟨xs,n0,h⟩
 simp only [zWA,dif_pos h']
 obtain ⟨n1,h1⟩:=Classical.choose_spec h'
 have h2:=h1 (max n0 n1) (by omega)
 rw [h (max n0 n1) (by omega)] at h2
 exact h2.symm
theorem zPQ (zE3:P.follows .mixedOrders=true) (hnm:zER P) (zMB:Fit P H) (hin:zEI P H):zMc P (zWA P H):=by
 intro g first i caps k plan h
 simp only [zWA] at h
 split at h
 ·rename_i h'
  simp only [Option.some.injEq] at h;subst h
  obtain ⟨n1,h1⟩:=Classical.choose_spec h'
  exact zPu zE3 (@zEV P H yo0 zE3 hnm zMB hin (fun g first i caps k plan h=>by cases h) n1) hnm zMB (h1 n1 (by omega))
 ·cases h
end
end Go.Eng
namespace Go.Eng
open Go
def zHs:zAF:=fun _ _ _=>none
def zWs:zCV:=fun _ _ _ _ _=>none
def zGU:All:=fun _=>none
theorem zFN {o:zAF}:∀ {p:PM} {e e1:Env},p.run zHs e=some e1→p.run o e=some e1:=by
 intro p
 induction p with
 | ok=>intro e e1 h;exact h
 | fail=>intro e e1 h;cases h
 | view s k ih=>intro e e1 h;exact ih _ h
 | get s k ih=>intro e e1 h;simp only [PM.run] at h ⊢;split at h<;>first | (cases h;done) | exact ih _ h
 | set s q k ih=>intro e e1 h;exact ih h
 | cells r pre i c n k ih=>intro e e1 h;simp only [PM.run] at h ⊢;split at h<;>first | (cases h;done) | exact ih _ _ h
 | deep r pre k ih=>intro e e1 h;simp only [PM.run] at h ⊢;split at h<;>first | (cases h;done) | exact ih _ h
 | wcells r pre i c qs k ih=>intro e e1 h;simp only [PM.run] at h ⊢;split at h<;>first | (cases h;done) | exact ih h
 | wnode r pre q k ih =>
  intro e e1 h
  simp only [PM.run] at h ⊢
  rcases zBn h with ⟨_,h⟩ | ⟨hl,h⟩
  ·cases h
  ·rw [hl];simp only [cond_false]
   split at h
   ·exact ih h
   ·cases h
 | kill r pre k ih=>intro e e1 h;exact ih h
 | frz r pre k ih=>intro e e1 h;simp only [PM.run] at h ⊢;split at h<;>first | (cases h;done) | exact ih h
 | killEx r pre k ih=>intro e e1 h;exact ih h
 | forget r k ih=>intro e e1 h;exact ih h
 | call f args hid k ih=>intro e e1 h;cases h
theorem zAp {α β:Type} {x y:Option α} {f:α→β} {r:β} (h:x.map f=some r) (g:∀ a,x=some a→y=some a):y.map f=some r:=by
 obtain ⟨a,h1,h2⟩:=Option.map_eq_some_iff.1 h
 rw [g a h1];simp [h2]
theorem zIq {o:zAF}:∀ {p:PM} {e:Env} {r:Env×Tok},p.runT zHs e=some r→p.runT o e=some r:=by
 intro p
 induction p with
 | ok=>intro e e1 h;exact h
 | fail=>intro e e1 h;cases h
 | view s k ih=>intro e e1 h;exact zAp h fun a h=>ih _ h
 | get s k ih=>intro e e1 h;simp only [PM.runT] at h ⊢;split at h<;>first | (cases h;done) | exact zAp h fun a h=>ih _ h
 | set s q k ih=>intro e e1 h;exact zAp h fun a h=>ih h
 | cells r pre i c n k ih=>intro e e1 h;simp only [PM.runT] at h ⊢;split at h<;>first | (cases h;done) | exact zAp h fun a h=>ih _ _ h
 | deep r pre k ih=>intro e e1 h;simp only [PM.runT] at h ⊢;split at h<;>first | (cases h;done) | exact zAp h fun a h=>ih _ h
 | wcells r pre i c qs k ih=>intro e e1 h;simp only [PM.runT] at h ⊢;split at h<;>first | (cases h;done) | exact zAp h fun a h=>ih h
 | wnode r pre q k ih =>
  intro e e1 h
  simp only [PM.runT] at h ⊢
  rcases zBn h with ⟨_,h⟩ | ⟨hl,h⟩
  ·cases h
  ·rw [hl];simp only [cond_false]
   split at h
   ·exact zAp h fun a h=>ih h
   ·cases h
 | kill r pre k ih=>intro e e1 h;exact zAp h fun a h=>ih h
 | frz r pre k ih=>intro e e1 h;simp only [PM.runT] at h ⊢;split at h<;>first | (cases h;done) | exact zAp h fun a h=>ih h
 | killEx r pre k ih=>intro e e1 h;exact zAp h fun a h=>ih h
 | forget r k ih=>intro e e1 h;exact zAp h fun a h=>ih h
 | call f args hid k ih=>intro e e1 h;cases h
section
variable {P:Program} {H:zBh} {o:zAF} {fz tk nl:Bool} {fzs tks:List Nat} {ops:Array Oper} {nt:Nat} {hh:FHint} {yo:zCV} {al:All}
theorem zHP {x:Oper} {h0:Nat} {args:List PV} {l:Log} {e:Env} {r:Env×Option Log} (h:zBT zHs ops x h0 args l e=some r):zBT o ops x h0 args l e=some r:=by
 simp only [zBT] at h ⊢
 split at h
 ·rcases zBn h with ⟨hc,h⟩ | ⟨_,h⟩
  ·rw [hc];simp only [cond_true]
   refine zAp h fun a h=>?_
   rcases zBn h with ⟨hk,h⟩ | ⟨hk,h⟩<;>rw [hk]
   ·exact zFN h
   ·exact zFN h
  ·cases h
 ·exact zAp h fun a h=>zFN h
 ·cases h
theorem zSA {x:Oper} {e:Env} {lg:Option Log} {r:Env×Option Log} (h:zCT P H zHs fz tk nl ops x e lg=some r):zCT P H o fz tk nl ops x e lg=some r:=by
 simp only [zCT] at h ⊢
 split at h
 ·exact zAp h fun a h=>zFN h
 ·split at h
  ·exact zHP h
  ·exact zAp h fun a h=>zFN h
theorem zL0 {x:Oper} {e:Env} {lg:Option Log} {r:Env×Option Log×Tok} (h:zEj P H zHs fz tk nl ops x e lg=some r):zEj P H o fz tk nl ops x e lg=some r:=by
 simp only [zEj] at h ⊢
 split at h
 ·exact zAp h fun a h=>zIq h
 ·split at h
  ·exact zAp h fun a h=>zHP h
  ·exact zAp h fun a h=>zIq h
theorem zHk:∀ {l:List Oper} {i:Nat} {e:Env} {lg:Option Log} {r:Env×Option Log},zBf P H zHs fzs tks nl ops l i e lg=some r→zBf P H o fzs tks nl ops l i e lg=some r
 | [],_,_,_,_,h=>h
 | x::l,i,e,lg,r,h=>by
  simp only [zBf] at h ⊢
  cases hs:zCT P H zHs (fzs.contains i) (tks.contains i) nl ops x e lg with
  | none=>rw [hs] at h;cases h
  | some q=>rw [hs] at h;rw [zSA hs];exact zHk h
theorem zI3:∀ {l:List Oper} {i:Nat} {acc:List Nat} {ts:List Tok} {e:Env} {lg:Option Log} {r:Env×Option Log},zCz P H zHs fzs tks nl ops l i acc ts e lg=some r→zCz P H o fzs tks nl ops l i acc ts e lg=some r
 | [],_,_,_,_,_,_,h=>h
 | x :: l,i,acc,ts,e,lg,r,h=>by
  simp only [zCz] at h ⊢
  cases hs:zEj P H zHs (fzs.contains i) (tks.contains i) nl ops x e lg with
  | none=>rw [hs] at h;cases h
  | some q =>
   rw [hs] at h;rw [zL0 hs]
   simp only at h ⊢
   rcases zBn h with ⟨hc,h⟩ | ⟨_,h⟩
   ·rw [hc];exact zI3 h
   ·cases h
theorem zO3:∀ {m:Nat} {c:Code} {e:Env} {lg:Option Log} {r:X×Env×Option Log},exec P H zHs zWs zGU nt hh m c e lg=some r→∀ {m':Nat},m≤m'→exec P H o yo al nt hh m' c e lg=some r
 | 0,_,_,_,_,h,_,_=>by cases h
 | m + 1,c,e,lg,r,h,m',hm=>by
  obtain ⟨m',rfl⟩:∃ k,m'=k+1:=⟨m'-1,by omega⟩
  have ih:∀ {c:Code} {e:Env} {lg:Option Log} {r:X×Env×Option Log},exec P H zHs zWs zGU nt hh m c e lg=some r→exec P H o yo al nt hh m' c e lg=some r:=fun h=>zO3 h (by omega)
  cases c with
  | region id ops draw =>
   simp only [exec] at h ⊢
   split at h
   ·rename_i e1 lg1 h1
    have:(if draw=true then zCz P H o (hh.frzs id) (hh.take id) hh.nils ops ops.toList 0 [] [] e lg else zBf P H o (hh.frzs id) (hh.take id) hh.nils ops ops.toList 0 e lg)=some (e1,lg1):=by
     cases draw with
     | true=>exact zI3 h1
     | false=>exact zHk h1
    rw [this];exact h
   ·cases h
  | seq a b =>
   simp only [exec] at h ⊢
   cases h1:exec P H zHs zWs zGU nt hh m a e lg with
   | none=>rw [h1] at h;cases h
   | some q =>
    rw [h1] at h;rw [ih h1]
    obtain ⟨x,e1,lg1⟩:=q
    cases x with
    | norm=>exact ih h
    | ex id=>exact h
    | ret=>exact h
  | cond c a b =>
   cases c with
   | tmp t =>
    simp only [exec] at h ⊢
    revert h
    cases e.get t with
    | bool v=>intro h;cases v<;>exact ih h
    | _=>intro h;cases h
   | const v =>
    simp only [exec] at h ⊢
    revert h
    cases v with
    | bool v=>intro h;cases v<;>exact ih h
    | _=>intro h;cases h
   | _=>cases h
  | block id b =>
   simp only [exec] at h ⊢
   cases h1:exec P H zHs zWs zGU nt hh m b e lg with
   | none=>rw [h1] at h;cases h
   | some q =>
    rw [h1] at h;rw [ih h1];exact h
  | loop b =>
   simp only [exec] at h ⊢
   cases h1:exec P H zHs zWs zGU nt hh m b (e.drop (hh.loopDrop (zAT b))) lg with
   | none=>rw [h1] at h;cases h
   | some q =>
    rw [h1] at h;rw [ih h1]
    obtain ⟨x,e1,lg1⟩:=q
    cases x with
    | norm=>exact ih h
    | ex id=>exact h
    | ret=>exact h
  | scope b=>exact ih h
  | rangeFunc x ps ca cb =>
   cases x with
   | tmp t =>
    simp only [exec] at h
    cases lg with
    | none =>
     simp only at h
     obtain ⟨q,h1,_⟩:=Option.map_eq_some_iff.1 h
     simp only [zG0] at h1
     split at h1
     ·cases h1
     ·cases h1
    | some _=>cases h
   | _=>cases h
  | skip=>exact h
  | exit id=>exact h
  | ret=>exact h
  | label l=>exact h
  | _=>cases h
end
def cl:Code→Code
 | .seq a _=>a
 | .cond _ a _=>a
 | .block _ b=>b
 | .loop b=>b
 | .scope b=>b
 | c=>c
def cr:Code→Code
 | .seq _ b=>b
 | .cond _ _ b=>b
 | c=>c
def zTX:Code→Bool
 | .seq .. => true
 | _=>false
def zOg:Code→Bool
 | .loop _=>true
 | _=>false
def zQ4:Code→Bool
 | .scope _=>true
 | _=>false
def zSj:Code→Option Nat
 | .block n _=>some n
 | _=>none
def zRj:Code→Option Nat
 | .cond (.tmp t) _ _=>some t
 | _=>none
def zUi:Code→Option Nat
 | .exit n=>some n
 | _=>none
def zXu:Code→Bool
 | .ret=>true
 | _=>false
def zUB:Code→Bool
 | .skip=>true
 | _=>false
def zVK:Code→Bool
 | .region .. => true
 | _=>false
def rid:Code→Nat
 | .region n _ _=>n
 | _=>0
def zFj:Code→Array Oper
 | .region _ o _=>o
 | _=>#[]
def zQ2:Code→Bool
 | .region _ _ d=>d
 | _=>false
def zDY (c : Code) (i : Nat) : Oper := (zFj c)[i]?.getD { dst := none, op := .move (.const .nilIface), type := 0, pos := "", after := #[], guard := none }
theorem zSG {c:Code} (h:zTX c=true):c = .seq (cl c) (cr c):=by cases c<;>first | rfl | cases h
theorem zL3 {c:Code} (h:zOg c=true):c = .loop (cl c):=by cases c<;>first | rfl | cases h
theorem zPT {c:Code} (h:zQ4 c=true):c = .scope (cl c):=by cases c<;>first | rfl | cases h
theorem zTU {c:Code} (h:zXu c=true):c = .ret:=by cases c<;>first | rfl | cases h
theorem zQi {c:Code} (h:zUB c=true):c = .skip:=by cases c<;>first | rfl | cases h
theorem zTJ {c:Code} (h:zVK c=true):c = .region (rid c) (zFj c) (zQ2 c):=by cases c<;>first | rfl | cases h
theorem zPZ {c:Code} {n:Nat} (h:zSj c=some n):c = .block n (cl c):=by cases c<;>first | (cases h;rfl) | cases h
theorem zRH {c:Code} {n:Nat} (h:zUi c=some n):c = .exit n:=by cases c<;>first | (cases h;rfl) | cases h
theorem zPV {c:Code} {t:Nat} (h:zRj c=some t):c = .cond (.tmp t) (cl c) (cr c):=by
 cases c<;>try (cases h;done)
 rename_i x a b
 cases x<;>first | (cases h;rfl) | cases h
section
variable [Yo] (P:Program) (H:zBh)
def zAo (f:FuncId) (args hid:List PV) (v:PV) (hO:List PV):Prop:=∃ n0,∀ n,n0≤n→zCO P H n f args hid=some (v,hO)
def W (f:FuncId) (nt:Nat) (c:Code) (e:Env) (lg:Option Log) (K:X→Env→Option Log→Prop):Prop :=
 ∃ n0 x e' lg',(∀ n m,n0≤n→n0≤m→exec P H (zCO P H n) Yo.yo zB8 nt (H f) m c e lg=some (x,e',lg'))∧K x e' lg'
def zFh (dr:Option (List Nat×List Tok)) (i:Nat) (o:Oper) (t:Tok):Option (Option (List Nat×List Tok)) :=
 match dr with
 | none=>some none
 | some (acc,ts)=>bif o.after.toList.all (fun e => !Region.binds .any e||Nat.blt e.on i)&&zF8 (zHW acc o) t 0 ts then some (some (acc++[zHW acc o],ts++[t])) else none
def zVZ (orc:zAF) (fzs tks:List Nat) (nl:Bool) (ops:Array Oper) (dr:Option (List Nat×List Tok)) (l:List Oper) (i:Nat) (e:Env) (lg:Option Log):Option (Env×Option Log) :=
 match dr with
 | none=>zBf P H orc fzs tks nl ops l i e lg
 | some (acc,ts)=>zCz P H orc fzs tks nl ops l i acc ts e lg
def WR (f:FuncId) (id:Nat) (ops:Array Oper) (dr:Option (List Nat×List Tok)) (i:Nat) (e:Env) (lg:Option Log) (K:Env→Option Log→Prop):Prop :=
 ∃ n0 eN lg',(∀ n,n0≤n→∃ e',zVZ P H (zCO P H n) ((H f).frzs id) ((H f).take id) (H f).nils ops dr (ops.toList.drop i) i e lg=some (e',lg')∧(e'.drop ((H f).drop id)).norm=eN)∧K eN lg'
end
section
variable [Yo] {P:Program} {H:zBh} {f:FuncId} {nt:Nat} {e e':Env} {lg:Option Log} {K:X→Env→Option Log→Prop}
def zYQ (P:Program) (H:zBh) (f:FuncId) (nt:Nat) (b:Code) (K:X→Env→Option Log→Prop):X→Env→Option Log→Prop
 | .norm,e,lg=>W P H f nt b e lg K
 | x,e,lg=>K x e lg
theorem zY4 {a b:Code} (h:W P H f nt a e lg (zYQ P H f nt b K)):W P H f nt (.seq a b) e lg K:=by
 obtain ⟨n0,x,e1,lg1,h1,h2⟩:=h
 cases x with
 | norm =>
  obtain ⟨n2,x,e2,lg2,h3,h4⟩:=h2
  refine ⟨max n0 n2+1,x,e2,lg2,fun n m hn hm=>?_,h4⟩
  obtain ⟨m,rfl⟩:∃ k,m=k+1:=⟨m-1,by omega⟩
  simp only [exec,h1 n m (by omega) (by omega),h3 n m (by omega) (by omega)]
 | ex id =>
  refine ⟨n0+1,_,e1,lg1,fun n m hn hm=>?_,h2⟩
  obtain ⟨m,rfl⟩:∃ k,m=k+1:=⟨m-1,by omega⟩
  simp only [exec,h1 n m (by omega) (by omega)]
 | ret =>
  refine ⟨n0+1,_,e1,lg1,fun n m hn hm=>?_,h2⟩
  obtain ⟨m,rfl⟩:∃ k,m=k+1:=⟨m-1,by omega⟩
  simp only [exec,h1 n m (by omega) (by omega)]
theorem zTj (m:Nat) {c:Code} {x:X} {e1:Env} {lg1:Option Log} (h:exec P H zHs zWs zGU nt (H f) m c e lg=some (x,e1,lg1)) (hk:K x e1 lg1):W P H f nt c e lg K :=
 ⟨m,x,e1,lg1,fun _ _ _ hm=>zO3 h hm,hk⟩
theorem zQS {c:Code} {K':X→Env→Option Log→Prop} (h:W P H f nt c e lg K) (hk:∀ x e lg,K x e lg→K' x e lg):W P H f nt c e lg K':=by
 obtain ⟨n0,x,e1,lg1,h1,h2⟩:=h
 exact ⟨n0,x,e1,lg1,h1,hk _ _ _ h2⟩
theorem zY1 (h:K .ret e lg):W P H f nt .ret e lg K:=zTj 1 rfl h
theorem zWW (h:K .norm e lg):W P H f nt .skip e lg K:=zTj 1 rfl h
theorem zWY {id:Nat} (h:K (.ex id) (zWp ((H f).ices id) e) lg):W P H f nt (.exit id) e lg K:=zTj 1 rfl h
theorem zVe {b:Code} (h:W P H f nt b e lg K):W P H f nt (.scope b) e lg K:=by
 obtain ⟨n0,x,e1,lg1,h1,h2⟩:=h
 refine ⟨n0+1,x,e1,lg1,fun n m hn hm=>?_,h2⟩
 obtain ⟨m,rfl⟩:∃ k,m=k+1:=⟨m-1,by omega⟩
 exact h1 n m (by omega) (by omega)
def Blk (id:Nat) (K:X→Env→Option Log→Prop):X→Env→Option Log→Prop
 | .ex id',e,lg=>bif Nat.beq id' id then K .norm e lg else K (.ex id') e lg
 | x,e,lg=>K x e lg
theorem zVg {id:Nat} {b:Code} (h:W P H f nt b e lg (Blk id K)):W P H f nt (.block id b) e lg K:=by
 obtain ⟨n0,x,e1,lg1,h1,h2⟩:=h
 cases x with
 | ex id' =>
  by_cases hid:id'=id
  ·subst hid
   simp only [Blk,Nat.beq_refl,cond_true] at h2
   refine ⟨n0+1,.norm,e1,lg1,fun n m hn hm=>?_,h2⟩
   obtain ⟨m,rfl⟩:∃ k,m=k+1:=⟨m-1,by omega⟩
   simp only [exec,h1 n m (by omega) (by omega),if_true]
  ·have hb:Nat.beq id' id=false:=by
    cases hc:Nat.beq id' id with
    | false=>rfl
    | true=>exact (hid (Nat.eq_of_beq_eq_true hc)).elim
   simp only [Blk,hb,cond_false] at h2
   refine ⟨n0+1,.ex id',e1,lg1,fun n m hn hm=>?_,h2⟩
   obtain ⟨m,rfl⟩:∃ k,m=k+1:=⟨m-1,by omega⟩
   simp only [exec,h1 n m (by omega) (by omega),if_neg hid]
 | norm =>
  refine ⟨n0+1,_,e1,lg1,fun n m hn hm=>?_,h2⟩
  obtain ⟨m,rfl⟩:∃ k,m=k+1:=⟨m-1,by omega⟩
  simp only [exec,h1 n m (by omega) (by omega)]
 | ret =>
  refine ⟨n0+1,_,e1,lg1,fun n m hn hm=>?_,h2⟩
  obtain ⟨m,rfl⟩:∃ k,m=k+1:=⟨m-1,by omega⟩
  simp only [exec,h1 n m (by omega) (by omega)]
theorem zXe {t:Nat} {a b:Code} {c:Bool} (ht:e.get t = .bool c) (h1:c=true→W P H f nt a e lg K) (h2:c=false→W P H f nt b e lg K):W P H f nt (.cond (.tmp t) a b) e lg K:=by
 cases c with
 | true =>
  obtain ⟨n0,x,e1,lg1,h3,h4⟩:=h1 rfl
  refine ⟨n0+1,_,_,lg1,fun n m hn hm=>?_,h4⟩
  obtain ⟨m,rfl⟩:∃ k,m=k+1:=⟨m-1,by omega⟩
  simp only [exec,ht];exact h3 n m (by omega) (by omega)
 | false =>
  obtain ⟨n0,x,e1,lg1,h3,h4⟩:=h2 rfl
  refine ⟨n0+1,_,_,lg1,fun n m hn hm=>?_,h4⟩
  obtain ⟨m,rfl⟩:∃ k,m=k+1:=⟨m-1,by omega⟩
  simp only [exec,ht];exact h3 n m (by omega) (by omega)
theorem zXE {σ:Type} (Inv:σ→Prop) (I:σ→Env) (μ:σ→Nat) {b:Code} (h:∀ s,Inv s→W P H f nt b (I s) lg fun x e lg'=>match x with
   | .norm=>∃ s',Inv s'∧μ s'<μ s∧e.drop ((H f).loopDrop (zAT b))=I s'∧lg'=lg
   | x=>K x e lg'):∀ (n:Nat) (s:σ) (e:Env),μ s≤n→Inv s→e.drop ((H f).loopDrop (zAT b))=I s→W P H f nt (.loop b) e lg K:=by
 intro n
 induction n with
 | zero =>
  intro s e hs hi he
  obtain ⟨n0,x,e1,lg1,h1,h2⟩:=h s hi
  cases x with
  | norm=>obtain ⟨s',_,h3,_⟩:=h2;omega
  | ex id =>
   refine ⟨n0+1,_,e1,lg1,fun n m hn hm=>?_,h2⟩
   obtain ⟨m,rfl⟩:∃ k,m=k+1:=⟨m-1,by omega⟩
   simp only [exec,he,h1 n m (by omega) (by omega)]
  | ret =>
   refine ⟨n0+1,_,e1,lg1,fun n m hn hm=>?_,h2⟩
   obtain ⟨m,rfl⟩:∃ k,m=k+1:=⟨m-1,by omega⟩
   simp only [exec,he,h1 n m (by omega) (by omega)]
 | succ n ih =>
  intro s e hs hi he
  obtain ⟨n0,x,e1,lg1,h1,h2⟩:=h s hi
  cases x with
  | norm =>
   obtain ⟨s',h3,h4,h7,rfl⟩:=h2
   obtain ⟨n2,x,e2,lg2,h5,h6⟩:=ih s' e1 (by omega) h3 h7
   refine ⟨max n0 n2+1,x,e2,lg2,fun n m hn hm=>?_,h6⟩
   obtain ⟨m,rfl⟩:∃ k,m=k+1:=⟨m-1,by omega⟩
   simp only [exec,he,h1 n m (by omega) (by omega),h5 n m (by omega) (by omega)]
  | ex id =>
   refine ⟨n0+1,_,e1,lg1,fun n m hn hm=>?_,h2⟩
   obtain ⟨m,rfl⟩:∃ k,m=k+1:=⟨m-1,by omega⟩
   simp only [exec,he,h1 n m (by omega) (by omega)]
  | ret =>
   refine ⟨n0+1,_,e1,lg1,fun n m hn hm=>?_,h2⟩
   obtain ⟨m,rfl⟩:∃ k,m=k+1:=⟨m-1,by omega⟩
   simp only [exec,he,h1 n m (by omega) (by omega)]
theorem zAh {c:Code} (h:W P H f nt (cl c) e lg (zYQ P H f nt (cr c) K)) (hc:zTX c=true:=by kernel_rfl):W P H f nt c e lg K:=by rw [zSG hc];exact zY4 h
theorem zAn {c:Code} (h:K .ret e lg) (hc:zXu c=true:=by kernel_rfl):W P H f nt c e lg K:=by rw [zTU hc];exact zY1 h
theorem zAm {c:Code} (h:K .norm e lg) (hc:zUB c=true:=by kernel_rfl):W P H f nt c e lg K:=by rw [zQi hc];exact zWW h
theorem zAM {c:Code} (n:Nat) (h:K (.ex n) (zWp ((H f).ices n) e) lg) (hc:zUi c=some n:=by kernel_rfl):W P H f nt c e lg K:=by rw [zRH hc];exact zWY h
theorem zVS {c:Code} (h:W P H f nt (cl c) e lg K) (hc:zQ4 c=true:=by kernel_rfl):W P H f nt c e lg K:=by rw [zPT hc];exact zVe h
theorem zAk {c:Code} (n:Nat) (h:W P H f nt (cl c) e lg (Blk n K)) (hc:zSj c=some n:=by kernel_rfl):W P H f nt c e lg K:=by rw [zPZ hc];exact zVg h
def zEz (c:Code) (e:Env):Option Bool :=
 match zRj c with
 | some t=>match e.get t with
  | .bool b=>some b
  | _=>none
 | none=>none
theorem zGb (b:Bool) {c:Code} (h1:b=true→W P H f nt (cl c) e lg K) (h2:b=false→W P H f nt (cr c) e lg K) (hc:zEz c e=some b:=by kernel_rfl):W P H f nt c e lg K:=by
 simp only [zEz] at hc
 split at hc
 ·rename_i t ht
  rw [zPV ht]
  split at hc
  ·rename_i b' hb
   simp only [Option.some.injEq] at hc;subst hc
   exact zXe hb h1 h2
  ·cases hc
 ·cases hc
theorem zDW {c:Code} (h:W P H f nt (cl c) e lg K) (hc:zEz c e=some true:=by kernel_rfl):W P H f nt c e lg K:=zGb true (fun _=>h) (fun h=>by cases h) hc
theorem zAH {c:Code} (h:W P H f nt (cr c) e lg K) (hc:zEz c e=some false:=by kernel_rfl):W P H f nt c e lg K:=zGb false (fun h=>by cases h) (fun _=>h) hc
theorem zWZ {σ:Type} {c:Code} (Inv:σ→Prop) (I:σ→Env) (μ:σ→Nat) (s:σ) (hi:Inv s) (h:∀ s,Inv s→W P H f nt (cl c) (I s) lg fun x e lg'=>match x with
   | .norm=>∃ s',Inv s'∧μ s'<μ s∧e.drop ((H f).loopDrop (zAT (cl c)))=I s'∧lg'=lg
   | x=>K x e lg') (hs:e.drop ((H f).loopDrop (zAT (cl c)))=I s:=by kernel_rfl) (hc:zOg c=true:=by kernel_rfl):W P H f nt c e lg K:=by
 rw [zL3 hc];exact zXE Inv I μ h (μ s) s e (Nat.le_refl _) hi hs
def zLW (o:Option Env):Env :=
 match o with
 | some e=>e
 | none=>[]
structure RS where
 dr:Option (List Nat×List Tok)
 e:Env
 lg:Option Log
def noY (lg:Option Log) (e:Env) (o:Oper):Bool :=
 match lg with
 | none=>true
 | some _=>(zCf e o).isNone
def WS (P:Program) (H:zBh) (f:FuncId) (c:Code) (i:Nat) (s:RS) (R:Env→Option Log→Prop):Prop:=WR P H f (rid c) (zFj c) s.dr i s.e s.lg R
def zVx (P:Program) (H:zBh) (f:FuncId) (c:Code) (i:Nat) (s:RS):Option RS :=
 match zEj P H zHs (((H f).frzs (rid c)).contains i) (((H f).take (rid c)).contains i) (H f).nils (zFj c) (zDY c i) s.e s.lg with
 | some (e',lg',t)=>(zFh s.dr i (zDY c i) t).map fun dr=>⟨dr,e',lg'⟩
 | none=>none
def zHQ (P:Program) (H:zBh) (f:FuncId) (c:Code):Nat→Nat→RS→Option RS
 | 0,_,s=>some s
 | m+1,i,s=>match zVx P H f c i s with
  | some s'=>zHQ P H f c m (i+1) s'
  | none=>none
variable {i:Nat} {c:Code} {s s':RS} {R:Env→Option Log→Prop}
abbrev zXA (P:Program) (H:zBh) (f:FuncId) (c:Code) (i:Nat):PM:=opM P H (((H f).frzs (rid c)).contains i) (((H f).take (rid c)).contains i) (H f).nils (zDY c i)
def zWm (o:Option RS):RS :=
 match o with
 | some s=>s
 | none=>⟨none,[],none⟩
theorem zMq {o:Option RS} (h:o.isSome=true):o=some (zWm o):=by cases o<;>first | rfl | cases h
theorem zAg (h:WS P H f c 0 ⟨bif zQ2 c then some ([],[]) else none,e,lg⟩ (K .norm)) (hc:zVK c=true:=by kernel_rfl):W P H f nt c e lg K:=by
 obtain ⟨n0,e1,lg1,h1,h2⟩:=h
 rw [zTJ hc]
 refine ⟨n0+1,_,_,lg1,fun n m hn hm=>?_,h2⟩
 obtain ⟨m,rfl⟩:∃ k,m=k+1:=⟨m-1,by omega⟩
 obtain ⟨e2,this,h3⟩:=h1 n (by omega)
 cases hd:zQ2 c with
 | true=>simp only [hd,cond_true,zVZ,List.drop_zero] at this;simp only [exec,this,if_true,h3]
 | false=>simp only [hd,cond_false,zVZ,List.drop_zero] at this;simp only [exec,this,← h3];rfl
theorem zXK (e1:Env) (h:R e1 s.lg) (he:(s.e.drop ((H f).drop (rid c))).norm=e1:=by kernel_rfl) (hi:Nat.ble (zFj c).size i=true:=by kernel_rfl):WS P H f c i s R:=by
 have hi:=Nat.le_of_ble_eq_true hi
 refine ⟨0,e1,s.lg,fun n _=>⟨s.e,?_,he⟩,h⟩
 rw [List.drop_eq_nil_of_le (by simpa using hi)]
 cases s.dr<;>rfl
theorem zAa (h:R ((s.e.drop ((H f).drop (rid c))).norm) s.lg) (hi:Nat.ble (zFj c).size i=true:=by kernel_rfl):WS P H f c i s R:=zXK _ h rfl hi
theorem zVP (h:Nat.blt i (zFj c).size=true):(zFj c)[i]? = some (zDY c i):=by
 have:i<(zFj c).size:=by simpa using h
 simp [zDY,this]
theorem zQk (h:Nat.blt i (zFj c).size=true):(zFj c).toList.drop i=zDY c i::(zFj c).toList.drop (i+1):=by
 have h1:(zFj c).toList[i]? = some (zDY c i):=by rw [Array.getElem?_toList];exact zVP h
 obtain ⟨h2,h3⟩:=List.getElem?_eq_some_iff.1 h1
 rw [← h3];exact (List.drop_eq_getElem_cons h2)
theorem zKb {orc:zAF} {fz tk nl:Bool} {ops:Array Oper} {o:Oper} {lg':Option Log} {t:Tok} (h:zEj P H orc fz tk nl ops o e lg=some (e',lg',t)):zCT P H orc fz tk nl ops o e lg=some (e',lg'):=by
 simp only [zEj] at h
 simp only [zCT]
 split at h
 ·obtain ⟨a,h1,h2⟩:=Option.map_eq_some_iff.1 h
  cases h2
  rw [zEh h1];rfl
 ·split at h
  ·obtain ⟨a,h1,h2⟩:=Option.map_eq_some_iff.1 h
   cases h2
   rw [h1]
  ·obtain ⟨a,h1,h2⟩:=Option.map_eq_some_iff.1 h
   cases h2
   rw [zEh h1];rfl
theorem zKW {t:Tok} {dr':Option (List Nat×List Tok)} {lg':Option Log} (hi:Nat.blt i (zFj c).size=true) (hT:∃ n0,∀ n,n0≤n→zEj P H (zCO P H n) (((H f).frzs (rid c)).contains i) (((H f).take (rid c)).contains i) (H f).nils (zFj c) (zDY c i) s.e s.lg=some (e',lg',t))
  (hd:zFh s.dr i (zDY c i) t=some dr') (h:WS P H f c (i+1) ⟨dr',e',lg'⟩ R):WS P H f c i s R:=by
 obtain ⟨n0,hT⟩:=hT
 obtain ⟨n2,e2,lg2,h1,h2⟩:=h
 obtain ⟨dr,e,lg⟩:=s
 refine ⟨max n0 n2,e2,lg2,fun n hn=>?_,h2⟩
 have hs:=hT n (by omega)
 obtain ⟨e3,h1,h3⟩:=h1 n (by omega)
 refine ⟨e3,?_,h3⟩
 rw [zQk hi]
 cases dr with
 | none =>
  simp only [zFh,Option.some.injEq] at hd;subst hd
  simp only [zVZ] at h1 ⊢
  simp only [zBf,zKb hs];exact h1
 | some d =>
  obtain ⟨acc,ts⟩:=d
  simp only [zFh] at hd
  rcases zBn hd with ⟨hc,hd⟩ | ⟨_,hd⟩
  ·simp only [Option.some.injEq] at hd;subst hd
   simp only [zVZ] at h1 ⊢
   simp only [zCz,hs,hc,cond_true];exact h1
  ·cases hd
theorem zQt {orc:zAF} {fz tk nl:Bool} {ops:Array Oper} {o:Oper} {t:Tok} (hy:noY lg e o=true) (h:(zFP P H ops fz tk nl o).runT orc e=some (e',t)):zEj P H orc fz tk nl ops o e lg=some (e',lg,t):=by
 cases lg with
 | none=>simp only [zEj,h];rfl
 | some l =>
  simp only [noY,Option.isNone_iff_eq_none] at hy
  simp only [zEj,hy,h];rfl
theorem zW7 {t:Tok} {dr':Option (List Nat×List Tok)} (hi:Nat.blt i (zFj c).size=true) (hT:∃ n0,∀ n,n0≤n→(zFP P H (zFj c) (((H f).frzs (rid c)).contains i) (((H f).take (rid c)).contains i) (H f).nils (zDY c i)).runT (zCO P H n) s.e=some (e',t))
  (hd:zFh s.dr i (zDY c i) t=some dr') (h:WS P H f c (i+1) ⟨dr',e',s.lg⟩ R) (hy:noY s.lg s.e (zDY c i)=true):WS P H f c i s R:=by
 obtain ⟨n0,hT⟩:=hT
 exact zKW hi ⟨n0,fun n hn=>zQt hy (hT n hn)⟩ hd h
theorem zSK (hi:Nat.blt i (zFj c).size=true) (hs:zVx P H f c i s=some s') (h:WS P H f c (i+1) s' R):WS P H f c i s R:=by
 simp only [zVx] at hs
 split at hs
 ·rename_i e1 lg1 t ht
  obtain ⟨dr,hd,rfl⟩:=Option.map_eq_some_iff.1 hs
  exact zKW hi ⟨0,fun n _=>zL0 ht⟩ hd h
 ·cases hs
theorem zMm:∀ (m:Nat) {i:Nat} {s s':RS},Nat.ble (i+m) (zFj c).size=true→zHQ P H f c m i s=some s'→WS P H f c (i+m) s' R→WS P H f c i s R
 | 0,i,s,s',_,hs,h=>by simp only [zHQ,Option.some.injEq] at hs;subst hs;exact h
 | m + 1,i,s,s',hi,hs,h=>by
  have gP:=Nat.le_of_ble_eq_true hi
  simp only [zHQ] at hs
  split at hs
  ·rename_i s1 h1
   refine zSK (by simp;omega) h1 (zMm m ?_ hs ?_)
   ·rw [show i+1+m=i+(m+1) by omega];exact hi
   ·rw [show i+1+m=i+(m+1) by omega];exact h
  ·cases hs
theorem zAc (m:Nat) (h:WS P H f c (i+m) (zWm (zHQ P H f c m i s)) R) (hs:(zHQ P H f c m i s).isSome=true:=by kernel_rfl) (hi:Nat.ble (i+m) (zFj c).size=true:=by kernel_rfl):WS P H f c i s R :=
 zMm m hi (zMq hs) h
def zKT (c:Code) (i:Nat) (e:Env):Bool :=
 match (zDY c i).guard with
 | none=>true
 | some (j,want)=>match ((zFj c)[j]?).bind (·.dst) with
  | some t=>match e.get t with
   | .bool b=>b==want
   | _=>false
  | none=>false
theorem zW2 {e':Env} (hm:∃ n0,∀ n,n0≤n→(zXA P H f c i).run (zCO P H n) s.e=some e') (h:WS P H f c (i+1) ⟨none,e',s.lg⟩ R) (ji:s.dr=none:=by kernel_rfl) (hy:noY s.lg s.e (zDY c i)=true:=by kernel_rfl) (hg:zKT c i s.e=true:=by kernel_rfl) (hi:Nat.blt i (zFj c).size=true:=by kernel_rfl):WS P H f c i s R:=by
 obtain ⟨n0,hm⟩:=hm
 obtain ⟨n2,e2,lg2,h1,h2⟩:=h
 obtain ⟨dr,e,lg⟩:=s
 simp only at ji hg hm hy;subst ji
 refine ⟨max n0 n2,e2,lg2,fun n hn=>?_,h2⟩
 obtain ⟨e3,h1,h3⟩:=h1 n (by omega)
 refine ⟨e3,?_,h3⟩
 have hr:(zFP P H (zFj c) (((H f).frzs (rid c)).contains i) (((H f).take (rid c)).contains i) (H f).nils (zDY c i)).run (zCO P H n) e=some e':=by
  have hm:=hm n (by omega)
  revert hg
  simp only [zKT]
  cases qp:(zDY c i).guard with
  | none=>intro _;simp only [zFP,qp];exact hm
  | some w =>
   obtain ⟨j,want⟩:=w
   intro hg
   simp only at hg
   cases hj:((zFj c)[j]?).bind (·.dst) with
   | none=>rw [hj] at hg;cases hg
   | some u =>
    rw [hj] at hg;simp only at hg
    cases hv:e.get u<;>rw [hv] at hg<;>try (cases hg;done)
    have hb:=eq_of_beq hg
    simp only [zFP,qp,hj,PM.run,hv,hb,if_true]
    exact hm
 rw [zQk hi]
 simp only [zVZ] at h1 ⊢
 have hs:zCT P H (zCO P H n) (((H f).frzs (rid c)).contains i) (((H f).take (rid c)).contains i) (H f).nils (zFj c) (zDY c i) e lg=some (e',lg):=by
  cases lg with
  | none=>simp only [zCT,hr,Option.map_some]
  | some l =>
   simp only [noY,Option.isNone_iff_eq_none] at hy
   simp only [zCT,hy,hr,Option.map_some]
 simp only [zBf,hs];exact h1
end
end Go.Eng
namespace Go.Eng
open Go
section
variable {P:Program} {H:zBh} {f:FuncId} {e e':Env} {i:Nat} {c:Code} {fz tk nl:Bool} {orc:zAF}
def zXM (e:Env):Operand→PV
 | .tmp t=>view t (e.get t)
 | .const v=>zEB v
 | .func f => .func f [] []
 | .global _ => .bad
theorem zPy {α β:Type} {f:β→α→β} {b:β} {l:List α} {i:Nat} (h:i<l.length):(l.take (i+1)).foldl f b=f ((l.take i).foldl f b) l[i]:=by
 rw [List.take_add_one,List.getElem?_eq_getElem h]
 simp only [Option.toList,List.foldl_append,List.foldl]
def two (o:Oper) (r:PV):PM :=
 match o.op with
 | .binOp _ _ x y _=>opd x fun _=>opd y fun _=>put o.dst r
 | .indexAddr _ x y=>opd x fun _=>opd y fun _=>put o.dst r
 | .index _ x y=>opd x fun _=>opd y fun _=>put o.dst r
 | _ => .fail
theorem zXs {a:Int} (h : -9223372036854775808≤a∧a<9223372036854775808):IntKind.i64.wrap a=a:=by
 rw [IntKind.wrap_i64];omega
end
end Go.Eng
namespace Go.Eng
open Go
section
variable [Yo] {P:Program} {H:zBh} {f:FuncId} {e e':Env} {i:Nat} {c:Code} {s:RS} {R:Env→Option Log→Prop} {fz tk nl:Bool} {orc:zAF}
def zZP (e:Env) (p q:PV) (l:List (Nat×zAU)):Prop:=∀ (orc:zAF) (k:PV→List (Nat×zAU)→PM),(zPp p k).run orc e=(k q l).run orc e
inductive SeenAll (e:Env):List Nat→List PV→List Arg→Prop where
 | nil {ms}:SeenAll e ms [] []
 | ref {ms ps as p}:Nat.beq (ms.headD 0) 1=true→SeenAll e ms.tail ps as→SeenAll e ms (p::ps) ({p:=p,byref:=true}::as)
 | one {ms ps as p q l}:Nat.beq (ms.headD 0) 1=false→zZP e p q l→SeenAll e ms.tail ps as→SeenAll e ms (p::ps) ({p:=q,shared:=l}::as)
theorem zKl {o o':zAF} (ho:∀ g a h r,o g a h=some r→o' g a h=some r):∀ {p:PM} {e e1:Env},p.run o e=some e1→p.run o' e=some e1:=by
 intro p
 induction p with
 | ok=>intro e e1 h;exact h
 | fail=>intro e e1 h;cases h
 | view s k ih=>intro e e1 h;exact ih _ h
 | get s k ih=>intro e e1 h;simp only [PM.run] at h ⊢;split at h<;>first | (cases h;done) | exact ih _ h
 | set s q k ih=>intro e e1 h;exact ih h
 | cells r pre i c n k ih=>intro e e1 h;simp only [PM.run] at h ⊢;split at h<;>first | (cases h;done) | exact ih _ _ h
 | deep r pre k ih=>intro e e1 h;simp only [PM.run] at h ⊢;split at h<;>first | (cases h;done) | exact ih _ h
 | wcells r pre i c qs k ih=>intro e e1 h;simp only [PM.run] at h ⊢;split at h<;>first | (cases h;done) | exact ih h
 | wnode r pre q k ih =>
  intro e e1 h
  simp only [PM.run] at h ⊢
  rcases zBn h with ⟨_,h⟩ | ⟨hl,h⟩
  ·cases h
  ·rw [hl];simp only [cond_false]
   split at h
   ·exact ih h
   ·cases h
 | kill r pre k ih=>intro e e1 h;exact ih h
 | frz r pre k ih=>intro e e1 h;simp only [PM.run] at h ⊢;split at h<;>first | (cases h;done) | exact ih h
 | killEx r pre k ih=>intro e e1 h;exact ih h
 | forget r k ih=>intro e e1 h;exact ih h
 | call f args hid k ih =>
  intro e e1 h
  simp only [PM.run] at h ⊢
  split at h
  ·rename_i v hO hq
   rw [ho _ _ _ _ hq];exact ih _ _ h
  ·cases h
end
end Go.Eng
namespace Go.Eng
open Go
section
variable [Yo] {P:Program} {H:zBh} {f:FuncId} {e e':Env} {i:Nat} {c:Code} {s:RS} {R:Env→Option Log→Prop} {fz tk nl:Bool} {orc:zAF}
def zR0 (c:Code) (i:Nat) (s:RS) (e':Env) (t:Tok):Option RS :=
 bif noY s.lg s.e (zDY c i) then match (match (zDY c i).guard with
  | none=>some t
  | some (j,want)=>match ((zFj c)[j]?).bind (·.dst) with
   | some u=>match s.e.get u with
    | .bool b=>bif b==want then some (Tok.join {rd:=[u]} t) else none
    | _=>none
   | none=>none) with
 | some t=>(zFh s.dr i (zDY c i) t).map fun dr=>⟨dr,e',s.lg⟩
 | none=>none else none
theorem zZi {m:Option (Env×Tok)} (hm:∃ n0,∀ n,n0≤n→(zXA P H f c i).runT (zCO P H n) s.e=m) (h:WS P H f c (i+1) (zWm (m.bind fun r=>zR0 c i s r.1 r.2)) R) (hs:(m.bind fun r=>zR0 c i s r.1 r.2).isSome=true:=by kernel_rfl) (hi:Nat.blt i (zFj c).size=true:=by kernel_rfl):WS P H f c i s R:=by
 cases m with
 | none=>cases hs
 | some r =>
 obtain ⟨e',t⟩:=r
 have yt:=zMq hs
 revert h
 generalize zWm ((some (e',t)).bind fun r=>zR0 c i s r.1 r.2)=s' at yt
 intro h
 obtain ⟨n0,hm⟩:=hm
 simp only [Option.bind_some,zR0] at yt
 rcases zBn yt with ⟨hy,yt⟩ | ⟨_,yt⟩
 case inr=>cases yt
 split at yt
 ·rename_i t' ht
  obtain ⟨dr,hd,rfl⟩:=Option.map_eq_some_iff.1 yt
  refine zW7 hi ⟨n0,fun n hn=>?_⟩ hd h hy
  revert ht
  cases hg:(zDY c i).guard with
  | none=>intro ht;simp only [Option.some.injEq] at ht;subst ht;simp only [zFP,hg];exact hm n hn
  | some w =>
   obtain ⟨j,want⟩:=w
   intro ht
   simp only at ht
   cases hj:((zFj c)[j]?).bind (·.dst) with
   | none=>rw [hj] at ht;cases ht
   | some u =>
    rw [hj] at ht;simp only at ht
    cases hv:s.e.get u<;>rw [hv] at ht<;>try (cases ht;done)
    rcases zBn ht with ⟨hb,ht⟩ | ⟨_,ht⟩
    ·have hb:=eq_of_beq hb
     simp only [Option.some.injEq] at ht;subst ht
     simp only [zFP,hg,hj,PM.runT,hv,hb,if_true]
     rw [hm n hn];rfl
    ·cases ht
 ·cases yt
theorem zNs {x:Operand} {p:PV} {k:PV→PM} (hx:zXM e x=p) (hp:p ≠ .bad):(opd x k).run orc e=(k p).run orc e:=by
 subst hx
 cases x with
 | tmp t=>rfl
 | const v=>rfl
 | func g=>rfl
 | global g=>exact (hp rfl).elim
theorem zNg {v:PV} (hh:v.heavy=false):v.cells.all (fun q => !q.heavy)=true:=by
 cases v<;>simp only [PV.cells,List.all_cons,List.all_nil,Bool.and_true,hh,Bool.not_false]
 rename_i cs
 simp only [PV.heavy] at hh
 refine List.all_eq_true.2 fun q hq=>?_
 obtain ⟨i,hi⟩:=List.getElem?_of_mem hq
 rw [zEp hh hi];rfl
theorem zM0:∀ {ps:List PV},ps.all (fun q=>q.ways.isEmpty)=true→zBA ps=[]
 | [],_=>rfl
 | p::ps,h=>by
  simp only [List.all_cons,Bool.and_eq_true,List.isEmpty_iff] at h
  simp only [zBA,h.1,List.nil_append,zM0 h.2]
end
end Go.Eng
namespace Go.Eng
open Go
section
variable [Yo] {P:Program} {H:zBh} {f:FuncId} {e e':Env} {i:Nat} {c:Code} {s:RS} {R:Env→Option Log→Prop} {fz tk nl:Bool} {orc:zAF}
theorem zHw {x:Option Env} (h:x.isSome=true):x=some (zLW x):=by cases x<;>first | rfl | cases h
theorem zTh {α:Type} {xs ys:List α} {y:α} {j:Nat} (h:j+(ys.length+1)≤xs.length):(xs.set j y).take (j+1)++ys++(xs.set j y).drop (j+1+ys.length)=xs.take j++(y::ys)++xs.drop (j+(ys.length+1)):=by
 obtain ⟨A, x, B, rfl, rfl⟩ : ∃ A x B, xs = A ++ x :: B ∧ A.length = j := ⟨xs.take j, xs[j]'(by omega), xs.drop (j + 1), by rw [← List.drop_eq_getElem_cons (by omega), List.take_append_drop], by simp; omega⟩
 have h1:(A++x::B).set A.length y=A++y::B:=by simp
 have h2:(A++y::B).take (A.length+1)=A++[y]:=by rw [List.take_append,List.take_of_length_le (by omega)];simp
 have h3:(A++y::B).drop (A.length+1+ys.length)=B.drop ys.length:=by
  rw [List.drop_append,List.drop_eq_nil_of_le (by omega)]
  simp [show A.length+1+ys.length-A.length=ys.length+1 by omega]
 have h4:(A++x::B).drop (A.length+(ys.length+1))=B.drop ys.length:=by
  rw [List.drop_append,List.drop_eq_nil_of_le (by omega)]
  simp
 have h5:(A++x::B).take A.length=A:=by simp
 rw [h1,h2,h3,h4,h5];simp
end
end Go.Eng
namespace Go.Eng
open Go
def Srt (e:Env):Prop:=e.Pairwise (fun a b=>a.1<b.1)∧∀ x∈e,x.2 ≠ .bad
theorem zMR:∀ {e:Env} {k:Nat},(∀ x∈e,k<x.1)→e.get k = .bad
 | [],_,_=>rfl
 | (k',v)::e,k,h=>by
  have h1:k<k':=h (k',v) (by simp)
  have:Nat.beq k' k=false:=by
   cases hb:Nat.beq k' k with
   | false=>rfl
   | true=>have:=Nat.eq_of_beq_eq_true hb;omega
  simp only [Env.get,this,cond_false]
  exact zMR fun x hx=>h x (by simp [hx])
theorem Srt.eq:∀ {e e':Env},Srt e→Srt e'→(∀ s,e.get s=e'.get s)→e=e'
 | [],[],_,_,_=>rfl
 | [],(k,v)::e',_,h2,h=>by
  have:=h k
  simp only [Env.get,Nat.beq_refl,cond_true] at this
  exact (h2.2 (k,v) (by simp) this.symm).elim
 | (k,v)::e,[],h1,_,h=>by
  have:=h k
  simp only [Env.get,Nat.beq_refl,cond_true] at this
  exact (h1.2 (k,v) (by simp) this).elim
 | (k, v)::e,(k',v')::e',h1,h2,h=>by
  obtain ⟨p1,q1⟩:=h1
  obtain ⟨p2,q2⟩:=h2
  obtain ⟨a1,b1⟩:=List.pairwise_cons.1 p1
  obtain ⟨a2,b2⟩:=List.pairwise_cons.1 p2
  have hk:k=k':=by
   rcases Nat.lt_trichotomy k k' with yK | ub | yK
   ·have:=h k
    rw [zMR (e:=(k',v')::e') (k:=k) (fun x hx=>by
     rcases List.mem_cons.1 hx with rfl | hx
     ·exact yK
     ·exact Nat.lt_trans yK (a2 x hx))] at this
    simp only [Env.get,Nat.beq_refl,cond_true] at this
    exact (q1 (k,v) (by simp) this).elim
   ·exact ub
   ·have:=h k'
    rw [zMR (e:=(k,v)::e) (k:=k') (fun x hx=>by
     rcases List.mem_cons.1 hx with rfl | hx
     ·exact yK
     ·exact Nat.lt_trans yK (a1 x hx))] at this
    simp only [Env.get,Nat.beq_refl,cond_true] at this
    exact (q2 (k',v') (by simp) this.symm).elim
  subst hk
  have hv:=h k
  simp only [Env.get,Nat.beq_refl,cond_true] at hv
  subst hv
  congr 1
  refine Srt.eq ⟨b1,fun x hx=>q1 x (by simp [hx])⟩ ⟨b2,fun x hx=>q2 x (by simp [hx])⟩ fun s=>?_
  have hs:=h s
  simp only [Env.get] at hs
  cases hb:Nat.beq k s with
  | false=>rw [hb] at hs;exact hs
  | true =>
   have:=Nat.eq_of_beq_eq_true hb;subst this
   rw [zMR a1,zMR a2]
theorem zLC:∀ {e:Env} {k:Nat} {v:PV} {x:Nat×PV},x∈e.set k v→x=(k,v)∨x∈e
 | [],k,v,x,h=>by simp only [Env.set,List.mem_singleton] at h;exact .inl h
 | (k',v')::e,k,v,x,h=>by
  simp only [Env.set] at h
  cases hb:Nat.beq k' k with
  | true=>rw [hb] at h;simp only [cond_true,List.mem_cons] at h;rcases h with h | h<;>simp [h]
  | false =>
   rw [hb] at h;simp only [cond_false] at h
   cases hl:Nat.ble k k' with
   | true=>rw [hl] at h;simp only [cond_true,List.mem_cons] at h;rcases h with h | h | h<;>simp [h]
   | false =>
    rw [hl] at h;simp only [cond_false,List.mem_cons] at h
    rcases h with h | h
    ·simp [h]
    ·rcases zLC h with h | h<;>simp [h]
theorem Srt.set:∀ {e:Env} {k:Nat} {v:PV},Srt e→v ≠ .bad→Srt (e.set k v)
 | [],k,v,_,hv=>⟨by simp [Env.set],by simp [Env.set,hv]⟩
 | (k',v')::e,k,v,h,hv=>by
  obtain ⟨p,q⟩:=h
  obtain ⟨a,b⟩:=List.pairwise_cons.1 p
  refine ⟨?_,fun x hx=>by
   rcases zLC hx with rfl | hx
   ·exact hv
   ·exact q x hx⟩
  simp only [Env.set]
  cases hb:Nat.beq k' k with
  | true =>
   have:=Nat.eq_of_beq_eq_true hb;subst this
   exact List.pairwise_cons.2 ⟨a,b⟩
  | false =>
   have hI:k'≠k:=by intro h;subst h;rw [Nat.beq_refl] at hb;cases hb
   cases hl:Nat.ble k k' with
   | true =>
    have:=Nat.le_of_ble_eq_true hl
    exact List.pairwise_cons.2 ⟨fun x hx=>by
     rcases List.mem_cons.1 hx with rfl | hx
     ·show k<k';omega
     ·have:k'<x.1:=a x hx
      show k<x.1;omega,p⟩
   | false =>
    have yK:k'<k:=by
     have:¬ k≤k':=fun hh=>by rw [← Nat.ble_eq] at hh;rw [hh] at hl;cases hl
     omega
    refine List.pairwise_cons.2 ⟨fun x hx=>?_,(Srt.set ⟨b,fun x hx=>q x (by simp [hx])⟩ hv).1⟩
    rcases zLC hx with rfl | hx
    ·exact yK
    ·exact a x hx
theorem Srt.norm:∀ (e:Env),Srt e.norm
 | []=>⟨by simp [Env.norm],by simp [Env.norm]⟩
 | (k,v)::e=>by
  have ih:=Srt.norm e
  simp only [Env.norm,Env.put]
  split
  ·exact ⟨ih.1.filter _,fun x hx=>ih.2 x (List.mem_filter.1 hx).1⟩
  ·rename_i hv;exact ih.set (fun h=>hv h)
theorem zVt {e e':Env} (h:∀ s,e.get s=e'.get s):e.norm=e'.norm:=(Srt.norm e).eq (Srt.norm e') fun s=>by rw [zIm,zIm];exact h s
section
variable [Yo] {P:Program} {H:zBh} {f:FuncId} {i:Nat} {c:Code} {R:Env→Option Log→Prop}
theorem zFJ {o:zAF} {fzs tks:List Nat} {nl:Bool} {ops:Array Oper}:∀ {l:List Oper} {i:Nat} {e g:Env} {r:Env×Option Log},g.get=e.get→zBf P H o fzs tks nl ops l i e none=some r→∃ g1,zBf P H o fzs tks nl ops l i g none=some (g1,r.2)∧g1.get=r.1.get
 | [],_,e,g,r,he,h=>by simp only [zBf,Option.some.injEq] at h;subst h;exact ⟨g,rfl,he⟩
 | x :: l,i,e,g,r,he,h=>by
  simp only [zBf,zCT] at h ⊢
  cases hs:(zFP P H ops (fzs.contains i) (tks.contains i) nl x).run o e with
  | none=>rw [hs] at h;cases h
  | some e1 =>
   rw [hs] at h
   obtain ⟨g1,h1,h2⟩:=zFp he hs
   rw [h1]
   exact zFJ h2 h
theorem zUM {e e':Env} (h:WS P H f c i ⟨none,e',none⟩ R) (he:∀ s,e.get s=e'.get s):WS P H f c i ⟨none,e,none⟩ R:=by
 obtain ⟨n0,eN,lg',h1,h2⟩:=h
 refine ⟨n0,eN,lg',fun n hn=>?_,h2⟩
 obtain ⟨e1,h3,h4⟩:=h1 n hn
 simp only [zVZ] at h3
 obtain ⟨g1,h5,h6⟩:=zFJ (funext he) h3
 refine ⟨g1,h5,?_⟩
 rw [← h4]
 refine zVt fun s=>?_
 rw [Env.get_drop,Env.get_drop,h6]
def zUq (P:Program) (e:Env) (o:Oper):Option (Nat×PV×PV) :=
 match o.op with
 | .call c=>match c.callee,c.args.toList,c.argTypes.toList with
  | .builtin .copy,[x,y],t::_=>match (zBW P t).bind (szT P) with
   | some s=>some (s,zXM e x,zXM e y)
   | none=>none
  | _,_,_=>none
 | _=>none
def zXy (s:Nat) (x y:PV):Prop:=y.plain=true∧y.cells.length=s∧y.heavy=false∧y.cells.all (fun q=>q.ways.isEmpty)=true∧y.cells.length≤x.cells.length∧zAx x 0 y.cells=y
end
end Go.Eng
namespace Go.Eng
open Go
def Le (o o':zAF):Prop:=∀ g a h r,o g a h=some r→o' g a h=some r
theorem zRQ {o0 o:zAF} (ho:Le o0 o):∀ {p:PM} {e:Env} {r:Env×Tok},p.runT o0 e=some r→p.runT o e=some r:=by
 intro p
 induction p with
 | ok=>intro e e1 h;exact h
 | fail=>intro e e1 h;cases h
 | view s k ih=>intro e e1 h;exact zAp h fun a h=>ih _ h
 | get s k ih=>intro e e1 h;simp only [PM.runT] at h ⊢;split at h<;>first | (cases h;done) | exact zAp h fun a h=>ih _ h
 | set s q k ih=>intro e e1 h;exact zAp h fun a h=>ih h
 | cells r pre i c n k ih=>intro e e1 h;simp only [PM.runT] at h ⊢;split at h<;>first | (cases h;done) | exact zAp h fun a h=>ih _ _ h
 | deep r pre k ih=>intro e e1 h;simp only [PM.runT] at h ⊢;split at h<;>first | (cases h;done) | exact zAp h fun a h=>ih _ h
 | wcells r pre i c qs k ih=>intro e e1 h;simp only [PM.runT] at h ⊢;split at h<;>first | (cases h;done) | exact zAp h fun a h=>ih h
 | wnode r pre q k ih =>
  intro e e1 h
  simp only [PM.runT] at h ⊢
  rcases zBn h with ⟨_,h⟩ | ⟨hl,h⟩
  ·cases h
  ·rw [hl];simp only [cond_false]
   split at h
   ·exact zAp h fun a h=>ih h
   ·cases h
 | kill r pre k ih=>intro e e1 h;exact zAp h fun a h=>ih h
 | frz r pre k ih=>intro e e1 h;simp only [PM.runT] at h ⊢;split at h<;>first | (cases h;done) | exact zAp h fun a h=>ih h
 | killEx r pre k ih=>intro e e1 h;exact zAp h fun a h=>ih h
 | forget r k ih=>intro e e1 h;exact zAp h fun a h=>ih h
 | call f args hid k ih =>
  intro e e1 h
  simp only [PM.runT] at h ⊢
  split at h
  ·rename_i v hO hq
   rw [ho _ _ _ _ hq];exact ih _ _ h
  ·cases h
section
variable [Yo] {P:Program} {H:zBh} {o0 o:zAF} (ho:Le o0 o) {fz tk nl:Bool} {fzs tks:List Nat} {ops:Array Oper} {nt:Nat} {hh:FHint} {yo0 yo:zCV} {al:All}
include ho in
theorem zJc {x:Oper} {h0:Nat} {args:List PV} {l:Log} {e:Env} {r:Env×Option Log} (h:zBT o0 ops x h0 args l e=some r):zBT o ops x h0 args l e=some r:=by
 simp only [zBT] at h ⊢
 split at h
 ·rcases zBn h with ⟨hc,h⟩ | ⟨_,h⟩
  ·rw [hc];simp only [cond_true]
   refine zAp h fun a h=>?_
   rcases zBn h with ⟨hk,h⟩ | ⟨hk,h⟩<;>rw [hk]
   ·exact zKl ho h
   ·exact zKl ho h
  ·cases h
 ·exact zAp h fun a h=>zKl ho h
 ·cases h
include ho in
theorem zTE {x:Oper} {e:Env} {lg:Option Log} {r:Env×Option Log} (h:zCT P H o0 fz tk nl ops x e lg=some r):zCT P H o fz tk nl ops x e lg=some r:=by
 simp only [zCT] at h ⊢
 split at h
 ·exact zAp h fun a h=>zKl ho h
 ·split at h
  ·exact zJc ho h
  ·exact zAp h fun a h=>zKl ho h
include ho in
theorem zT0 {x:Oper} {e:Env} {lg:Option Log} {r:Env×Option Log×Tok} (h:zEj P H o0 fz tk nl ops x e lg=some r):zEj P H o fz tk nl ops x e lg=some r:=by
 simp only [zEj] at h ⊢
 split at h
 ·exact zAp h fun a h=>zRQ ho h
 ·split at h
  ·exact zAp h fun a h=>zJc ho h
  ·exact zAp h fun a h=>zRQ ho h
include ho in
theorem zHV:∀ {l:List Oper} {i:Nat} {e:Env} {lg:Option Log} {r:Env×Option Log},zBf P H o0 fzs tks nl ops l i e lg=some r→zBf P H o fzs tks nl ops l i e lg=some r
 | [],_,_,_,_,h=>h
 | x::l,i,e,lg,r,h=>by
  simp only [zBf] at h ⊢
  cases hs:zCT P H o0 (fzs.contains i) (tks.contains i) nl ops x e lg with
  | none=>rw [hs] at h;cases h
  | some q=>rw [hs] at h;rw [zTE ho hs];exact zHV h
include ho in
theorem zKI:∀ {l:List Oper} {i:Nat} {acc:List Nat} {ts:List Tok} {e:Env} {lg:Option Log} {r:Env×Option Log},zCz P H o0 fzs tks nl ops l i acc ts e lg=some r→zCz P H o fzs tks nl ops l i acc ts e lg=some r
 | [],_,_,_,_,_,_,h=>h
 | x :: l,i,acc,ts,e,lg,r,h=>by
  simp only [zCz] at h ⊢
  cases hs:zEj P H o0 (fzs.contains i) (tks.contains i) nl ops x e lg with
  | none=>rw [hs] at h;cases h
  | some q =>
   rw [hs] at h;rw [zT0 ho hs]
   simp only at h ⊢
   rcases zBn h with ⟨hc,h⟩ | ⟨_,h⟩
   ·rw [hc];exact zKI h
   ·cases h
include ho in
theorem zRd:∀ {m:Nat} {c:Code} {e:Env} {lg:Option Log} {r:X×Env×Option Log},exec P H o0 yo0 zGU nt hh m c e lg=some r→∀ {m':Nat},m≤m'→exec P H o yo al nt hh m' c e lg=some r
 | 0,_,_,_,_,h,_,_=>by cases h
 | m + 1,c,e,lg,r,h,m',hm=>by
  obtain ⟨m',rfl⟩:∃ k,m'=k+1:=⟨m'-1,by omega⟩
  have ih:∀ {c:Code} {e:Env} {lg:Option Log} {r:X×Env×Option Log},exec P H o0 yo0 zGU nt hh m c e lg=some r→exec P H o yo al nt hh m' c e lg=some r:=fun h=>zRd h (by omega)
  cases c with
  | region id ops draw =>
   simp only [exec] at h ⊢
   split at h
   ·rename_i e1 lg1 h1
    have:(if draw=true then zCz P H o (hh.frzs id) (hh.take id) hh.nils ops ops.toList 0 [] [] e lg else zBf P H o (hh.frzs id) (hh.take id) hh.nils ops ops.toList 0 e lg)=some (e1,lg1):=by
     cases draw with
     | true=>exact zKI ho h1
     | false=>exact zHV ho h1
    rw [this];exact h
   ·cases h
  | seq a b =>
   simp only [exec] at h ⊢
   cases h1:exec P H o0 yo0 zGU nt hh m a e lg with
   | none=>rw [h1] at h;cases h
   | some q =>
    rw [h1] at h;rw [ih h1]
    obtain ⟨x,e1,lg1⟩:=q
    cases x with
    | norm=>exact ih h
    | ex id=>exact h
    | ret=>exact h
  | cond c a b =>
   cases c with
   | tmp t =>
    simp only [exec] at h ⊢
    revert h
    cases e.get t with
    | bool v=>intro h;cases v<;>exact ih h
    | _=>intro h;cases h
   | const v =>
    simp only [exec] at h ⊢
    revert h
    cases v with
    | bool v=>intro h;cases v<;>exact ih h
    | _=>intro h;cases h
   | _=>cases h
  | block id b =>
   simp only [exec] at h ⊢
   cases h1:exec P H o0 yo0 zGU nt hh m b e lg with
   | none=>rw [h1] at h;cases h
   | some q =>
    rw [h1] at h;rw [ih h1];exact h
  | loop b =>
   simp only [exec] at h ⊢
   cases h1:exec P H o0 yo0 zGU nt hh m b (e.drop (hh.loopDrop (zAT b))) lg with
   | none=>rw [h1] at h;cases h
   | some q =>
    rw [h1] at h;rw [ih h1]
    obtain ⟨x,e1,lg1⟩:=q
    cases x with
    | norm=>exact ih h
    | ex id=>exact h
    | ret=>exact h
  | scope b=>exact ih h
  | rangeFunc x ps ca cb =>
   cases x with
   | tmp t =>
    simp only [exec] at h
    cases lg with
    | none =>
     simp only at h
     obtain ⟨q,h1,_⟩:=Option.map_eq_some_iff.1 h
     simp only [zG0] at h1
     split at h1
     ·cases h1
     ·cases h1
    | some _=>cases h
   | _=>cases h
  | skip=>exact h
  | exit id=>exact h
  | ret=>exact h
  | label l=>exact h
  | _=>cases h
end
section
variable [Yo] {P:Program} {H:zBh}
theorem zSX {o0 o:zAF} (ho:Le o0 o) {yo0 yo:zCV} {al:All} {n n':Nat} (hn:n≤n') {f:FuncId} {args hid:List PV} {r:PV×List PV} (h:zGv P H o0 yo0 zGU n f args hid=some r):zGv P H o yo al n' f args hid=some r:=by
 simp only [zGv] at h ⊢
 cases hf:P.funcs[f]? with
 | none=>rw [hf] at h;cases h
 | some fn =>
  rw [hf] at h
  simp only at h ⊢
  by_cases hi:(H f).intr≠0
  ·rw [if_pos hi] at h ⊢;exact h
  ·rw [if_neg hi] at h ⊢
   cases hb:fn.body with
   | none=>rw [hb] at h;cases h
   | some body =>
    rw [hb] at h
    simp only [zI8] at h ⊢
    rcases zBn h with ⟨hc,h⟩ | ⟨_,h⟩
    ·rw [hc];simp only [cond_true]
     cases hx:exec P H o0 yo0 zGU fn.ntmps (H f) n body (zBb args hid) none with
     | none=>rw [hx] at h;cases h
     | some q =>
      rw [hx] at h;rw [zRd ho hx hn]
      obtain ⟨x,e1,lg⟩:=q
      cases x<;>cases lg<;>simp only at h ⊢ <;> try (cases h;done)
      all_goals
       cases hr:(zCN P (H f).frz 0 fn.results.toList).run o0 e1 with
       | none=>rw [hr] at h;cases h
       | some e2=>rw [hr] at h;rw [zKl ho hr];exact h
    ·cases h
abbrev zXq (P:Program) (H:zBh) (n:Nat):zAF:=(zRZ P H zGU n).1
theorem zOq:∀ (n n':Nat),n≤n'→Le (zXq P H n) (zCO P H n')
 | 0,_,_=>fun g a h r hh=>by cases hh
 | n+1,n',hn=>by
  obtain ⟨k,rfl⟩:∃ k,n'=k+1:=⟨n'-1,by omega⟩
  intro g a h r hh
  exact zSX (zOq n k (by omega)) (by omega) hh
theorem zAo.closed {f:FuncId} {args hid hO:List PV} {v:PV} (n:Nat) (h:zXq P H n f args hid=some (v,hO):=by kernel_rfl):zAo P H f args hid v hO:=⟨n,fun n' hn=>zOq n n' hn _ _ _ _ h⟩
end
end Go.Eng
namespace Go.Eng
open Go
section
variable {P:Program} {H:zBh}
theorem zQZ (zE3:P.follows .mixedOrders=true) (hnm:zER P) (zMB:Fit P H) (hin:zEI P H) {f:FuncId} {args:List PV} (hg:@zAo (yo1 P H) P H f args [] (.bool true) []) {w:World} {Φ:Nat→Prop} {vs:Array Value} (hΦ:∀ b,Φ b→b<w.heap.size) (hr:zA2 w Φ zCe args vs.toList []) (uW:args.length≤zAl) :
  Calls P f vs w fun e w'=>e = .returned (.bool true)∧w.heap.size≤w'.heap.size∧(∀ b,b<w.heap.size→w'.heap[b]? = w.heap[b]?)∧w'.os=w.os∧w'.tape=w.tape∧w'.output=w.output:=by
 have wa:zAb=1000000000:=rfl
 have hhh:zAl=50000000:=rfl
 obtain ⟨n0,hg⟩:=hg
 obtain ⟨_,hm⟩:=@zEV P H (yo1 P H) zE3 hnm zMB hin (zPQ zE3 hnm zMB hin) n0 f args [] (.bool true) [] (hg n0 (Nat.le_refl _))
 obtain ⟨hZ,kJ⟩:=zLB hr
 have hvz:vs.size=args.length:=by rw [← hZ];simp
 have p2:Conf w (fun b=>∃ s,b∈((fun _=>[]):Nat→List Nat) s) Φ w Φ (fun s=>(vs[s]?).getD undef) (fun s=>(zBb args []).get s) (fun _=>[]):=by
  refine ⟨fun s=>?_,fun _=>List.nodup_nil,fun _ _ _ _ h=>(by cases h),fun _ _ h=>(by cases h),fun b hb=>⟨hΦ b hb,.inl hb⟩,fun _ h=>h,Nat.le_refl _,fun _ _ _=>rfl,rfl,rfl,rfl⟩
  show Rep _ _ _ ((zBb args []).get s) _ _
  rw [zDl (by omega)]
  by_cases h1:s<args.length
  ·rw [if_pos h1]
   obtain ⟨v,kd,kf⟩:=kJ s args[s] (List.getElem?_eq_getElem h1)
   have:vs[s]? = some v:=by rw [← Array.getElem?_toList];exact kd
   rw [this]
   simp only [List.getD,List.getElem?_eq_getElem h1,Option.getD_some]
   exact kf.mono (fun b hb=>⟨hb,rfl⟩) (fun _ _ _ h=>h.elim) (by simp)
  ·rw [if_neg h1,if_neg (by simp only [List.length_nil];omega)]
   rfl
 have hc:=hm w Φ (fun s=>(vs[s]?).getD undef) (fun s=>(zBb args []).get s) (fun _=>[]) vs (fun _ _=>rfl) (fun s hs=>by
   rw [zDl (by omega),if_neg (by omega),if_neg (by simp only [List.length_nil];omega)]) p2 hvz (fun j hj=>by rw [Array.getElem?_eq_getElem (by omega)];rfl) (fun s hs _=>by rw [Array.getElem?_eq_none (by omega)];rfl)
 refine hc.mono fun e w' ⟨u,Φ',rv',E',L',he,C,_,_,uy⟩=>?_
 obtain ⟨h1,h2⟩:=uy.one (fun ps h=>by cases h)
 have hX:=C.rep zAA
 rw [h1] at hX
 have hu:u = .bool true:=by rw [← h2];exact hX.1
 refine ⟨by rw [he,hu],C.size,fun b hb=>C.kept b hb (fun ⟨s,hs⟩=>by cases hs),C.os,C.tape,C.output⟩
end
end Go.Eng
namespace Go.Eng
open Go
section
variable [Yo] {P:Program} {H:zBh} {f:FuncId} {nt:Nat} {e e':Env} {lg:Option Log} {K:X→Env→Option Log→Prop} {i:Nat} {c:Code} {s:RS} {R:Env→Option Log→Prop} {fz tk nl:Bool} {orc:zAF}
theorem zDn (p:Prop) [Decidable p] (h1:p→W P H f nt (cl c) e lg K) (h2:¬p→W P H f nt (cr c) e lg K) (hc:zEz c e=some (decide p):=by kernel_rfl):W P H f nt c e lg K :=
 zGb (decide p) (fun h=>h1 (of_decide_eq_true h)) (fun h=>h2 (of_decide_eq_false h)) hc
theorem zA3 (p:Prop) [Decidable p] (hp:p) (h1:W P H f nt (cl c) e lg K) (hc:zEz c e=some (decide p):=by kernel_rfl):W P H f nt c e lg K :=
 zGb (decide p) (fun _=>h1) (fun h=>absurd hp (of_decide_eq_false h)) hc
theorem zBd (p:Prop) [Decidable p] (hp:¬p) (h2:W P H f nt (cr c) e lg K) (hc:zEz c e=some (decide p):=by kernel_rfl):W P H f nt c e lg K :=
 zGb (decide p) (fun h=>absurd (of_decide_eq_true h) hp) (fun _=>h2) hc
theorem zDQ (p:Prop) [Decidable p] (h1:¬p→W P H f nt (cl c) e lg K) (h2:p→W P H f nt (cr c) e lg K) (hc:zEz c e=some (!decide p):=by kernel_rfl):W P H f nt c e lg K :=
 zGb (!decide p) (fun h=>h1 (by simpa using h)) (fun h=>h2 (by simpa using h)) hc
theorem zJT (p:Prop) [Decidable p] (hp:¬p) (h1:W P H f nt (cl c) e lg K) (hc:zEz c e=some (!decide p):=by kernel_rfl):W P H f nt c e lg K :=
 zDQ p (fun _=>h1) (fun h=>absurd h hp) hc
theorem zLt (p:Prop) [Decidable p] (hp:p) (h1:W P H f nt (cr c) e lg K) (hc:zEz c e=some (!decide p):=by kernel_rfl):W P H f nt c e lg K :=
 zDQ p (fun h=>absurd hp h) (fun _=>h1) hc
theorem zGh (t:Nat) (b:Bool) (h1:b=true→WS P H f c i ⟨s.dr,s.e.set t (.bool true),s.lg⟩ R) (h2:b=false→WS P H f c i ⟨s.dr,s.e.set t (.bool false),s.lg⟩ R) (hb:s.e.set t (.bool b)=s.e:=by kernel_rfl):WS P H f c i s R:=by
 obtain ⟨dr,e,lg⟩:=s
 simp only at h1 h2 hb
 rw [← hb]
 cases b with
 | true=>exact h1 rfl
 | false=>exact h2 rfl
theorem zLQ (t:Nat) (p:Prop) [Decidable p] (h1:p→WS P H f c i ⟨s.dr,s.e.set t (.bool true),s.lg⟩ R) (h2:¬p→WS P H f c i ⟨s.dr,s.e.set t (.bool false),s.lg⟩ R) (hb:s.e.set t (.bool (decide p))=s.e:=by kernel_rfl):WS P H f c i s R :=
 zGh t (decide p) (fun h=>h1 (of_decide_eq_true h)) (fun h=>h2 (of_decide_eq_false h)) hb
theorem zUK (t:Nat) (p:Prop) [Decidable p] (hp:p) (h1:WS P H f c i ⟨s.dr,s.e.set t (.bool true),s.lg⟩ R) (hb:s.e.set t (.bool (decide p))=s.e:=by kernel_rfl):WS P H f c i s R :=
 zLQ t p (fun _=>h1) (fun h=>absurd hp h) hb
theorem zWC (t:Nat) (p:Prop) [Decidable p] (hp:¬p) (h1:WS P H f c i ⟨s.dr,s.e.set t (.bool false),s.lg⟩ R) (hb:s.e.set t (.bool (decide p))=s.e:=by kernel_rfl):WS P H f c i s R :=
 zLQ t p (fun h=>absurd h hp) (fun _=>h1) hb
theorem zXH (t:Nat) (p:Prop) [Decidable p] (h1:¬p→WS P H f c i ⟨s.dr,s.e.set t (.bool true),s.lg⟩ R) (h2:p→WS P H f c i ⟨s.dr,s.e.set t (.bool false),s.lg⟩ R) (hb:s.e.set t (.bool (!decide p))=s.e:=by kernel_rfl):WS P H f c i s R :=
 zGh t (!decide p) (fun h=>h1 (by simpa using h)) (fun h=>h2 (by simpa using h)) hb
theorem get_map {α β:Type} {g:α→β} {l:List α} {i:Nat} {d:α} (h:i<l.length):(l.map g)[i]? = some (g (l.getD i d)):=by
 simp [List.getD,List.getElem?_eq_getElem h]
def zZa (e:Env) (p q:PV) (l:List (Nat×zAU)) (t:Tok):Prop:=∀ (orc:zAF) (k:PV→List (Nat×zAU)→PM),(zPp p k).runT orc e=((k q l).runT orc e).map fun y=>(y.1,Tok.join t y.2)
inductive SeenAllT (e:Env):List Nat→List PV→List Arg→List Tok→Prop where
 | nil {ms}:SeenAllT e ms [] [] []
 | ref {ms ps as ts p}:SeenAllT e ms.tail ps as ts→(hb:Nat.beq (ms.headD 0) 1=true:=by kernel_rfl)→SeenAllT e ms (p::ps) ({p:=p,byref:=true}::as) ts
 | one {ms ps as ts p q l t}:zZa e p q l t→SeenAllT e ms.tail ps as ts→(hb:Nat.beq (ms.headD 0) 1=false:=by kernel_rfl)→SeenAllT e ms (p::ps) ({p:=q,shared:=l}::as) (t::ts)
def zLM:List (Nat×PV)→Env→Env
 | [],e=>e
 | (k,v)::l,e=>zLM l (e.set k v)
theorem zAy {σ:Type} {c:Code} (Inv:σ→Prop) (upd:σ→List (Nat×PV)) (μ:σ→Nat) (s:σ) (hi:Inv s) (h:∀ s,Inv s→W P H f nt (cl c) (zLM (upd s) (e.drop ((H f).loopDrop (zAT (cl c))))) lg fun x e' lg'=>match x with
   | .norm=>∃ s',Inv s'∧μ s'<μ s∧e'.drop ((H f).loopDrop (zAT (cl c)))=zLM (upd s') (e.drop ((H f).loopDrop (zAT (cl c))))∧lg'=lg
   | x=>K x e' lg') (hs:e.drop ((H f).loopDrop (zAT (cl c)))=zLM (upd s) (e.drop ((H f).loopDrop (zAT (cl c)))):=by kernel_rfl) (hc:zOg c=true:=by kernel_rfl):W P H f nt c e lg K :=
 zWZ Inv (fun s=>zLM (upd s) (e.drop ((H f).loopDrop (zAT (cl c))))) μ s hi h hs hc
end
end Go.Eng
namespace Go.Eng
open Go
theorem zJm {x:Nat→Option (List (List PV))} {r:List (List PV)} (h:∀ i,x i=some r):zB8 x=some r:=by
 have h':∃ r,∀ i,x i=some r:=⟨r,h⟩
 simp only [zB8,dif_pos h']
 have:=(Classical.choose_spec h') 0
 rw [h 0] at this
 exact this.symm
section
def zSI [Yo] (g:FuncId) (first caps:List PV) (k:Int) (xs:List (List PV)):Prop:=∀ i,Yo.yo g first i caps k=some xs
def zGa [Yo] (g:FuncId) (first caps:List PV) (xs:List (List PV)):Prop:=zSI g first caps (-1) xs∧∀ j:Nat,1≤j→j≤xs.length→zSI g first caps j (xs.take j)
variable [Yo] (P:Program) (H:zBh)
def zLi (f:FuncId) (nt:Nat) (ps:List Tmp) (assign body:Code) (x:List PV) (e:Env) (K:X→Env→Prop):Prop :=
 ∃ e1,zCv ps x e=some e1∧W P H f nt assign e1 none fun y e2 lg=>y = .norm∧lg=none∧W P H f nt body e2 none fun y e3 lg=>lg=none∧K y e3
def Rg (f:FuncId) (nt:Nat) (ps:List Tmp) (assign body:Code) (R ds:List Nat) (K:X→Env→Option Log→Prop):List (List PV)→Env→Prop
 | [],e=>K .norm e none
 | x :: xs,e=>zLi P H f nt ps assign body x e fun y e3=>match y with
  | .norm=>match R with
   | []=>Rg f nt ps assign body R ds K xs (after nt [] ds e e3)
   | r::R'=>zF0 e (zCW e (r::R'))=true∧∃ e1,zEu (zCW e (r::R')) e=some e1∧zLi P H f nt ps assign body x e1 fun y e3=>y = .norm∧Rg f nt ps assign body R ds K xs (after nt (zCW e (r::R')) ds e e3)
  | y=>K y (after nt [] ds e e3) none
end
section
variable [Yo] {P:Program} {H:zBh} {f:FuncId} {nt:Nat} {e e':Env} {lg:Option Log} {K:X→Env→Option Log→Prop}
noncomputable abbrev zNR (P:Program) (H:zBh) (f:FuncId) (nt n m:Nat):Code→Env→Option (X×Env):=fun c e=>match exec P H (zCO P H n) Yo.yo zB8 nt (H f) m c e none with | some (x,e',none)=>some (x,e') | _=>none
def zOb (run:Code→Env→Option (X×Env)) (ps:List Tmp) (assign body:Code) (x:List PV) (e:Env):Option (X×Env):=match zCv ps x e with
 | some e1=>match run assign e1 with
  | some (.norm,e2)=>run body e2
  | _=>none
 | none=>none
theorem zBQ {run:Code→Env→Option (X×Env)} {ps:List Tmp} {assign body:Code} {R ds:List Nat} {x:List PV} {xs:List (List PV)} {j:Nat}:zC9 nt run ps assign body R ds (x::xs) e j=(match zOb run ps assign body x e with
  | some (.norm,e3)=>match R with
   | []=>zC9 nt run ps assign body R ds xs (after nt [] ds e e3) (j+1)
   | r :: R=>match (bif zF0 e (zCW e (r::R)) then zEu (zCW e (r::R)) e else none) with
    | some e1=>match zOb run ps assign body x e1 with
     | some (.norm,e3)=>zC9 nt run ps assign body (r::R) ds xs (after nt (zCW e (r::R)) ds e e3) (j+1)
     | _=>none
    | none=>none
  | some (r,e3)=>some (some (j+1,r),after nt [] ds e e3)
  | none=>none):=by
 cases R<;>rfl
theorem zLi.run {ps:List Tmp} {assign body:Code} {x:List PV} {K:X→Env→Prop} (h:zLi P H f nt ps assign body x e K):∃ n0 y e3,(∀ n m,n0≤n→n0≤m→zOb (zNR P H f nt n m) ps assign body x e=some (y,e3))∧K y e3:=by
 obtain ⟨e1,h1,n1,y,e2,lg,h2,rfl,rfl,n2,z,e3,lg,h3,rfl,h4⟩:=h
 refine ⟨max n1 n2,z,e3,fun n m hn hm=>?_,h4⟩
 simp only [zOb,h1,zNR,h2 n m (by omega) (by omega),h3 n m (by omega) (by omega)]
theorem Rg.run {ps:List Tmp} {assign body:Code} {R ds:List Nat}:∀ {xs:List (List PV)} {e:Env},Rg P H f nt ps assign body R ds K xs e→∃ n0,
  (∃ e',(∀ n m j,n0≤n→n0≤m→zC9 nt (zNR P H f nt n m) ps assign body R ds xs e j=some (none,e'))∧K .norm e' none) ∨
  (∃ i y e',i<xs.length∧y ≠ .norm∧(∀ n m j,n0≤n→n0≤m→zC9 nt (zNR P H f nt n m) ps assign body R ds xs e j=some (some (j+i+1,y),e')) ∧
   (∀ n m j,n0≤n→n0≤m→zC9 nt (zNR P H f nt n m) ps assign body R ds (xs.take (i+1)) e j=some (some (j+i+1,y),e'))∧K y e' none)
 | [],e,h=>⟨0,.inl ⟨e,fun _ _ _ _ _=>rfl,h⟩⟩
 | x :: xs,e,h=>by
  obtain ⟨n1,y,e3,h1,h2⟩:=zLi.run h
  cases y with
  | norm =>
   cases R with
   | nil =>
    simp only at h2
    obtain ⟨n2,h3⟩:=Rg.run h2
    refine ⟨max n1 n2,?_⟩
    rcases h3 with ⟨e',h3,h4⟩ | ⟨i,y,e',hi,hy,h3,h4,h5⟩
    ·exact .inl ⟨e',fun n m j hn hm=>by rw [zBQ,h1 n m (by omega) (by omega)];exact h3 n m _ (by omega) (by omega),h4⟩
    ·refine .inr ⟨i+1,y,e',by simp;omega,hy,fun n m j hn hm=>?_,fun n m j hn hm=>?_,h5⟩
     ·rw [zBQ,h1 n m (by omega) (by omega)];simp only;rw [h3 n m _ (by omega) (by omega)];simp only [Option.some.injEq,Prod.mk.injEq,and_true];omega
     ·rw [List.take_succ_cons,zBQ,h1 n m (by omega) (by omega)];simp only;rw [h4 n m _ (by omega) (by omega)];simp only [Option.some.injEq,Prod.mk.injEq,and_true];omega
   | cons r R' =>
    simp only at h2
    obtain ⟨hc,e1,hf,hr⟩:=h2
    obtain ⟨n3,z,e4,h6,rfl,h7⟩:=zLi.run hr
    obtain ⟨n2,h3⟩:=Rg.run h7
    refine ⟨max n1 (max n2 n3),?_⟩
    rcases h3 with ⟨e',h3,h4⟩ | ⟨i,y,e',hi,hy,h3,h4,h5⟩
    ·exact .inl ⟨e',fun n m j hn hm=>by rw [zBQ,h1 n m (by omega) (by omega)];simp only [hc,cond_true,hf,h6 n m (by omega) (by omega)];exact h3 n m _ (by omega) (by omega),h4⟩
    ·refine .inr ⟨i+1,y,e',by simp;omega,hy,fun n m j hn hm=>?_,fun n m j hn hm=>?_,h5⟩
     ·rw [zBQ,h1 n m (by omega) (by omega)];simp only [hc,cond_true,hf,h6 n m (by omega) (by omega)];rw [h3 n m _ (by omega) (by omega)];simp only [Option.some.injEq,Prod.mk.injEq,and_true];omega
     ·rw [List.take_succ_cons,zBQ,h1 n m (by omega) (by omega)];simp only [hc,cond_true,hf,h6 n m (by omega) (by omega)];rw [h4 n m _ (by omega) (by omega)];simp only [Option.some.injEq,Prod.mk.injEq,and_true];omega
  | ex id =>
   refine ⟨n1,.inr ⟨0,.ex id,_,by simp,by simp,fun n m j hn hm=>?_,fun n m j hn hm=>?_,h2⟩⟩
   ·rw [zBQ,h1 n m (by omega) (by omega)]
   ·rw [List.take_succ_cons,zBQ,h1 n m (by omega) (by omega)]
  | ret =>
   refine ⟨n1,.inr ⟨0,.ret,_,by simp,by simp,fun n m j hn hm=>?_,fun n m j hn hm=>?_,h2⟩⟩
   ·rw [zBQ,h1 n m (by omega) (by omega)]
   ·rw [List.take_succ_cons,zBQ,h1 n m (by omega) (by omega)]
def rgT:Code→Option Nat
 | .rangeFunc (.tmp t) _ _ _=>some t
 | _=>none
def zXI:Code→List Tmp
 | .rangeFunc _ ps _ _=>ps.toList
 | _=>[]
def rgA:Code→Code
 | .rangeFunc _ _ a _=>a
 | c=>c
def rgB:Code→Code
 | .rangeFunc _ _ _ b=>b
 | c=>c
def zWj (c:Code):List Nat:=zXI c++zBS (rgA c)++zBS (rgB c)
theorem zVz {t:Tmp} {ps:Array Tmp} {assign body:Code} {g:FuncId} {first caps:List PV} {R:List Nat} {xs:List (List PV)} (yO:zDF e t=some (g,first,caps,R)) (hY:zGa g first caps xs)
  (h:Rg P H f nt ps.toList assign body R (ps.toList++zBS assign++zBS body) K xs e):W P H f nt (.rangeFunc (.tmp t) ps assign body) e none K:=by
 obtain ⟨hY1,hY2⟩:=hY
 obtain ⟨n2,hr⟩:=Rg.run h
 rcases hr with ⟨e',h3,h4⟩ | ⟨i,y,e',hi,hy,h3,h4,h5⟩
 ·refine ⟨n2+1,.norm,e',none,fun n m hn hm=>?_,h4⟩
  obtain ⟨m,rfl⟩:∃ k,m=k+1:=⟨m-1,by omega⟩
  show (zG0 nt Yo.yo zB8 (zNR P H f nt n m) t ps.toList assign body e).map (fun x=>(x.1,x.2,none))=_
  simp only [zG0,yO,zJm (fun i=>hY1 i),h3 n m 0 (by omega) (by omega),Option.map_some]
 ·have hY2:=hY2 (i+1) (by omega) (by omega)
  refine ⟨n2+1,y,e',none,fun n m hn hm=>?_,h5⟩
  obtain ⟨m,rfl⟩:∃ k,m=k+1:=⟨m-1,by omega⟩
  show (zG0 nt Yo.yo zB8 (zNR P H f nt n m) t ps.toList assign body e).map (fun x=>(x.1,x.2,none))=_
  simp only [zG0,yO,zJm (fun i=>hY1 i),h3 n m 0 (by omega) (by omega)]
  have hcast:((0+i+1:Nat):Int)=((i+1:Nat):Int):=by omega
  rw [hcast,zJm (fun i=>hY2 i)]
  simp only [h4 n m 0 (by omega) (by omega),List.length_take]
  rw [if_pos ⟨trivial,by omega⟩]
  rfl
theorem zRJ {c:Code} {t g:Nat} {first caps:List PV} {R:List Nat} {xs:List (List PV)} (hY:zGa g first caps xs) (h:Rg P H f nt (zXI c) (rgA c) (rgB c) R (zWj c) K xs e) (yO:zDF e t=some (g,first,caps,R):=by kernel_rfl) (hc:rgT c=some t:=by kernel_rfl) (hl:lg=none:=by kernel_rfl):W P H f nt c e lg K:=by
 subst hl
 cases c<;>try (cases hc;done)
 rename_i x ps a b
 cases x<;>try (cases hc;done)
 rename_i u
 simp only [rgT,Option.some.injEq] at hc;subst hc
 exact zVz yO hY h
theorem zVY {σ:Type} {c:Code} {t g:Nat} {first caps:List PV} {xs:List (List PV)} (hY:zGa g first caps xs) (Inv:Nat→σ→Prop) (I:σ→Env) (s:σ) (hi:Inv 0 s)
  (h:∀ j x s,xs[j]? = some x→Inv j s→zLi P H f nt (zXI c) (rgA c) (rgB c) x (I s) fun y e3=>match y with
   | .norm=>∃ s',Inv (j+1) s'∧after nt [] (zWj c) (I s) e3=I s'
   | y=>K y (after nt [] (zWj c) (I s) e3) none) (hK:∀ s,Inv xs.length s→K .norm (I s) none) (hs:e=I s:=by kernel_rfl) (yO:zDF e t=some (g,first,caps,[]):=by kernel_rfl) (hc:rgT c=some t:=by kernel_rfl) (hl:lg=none:=by kernel_rfl):W P H f nt c e lg K:=by
 refine zRJ hY ?_ yO hc hl
 clear yO hY
 subst hs
 have key:∀ (ys:List (List PV)) (j:Nat) (s:σ),xs.drop j=ys→j≤xs.length→Inv j s→Rg P H f nt (zXI c) (rgA c) (rgB c) [] (zWj c) K ys (I s):=by
  intro ys
  induction ys with
  | nil =>
   intro j s hd hj hi
   have:j=xs.length:=by
    have:=congrArg List.length hd;simp at this;omega
   subst this
   exact hK s hi
  | cons x ys ih =>
   intro j s hd hj hi
   have hx:xs[j]? = some x:=by
    have:=congrArg (fun l=>l[0]?) hd
    simpa using this
   have yK:=(List.getElem?_eq_some_iff.1 hx).1
   obtain ⟨e1,h1,h2⟩:=h j x s hx hi
   refine ⟨e1,h1,zQS h2 fun y e2 lg ⟨a1,a2,a3⟩=>⟨a1,a2,zQS a3 fun y e3 lg ⟨b1,b2⟩=>⟨b1,?_⟩⟩⟩
   cases y with
   | norm =>
    obtain ⟨s',yt,he⟩:=b2
    simp only
    rw [he]
    refine ih (j+1) s' ?_ (by omega) yt
    rw [← List.drop_drop,hd];rfl
   | ex id=>exact b2
   | ret=>exact b2
 exact key xs 0 s rfl (by omega) hi
theorem zPd {ps:List Tmp} {a b:Code} {x:List PV} {K:X→Env→Prop} (h:W P H f nt a ((zCv ps x e).getD []) none fun y e2 lg=>y = .norm∧lg=none∧W P H f nt b e2 none fun y e3 lg=>lg=none∧K y e3) (hp:(zCv ps x e).isSome=true:=by kernel_rfl):zLi P H f nt ps a b x e K:=by
 obtain ⟨e1,h1⟩:=Option.isSome_iff_exists.1 hp
 rw [h1] at h
 exact ⟨e1,h1,h⟩
omit [Yo] in
theorem zTM (fn:Func) {g:FuncId} {first caps:List PV} {k:Int} {xs:List (List PV)} (h:∀ i,@W yo0 P H g fn.ntmps (fn.body.getD .ret) (zBb (first++PV.yld i::caps) []) (some ⟨[],k,i⟩) fun x _ lg=>(x = .norm∨x = .ret)∧lg.map (·.xs)=some xs) (hk:k≠0)
  (hf:P.funcs[g]? = some fn:=by kernel_rfl) (hb:fn.body.isSome=true:=by kernel_rfl) (hc:∀ i,(Nat.ble (first++PV.yld i::caps).length fn.ntmps&&fn.results.isEmpty&&(first++caps).all (fun p => !p.isTup))=true:=by intro i;kernel_rfl) (hin:Nat.beq (H g).intr 0=true:=by kernel_rfl):@zSI (yo1 P H) g first caps k xs:=by
 intro i
 obtain ⟨body,hb⟩:∃ body,fn.body=some body:=by cases hx:fn.body<;>first | exact ⟨_,rfl⟩ | (rw [hx] at hb;cases hb)
 have h:=h i
 simp only [hb,Option.getD_some] at h
 obtain ⟨n0,x,e1,lg1,h1,hx,hl⟩:=h
 refine zUN (n0:=n0) fun n hn=>?_
 have j9:=h1 n (n+1) (by omega) (by omega)
 cases lg1 with
 | none=>cases hl
 | some l =>
  simp only [Option.map_some,Option.some.injEq] at hl
  simp only [zTu,zXD,hf,hb]
  have wX:(k != 0)=true:=by simpa using hk
  have hc':=hc i
  rw [hc',wX,hin]
  simp only [Bool.and_self,cond_true,j9]
  rcases hx with rfl | rfl<;>simp [hl]
end
end Go.Eng
namespace Go.Eng
open Go
inductive PX where
 | ok | fail | emb (p:PM)
 | view (s:Nat) (k:PV→PX) | get (s:Nat) (k:PV→PX) | set (s:Nat) (p:PV) (k:PX)
 | cells (r:Nat) (pre:zAU) (i c n:Nat) (k:Bool→List PV→PX) | deep (r:Nat) (pre:zAU) (k:PV→PX)
 | wcells (r:Nat) (pre:zAU) (i c:Nat) (qs:List PV) (k:PX) | wnode (r:Nat) (pre:zAU) (q:PV) (k:PX)
 | kill (r:Nat) (pre:zAU) (k:PX) | frz (r:Nat) (pre:zAU) (k:PX) | frzp (r:Nat) (pre:zAU) (p:PV) (k:PV→PX) | killEx (r:Nat) (keep:List zAU) (k:PX)
 | call (f:FuncId) (args hid:List PV) (k:PV→List PV→PX)
 | test (b:Bool) (k:PX) | pick (x:Option PV) (k:PV→PX) | num (x:Option Nat) (k:Nat→PX) | idx (x:Option (Option Nat)) (k:Option Nat→PX)
 | choose (b:Bool) (k1 k2:PX) | same (p:PV) (k:PV→PX) | sames (ps:List PV) (k:List PV→PX)
 | nats (x:List Nat) (k:List Nat→PX) | pure (d:Option Nat) (f:FuncId) (args:List PV) (k:PX)
def PX.toPM:PX→PM
 | .ok => .ok
 | .fail => .fail
 | .emb p=>p
 | .view s k => .view s fun p=>(k p).toPM
 | .get s k => .get s fun p=>(k p).toPM
 | .set s p k => .set s p k.toPM
 | .cells r pre i c n k => .cells r pre i c n fun a qs=>(k a qs).toPM
 | .deep r pre k => .deep r pre fun q=>(k q).toPM
 | .wcells r pre i c qs k => .wcells r pre i c qs k.toPM
 | .wnode r pre q k => .wnode r pre q k.toPM
 | .kill r pre k => .kill r pre k.toPM
 | .frz r pre k => .frz r pre k.toPM
 | .frzp r pre p k => .frz r pre (k p).toPM
 | .killEx r keep k => .killEx r keep k.toPM
 | .call f args hid k => .call f args hid fun v h=>(k v h).toPM
 | .test b k=>bif b then k.toPM else .fail
 | .pick x k=>match x with
  | some v=>(k v).toPM
  | none => .fail
 | .num x k=>match x with
  | some v=>(k v).toPM
  | none => .fail
 | .idx x k=>match x with
  | some v=>(k v).toPM
  | none => .fail
 | .choose b k1 k2=>bif b then k1.toPM else k2.toPM
 | .same p k=>(k p).toPM
 | .sames ps k=>(k ps).toPM
 | .nats x k=>(k x).toPM
 | .pure _ _ _ k=>k.toPM
inductive An where
 | ob | v (p:PV) | vs (ps:List PV) | n (k:Nat) | ix (k:Option Nat) | yes | no | cs (a:Bool) (qs:List PV) | root (r:PV) (kept:Bool) | ret (v:PV) (hid:List PV) | ns (l:List Nat) | env (e:Env) | envv (e:Env) (q:PV)
abbrev Ans:=List (Nat×An)
def zGe:Ans→Option An×Ans
 | []=>(none,[])
 | (0,a)::l=>(some a,l)
 | (n+1,a)::l=>(none,(n,a)::l)
section
variable [Yo] (P:Program) (H:zBh)
def zTQ (f:FuncId) (args:List PV) (v:PV):Prop:=∀ (d:Option Nat) (e:Env),∃ n0,∀ n,n0≤n→(zNW H d f args).runT (zCO P H n) e=(put d v).runT (zCO P H n) e
abbrev XR:=Option (Env×Tok×List Prop)
def XR.tok (t:Tok) (x:XR):XR:=x.map fun y=>(y.1,Tok.join t y.2.1,y.2.2)
def XR.ob (q:Prop) (x:XR):XR:=x.map fun y=>(y.1,y.2.1,q::y.2.2)
def PX.run:PX→Ans→Env→XR
 | .ok,_,e=>some (e,{},[])
 | .fail,_,_=>none
 | .emb p,_,e=>(p.runT zHs e).map fun y=>(y.1,y.2,[])
 | .view s k,as,e=>((k (Eng.view s (e.get s))).run as e).tok {look:=[s]}
 | .get s k,as,e=>match e.get s with
  | .lock _=>none
  | p=>((k p).run as e).tok {rd:=[s]}
 | .set s p k,as,e=>(k.run as (e.set s p)).tok (zFi s (e.get s) p)
 | .cells r pre i c n k,as,e=>match zGe as with
  | (none,as)=>match zAr r (e.get r) pre i c n with
   | some (a,qs)=>((k a qs).run as e).tok {cel:=[(r,pre)]}
   | none=>none
  | (some (.cs a qs),as)=>(((k a qs).run as e).tok {cel:=[(r,pre)]}).ob (zAr r (e.get r) pre i c n=some (a,qs))
  | _=>none
 | .deep r pre k,as,e=>match zGe as with
  | (none,as)=>match zAz (e.get r).unlock pre with
   | some q=>((k q).run as e).tok {rd:=[r]}
   | none=>none
  | (some (.v q),as)=>(((k q).run as e).tok {rd:=[r]}).ob (zAz (e.get r).unlock pre=some q)
  | _=>none
 | .wcells r pre i c qs k,as,e=>match zGe as with
  | (none,as)=>match zBF (e.get r) pre i c qs with
   | some root=>(k.run as (e.set r root)).tok (zBj r [] (zAD (e.get r) root pre) (e.get r) root)
   | none=>none
  | (some (.root root kp),as)=>((k.run as (e.set r root)).tok (zBj r [] kp (e.get r) root)).ob (zBF (e.get r) pre i c qs=some root∧zAD (e.get r) root pre=kp)
  | _=>none
 | .wnode r pre q k,as,e=>match zGe as with
  | (none,as)=>bif (e.get r).isLock then none else match zAu (fun _=>some q) (e.get r) pre with
   | some root=>(k.run as (e.set r root)).tok (zBj r pre.dropLast (zAD (e.get r) root pre&&(pre.isEmpty || !q.isAgg)) (e.get r) root)
   | none=>none
  | (some (.root root kp),as)=>bif (e.get r).isLock then none else ((k.run as (e.set r root)).tok (zBj r pre.dropLast (kp&&(pre.isEmpty || !q.isAgg)) (e.get r) root)).ob (zAu (fun _=>some q) (e.get r) pre=some root∧zAD (e.get r) root pre=kp)
  | _=>none
 | .kill r pre k,as,e=>(k.run as (e.kill r pre)).tok (zAK (zDm e fun z=>zAL r pre z.1 z.2) e.get (e.kill r pre).get [r] [])
 | .frz r pre k,as,e=>match zGe as with
  | (none,as)=>match e.frz r pre with
   | some e'=>(k.run as e').tok (zAK (r::zDm e fun z=>zAL r pre z.1 z.2) e.get e'.get [r] [])
   | none=>none
  | (some (.env e'),as)=>((k.run as e').tok (zAK (r::zDm e fun z=>zAL r pre z.1 z.2) e.get e'.get [r] [])).ob (e.frz r pre=some e')
  | _=>none
 | .frzp r pre p k,as,e=>match zGe as with
  | (none,as)=>match e.frz r pre with
   | some e'=>((k p).run as e').tok (zAK (r::zDm e fun z=>zAL r pre z.1 z.2) e.get e'.get [r] [])
   | none=>none
  | (some (.env e'),as)=>(((k p).run as e').tok (zAK (r::zDm e fun z=>zAL r pre z.1 z.2) e.get e'.get [r] [])).ob (e.frz r pre=some e')
  | (some (.envv e' q),as)=>(((k q).run as e').tok (zAK (r::zDm e fun z=>zAL r pre z.1 z.2) e.get e'.get [r] [])).ob (e.frz r pre=some e'∧p=q)
  | _=>none
 | .killEx r keep k,as,e=>(k.run as (e.killEx r keep)).tok (zAK (zDm e fun z=>Nat.beq z.1 r && !z.2.isEmpty) e.get (e.killEx r keep).get [] [r])
 | .call f args hid k,as,e=>match zGe as with
  | (some (.ret v hO),as)=>((k v hO).run as e).ob (zAo P H f args hid v hO)
  | _=>none
 | .test b k,as,e=>match zGe as with
  | (none,as)=>bif b then k.run as e else none
  | (some .ob,as)=>(k.run as e).ob (b=true)
  | _=>none
 | .pick x k,as,e=>match zGe as with
  | (none,as)=>match x with
   | some v=>(k v).run as e
   | none=>none
  | (some (.v v),as)=>((k v).run as e).ob (x=some v)
  | _=>none
 | .num x k,as,e=>match zGe as with
  | (none,as)=>match x with
   | some v=>(k v).run as e
   | none=>none
  | (some (.n v),as)=>((k v).run as e).ob (x=some v)
  | _=>none
 | .idx x k,as,e=>match zGe as with
  | (none,as)=>match x with
   | some v=>(k v).run as e
   | none=>none
  | (some (.ix v),as)=>((k v).run as e).ob (x=some v)
  | _=>none
 | .choose b k1 k2,as,e=>match zGe as with
  | (none,as)=>bif b then k1.run as e else k2.run as e
  | (some .yes,as)=>(k1.run as e).ob (b=true)
  | (some .no,as)=>(k2.run as e).ob (b=false)
  | _=>none
 | .same p k,as,e=>match zGe as with
  | (none,as)=>(k p).run as e
  | (some (.v q),as)=>((k q).run as e).ob (p=q)
  | _=>none
 | .sames ps k,as,e=>match zGe as with
  | (none,as)=>(k ps).run as e
  | (some (.vs qs),as)=>((k qs).run as e).ob (ps=qs)
  | _=>none
 | .nats x k,as,e=>match zGe as with
  | (none,as)=>(k x).run as e
  | (some (.ns l),as)=>((k l).run as e).ob (x=l)
  | _=>none
 | .pure d f args k,as,e=>match zGe as with
  | (none,as)=>k.run as e
  | (some (.v v),_)=>XR.ob (zTQ P H f args v∧k.toPM=zNW H d f args) (((put d v).runT zHs e).map fun y=>(y.1,y.2,[]))
  | _=>none
def zSE:List Prop→Prop
 | []=>True
 | p::ps=>p∧zSE ps
end
section
variable [Yo] {P:Program} {H:zBh}
theorem XR.tok_some {t u:Tok} {x:XR} {e':Env} {obs:List Prop} (h:x.tok t=some (e',u,obs)):∃ u',x=some (e',u',obs)∧u=Tok.join t u':=by
 obtain ⟨⟨a,b,c⟩,h1,h2⟩:=Option.map_eq_some_iff.1 h
 simp only [Prod.mk.injEq] at h2
 obtain ⟨rfl,rfl,rfl⟩:=h2
 exact ⟨_,h1,rfl⟩
theorem XR.ob_some {q:Prop} {u:Tok} {x:XR} {e':Env} {obs:List Prop} (h:x.ob q=some (e',u,obs)):∃ o',x=some (e',u,o')∧obs=q::o':=by
 obtain ⟨⟨a,b,c⟩,h1,h2⟩:=Option.map_eq_some_iff.1 h
 simp only [Prod.mk.injEq] at h2
 obtain ⟨rfl,rfl,rfl⟩:=h2
 exact ⟨_,h1,rfl⟩
theorem PX.run_ok:∀ {p:PX} {as:Ans} {e e':Env} {t:Tok} {obs:List Prop},p.run P H as e=some (e',t,obs)→zSE obs→∃ n0,∀ n,n0≤n→p.toPM.runT (zCO P H n) e=some (e',t):=by
 intro p
 induction p with
 | ok=>intro as e e' t obs h _;simp only [PX.run,Option.some.injEq,Prod.mk.injEq] at h;obtain ⟨rfl,rfl,_⟩:=h;exact ⟨0,fun _ _=>rfl⟩
 | fail=>intro as e e' t obs h _;cases h
 | emb p =>
  intro as e e' t obs h _
  obtain ⟨⟨a,b⟩,h1,h2⟩:=Option.map_eq_some_iff.1 h
  simp only [Prod.mk.injEq] at h2
  obtain ⟨rfl,rfl,_⟩:=h2
  exact ⟨0,fun _ _=>zIq h1⟩
 | view s k ih =>
  intro as e e' t obs h ha
  obtain ⟨u,h1,rfl⟩:=XR.tok_some h
  obtain ⟨n0,h2⟩:=ih _ h1 ha
  exact ⟨n0,fun n hn=>by simp only [PX.toPM,PM.runT,h2 n hn];rfl⟩
 | get s k ih =>
  intro as e e' t obs h ha
  simp only [PX.run] at h
  cases hg:e.get s<;>rw [hg] at h<;>simp only at h<;>try (cases h;done)
  all_goals
   obtain ⟨u,h1,rfl⟩:=XR.tok_some h
   obtain ⟨n0,h2⟩:=ih _ h1 ha
   exact ⟨n0,fun n hn=>by simp only [PX.toPM,PM.runT,hg,h2 n hn];rfl⟩
 | set s q k ih =>
  intro as e e' t obs h ha
  obtain ⟨u,h1,rfl⟩:=XR.tok_some h
  obtain ⟨n0,h2⟩:=ih h1 ha
  exact ⟨n0,fun n hn=>by simp only [PX.toPM,PM.runT,h2 n hn];rfl⟩
 | cells r pre i c n k ih =>
  intro as e e' t obs h ha
  simp only [PX.run] at h
  split at h
  ·split at h
   ·rename_i hr
    obtain ⟨u,h1,rfl⟩:=XR.tok_some h
    obtain ⟨n0,h2⟩:=ih _ _ h1 ha
    exact ⟨n0,fun n hn=>by simp only [PX.toPM,PM.runT,hr,h2 n hn];rfl⟩
   ·cases h
  ·obtain ⟨o,h0,rfl⟩:=XR.ob_some h
   obtain ⟨u,h1,rfl⟩:=XR.tok_some h0
   obtain ⟨n0,h2⟩:=ih _ _ h1 ha.2
   exact ⟨n0,fun n hn=>by simp only [PX.toPM,PM.runT,ha.1,h2 n hn];rfl⟩
  ·cases h
 | deep r pre k ih =>
  intro as e e' t obs h ha
  simp only [PX.run] at h
  split at h
  ·split at h
   ·rename_i hr
    obtain ⟨u,h1,rfl⟩:=XR.tok_some h
    obtain ⟨n0,h2⟩:=ih _ h1 ha
    exact ⟨n0,fun n hn=>by simp only [PX.toPM,PM.runT,hr,h2 n hn];rfl⟩
   ·cases h
  ·obtain ⟨o,h0,rfl⟩:=XR.ob_some h
   obtain ⟨u,h1,rfl⟩:=XR.tok_some h0
   obtain ⟨n0,h2⟩:=ih _ h1 ha.2
   exact ⟨n0,fun n hn=>by simp only [PX.toPM,PM.runT,ha.1,h2 n hn];rfl⟩
  ·cases h
 | wcells r pre i c qs k ih =>
  intro as e e' t obs h ha
  simp only [PX.run] at h
  split at h
  ·split at h
   ·rename_i hr
    obtain ⟨u,h1,rfl⟩:=XR.tok_some h
    obtain ⟨n0,h2⟩:=ih h1 ha
    exact ⟨n0,fun n hn=>by simp only [PX.toPM,PM.runT,hr,h2 n hn];rfl⟩
   ·cases h
  ·obtain ⟨o,h0,rfl⟩:=XR.ob_some h
   obtain ⟨u,h1,rfl⟩:=XR.tok_some h0
   obtain ⟨n0,h2⟩:=ih h1 ha.2
   exact ⟨n0,fun n hn=>by simp only [PX.toPM,PM.runT,ha.1.1,ha.1.2,h2 n hn];rfl⟩
  ·cases h
 | wnode r pre q k ih =>
  intro as e e' t obs h ha
  simp only [PX.run] at h
  split at h
  ·rcases zBn h with ⟨_,h⟩ | ⟨hl,h⟩
   ·cases h
   ·split at h
    ·rename_i hr
     obtain ⟨u,h1,rfl⟩:=XR.tok_some h
     obtain ⟨n0,h2⟩:=ih h1 ha
     exact ⟨n0,fun n hn=>by simp only [PX.toPM,PM.runT,hl,cond_false,hr,h2 n hn];rfl⟩
    ·cases h
  ·rcases zBn h with ⟨_,h⟩ | ⟨hl,h⟩
   ·cases h
   ·obtain ⟨o,h0,rfl⟩:=XR.ob_some h
    obtain ⟨u,h1,rfl⟩:=XR.tok_some h0
    obtain ⟨n0,h2⟩:=ih h1 ha.2
    exact ⟨n0,fun n hn=>by simp only [PX.toPM,PM.runT,hl,cond_false,ha.1.1,ha.1.2,h2 n hn];rfl⟩
  ·cases h
 | kill r pre k ih =>
  intro as e e' t obs h ha
  obtain ⟨u,h1,rfl⟩:=XR.tok_some h
  obtain ⟨n0,h2⟩:=ih h1 ha
  exact ⟨n0,fun n hn=>by simp only [PX.toPM,PM.runT,h2 n hn];rfl⟩
 | frz r pre k ih =>
  intro as e e' t obs h ha
  simp only [PX.run] at h
  split at h
  ·split at h
   ·rename_i hr
    obtain ⟨u,h1,rfl⟩:=XR.tok_some h
    obtain ⟨n0,h2⟩:=ih h1 ha
    exact ⟨n0,fun n hn=>by simp only [PX.toPM,PM.runT,hr,h2 n hn];rfl⟩
   ·cases h
  ·obtain ⟨o,h0,rfl⟩:=XR.ob_some h
   obtain ⟨u,h1,rfl⟩:=XR.tok_some h0
   obtain ⟨n0,h2⟩:=ih h1 ha.2
   exact ⟨n0,fun n hn=>by simp only [PX.toPM,PM.runT,ha.1,h2 n hn];rfl⟩
  ·cases h
 | frzp r pre p k ih =>
  intro as e e' t obs h ha
  simp only [PX.run] at h
  split at h
  ·split at h
   ·rename_i hr
    obtain ⟨u,h1,rfl⟩:=XR.tok_some h
    obtain ⟨n0,h2⟩:=ih _ h1 ha
    exact ⟨n0,fun n hn=>by simp only [PX.toPM,PM.runT,hr,h2 n hn];rfl⟩
   ·cases h
  ·obtain ⟨o,h0,rfl⟩:=XR.ob_some h
   obtain ⟨u,h1,rfl⟩:=XR.tok_some h0
   obtain ⟨n0,h2⟩:=ih _ h1 ha.2
   exact ⟨n0,fun n hn=>by simp only [PX.toPM,PM.runT,ha.1,h2 n hn];rfl⟩
  ·obtain ⟨o,h0,rfl⟩:=XR.ob_some h
   obtain ⟨u,h1,rfl⟩:=XR.tok_some h0
   obtain ⟨⟨hf,rfl⟩,ha⟩:=ha
   obtain ⟨n0,h2⟩:=ih _ h1 ha
   exact ⟨n0,fun n hn=>by simp only [PX.toPM,PM.runT,hf,h2 n hn];rfl⟩
  ·cases h
 | killEx r keep k ih =>
  intro as e e' t obs h ha
  obtain ⟨u,h1,rfl⟩:=XR.tok_some h
  obtain ⟨n0,h2⟩:=ih h1 ha
  exact ⟨n0,fun n hn=>by simp only [PX.toPM,PM.runT,h2 n hn];rfl⟩
 | call f args hid k ih =>
  intro as e e' t obs h ha
  simp only [PX.run] at h
  split at h
  ·obtain ⟨o,h1,rfl⟩:=XR.ob_some h
   obtain ⟨n0,h2⟩:=ih _ _ h1 ha.2
   obtain ⟨n1,h3⟩:=ha.1
   exact ⟨max n0 n1,fun n hn=>by simp only [PX.toPM,PM.runT,h3 n (by omega),h2 n (by omega)]⟩
  ·cases h
 | test b k ih =>
  intro as e e' t obs h ha
  simp only [PX.run] at h
  split at h
  ·rcases zBn h with ⟨hb,h⟩ | ⟨_,h⟩
   ·obtain ⟨n0,h2⟩:=ih h ha
    exact ⟨n0,fun n hn=>by simp only [PX.toPM,hb,cond_true,h2 n hn]⟩
   ·cases h
  ·obtain ⟨o,h1,rfl⟩:=XR.ob_some h
   obtain ⟨n0,h2⟩:=ih h1 ha.2
   exact ⟨n0,fun n hn=>by simp only [PX.toPM,ha.1,cond_true,h2 n hn]⟩
  ·cases h
 | pick x k ih =>
  intro as e e' t obs h ha
  simp only [PX.run] at h
  split at h
  ·split at h
   ·obtain ⟨n0,h2⟩:=ih _ h ha
    exact ⟨n0,fun n hn=>by simp only [PX.toPM,h2 n hn]⟩
   ·cases h
  ·obtain ⟨o,h1,rfl⟩:=XR.ob_some h
   obtain ⟨n0,h2⟩:=ih _ h1 ha.2
   exact ⟨n0,fun n hn=>by simp only [PX.toPM,ha.1,h2 n hn]⟩
  ·cases h
 | num x k ih =>
  intro as e e' t obs h ha
  simp only [PX.run] at h
  split at h
  ·split at h
   ·obtain ⟨n0,h2⟩:=ih _ h ha
    exact ⟨n0,fun n hn=>by simp only [PX.toPM,h2 n hn]⟩
   ·cases h
  ·obtain ⟨o,h1,rfl⟩:=XR.ob_some h
   obtain ⟨n0,h2⟩:=ih _ h1 ha.2
   exact ⟨n0,fun n hn=>by simp only [PX.toPM,ha.1,h2 n hn]⟩
  ·cases h
 | idx x k ih =>
  intro as e e' t obs h ha
  simp only [PX.run] at h
  split at h
  ·split at h
   ·obtain ⟨n0,h2⟩:=ih _ h ha
    exact ⟨n0,fun n hn=>by simp only [PX.toPM,h2 n hn]⟩
   ·cases h
  ·obtain ⟨o,h1,rfl⟩:=XR.ob_some h
   obtain ⟨n0,h2⟩:=ih _ h1 ha.2
   exact ⟨n0,fun n hn=>by simp only [PX.toPM,ha.1,h2 n hn]⟩
  ·cases h
 | choose b k1 k2 ih1 ih2 =>
  intro as e e' t obs h ha
  simp only [PX.run] at h
  split at h
  ·rcases zBn h with ⟨hb,h⟩ | ⟨hb,h⟩
   ·obtain ⟨n0,h2⟩:=ih1 h ha
    exact ⟨n0,fun n hn=>by simp only [PX.toPM,hb,cond_true,h2 n hn]⟩
   ·obtain ⟨n0,h2⟩:=ih2 h ha
    exact ⟨n0,fun n hn=>by simp only [PX.toPM,hb,cond_false,h2 n hn]⟩
  ·obtain ⟨o,h1,rfl⟩:=XR.ob_some h
   obtain ⟨n0,h2⟩:=ih1 h1 ha.2
   exact ⟨n0,fun n hn=>by simp only [PX.toPM,ha.1,cond_true,h2 n hn]⟩
  ·obtain ⟨o,h1,rfl⟩:=XR.ob_some h
   obtain ⟨n0,h2⟩:=ih2 h1 ha.2
   exact ⟨n0,fun n hn=>by simp only [PX.toPM,ha.1,cond_false,h2 n hn]⟩
  ·cases h
 | same p k ih =>
  intro as e e' t obs h ha
  simp only [PX.run] at h
  split at h
  ·exact ih _ h ha
  ·obtain ⟨o,h1,rfl⟩:=XR.ob_some h
   obtain ⟨n0,h2⟩:=ih _ h1 ha.2
   exact ⟨n0,fun n hn=>by simp only [PX.toPM,ha.1,h2 n hn]⟩
  ·cases h
 | sames ps k ih =>
  intro as e e' t obs h ha
  simp only [PX.run] at h
  split at h
  ·exact ih _ h ha
  ·obtain ⟨o,h1,rfl⟩:=XR.ob_some h
   obtain ⟨n0,h2⟩:=ih _ h1 ha.2
   exact ⟨n0,fun n hn=>by simp only [PX.toPM,ha.1,h2 n hn]⟩
  ·cases h
 | nats x k ih =>
  intro as e e' t obs h ha
  simp only [PX.run] at h
  split at h
  ·exact ih _ h ha
  ·obtain ⟨o,h1,rfl⟩:=XR.ob_some h
   obtain ⟨n0,h2⟩:=ih _ h1 ha.2
   exact ⟨n0,fun n hn=>by simp only [PX.toPM,ha.1,h2 n hn]⟩
  ·cases h
 | pure d f args k ih =>
  intro as e e' t obs h ha
  simp only [PX.run] at h
  split at h
  ·exact ih h ha
  ·obtain ⟨o,h1,rfl⟩:=XR.ob_some h
   obtain ⟨⟨a,b⟩,h2,h3⟩:=Option.map_eq_some_iff.1 h1
   simp only [Prod.mk.injEq] at h3
   obtain ⟨rfl,rfl,_⟩:=h3
   obtain ⟨⟨hp,hk⟩,_⟩:=ha
   obtain ⟨n0,hp⟩:=hp d e
   exact ⟨n0,fun n hn=>by simp only [PX.toPM];rw [hk,hp n hn];exact zIq h2⟩
  ·cases h
end
end Go.Eng
namespace Go.Eng
open Go
def zGK (x:Operand) (k:PV→PX):PX :=
 match x with
 | .tmp t => .view t k
 | .const v=>k (zEB v)
 | .func f=>k (.func f [] [])
 | .global _ => .fail
def zLb (x:Operand) (k:PV→PX):PX :=
 match x with
 | .tmp t => .get t fun p => .choose p.heavy (.set t .bad (k p)) (k p)
 | .const v=>k (zEB v)
 | .func f=>k (.func f [] [])
 | .global _ => .fail
def zPk:List Operand→(List PV→PX)→PX
 | [],k=>k []
 | x::xs,k=>zGK x fun p=>zPk xs fun ps=>k (p::ps)
def zWr (d:Nat) (p:PV) (k:PX):PX := .choose p.heavy (.kill d [] (.set d (p.mapW (lose d [])) k)) (.set d p k)
def zGf (d:Option Nat) (p:PV):PX :=
 match d with
 | none => .ok
 | some d => .same p fun p=>bif p.isTup then .fail else zWr d p .ok
def zG6 (d:Nat):Nat→List PV→PX→PX
 | n,[],k => .set d (.tup (List.replicate n .bad)) k
 | i,p::ps,k => .same p fun p=>zWr (zBw d i) p (zG6 d (i+1) ps k)
def zFe (d:Option Nat) (v:PV):PX :=
 match d,v with
 | some d,.tup vs => .test (Nat.ble vs.length 16) (.test ((zBA vs).all (fun w => !zJH d w.1)) (.set d .bad (zG6 d 0 vs .ok)))
 | d,v=>zGf d v
def zFD:PV→(Nat→PX)→PX
 | .int _ n,k => .test (decide (0≤n)) (.num (some n.toNat) k)
 | _,_ => .fail
def zQm (r:Nat) (pre:zAU) (i c:Nat) (sh:Option Nat) (k:PV→PX):PX :=
 match sh with
 | some n => .cells r pre i c n fun a qs=>bif a then k (.agg qs) else .fail
 | none => .cells r pre i c 1 fun _ qs=>k (qs.headD .bad)
def zHr (r:Nat) (pre:zAU) (i:Nat):Nat→List PV→PX→PX
 | _,[],k=>k
 | c,q::qs,k=>bif q.heavy then .kill r (pre++[(i,c)]) (zHr r pre i (c+1) qs k) else zHr r pre i (c+1) qs k
def zQ5 (r:Nat) (pre:zAU) (i c:Nat) (qs:List PV) (k:PX):PX := .choose (qs.all fun q => !q.heavy) k (zHr r pre i c qs k)
section
variable {k:PX} {kp:PV→PX}
theorem zCc {x:Operand} {k:PV→PX}:(zGK x k).toPM=opd x fun p=>(k p).toPM:=by cases x<;>rfl
theorem zBz {α:Type} {b:Bool} {x y:α}:(bif b then x else y)=if b=true then x else y:=by cases b<;>rfl
theorem zF7 {x:Operand} {k:PV→PX}:(zLb x k).toPM=zPa x fun p=>(k p).toPM:=by
 cases x<;>first | rfl | simp only [zLb,zPa,PX.toPM,zBz]
theorem zIA:∀ {xs:List Operand} {k:List PV→PX},(zPk xs k).toPM=zTq xs fun p=>(k p).toPM
 | [],_=>rfl
 | x::xs,k=>by simp only [zPk,zTq,zCc,zIA]
theorem zLE {d:Nat} {p:PV} {k:PX}:(zWr d p k).toPM=lay d p k.toPM:=by simp only [zWr,lay,PX.toPM]
theorem zDd {b:Bool} {x y:PX}:(bif b then x else y).toPM=bif b then x.toPM else y.toPM:=by cases b<;>rfl
theorem zOz {c:Prop} [Decidable c] {x y:PX}:(if c then x else y).toPM=if c then x.toPM else y.toPM:=by split<;>rfl
theorem zBy {d:Option Nat} {p:PV}:(zGf d p).toPM=put d p:=by
 cases d with
 | none=>rfl
 | some d=>simp only [zGf,put,PX.toPM,zDd,zLE]
theorem zH1 {d:Nat}:∀ {ps:List PV} {i:Nat} {k:PX},(zG6 d i ps k).toPM=zEU d i ps k.toPM
 | [],_,_=>rfl
 | p::ps,i,k=>by simp only [zG6,zEU,PX.toPM,zLE,zH1]
theorem zDj {α:Type} {a b:Bool} {x y:α}:(bif a&&b then x else y)=bif a then (bif b then x else y) else y:=by cases a<;>rfl
theorem zEJ {d:Option Nat} {v:PV}:(zFe d v).toPM=zDp d v:=by
 cases d with
 | none=>cases v<;>simp only [zFe,zDp,zBy]
 | some d=>cases v<;>simp only [zFe,zDp,PX.toPM,zH1,zDj,zBy]
theorem zEK {p:PV} {k:Nat→PX}:(zFD p k).toPM=zGk p fun n=>(k n).toPM:=by
 cases p<;>first | rfl | skip
 simp only [zFD,zGk,PX.toPM,zBz,decide_eq_true_eq]
theorem zLG {r:Nat} {pre:zAU} {i c:Nat} {sh:Option Nat} {k:PV→PX}:(zQm r pre i c sh k).toPM=zMC r pre i c sh fun p=>(k p).toPM:=by
 cases sh<;>simp only [zQm,zMC,PX.toPM,zDd]
theorem zJz {r:Nat} {pre:zAU} {i:Nat}:∀ {qs:List PV} {c:Nat} {k:PX},(zHr r pre i c qs k).toPM=zDS r pre i c qs k.toPM
 | [],_,_=>rfl
 | q::qs,c,k=>by simp only [zHr,zDS,zDd,PX.toPM,zJz]
theorem zFa {r:Nat} {pre:zAU} {i:Nat}:∀ {qs:List PV} {c:Nat} {k:PM},(qs.all fun q => !q.heavy)=true→zDS r pre i c qs k=k
 | [],_,_,_=>rfl
 | q::qs,c,k,h=>by
  simp only [List.all_cons,Bool.and_eq_true,Bool.not_eq_true'] at h
  simp only [zDS,h.1,cond_false];exact zFa h.2
theorem zSm {r:Nat} {pre:zAU} {i c:Nat} {qs:List PV} {k:PX}:(zQ5 r pre i c qs k).toPM=zDS r pre i c qs k.toPM:=by
 simp only [zQ5,PX.toPM,zJz]
 cases h:qs.all fun q => !q.heavy with
 | false=>rfl
 | true=>exact (zFa h).symm
end
def zEE (res:PV→(PV→List (Nat×zAU)→PX)→PX):List PV→(List PV→List (Nat×zAU)→PX)→PX
 | [],k=>k [] []
 | p::ps,k=>res p fun q l=>zEE res ps fun qs m=>k (q::qs) (l++m)
def zDC (hb:Nat):Nat→PV→(PV→List (Nat×zAU)→PX)→PX
 | 0,_,_ => .fail
 | n + 1,p,k =>
  match p with
  | .addr r pre i c sh=>bif Nat.ble hb r then k p [] else .deep r pre fun q=>match zBg q with
   | some xs => .pick xs[i]? fun x=>match sh with
     | some m => .test (Nat.ble (c+m) x.cells.length) (.test x.isAgg (zDC hb n (.agg ((x.cells.drop c).take m)) fun q l=>k (.ref q) ((r,pre)::l)))
     | none => .pick x.cells[c]? fun q => .test q.oneCell (zDC hb n q fun q l=>k (.ref q) ((r,pre)::l))
   | none => .fail
  | .bor r pre _ lo m=>bif Nat.ble hb r then k p [] else .deep r pre fun q=>match q with
   | .own _ xs => .test (Nat.ble (lo+m) xs.length) (.same (.sl (zAv ((xs.drop lo).take m))) fun p=>k p [(r,pre)])
   | _ => .fail
  | .bsl r pre i c sz ag m=>bif Nat.ble hb r then k p [] else .deep r pre fun q=>match zBg q with
   | some xs => .pick xs[i]? fun x => .test (zCm ag sz m ((x.cells.drop c).take (m*sz))) (.test (zBA x.cells).isEmpty (.same (.sl (zCp ag sz m (zAv ((x.cells.drop c).take (m*sz))))) fun p=>k p [(r,pre)]))
   | none => .fail
  | .bmap r pre=>bif Nat.ble hb r then k p [] else .deep r pre fun q=>match q with
   | .omap es=>k (.map es) [(r,pre)]
   | _ => .fail
  | .agg cs => .choose (p.ways).isEmpty (.same (zAV p) fun q=>k q []) (zEE (zDC hb n) cs fun qs l=>k (.agg qs) l)
  | .func f a b => .choose (p.ways).isEmpty (k p []) (zEE (zDC hb n) a fun as l=>zEE (zDC hb n) b fun bs m=>k (.func f as bs) (l++m))
  | .ref q => .choose (q.ways).isEmpty (k p []) (zDC hb n q fun q l=>k (.ref q) l)
  | .bad=>k .bad []
  | p => .test (p.ways.all (fun w=>Nat.ble hb w.1)) (.same (zAV p) fun q=>k q [])
def zUo (p:PV) (k:PV→List (Nat×zAU)→PX):PX:=zDC zAb depth p k
theorem zHO {res:PV→(PV→List (Nat×zAU)→PX)→PX} {res':PV→(PV→List (Nat×zAU)→PM)→PM} (h:∀ p k,(res p k).toPM=res' p fun q l=>(k q l).toPM):∀ {ps:List PV} {k:List PV→List (Nat×zAU)→PX},(zEE res ps k).toPM=zEq res' ps fun q l=>(k q l).toPM
 | [],_=>rfl
 | p::ps,k=>by simp only [zEE,zEq,h,zHO h]
theorem zIK {hb:Nat}:∀ {n:Nat} {p:PV} {k:PV→List (Nat×zAU)→PX},(zDC hb n p k).toPM=resolve hb n p fun q l=>(k q l).toPM
 | 0,_,_=>rfl
 | n + 1,p,k=>by
  have ih:∀ (p:PV) (k:PV→List (Nat×zAU)→PX),(zDC hb n p k).toPM=resolve hb n p fun q l=>(k q l).toPM:=fun p k=>zIK
  cases p<;>simp only [zDC,resolve,zDd,PX.toPM,zDj,ih,zHO ih]
  ·congr 1;congr 1;funext q
   cases zBg q with
   | none=>rfl
   | some xs =>
    simp only [PX.toPM]
    rename_i r pre i c sh
    cases xs[i]? with
    | none=>rfl
    | some x =>
     cases sh with
     | some m=>simp only [PX.toPM,zDj,ih]
     | none =>
      simp only [PX.toPM,ih]
      cases x.cells[c]? with
      | none=>rfl
      | some q=>simp only [PX.toPM,zBz,ih]
  ·congr 1;congr 1;funext q
   cases q<;>rfl
  ·congr 1;congr 1;funext q
   cases zBg q with
   | none=>rfl
   | some xs =>
    simp only [PX.toPM]
    rename_i r pre i c sz ag m
    cases xs[i]? with
    | none=>rfl
    | some x=>simp only [PX.toPM,zDj]
  ·congr 1;congr 1;funext q
   cases q<;>rfl
theorem zRV {p:PV} {k:PV→List (Nat×zAU)→PX}:(zUo p k).toPM=zPp p fun q l=>(k q l).toPM:=zIK
def zPn (hb:Nat):Nat→PV→(PV→PX)→PX
 | 0,_,_ => .fail
 | n+1,p,k=>match p.ways.find? (fun w=>Nat.blt w.1 hb) with
  | none => .same p k
  | some (r,pre) => .deep r pre fun q => .frzp r pre (p.mapW (inl r pre q)) fun p=>zPn hb n p k
theorem zFH {hb:Nat}:∀ {n:Nat} {p:PV} {k:PV→PX},(zPn hb n p k).toPM=zLO hb n p fun q=>(k q).toPM
 | 0,_,_=>rfl
 | n+1,p,k=>by
  simp only [zPn,zLO]
  cases p.ways.find? (fun w=>Nat.blt w.1 hb) with
  | none=>rfl
  | some w=>simp only [PX.toPM,zFH]
def zLo (p:PV) (k:List PV→PX):PX :=
 match p with
 | .nils _=>k []
 | .nn=>k []
 | .sl xs=>k xs
 | .bor r pre z lo n => .deep r pre fun q=>match q with
  | .own _ xs => .test (Nat.ble (lo+n) xs.length) (.sames ((xs.drop lo).take n) k)
  | _ => .fail
 | .bsl r pre i c sz ag n => .cells r pre i c (n*sz) fun _ cs => .test (zCm ag sz n cs) (.test (cs.all (fun q=>q.plain0)) (.sames (zCp ag sz n cs) k))
 | _ => .fail
theorem zKQ {p:PV} {k:List PV→PX}:(zLo p k).toPM=zGN p fun l=>(k l).toPM:=by
 cases p<;>simp only [zLo,zGN,PX.toPM,zDj]
 congr 1;funext q
 cases q<;>rfl
section
variable (P:Program) (H:zBh)
def zFA:List Nat→List PV→(List (Bool×PV)→PX)→PX
 | _,[],k=>k []
 | ms,p::ps,k =>
  match ms.headD 0,p with
  | 2,.bor r pre _ 0 n => .deep r pre fun q=>match q with
   | .own sz xs => .test (Nat.ble n xs.length) (.wnode r pre .bad (.same (.own sz ((xs.drop 0).take n)) fun o=>zFA ms.tail ps fun as=>k ((true,o)::as)))
   | _ => .fail
  | _,p=>zFA ms.tail ps fun as=>k ((false,p)::as)
def zDs:List Nat→List (Bool×PV)→(List Arg→PX)→PX
 | _,[],k=>k []
 | ms,(true,p)::ps,k=>zDs ms.tail ps fun as=>k ({p:=p}::as)
 | ms,(false,p)::ps,k =>
  bif Nat.beq (ms.headD 0) 1 then zDs ms.tail ps fun as=>k ({p:=p,byref:=true}::as)
  else zUo p fun q l=>zDs ms.tail ps fun as=>k ({p:=q,shared:=l}::as)
def zE6:List Nat→List (Bool×PV)→(List Arg→PX)→PX
 | _,[],k=>k []
 | ms,(true,p)::ps,k=>zE6 ms.tail ps fun as=>k ({p:=p}::as)
 | ms,(false,p)::ps,k =>
  bif Nat.beq (ms.headD 0) 1 then zE6 ms.tail ps fun as=>k ({p:=p,byref:=true}::as)
  else zPn zAb zDw p fun q=>zE6 ms.tail ps fun as=>k ({p:=q}::as)
def zSq:List Nat→(List PV→PX)→PX
 | [],k=>k []
 | r::rs,k => .get r fun p=>zSq rs fun ps=>k (p::ps)
def zS6:List Nat→List PV→List PV→PX→PX
 | r::rs,o::os,p::ps,k => .test (zGg o p) (.same p fun p => .wnode r [] p (zS6 rs os ps k))
 | [],[],[],k=>k
 | _,_,_,_ => .fail
def zOk:Nat→List Nat→(List Nat→PX)→PX
 | 0,R,k=>k R
 | n+1,R,k=>zSq R fun ts=>let R':=(R++ts.flatMap zNH).eraseDups;bif Nat.beq R'.length R.length then k R else zOk n R' k
def zG2:List Nat→PX→PX
 | [],k=>k
 | r::rs,k => .killEx r [] (zG2 rs k)
def zMy:List Bool→PX→PX→PX
 | [a,b,c],x,y => .choose a x (.choose b (.choose c x y) y)
 | _,_,y=>y
theorem zMY {a b c:Bool} {x y:PX}:(zMy [a,b,c] x y).toPM=bif a||b&&c then x.toPM else y.toPM:=by
 cases a<;>cases b<;>cases c<;>rfl
def zOt (d:Option Nat) (f:FuncId) (as:List Arg) (again:PX):PX :=
 .nats (zOf as) fun R0=>zOk 3 R0 fun R =>
 bif zGW R&&R.all (fun r=>Nat.blt r zAb)&&Nat.ble R.length 1000&&Nat.ble as.length 1000&&(as.flatMap (·.shared)).all (fun x => !R.contains x.1) then
  zSq R fun hid => .sames (as.map fun a=>if a.byref then zGy (zDu R) a.p else a.p) fun args => .call f args (hid.map (zGy (zDu R))) fun v hO =>
   zMy [(as.flatMap (·.shared)).isEmpty,v.free,zFk hO]
    (zG2 R<|zS6 R hid (hO.map (zGy (zCg R))) (zFe d (zGy (zCg R) v)))
    again
 else .fail
def zQR (d:Option Nat) (f:FuncId) (args:List PV):PX :=
 .nats (H f).mode fun ms=>zFA ms args fun bs=>zDs ms bs fun as=>zOt d f as (zE6 ms bs fun as=>zOt d f as .fail)
theorem zFT:∀ {ps:List PV} {ms:List Nat} {k:List (Bool×PV)→PX},(zFA ms ps k).toPM=zD6 ms ps fun as=>(k as).toPM
 | [],_,_=>rfl
 | p :: ps,ms,k=>by
  unfold zFA zD6
  generalize ms.headD 0=m
  split
  ·simp only [PX.toPM]
   congr 1;funext q
   cases q<;>first | rfl | skip
   simp only [PX.toPM,zFT]
  ·simp only [zFT]
theorem zEW:∀ {ps:List (Bool×PV)} {ms:List Nat} {k:List Arg→PX},(zDs ms ps k).toPM=zCB ms ps fun as=>(k as).toPM
 | [],_,_=>rfl
 | (true,p)::ps,ms,k=>by simp only [zDs,zCB,zEW]
 | (false,p)::ps,ms,k=>by simp only [zDs,zCB,zDd,zRV,zEW]
theorem zGz:∀ {ps:List (Bool×PV)} {ms:List Nat} {k:List Arg→PX},(zE6 ms ps k).toPM=zEa ms ps fun as=>(k as).toPM
 | [],_,_=>rfl
 | (true,p)::ps,ms,k=>by simp only [zE6,zEa,zGz]
 | (false,p)::ps,ms,k=>by simp only [zE6,zEa,zDd,zFH,zGz]
theorem zK9:∀ {rs:List Nat} {k:List PV→PX},(zSq rs k).toPM=zNC rs fun ps=>(k ps).toPM
 | [],_=>rfl
 | r::rs,k=>by simp only [zSq,zNC,PX.toPM,zK9]
theorem zOO:∀ {rs:List Nat} {os ps:List PV} {k:PX},(zS6 rs os ps k).toPM=zNe rs os ps k.toPM
 | [],[],[],_=>rfl
 | r::rs,o::os,p::ps,k=>by simp only [zS6,zNe,PX.toPM,zOO]
 | [],[],_::_,_=>rfl
 | [],_::_,_,_=>rfl
 | _::_,[],_,_=>rfl
 | _::_,_::_,[],_=>rfl
theorem zM6:∀ {n:Nat} {R:List Nat} {k:List Nat→PX},(zOk n R k).toPM=zKM n R fun R=>(k R).toPM
 | 0,_,_=>rfl
 | n+1,R,k=>by simp only [zOk,zKM,zK9,zDd,zM6]
theorem zHY:∀ {rs:List Nat} {k:PX},(zG2 rs k).toPM=zKn rs k.toPM
 | [],_=>rfl
 | r::rs,k=>by simp only [zG2,zKn,PX.toPM,zHY]
theorem zQ3 {d:Option Nat} {f:FuncId} {as:List Arg} {again:PX}:(zOt d f as again).toPM=zQC d f as again.toPM:=by
 simp only [zOt,zQC,zM6,zDd,zK9,PX.toPM,zMY,zHY,zOO,zEJ]
theorem zRU {d:Option Nat} {f:FuncId} {args:List PV}:(zQR H d f args).toPM=zNW H d f args:=by
 simp only [zQR,zNW,zFT,zEW,zQ3,zGz,PX.toPM]
def zQX (d:Option Nat) (args:List Operand) (g:PV):PX :=
 match g with
 | .func g first caps=>zPk args fun as => .pure d g (first++as++caps) (zQR H d g (first++as++caps))
 | _ => .fail
theorem zRe {d:Option Nat} {args:List Operand} {g:PV}:(zQX H d args g).toPM=zUa H d args g:=by
 cases g<;>first | rfl | skip
 simp only [zQX,zUa,zIA,PX.toPM,zRU]
def zNq (d:Option Nat) (sz:Nat) (base:PV) (ys:List PV):PX :=
 .test (ys.all (fun y=>Nat.beq y.cells.length sz&&y.cells.all fun q=>q.oneCell)) (.test (zBA ys).isEmpty (
 match base with
 | .bor r pre z lo n => .deep r pre fun q=>match q with
  | .own s xs =>
   .test (Nat.beq s sz) (.test (Nat.ble (lo+n) xs.length) (.test (Nat.ble (xs.length+ys.length) zAS) (
    .choose (Nat.beq (lo+n) xs.length) (.test (Nat.beq lo 0) (.wnode r pre .bad (zGf d (.own sz (xs++ys))))) (.emb (zLc d r pre z lo n s xs ys)))))
  | _ => .fail
 | .nils _ => .test (Nat.ble ys.length zAS) (zGf d (.own sz ys))
 | _ => .fail))
theorem zPO {d:Option Nat} {sz:Nat} {base:PV} {ys:List PV}:(zNq d sz base ys).toPM=zK5 d sz base ys:=by
 cases base<;>simp only [zNq,zK5,PX.toPM,zDj,zBy]
 congr 1;congr 1;congr 1;funext q
 cases q<;>first | rfl | skip
 simp only [PX.toPM,zBy]
def zV2 (x:Operand) (k:List PV→PX):PX :=
 match x with
 | .tmp t => .get t fun p=>match p with
  | .own _ xs => .set t .bad (k xs)
  | _ => .view t fun p=>zLo p fun xs => .test (xs.all (fun x=>x.plain)) (k xs)
 | x=>zGK x fun p=>zLo p fun xs => .test (xs.all (fun x=>x.plain)) (k xs)
theorem zTZ {x:Operand} {k:List PV→PX}:(zV2 x k).toPM=zNo x fun l=>(k l).toPM:=by
 cases x<;>simp only [zV2,zNo,PX.toPM,zCc,zKQ,zBz]
 congr 1;funext p
 cases p<;>first | rfl | simp only [PX.toPM,zKQ,zBz]
def zLk (d:Option Nat) (b:Builtin) (ts:List TypeId) (args:List Operand):PX :=
 match b,args,ts with
 | .len,[x],t::_=>zGK x fun p=>match P.underlying t with
  | some (.array n _)=>zGf d (.int .i64 n)
  | some (.slice _) => .num (lenOf p) fun n=>zGf d (.int .i64 n)
  | _ => .fail
 | .append,[x,y],[t,t2]=>bif (zBW P t2).isNone then .fail else match (zBW P t).bind (szT P),(zBW P t).bind (zHX P),(zBW P t).bind (zCK P) with
  | some sz,some by_,some z=>if by_≤16384∧z.cells.length=sz then zGK x fun base=>zV2 y fun ys=>zNq d sz base ys else .fail
  | _,_,_ => .fail
 | .max,xs,_=>zPk xs fun ps => .pick (zXj ps) fun v=>zGf d v
 | .min,xs,_=>zPk xs fun ps => .pick (zXl ps) fun v=>zGf d v
 | b,args,ts => .emb (zBu P d b ts args)
theorem zN1 {d:Option Nat} {b:Builtin} {ts:List TypeId} {args:List Operand}:(zLk P d b ts args).toPM=zBu P d b ts args:=by
 unfold zLk
 split
 ·simp only [zCc,zBu]
  congr 1;funext p
  generalize P.underlying _=u
  cases u with
  | none=>rfl
  | some u =>
   cases u<;>first | rfl | exact zBy | skip
   simp only [PX.toPM,zBy]
   cases lenOf p<;>simp only [PX.toPM,zBy]
 ·simp only [zBu,zDd]
  congr 1
  generalize (zBW P _).bind (szT P)=a1
  generalize (zBW P _).bind (zHX P)=a2
  generalize (zBW P _).bind (zCK P)=a3
  cases a1<;>cases a2<;>cases a3<;>first | rfl | simp only [zOz,zCc,zTZ,zPO,PX.toPM]
 ·simp only [zBu,zIA,PX.toPM,zBy]
  congr 1;funext ps
  cases zXj ps<;>simp only [PX.toPM,zBy]
 ·simp only [zBu,zIA,PX.toPM,zBy]
  congr 1;funext ps
  cases zXl ps<;>simp only [PX.toPM,zBy]
 ·rfl
end
end Go.Eng
namespace Go.Eng
open Go
section
variable (P:Program) (H:zBh)
def zWi {α:Type} (x:Option α) (k:α→PX):PX :=
 match x with
 | some a=>k a
 | none => .fail
theorem zJa {α:Type} {x:Option α} {k:α→PX}:(zWi x k).toPM=zIC x fun a=>(k a).toPM:=by cases x<;>rfl
theorem zJh {x:Option PV} {k:PV→PX}:(PX.pick x k).toPM=zIC x fun a=>(k a).toPM:=by cases x<;>rfl
def zOp (p:PV) (k:PV→PX) (k2:PX):PX :=
 match p with
 | .bor r pre _ lo n => .deep r pre fun q=>match q with
  | .own sz xs => .choose (Nat.beq lo 0&&Nat.beq n xs.length) (.wnode r pre .bad (k (.own sz xs))) k2
  | _=>k2
 | .bmap r pre => .deep r pre fun q=>match q with
  | .omap es => .wnode r pre .bad (k (.omap es))
  | _=>k2
 | p=>k p
theorem zM3 {p:PV} {k:PV→PX} {k2:PX}:(zOp p k k2).toPM=zNO p (fun q=>(k q).toPM) k2.toPM:=by
 cases p<;>simp only [zOp,zNO,PX.toPM]
 all_goals
  congr 1;funext q
  cases q<;>rfl
def zUf (p:PV) (k:PV→PX):PX:=zOp p k (zPn zAb zDw p k)
theorem zO9 {p:PV} {k:PV→PX}:(zUf p k).toPM=zMU p fun q=>(k q).toPM:=by simp only [zUf,zMU,zM3,zFH]
def zOZ:List PV→(List PV→PX)→PX
 | [],k=>k []
 | p::ps,k=>zOp p (fun q=>zOZ ps fun qs=>k (q::qs)) .fail
theorem zM1:∀ {ps:List PV} {k:List PV→PX},(zOZ ps k).toPM=zJP ps fun qs=>(k qs).toPM
 | [],_=>rfl
 | p::ps,k=>by simp only [zOZ,zJP,zM3,zM1,PX.toPM]
def zRs:PV→Bool
 | .bor .. | .bmap .. | .bsl .. => true
 | _=>false
def zJi (tk:Bool) (p:PV) (k:PV→PX):PX :=
 match p with
 | .agg cs=>bif tk then zOZ cs fun cs=>k (.agg cs) else .choose (cs.any zRs) (zPn zAb zDw p k) (k p)
 | .bsl .. => zPn zAb zDw p k
 | .bor .. | .bmap .. => bif tk then zUf p k else zPn zAb zDw p k
 | p=>k p
theorem zHJ {tk:Bool} {p:PV} {k:PV→PX}:(zJi tk p k).toPM=zFy tk p fun q=>(k q).toPM:=by
 cases p<;>simp only [zJi,zFy,zDd,zM1,zO9,zFH,PX.toPM]
 rfl
def zIw (tk:Bool):List PV→(List PV→PX)→PX
 | [],k=>k []
 | p::ps,k=>zJi tk p fun q=>zIw tk ps fun qs=>k (q::qs)
theorem zJu {tk:Bool}:∀ {ps:List PV} {k:List PV→PX},(zIw tk ps k).toPM=zFX tk ps fun qs=>(k qs).toPM
 | [],_=>rfl
 | p::ps,k=>by simp only [zIw,zFX,zHJ,zJu]
def zOS (r:Nat) (pre:zAU) (i c:Nat) (v:PV):PX :=
 .test (!v.heavy||v.ways.all (fun w => !(zAL r pre w.1 w.2&&Nat.blt pre.length w.2.length))) (.test (v.cells.all (fun q=>q.oneCell)) (.test (!v.cells.isEmpty) (zQ5 r pre i c v.cells (.wcells r pre i c v.cells .ok))))
theorem zMr {r:Nat} {pre:zAU} {i c:Nat} {v:PV}:(zOS r pre i c v).toPM=zH4 r pre i c v:=by
 simp only [zOS,zH4,PX.toPM,zSm,zDj]
def zJ0 (tk:Bool) (r:Nat) (pre:zAU) (v:PV) (k:PV→PX):PX :=
 bif pre.isEmpty && !tk then .view r fun q=>(match q with | .addr .. => k v | _=>zJi tk v k) else zJi tk v k
theorem zMN {tk:Bool} {r:Nat} {pre:zAU} {v:PV} {k:PV→PX}:(zJ0 tk r pre v k).toPM=zIs tk r pre v fun q=>(k q).toPM:=by
 simp only [zJ0,zIs,zDd,PX.toPM,zHJ]
 congr 1;congr 1;funext q
 cases q<;>first | rfl | exact zHJ
def zI9 (tk:Bool) (r:Nat) (pre:zAU) (i c:Nat) (v:PV):PX :=
 match zQW r pre i c v with
 | some m => .deep r (pre++[(i,c)]) fun q=>match q with
  | .own s xs => .test (Nat.ble m xs.length) (.wnode r (pre++[(i,c)]) .bad (.same (.own s ((xs.drop 0).take m)) fun v=>zOS r pre i c v))
  | _ => .fail
 | none=>zJ0 tk r pre v fun v => .same v fun v=>zOS r pre i c v
theorem zKP {tk:Bool} {r:Nat} {pre:zAU} {i c:Nat} {v:PV}:(zI9 tk r pre i c v).toPM=zHT tk r pre i c v:=by
 simp only [zI9,zHT]
 cases zQW r pre i c v with
 | none=>simp only [zMN,PX.toPM,zMr]
 | some m =>
  simp only [PX.toPM]
  congr 1;funext q
  cases q<;>first | rfl | simp only [PX.toPM,zMr]
def zQq (fz tk:Bool) (t:TypeId) (a x:Operand):PX :=
 zGK a fun pa=>match pa,x with
 | .addr r pre i c _,.const (.slice none 0 0)=>zWi ((zBW P t).bind (szT P)) fun s=>if szT P t=some 1 then zI9 tk r pre i c (.own s []) else .fail
 | pa,x=>match pa,shT P t,szT P t with
 | .addr r pre i c _,some sh,some n=>(bif fz&&tk then zGK x else zLb x) fun v =>
  .test (Nat.beq v.cells.length n) (.test (v.isAgg==sh.isSome) (zI9 (tk && !fz) r pre i c (bif fz && !tk then zAV v else v)))
 | _,_,_ => .fail
theorem zSa {fz tk:Bool} {t:TypeId} {a x:Operand}:(zQq P fz tk t a x).toPM=zOy P fz tk t a x:=by
 simp only [zQq,zOy,zCc]
 congr 1;funext pa
 have key:∀ (sh:Option (Option Nat)) (n:Option Nat),(match pa,sh,n with
   | .addr r pre i c _,some sh,some n=>(bif fz&&tk then zGK x else zLb x) fun v=>PX.test (Nat.beq v.cells.length n) (.test (v.isAgg==sh.isSome) (zI9 (tk && !fz) r pre i c (bif fz && !tk then zAV v else v)))
   | _,_,_=>PX.fail).toPM=(match pa,sh,n with
   | .addr r pre i c _,some sh,some n=>(bif fz&&tk then opd x else zPa x) fun v=>bif Nat.beq v.cells.length n&&v.isAgg==sh.isSome then zHT (tk && !fz) r pre i c (bif fz && !tk then zAV v else v) else .fail
   | _,_,_=>PM.fail):=by
  intro sh n
  cases pa<;>first | rfl | skip
  cases sh<;>cases n<;>first | rfl | skip
  cases hc:(fz&&tk)<;>simp only [cond_true,cond_false,zCc,zF7,PX.toPM,zKP,zDj]
 split
 ·simp only [zJa,zOz,zKP,PX.toPM]
 ·rename_i h
  rw [key]
  cases pa<;>first | rfl | skip
  cases x<;>first | rfl | skip
  rename_i v
  cases v<;>first | rfl | skip
  rename_i a n m
  cases a<;>cases n<;>cases m<;>first | rfl | exact (h _ _ _ _ _ rfl rfl).elim
def zIl (d:Option Nat) (p:PV):PX :=
 match d,p with
 | some d',.bor r [] z lo n=>if r=d' then .get r fun root=>match root with
   | .own sz xs => .test (Nat.ble (lo+n) xs.length) (.kill r [] (.same (.own sz ((xs.drop lo).take n)) fun o => .set r o .ok))
   | _ => .fail
  else zGf d p
 | _,_=>zGf d p
theorem zNG {d:Option Nat} {p:PV}:(zIl d p).toPM=zFS d p:=by
 unfold zIl zFS
 split
 ·simp only [zOz,zBy,PX.toPM]
  congr 1;congr 1;funext q
  cases q<;>rfl
 ·rename_i h
  split
  ·exact (h _ _ _ _ _ rfl rfl).elim
  ·exact zBy
def zI6 (tk nl:Bool) (d:Option Nat) (t:TypeId) (x:Operand):PX :=
 match x with
 | .const (.slice none 0 0) => .emb (zF6 P tk nl d t x)
 | x=>zLb x fun p=>bif tk then zUf p (zIl d) else zIl d p
theorem zLU {tk nl:Bool} {d:Option Nat} {t:TypeId} {x:Operand}:(zI6 P tk nl d t x).toPM=zF6 P tk nl d t x:=by
 unfold zI6
 split
 ·rfl
 ·rename_i h
  unfold zF6
  split
  ·exact (h rfl).elim
  ·simp only [zF7,zDd,zO9,zNG]
def zRq (d:Option Nat) (t:TypeId) (x:Operand):PX:=zLb x fun p=>match shT P t,szT P t with
 | some sh,some n => .test (decide (p.cells.length=n)) (.test (decide (p.isAgg=sh.isSome)) (.test p.whole (zGf d (.box p))))
 | _,_ => .fail
theorem zQu {d:Option Nat} {t:TypeId} {x:Operand}:(zRq P d t x).toPM=zTW P d t x:=by
 simp only [zRq,zTW,zF7]
 congr 1;funext p
 cases shT P t<;>cases szT P t<;>first | rfl | skip
 simp only [PX.toPM,zBy,zBz,Bool.and_eq_true,decide_eq_true_eq]
 split<;>split<;>(try split)<;>simp_all
def zVE (nz:Option Nat) (x:Operand) (k:PV→PX):PX :=
 match nz,x with
 | some s,.const (.slice none 0 0)=>k (.own s [])
 | _,x=>zLb x k
def zO1 (nz:Option Nat):List Operand→(List PV→PX)→PX
 | [],k=>k []
 | x::xs,k=>zVE nz x fun p=>zO1 nz xs fun ps=>k (p::ps)
theorem zUd {nz:Option Nat} {x:Operand} {k:PV→PX}:(zVE nz x k).toPM=zW6 nz x fun p=>(k p).toPM:=by
 unfold zVE zW6
 split
 ·rfl
 ·rename_i h
  rw [zF7]
  split
  ·exact (h _ rfl rfl).elim
  ·rfl
theorem zMx {nz:Option Nat}:∀ {xs:List Operand} {k:List PV→PX},(zO1 nz xs k).toPM=zQa nz xs fun p=>(k p).toPM
 | [],_=>rfl
 | x::xs,k=>by simp only [zO1,zQa,zUd,zMx]
def zE7 (tk:Bool) (d:Option Nat) (t:TypeId) (n:Nat) (ps:List (Nat×Operand)):PX :=
 match zBW P t with
 | some e=>match szT P e,zCK P e with
  | some s,some z=>if n*s≤65536&&Nat.beq z.cells.length s&&ps.all (fun x=>x.1<n) then zO1 (zXk (zCK P e)) (ps.map (·.2)) fun vs=>zIw tk vs fun vs =>
    .sames vs fun vs => .test (zBA vs).isEmpty (.test (vs.all (fun v=>v.cells.length=s&&v.isAgg=z.isAgg&&v.whole)) (zGf d (.own s (zLR n z ((ps.map (·.1)).zip vs)))))
   else .fail
  | _,_ => .fail
 | none => .fail
theorem zIe {tk:Bool} {d:Option Nat} {t:TypeId} {n:Nat} {ps:List (Nat×Operand)}:(zE7 P tk d t n ps).toPM=zDI P tk d t n ps:=by
 simp only [zE7,zDI]
 cases zBW P t with
 | none=>rfl
 | some e =>
  simp only
  generalize szT P e=a1
  generalize zCK P e=a2
  cases a1<;>cases a2<;>first | rfl | skip
  simp only [zOz,zMx,zJu,PX.toPM,zBy]
  congr 1;congr 1;funext vs;congr 1;funext vs
  cases (zBA vs).isEmpty with
  | false=>rfl
  | true=>simp only [cond_true,Bool.true_and,zBz,if_true]
def zO8 (d:Option Nat) (sh:Option Nat) (p:PV):PX :=
 match p with
 | .ref q => .test (decide (q.isAgg=sh.isSome)) (.test (decide (q.cells.length=sh.getD 1)) (zGf d q))
 | .addr r pre i c _=>zQm r pre i c sh (zGf d)
 | _ => .fail
theorem zMu {d:Option Nat} {sh:Option Nat} {p:PV}:(zO8 d sh p).toPM=zPP d sh p:=by
 cases p<;>simp only [zO8,zPP,PX.toPM,zLG,zBy]
 simp only [zBz,Bool.and_eq_true,decide_eq_true_eq]
 split<;>split<;>simp_all
def zNM (tk:Bool) (d:Option Nat) (t:TypeId) (a:Operand):PX:=zWi (shT P t) fun sh=>zGK a fun p =>
 bif tk then (match p with
  | .addr r pre i c _=>zQm r pre i c sh fun v=>zPn zAb zDw v (zGf d)
  | p=>zO8 d sh p) else zO8 d sh p
theorem zP2 {tk:Bool} {d:Option Nat} {t:TypeId} {a:Operand}:(zNM P tk d t a).toPM=zO6 P tk d t a:=by
 simp only [zNM,zO6,zJa,zCc,zDd,zMu]
 congr 1;funext sh;congr 1;funext p;congr 1
 cases p<;>simp only [zMu,zLG,zFH,zBy]
def zQA (d:Option Nat) (op:BinOp) (t:TypeId) (x y:Operand):PX:=zGK x fun p=>zGK y fun q => .pick (zHt P op t p q) (zGf d)
theorem zQy {d:Option Nat} {op:BinOp} {t:TypeId} {x y:Operand}:(zQA P d op t x y).toPM=zTR P d op t x y:=by
 simp only [zQA,zTR,zCc,zJh,zBy]
def zZJ (d:Option Nat) (op:UnOp) (p:PV):PX :=
 match op,p with
 | .not,.bool b=>zGf d (.bool !b)
 | .neg,.int k n=>zGf d (.int k (k.wrap (0-n)))
 | _,_ => .fail
theorem zWg {d:Option Nat} {op:UnOp} {p:PV}:(zZJ d op p).toPM=unV d op p:=by
 cases op<;>cases p<;>first | rfl | exact zBy
def zSi (d:Option Nat) (t:TypeId) (p:PV):PX :=
 match P.underlying t,p with
 | some (.int k),.int _ n=>zGf d (.int k (k.wrap n))
 | _,_ => .fail
theorem zRA {d:Option Nat} {t:TypeId} {p:PV}:(zSi P d t p).toPM=zQF P d t p:=by
 simp only [zSi,zQF]
 cases P.underlying t with
 | none=>rfl
 | some u=>cases u<;>cases p<;>first | rfl | exact zBy
def zFU (d:Option Nat) (t:TypeId) (l c:Operand):PX :=
 zGK l fun l=>zFD l fun l=>zGK c fun c=>zFD c fun c=>match zBW P t with
 | some e=>match zCK P e,szT P e,zHX P e with
  | some z,some s,some b => .test (decide (l≤c)) (.test (decide (c≤zAS)) (.test (decide (b≤16384∧z.cells.length=s)) (zGf d (.own s (List.replicate l z)))))
  | _,_,_ => .fail
 | none => .fail
theorem zJr {d:Option Nat} {t:TypeId} {l c:Operand}:(zFU P d t l c).toPM=zEZ P d t l c:=by
 simp only [zFU,zEZ,zCc,zEK]
 congr 1;funext p;congr 1;funext l;congr 1;funext q;congr 1;funext c
 cases zBW P t with
 | none=>rfl
 | some e =>
  simp only
  generalize zCK P e=a1
  generalize szT P e=a2
  generalize zHX P e=a3
  cases a1<;>cases a2<;>cases a3<;>first | rfl | skip
  simp only [PX.toPM,zBy,zBz,decide_eq_true_eq]
  by_cases h1:l≤c<;>by_cases h2:c≤zAS<;>simp [h1,h2]
def zNd (d:Option Nat) (n:Nat) (e:TypeId) (p:PV) (i:Nat):PX :=
 match szT P e,shT P e with
 | some s,some sh => .test (decide (i<n)) (.pick (zCo p (i*s) sh) (zGf d))
 | _,_ => .fail
def zRF (d:Option Nat) (e:TypeId) (p:PV) (i:Nat):PX :=
 match p with
 | .sl xs => .pick (xs[i]?) fun x => .test (decide (szT P e=some x.cells.length)) (zGf d (.ref x))
 | .bor r pre z lo n=>match shT P e with
  | some sh => .test (decide (i<n)) (.test (decide (szT P e=some z)) (.num (some (lo+i)) fun j=>zGf d (.addr r pre j 0 sh)))
  | none => .fail
 | .bsl r pre j c s ag n => .test (decide (i<n)) (.test (decide (szT P e=some s)) (.num (some (c+i*s)) fun c=>zGf d (.addr r pre j c (if ag then some s else none))))
 | _ => .fail
theorem zPY {d:Option Nat} {n:Nat} {e:TypeId} {p:PV} {i:Nat}:(zNd P d n e p i).toPM=zOB P d n e p i:=by
 simp only [zNd,zOB]
 generalize szT P e=a1
 generalize shT P e=a2
 cases a1<;>cases a2<;>first | rfl | skip
 simp only [PX.toPM,zJh,zBy,zBz,decide_eq_true_eq]
theorem zRo {d:Option Nat} {e:TypeId} {p:PV} {i:Nat}:(zRF P d e p i).toPM=zQv P d e p i:=by
 cases p<;>simp only [zRF,zQv,PX.toPM,zJh,zBy]
 ·congr 1;funext x;simp only [zBz,decide_eq_true_eq]
 ·cases shT P e with
  | none=>rfl
  | some sh =>
   simp only [PX.toPM,zBy,zBz,decide_eq_true_eq]
   split<;>split<;>simp_all
 ·simp only [zBz,decide_eq_true_eq]
  split<;>split<;>simp_all
def zFR (d:Option Nat) (t:TypeId) (x i:Operand):PX :=
 zGK x fun p=>zGK i fun i=>zFD i fun i=>match P.underlying t with
 | some (.array n e)=>zNd P d n e p i
 | some (.slice e)=>zRF P d e p i
 | _ => .fail
theorem zJX {d:Option Nat} {t:TypeId} {x i:Operand}:(zFR P d t x i).toPM=zE1 P d t x i:=by
 simp only [zFR,zE1,zCc,zEK]
 congr 1;funext p;congr 1;funext q;congr 1;funext i
 cases P.underlying t with
 | none=>rfl
 | some u=>cases u<;>first | rfl | exact zPY P | exact zRo P
def zLv (d:Option Nat) (t:TypeId) (x i:Operand):PX :=
 zGK x fun p=>zGK i fun i=>zFD i fun i=>match P.underlying t with
 | some (.array n e)=>match szT P e,shT P e with
  | some s,some sh => .test (decide (i<n)) (.pick (sub p (i*s) sh) (zGf d))
  | _,_ => .fail
 | _ => .fail
theorem zNF {d:Option Nat} {t:TypeId} {x i:Operand}:(zLv P d t x i).toPM=zK4 P d t x i:=by
 simp only [zLv,zK4,zCc,zEK]
 congr 1;funext p;congr 1;funext q;congr 1;funext i
 cases P.underlying t with
 | none=>rfl
 | some u =>
  cases u<;>first | rfl | skip
  rename_i n e
  simp only
  generalize szT P e=a1
  generalize shT P e=a2
  cases a1<;>cases a2<;>first | rfl | skip
  simp only [PX.toPM,zJh,zBy,zBz,decide_eq_true_eq]
def zWn (x:Option Operand) (n:Nat) (k:Nat→PX):PX :=
 match x with
 | some x=>zGK x fun p=>zFD p k
 | none=>k n
theorem zSr {x:Option Operand} {n:Nat} {k:Nat→PX}:(zWn x n k).toPM=zSD x n fun m=>(k m).toPM:=by
 cases x with
 | none=>rfl
 | some x=>simp only [zWn,zSD,zCc,zEK]
def zNX (d:Option Nat) (s:Nat) (p:PV) (l h:Nat):PX :=
 match p with
 | .sl xs => .test (Nat.ble l h) (.test (Nat.ble h xs.length) (.test (xs.all (fun x=>Nat.beq x.cells.length s)) (zGf d (.sl ((xs.drop l).take (h-l))))))
 | .bor r pre z a n =>
  .test (Nat.beq z s) (.test (Nat.ble l h) (
   .choose (Nat.ble h n) (.choose (Nat.beq l 0||Nat.blt l h) (zGf d (.bor r pre z (a+l) (h-l))) (zGf d (.sl [])))
   (.deep r pre fun q=>match q with
    | .own _ xs => .test (Nat.ble (a+h) xs.length) (.choose (Nat.beq l 0||Nat.blt l h) (zGf d (.bor r pre z (a+l) (h-l))) (zGf d (.sl [])))
    | _ => .fail)))
 | _ => .fail
theorem zS3 {d:Option Nat} {b:Bool} {p q:PV}:put d (bif b then p else q)=bif b then put d p else put d q:=by cases b<;>rfl
theorem zPx {d:Option Nat} {s:Nat} {p:PV} {l h:Nat}:(zNX d s p l h).toPM=zOP d s p l h:=by
 cases p<;>simp only [zNX,zOP,PX.toPM,zBy,zDj,zS3]
 congr 1;congr 1;congr 1;congr 1;funext q
 cases q<;>first | rfl | simp only [PX.toPM,zBy]
def zNN (d:Option Nat) (n s:Nat) (sh:Option Nat) (p:PV) (l h:Nat):PX :=
 .test (Nat.ble l h) (.test (Nat.ble h n) (.test (Nat.beq l 0||Nat.blt l n) (
  match p with
  | .addr r pre i c _ => .num (some (h-l)) fun m=>zGf d (.bsl r pre i (c+l*s) s sh.isSome m)
  | .ref (.agg cs) => .test (Nat.ble (n*s) cs.length) (.test (zCm sh.isSome s (h-l) ((cs.drop (l*s)).take ((h-l)*s))) (.test (zBA cs).isEmpty (zGf d (.sl (zCp sh.isSome s (h-l) ((cs.drop (l*s)).take ((h-l)*s)))))))
  | _ => .fail)))
theorem zPW {d:Option Nat} {n s:Nat} {sh:Option Nat} {p:PV} {l h:Nat}:(zNN d n s sh p l h).toPM=zR3 d n s sh p l h:=by
 cases p<;>simp only [zNN,zR3,PX.toPM,zBy,zDj]
 rename_i q
 cases q<;>simp only [PX.toPM,zBy,zDj]
def zRE (d:Option Nat) (t:TypeId) (x:Operand) (lo hi mx:Option Operand):PX :=
 match mx with
 | some m => .emb (zJt P d t x lo hi (some m))
 | none=>zGK x fun p=>match P.underlying t with
  | some (.array n e)=>match szT P e,shT P e with
   | some s,some sh=>zWn hi n fun h=>zWn lo 0 fun l=>zNN d n s sh p l h
   | _,_ => .fail
  | some (.slice e)=>match szT P e,lenOf p with
   | some s,some n=>zWn hi n fun h=>zWn lo 0 fun l=>zNX d s p l h
   | _,_ => .fail
  | _ => .fail
theorem zRI {d:Option Nat} {t:TypeId} {x:Operand} {lo hi mx:Option Operand}:(zRE P d t x lo hi mx).toPM=zJt P d t x lo hi mx:=by
 cases mx with
 | some _=>rfl
 | none =>
  simp only [zRE,zJt,zCc]
  congr 1;funext p
  cases P.underlying t with
  | none=>rfl
  | some u =>
   cases u<;>first | rfl | skip
   ·rename_i e
    simp only
    generalize szT P e=a1
    generalize lenOf p=a2
    cases a1<;>cases a2<;>first | rfl | simp only [zSr,zPx]
   ·rename_i n e
    simp only
    generalize szT P e=a1
    generalize shT P e=a2
    cases a1<;>cases a2<;>first | rfl | simp only [zSr,zPW]
def zI2 (es:List (PV×PV)) (i:Nat):Option PV:=(es[i]?).map (·.2)
def zIR (d:Option Nat) (kt:TypeId) (z key:PV) (ok:Bool) (es:List (PV×PV)):PX :=
 .idx (zDb P kt key es 0) fun x=>match x with
 | some i => .pick (zI2 es i) fun v => .test v.lone (zFe d (if ok then .tup [v,.bool true] else v))
 | none=>zFe d (if ok then .tup [z,.bool false] else z)
theorem zKB {d:Option Nat} {kt:TypeId} {z key:PV} {ok:Bool} {es:List (PV×PV)}:(zIR P d kt z key ok es).toPM=zI7 P d kt z key ok es:=by
 simp only [zIR,zI7,PX.toPM]
 cases zDb P kt key es 0 with
 | none=>rfl
 | some x =>
  cases x with
  | none=>exact zEJ
  | some i =>
   show (PX.pick (zI2 es i) fun v => .test v.lone (zFe d (if ok then .tup [v,.bool true] else v))).toPM=_
   rw [zJh]
   simp only [zI2,PX.toPM,zEJ]
   cases es[i]?<;>rfl
def zQ6 (d:Option Nat) (kt:TypeId) (z key:PV) (ok:Bool) (m:PV):PX :=
 match m with
 | .nilm=>zIR P d kt z key ok []
 | .map es=>zIR P d kt z key ok es
 | .bmap r pre => .deep r pre fun q=>match q with
  | .omap es=>zIR P d kt z key ok es
  | _ => .fail
 | _ => .fail
theorem zRR {d:Option Nat} {kt:TypeId} {z key:PV} {ok:Bool} {m:PV}:(zQ6 P d kt z key ok m).toPM=zS2 P d kt z key ok m:=by
 cases m<;>first | rfl | exact zKB P | skip
 simp only [zQ6,zS2,PX.toPM]
 congr 1;funext q
 cases q<;>first | rfl | exact zKB P
def zIP (d:Option Nat) (t:TypeId) (m x:Operand) (ok:Bool):PX :=
 zGK m fun m=>zGK x fun key=>match P.underlying t with
 | some (.map kt e) => .test (zOL P 20 kt key) (zWi (zCK P e) fun z => .test (zJG z).lone (zQ6 P d kt (zJG z) key ok m))
 | _ => .fail
theorem zLY {d:Option Nat} {t:TypeId} {m x:Operand} {ok:Bool}:(zIP P d t m x ok).toPM=zIz P d t m x ok:=by
 simp only [zIP,zIz,zCc]
 congr 1;funext p;congr 1;funext q
 cases P.underlying t with
 | none=>rfl
 | some u=>cases u<;>first | rfl | simp only [PX.toPM,zJa,zRR]
def zUz (es:List (PV×PV)) (k:List (PV×PV)→PX):PX := .same (.omap es) fun q=>match q with
 | .omap es=>k es
 | _ => .fail
def zNK (kt:TypeId) (key v m:PV):PX :=
 match m with
 | .bmap r pre => .test v.lone (.deep r pre fun q=>match q with
  | .omap es => .idx (zDb P kt key es 0) fun x=>match x with
   | some i=>zUz (es.modify i fun _=>(key,v)) fun es => .wnode r pre (.omap es) .ok
   | none=>zUz (es++[(key,v)]) fun es => .wnode r pre (.omap es) .ok
  | _ => .fail)
 | _ => .fail
theorem zP0 {kt:TypeId} {key v m:PV}:(zNK P kt key v m).toPM=zMA P kt key v m:=by
 cases m<;>first | rfl | skip
 simp only [zNK,zMA,PX.toPM]
 congr 1;congr 1;funext q
 cases q<;>first | rfl | skip
 rename_i es
 simp only [PX.toPM]
 cases zDb P kt key es 0 with
 | none=>rfl
 | some x=>cases x<;>rfl
def zFw (t:TypeId) (m x y:Operand):PX:=zGK m fun m=>zGK x fun key=>match P.underlying t with
 | some (.map kt _) => .test (zOL P 20 kt key&&key.flat) (zLb y fun v=>zPn zAb zDw v fun v=>zNK P kt key (zAV v) m)
 | _ => .fail
theorem zIE {t:TypeId} {m x y:Operand}:(zFw P t m x y).toPM=zE5 P t m x y:=by
 simp only [zFw,zE5,zCc]
 congr 1;funext p;congr 1;funext q
 cases P.underlying t with
 | none=>rfl
 | some u=>cases u<;>first | rfl | simp only [PX.toPM,zF7,zFH,zP0]
def zUp (es:List (PV×PV)) (i:Nat):Option PV:=(es[i]?).map (·.1)
def zNj (d:Option Nat) (kt:TypeId) (z key m:PV):PX :=
 match m with
 | .bmap r pre => .deep r pre fun q=>match q with
  | .omap es => .idx (zDb P kt key es 0) fun x=>match x with
   | some i => .pick (zI2 es i) fun v => .test v.lone (.wnode r pre (.omap (es.modify i fun _=>(key,v))) (zFe d (.tup [v,.int .i64 i])))
   | none => .wnode r pre (.omap (es++[(key,z)])) (zFe d (.tup [z,.int .i64 es.length]))
  | _ => .fail
 | _ => .fail
theorem zP4 {d:Option Nat} {kt:TypeId} {z key m:PV}:(zNj P d kt z key m).toPM=zN8 P d kt z key m:=by
 cases m<;>first | rfl | skip
 simp only [zNj,zN8,PX.toPM]
 congr 1;funext q
 cases q<;>first | rfl | skip
 rename_i es
 simp only [PX.toPM]
 cases zDb P kt key es 0 with
 | none=>rfl
 | some x =>
  cases x with
  | none=>simp only [PX.toPM,zEJ]
  | some i =>
   simp only [PX.toPM,zI2]
   cases es[i]? with
   | none=>rfl
   | some kv=>obtain ⟨k,v⟩:=kv;simp only [Option.map_some,PX.toPM,zEJ]
def zGD (d:Option Nat) (t:TypeId) (m x:Operand):PX:=zGK m fun m=>zGK x fun key=>match P.underlying t with
 | some (.map kt el) => .test (zOL P 20 kt key&&key.flat) (zWi (zCK P el) fun z => .test (zJG z).lone (zNj P d kt (zJG z) key m))
 | _ => .fail
theorem zJ4 {d:Option Nat} {t:TypeId} {m x:Operand}:(zGD P d t m x).toPM=zF3 P d t m x:=by
 simp only [zGD,zF3,zCc]
 congr 1;funext p;congr 1;funext q
 cases P.underlying t with
 | none=>rfl
 | some u=>cases u<;>first | rfl | simp only [PX.toPM,zJa,zP4]
def zIQ (i:Nat) (v m:PV):PX :=
 match m with
 | .bmap r pre => .test v.lone (.deep r pre fun q=>match q with
  | .omap es => .pick (zUp es i) fun k => .wnode r pre (.omap (es.modify i fun _=>(k,v))) .ok
  | _ => .fail)
 | _ => .fail
theorem zMs {i:Nat} {v m:PV}:(zIQ i v m).toPM=zID i v m:=by
 cases m<;>first | rfl | skip
 simp only [zIQ,zID,PX.toPM]
 congr 1;congr 1;funext q
 cases q<;>first | rfl | skip
 rename_i es
 simp only [PX.toPM,zUp]
 cases es[i]? with
 | none=>rfl
 | some kv=>obtain ⟨k,x⟩:=kv;rfl
def zET (m s y:Operand):PX:=zGK m fun m=>zGK s fun s=>zFD s fun i=>zLb y fun v=>zPn zAb zDw v fun v=>zIQ i (zAV v) m
theorem zIb {m s y:Operand}:(zET m s y).toPM=zEo m s y:=by
 simp only [zET,zEo,zCc,zEK,zF7,zFH,zMs]
def zNk (d:Option Nat) (c:Call):PX :=
 match c.callee with
 | .builtin b=>zLk P d b c.argTypes.toList c.args.toList
 | .value f=>zGK f (zQX H d c.args.toList)
 | _ => .fail
theorem zPH {d:Option Nat} {c:Call}:(zNk P H d c).toPM=zIY P H d c:=by
 simp only [zNk,zIY]
 cases c.callee<;>simp only [PX.toPM,zN1,zCc,zRe]
def opX (fz tk nl:Bool) (o:Oper):PX :=
 match o.op with
 | .assign x=>zI6 P tk nl o.dst o.type x
 | .box t x=>zRq P o.dst t x
 | .buildSlice t n ps=>zE7 P tk o.dst t n ps.toList
 | .load t a=>zNM P tk o.dst t a
 | .store t a x=>zQq P fz tk t a x
 | .binOp op t x y _=>zQA P o.dst op t x y
 | .unOp op _ x=>zGK x (zZJ o.dst op)
 | .convert _ t x=>zGK x (zSi P o.dst t)
 | .makeSlice t l c=>zFU P o.dst t l c
 | .slice t x lo hi mx=>zRE P o.dst t x lo hi mx
 | .indexAddr t x i=>zFR P o.dst t x i
 | .index t x i=>zLv P o.dst t x i
 | .lookup t m x ok=>zIP P o.dst t m x ok
 | .mapUpdate t m x y=>zFw P t m x y
 | .mapEntry t m x=>zGD P o.dst t m x
 | .entryStore _ m s x=>zET m s x
 | .call c=>zNk P H o.dst c
 | _ => .emb (opM P H fz tk nl o)
theorem zXc {fz tk nl:Bool} {o:Oper}:(opX P H fz tk nl o).toPM=opM P H fz tk nl o:=by
 obtain ⟨dst,op,type,pos,after,guard⟩:=o
 cases op<;>simp only [opX,opM,PX.toPM,zLU,zQu,zIe,zP2,zSa,zQy,zCc,zWg,zRA,zJr,zRI,zJX,zNF,zLY,zIE,zJ4,zIb,zPH]
end
end Go.Eng
namespace Go.Eng
open Go
section
variable [Yo] {P:Program} {H:zBh} {f:FuncId} {nt:Nat} {e e':Env} {lg:Option Log} {K:X→Env→Option Log→Prop} {i:Nat} {c:Code} {s:RS} {R:Env→Option Log→Prop}
abbrev zYH (P:Program) (H:zBh) (f:FuncId) (c:Code) (i:Nat):PX:=opX P H (((H f).frzs (rid c)).contains i) (((H f).take (rid c)).contains i) (H f).nils (zDY c i)
def zWq [Yo] (P:Program) (H:zBh) (f:FuncId) (c:Code) (i:Nat) (as:Ans) (s:RS):Option (RS×List Prop) :=
 match (zYH P H f c i).run P H as s.e with
 | some (e',t,obs)=>(zR0 c i s e' t).map fun s'=>(s',obs)
 | none=>none
def rsX (o:Option (RS×List Prop)):RS:=zWm (o.map (·.1))
theorem S_x (as:Ans) (obs:List Prop) (ho:zSE obs) (h:WS P H f c (i+1) (rsX (zWq P H f c i as s)) R) (hq:(zWq P H f c i as s).map (·.2)=some obs:=by kernel_rfl) (hi:Nat.blt i (zFj c).size=true:=by kernel_rfl):WS P H f c i s R:=by
 obtain ⟨⟨s',obs'⟩,hs,hq⟩:=Option.map_eq_some_iff.1 hq
 simp only at hq;subst hq
 simp only [zWq] at hs
 split at hs
 ·rename_i e1 t obs hr
  obtain ⟨s1,h1,h2⟩:=Option.map_eq_some_iff.1 hs
  simp only [Prod.mk.injEq] at h2
  obtain ⟨rfl,rfl⟩:=h2
  obtain ⟨n0,hn⟩:=PX.run_ok hr ho
  refine zZi (m:=some (e1,t)) ⟨n0,fun n v8=>?_⟩ ?_ ?_ hi
  ·have:=hn n v8
   rw [zXc] at this
   exact this
  ·simpa [rsX,zWq,hr,h1] using h
  ·simp [h1]
 ·cases hs
def zVc (p:PV) (k:PV→PX) (k2:PX):PX :=
 match p with
 | .bor r pre _ lo n => .deep r pre fun q=>match q with
  | .own sz xs => .choose (Nat.ble (lo+n) xs.length) (.wnode r pre .bad (.same (.own sz ((xs.drop lo).take n)) k)) k2
  | _=>k2
 | .addr r pre 0 0 _ => .deep r pre fun q=>match q with
  | .box q => .wnode r pre .bad (k (.box q))
  | _=>k2
 | .bmap r pre => .deep r pre fun q=>match q with
  | .omap es => .wnode r pre .bad (k (.omap es))
  | _=>k2
 | _=>k2
omit [Yo] in
theorem zSP {p:PV} {k:PV→PX} {k2:PX}:(zVc p k k2).toPM=zRb p (fun q=>(k q).toPM) k2.toPM:=by
 unfold zVc zRb
 split
 ·simp only [PX.toPM]
  congr 1;funext q
  cases q<;>rfl
 ·simp only [PX.toPM]
  congr 1;funext q
  cases q<;>rfl
 ·simp only [PX.toPM]
  congr 1;funext q
  cases q<;>rfl
 ·rename_i h1 h2 h3
  split
  ·exact (h1 _ _ _ _ _ rfl).elim
  ·exact (h2 _ _ _ rfl).elim
  ·exact (h3 _ _ rfl).elim
  ·rfl
def zLH (frz:Bool) (p:PV) (k:PV→PX):PX :=
 bif frz||p.ways.any (fun w=>Nat.ble zAl w.1) then zPn zAl zDw p k else zVc p k (zPn zAl zDw p k)
def zEs (frz:Bool):List PV→(List PV→PX)→PX
 | [],k=>k []
 | p::ps,k=>zLH frz p fun q=>zEs frz ps fun qs=>k (q::qs)
def zIo (frz:Bool) (p:PV) (k:PV→PX):PX :=
 match p with
 | .agg cs => .choose (cs.all fun q=>q.num) (k (.agg cs)) (zEs frz cs fun qs=>k (.agg qs))
 | p=>zLH frz p k
omit [Yo] in
theorem zKK {frz:Bool} {p:PV} {k:PV→PX}:(zLH frz p k).toPM=zFo frz p fun q=>(k q).toPM:=by
 simp only [zLH,zFo,zDd,zFH,zSP]
omit [Yo] in
theorem zFm {frz:Bool}:∀ {ps:List PV} {k:List PV→PX},(zEs frz ps k).toPM=zCx frz ps fun qs=>(k qs).toPM
 | [],_=>rfl
 | p::ps,k=>by simp only [zEs,zCx,zKK,zFm]
omit [Yo] in
theorem zNm {frz:Bool} {p:PV} {k:PV→PM} (h:p.num=true):zFo frz p k=k p:=by
 cases p<;>first | (cases h;done) | skip
 all_goals cases frz<;>rfl
omit [Yo] in
theorem zFF {frz:Bool}:∀ {ps:List PV} {k:List PV→PM},ps.all (fun q=>q.num)=true→zCx frz ps k=k ps
 | [],_,_=>rfl
 | p::ps,k,h=>by
  simp only [List.all_cons,Bool.and_eq_true] at h
  simp only [zCx,zNm h.1,zFF h.2]
omit [Yo] in
theorem zJl {frz:Bool} {p:PV} {k:PV→PX}:(zIo frz p k).toPM=zGB frz p fun q=>(k q).toPM:=by
 cases p<;>first | exact zKK | skip
 rename_i cs
 simp only [zIo,zGB,PX.toPM,zFm]
 cases h:cs.all fun q=>q.num with
 | false=>rfl
 | true=>simp only [cond_true];exact (zFF (k:=fun qs=>(k (.agg qs)).toPM) h).symm
def zHE (P:Program) (frz:Bool):Nat→List ResultVar→PX
 | _,[] => .ok
 | j,.tmp t::rs => .view t fun p=>zIo frz p fun q => .same q fun q=>zWr (zAA+j) q (zHE P frz (j+1) rs)
 | j,.cell a t::rs=>zWi (shT P t) fun sh => .view a fun p=>match p with
  | .addr r pre i c _=>zQm r pre i c sh fun v=>zIo frz v fun q => .same q fun q=>zWr (zAA+j) q (zHE P frz (j+1) rs)
  | _ => .fail
omit [Yo] in
theorem zHv {frz:Bool}:∀ {rs:List ResultVar} {j:Nat},(zHE P frz j rs).toPM=zCN P frz j rs
 | [],_=>rfl
 | .tmp t::rs,j=>by simp only [zHE,zCN,PX.toPM,zJl,zLE,zHv]
 | .cell a t::rs,j=>by
  simp only [zHE,zCN,zJa,PX.toPM]
  congr 1;funext sh;congr 1;funext p
  cases p<;>first | rfl | simp only [zLG,zJl,PX.toPM,zLE,zHv]
def zKX [Yo] (P:Program) (H:zBh) (f:FuncId) (fn:Func) (as:Ans) (e:Env) (nh:Nat):Option ((PV×List PV)×List Prop) :=
 match (zHE P (H f).frz 0 fn.results.toList).run P H as e with
 | some (e',_,obs)=>bif Nat.beq fn.results.size 1&&(e'.get zAA).isTup then none else some ((zVy e' fn.results.size,(List.range nh).map fun j=>e'.get (zAl+j)),obs)
 | none=>none
def zTV [Yo] (P:Program) (H:zBh) (f:FuncId) (fn:Func) (nh:Nat) (v:PV) (hO:List PV) (x:X) (e:Env) (lg:Option Log):Prop :=
 (x = .norm∨x = .ret)∧lg=none∧∃ n0,∀ n,n0≤n→∃ e',(zCN P (H f).frz 0 fn.results.toList).run (zCO P H n) e=some e'∧(bif Nat.beq fn.results.size 1&&(e'.get zAA).isTup then none else some (zVy e' fn.results.size,(List.range nh).map fun j=>e'.get (zAl+j)))=some (v,hO)
theorem E_x {fn:Func} {nh:Nat} {v:PV} {h:List PV} {x:X} (as:Ans) (obs:List Prop) (v':PV) (h':List PV) (ho:zSE obs) (hv:v'=v) (hh:h'=h) (hf:zKX P H f fn as e nh=some ((v',h'),obs):=by kernel_rfl) (hl:lg=none:=by kernel_rfl) (hx:x = .norm∨x = .ret:=by first | exact .inr rfl | exact .inl rfl):zTV P H f fn nh v h x e lg:=by
 subst hv;subst hh
 simp only [zKX] at hf
 split at hf
 ·rename_i e1 t obs' hr
  rcases zBn hf with ⟨_,hf⟩ | ⟨hb,hf⟩
  ·cases hf
  ·simp only [Option.some.injEq,Prod.mk.injEq] at hf
   obtain ⟨⟨h1,h2⟩,rfl⟩:=hf
   obtain ⟨n0,hn⟩:=PX.run_ok hr ho
   refine ⟨hx,hl,n0,fun n v8=>⟨e1,?_,?_⟩⟩
   ·have:=hn n v8
    rw [zHv] at this
    exact zEh this
   ·rw [hb];simp only [cond_false,h1,h2]
 ·cases hf
theorem zAe (fn:Func) {args hid:List PV} {v:PV} {hO:List PV} (h:W P H f fn.ntmps (fn.body.getD .ret) (zBb args hid) none (zTV P H f fn hid.length v hO)) (hf:P.funcs[f]? = some fn:=by kernel_rfl) (hi:(H f).intr=0:=by kernel_rfl) (hb:fn.body.isSome=true:=by kernel_rfl)
  (hc:(Nat.ble args.length fn.ntmps&&Nat.ble hid.length 1000&&args.all (fun p => !p.isTup))=true:=by kernel_rfl):zAo P H f args hid v hO:=by
 obtain ⟨body,hb⟩:∃ body,fn.body=some body:=by cases hx:fn.body<;>first | exact ⟨_,rfl⟩ | (rw [hx] at hb;cases hb)
 simp only [hb,Option.getD_some] at h
 obtain ⟨n0,x,e1,lg1,h1,hx,rfl,n1,hr⟩:=h
 refine ⟨max n0 n1+1,fun n hn=>?_⟩
 obtain ⟨n,rfl⟩:∃ k,n=k+1:=⟨n-1,by omega⟩
 have j9:=h1 n (n+1) (by omega) (by omega)
 obtain ⟨e2,h2,hr⟩:=hr n (by omega)
 show zGv P H (zCO P H n) Yo.yo zB8 (n+1) f args hid=_
 simp only [zGv,hf,hi,hb,zI8,hc,cond_true,j9,ne_eq,not_true,if_false]
 rcases hx with rfl | rfl<;>simp only [h2,hr]
theorem zVa (k:Int) (xss:List (List PV)) (args:List PV) (a:Nat) (h1:k=1→WS P H f c (i+1) ⟨(zFh s.dr i (zDY c i) {all:=true}).getD none,zLW ((put (zDY c i).dst (.bool false)).run zHs (s.e.forget zAb)),some ⟨xss++[args],k-1,a⟩⟩ R)
  (h2:k≠1→WS P H f c (i+1) ⟨(zFh s.dr i (zDY c i) {all:=true}).getD none,zLW ((put (zDY c i).dst (.bool true)).run zHs s.e),some ⟨xss++[args],k-1,a⟩⟩ R) (hk:k≠0)
  (hy:zCf s.e (zDY c i)=some (a,args):=by kernel_rfl) (hl:s.lg=some ⟨xss,k,a⟩:=by kernel_rfl) (hw:zLD (zFj c) s.e (zDY c i)=some true:=by kernel_rfl) (hf:args.all PV.flat=true:=by kernel_rfl)
  (hd:(zFh s.dr i (zDY c i) {all:=true}).isSome=true:=by kernel_rfl) (ka:((put (zDY c i).dst (.bool false)).run zHs (s.e.forget zAb)).isSome=true:=by kernel_rfl) (kY:((put (zDY c i).dst (.bool true)).run zHs s.e).isSome=true:=by kernel_rfl)
  (hi:Nat.blt i (zFj c).size=true:=by kernel_rfl):WS P H f c i s R:=by
 have w5:zFh s.dr i (zDY c i) {all:=true}=some ((zFh s.dr i (zDY c i) {all:=true}).getD none):=by
  cases hx:zFh s.dr i (zDY c i) {all:=true} with
  | none=>rw [hx] at hd;cases hd
  | some d=>rfl
 have vO:(k != 0)=true:=by simpa using hk
 by_cases jR:k=1
 ·refine zKW hi ⟨0,fun n _=>?_⟩ w5 (h1 jR)
  have hr:(put (zDY c i).dst (.bool false)).run (zCO P H n) (s.e.forget zAb)=some (zLW ((put (zDY c i).dst (.bool false)).run zHs (s.e.forget zAb))):=zFN (zHw ka)
  have wX:(k==1)=true:=by simpa using jR
  have hyr:zBT (zCO P H n) (zFj c) (zDY c i) a args ⟨xss,k,a⟩ s.e=some (zLW ((put (zDY c i).dst (.bool false)).run zHs (s.e.forget zAb)),some ⟨xss++[args],k-1,a⟩):=by
   unfold zBT
   rw [hw]
   simp only
   rw [hf,vO,Nat.beq_refl,wX]
   simp only [Bool.and_self,cond_true]
   rw [hr];rfl
  rw [hl]
  unfold zEj
  simp only
  rw [hy]
  simp only
  rw [hyr];rfl
 ·refine zKW hi ⟨0,fun n _=>?_⟩ w5 (h2 jR)
  have hr:(put (zDY c i).dst (.bool true)).run (zCO P H n) s.e=some (zLW ((put (zDY c i).dst (.bool true)).run zHs s.e)):=zFN (zHw kY)
  have wX:(k==1)=false:=by simpa using jR
  have hyr:zBT (zCO P H n) (zFj c) (zDY c i) a args ⟨xss,k,a⟩ s.e=some (zLW ((put (zDY c i).dst (.bool true)).run zHs s.e),some ⟨xss++[args],k-1,a⟩):=by
   unfold zBT
   rw [hw]
   simp only
   rw [hf,vO,Nat.beq_refl,wX]
   simp only [Bool.and_self,cond_true,cond_false]
   rw [hr];rfl
  rw [hl]
  unfold zEj
  simp only
  rw [hy]
  simp only
  rw [hyr];rfl
theorem zVH {σ:Type} {c:Code} (Inv:σ→Prop) (upd:σ→List (Nat×PV)) (L:σ→Option Log) (μ:σ→Nat) (s:σ) (hi:Inv s) (h:∀ s,Inv s→W P H f nt (cl c) (zLM (upd s) (e.drop ((H f).loopDrop (zAT (cl c))))) (L s) fun x e' lg'=>match x with
   | .norm=>∃ s',Inv s'∧μ s'<μ s∧e'.drop ((H f).loopDrop (zAT (cl c)))=zLM (upd s') (e.drop ((H f).loopDrop (zAT (cl c))))∧lg'=L s'
   | x=>K x e' lg') (hs:e.drop ((H f).loopDrop (zAT (cl c)))=zLM (upd s) (e.drop ((H f).loopDrop (zAT (cl c)))):=by kernel_rfl) (hl:lg=L s:=by kernel_rfl) (hc:zOg c=true:=by kernel_rfl):W P H f nt c e lg K:=by
 rw [zL3 hc]
 generalize hE:e.drop ((H f).loopDrop (zAT (cl c)))=e0 at h hs
 have key:∀ (n:Nat) (s:σ) (e:Env) (lg:Option Log),μ s≤n→Inv s→e.drop ((H f).loopDrop (zAT (cl c)))=zLM (upd s) e0→lg=L s→W P H f nt (.loop (cl c)) e lg K:=by
  intro n
  induction n with
  | zero =>
   intro s e lg hs hi he vR
   subst vR
   obtain ⟨n0,x,e1,lg1,h1,h2⟩:=h s hi
   cases x with
   | norm=>obtain ⟨s',_,h3,_⟩:=h2;omega
   | ex id =>
    refine ⟨n0+1,_,e1,lg1,fun n m hn hm=>?_,h2⟩
    obtain ⟨m,rfl⟩:∃ k,m=k+1:=⟨m-1,by omega⟩
    simp only [exec,he,h1 n m (by omega) (by omega)]
   | ret =>
    refine ⟨n0+1,_,e1,lg1,fun n m hn hm=>?_,h2⟩
    obtain ⟨m,rfl⟩:∃ k,m=k+1:=⟨m-1,by omega⟩
    simp only [exec,he,h1 n m (by omega) (by omega)]
  | succ n ih =>
   intro s e lg hs hi he vR
   subst vR
   obtain ⟨n0,x,e1,lg1,h1,h2⟩:=h s hi
   cases x with
   | norm =>
    obtain ⟨s',h3,h4,h7,h8⟩:=h2
    obtain ⟨n2,x,e2,lg2,h5,h6⟩:=ih s' e1 lg1 (by omega) h3 h7 h8
    refine ⟨max n0 n2+1,x,e2,lg2,fun n m hn hm=>?_,h6⟩
    obtain ⟨m,rfl⟩:∃ k,m=k+1:=⟨m-1,by omega⟩
    simp only [exec,he,h1 n m (by omega) (by omega),h5 n m (by omega) (by omega)]
   | ex id =>
    refine ⟨n0+1,_,e1,lg1,fun n m hn hm=>?_,h2⟩
    obtain ⟨m,rfl⟩:∃ k,m=k+1:=⟨m-1,by omega⟩
    simp only [exec,he,h1 n m (by omega) (by omega)]
   | ret =>
    refine ⟨n0+1,_,e1,lg1,fun n m hn hm=>?_,h2⟩
    obtain ⟨m,rfl⟩:∃ k,m=k+1:=⟨m-1,by omega⟩
    simp only [exec,he,h1 n m (by omega) (by omega)]
 exact key (μ s) s e lg (Nat.le_refl _) hi (hE.trans hs) hl
end
end Go.Eng
namespace Go.Eng
open Go
abbrev I (n:Int):PV := .int .i64 n
abbrev zA5 (l:List Int):PV := .sl (l.map I)
section
theorem zWv {a b:Bool} (ha:a=true) (hb:b=true):(a&&b)=true:=by rw [ha,hb];rfl
theorem zA4 {a b:Nat} (h:a≤b):Nat.ble a b=true:=by rw [Nat.ble_eq];exact h
theorem zBB {a b:Nat} (h:a=b):Nat.beq a b=true:=by rw [h];exact Nat.beq_refl _
theorem zAq {p:Prop} [Decidable p] (h:p):decide p=true:=decide_eq_true h
variable {α:Type} {g:α→PV} {l:List α} {i:Nat} {d:α} {x q root root':PV} {xs:List PV} {r z c n:Nat} {pre rest:zAU}
theorem zCh (d:α) (h:i<l.length):(l.map g)[i]? = some (g (l.getD i d)):=by simp [List.getD,List.getElem?_eq_getElem h]
theorem zG1 {u:α}:(l.map g).set i (g u)=(l.set i u).map g:=(List.map_set).symm
theorem zIc (hx:xs[i]? = some x) {y:PV} (hn:zAz y rest=some q) (hh:zA0 root=some xs:=by kernel_rfl) (hc:x.cells[c]? = some y:=by kernel_rfl):zAz root ((i,c)::rest)=some q:=by
 simp only [zAz,hh,hx,hc,hn]
def zMf (r:Nat) (pre:zAU) (i c n:Nat) (x:PV):Option (Bool×List PV):=bif Nat.ble (c+n) x.cells.length then some (x.isAgg,zBD r pre i c ((x.cells.drop c).take n)) else none
theorem zCu {a:Bool} {qs:List PV} (hn:zAz root.unlock pre=some q) (hx:xs[i]? = some x) (hr:zMf r pre i c n x=some (a,qs):=by kernel_rfl) (hh:zBg q=some xs:=by kernel_rfl):zAr r root pre i c n=some (a,qs):=by
 simp only [zAr,hn,hh,hx];exact hr
theorem zPG {qs:List PV} {xs':List PV} (hx:xs[i]? = some x) (hs:xs.set i (zAx x c qs)=xs') (hb:Nat.ble (c+qs.length) x.cells.length=true:=by kernel_rfl) (hw:(zBA qs).isEmpty=true:=by kernel_rfl):zBF (.own z xs) [] i c qs=some (.own z xs')∧zAD (.own z xs) (.own z xs') []=true:=by
 subst hs
 constructor
 ·simp only [zBF,hw,Bool.not_true,Bool.and_false,cond_false,zAu,zBg,hx,hb,cond_true,zAC]
 ·simp [zAD,zCd]
theorem zB9 {x m:Nat} (h:Nat.beq m 1=true):0+x*m=x:=by rw [Nat.eq_of_beq_eq_true h,Nat.mul_one,Nat.zero_add]
theorem zB6 {a x m:Nat} (h:Nat.beq m 1=true):a+x*m=a+x:=by rw [Nat.eq_of_beq_eq_true h,Nat.mul_one]
def wf (i c:Nat) (qs:List PV) (q:PV):Option PV:=match zBg q with
 | some xs=>match xs[i]? with
  | some x=>bif Nat.ble (c+qs.length) x.cells.length then zAC q (xs.set i (zAx x c qs)) else none
  | none=>none
 | none=>none
theorem zKx {qs:List PV} {q' y:PV} (hx:xs[i]? = some x) (hs:zAx x c qs=y) (hq:zAC q (xs.set i y)=some q') (hh:zBg q=some xs:=by kernel_rfl) (hb:Nat.ble (c+qs.length) x.cells.length=true:=by kernel_rfl):zAu (wf i c qs) q []=some q':=by
 subst hs
 simp only [zAu,wf,hh,hx,hb,cond_true,hq]
theorem zXm {f:PV→Option PV} {p p' q' y:PV} (hx:xs[i]? = some x) (hm:zAu f q rest=some q') (hs:zAx x c [q']=y) (hp:zAC p (xs.set i y)=some p') (hh:zA0 p=some xs:=by kernel_rfl) (hc:x.cells[c]? = some q:=by kernel_rfl):zAu f p ((i,c)::rest)=some p':=by
 subst hs
 simp only [zAu,hh,hx,hc,hm,hp]
theorem zP8 {qs:List PV} {b:Bool} (h:zAu (wf i c qs) root pre=some root') (hk:zAD root root' pre=b) (hw:(zBA qs).isEmpty=true:=by kernel_rfl):zBF root pre i c qs=some root'∧zAD root root' pre=b:=by
 refine ⟨?_,hk⟩
 simp only [zBF,hw,Bool.not_true,Bool.and_false,cond_false]
 exact h
theorem zUH {w:Nat} {p2:Nat×zAU}:zAD (.own z (xs)) (.own z (xs.set i x)) pre=true:=by
 cases pre<;>simp [zAD,zCd]
theorem zUs {u:α}:zAD (.own z (l.map g)) (.own z ((l.set i u).map g)) pre=true:=by
 cases pre<;>simp [zAD,zCd]
theorem zAG (l:List α) (h:∀ x,zAV (g x)=g x:=by intro;rfl):zAv (l.map g)=l.map g:=by
 induction l with
 | nil=>rfl
 | cons x l ih=>simp only [List.map_cons,zAv,h,ih]
theorem zB4 {ys:List PV} (hy:xs=ys) (h2:zAv ys=ys):zAv xs=ys:=by rw [hy];exact h2
theorem zDO (l:List α) (h:∀ x,(g x).free=true:=by intro;rfl):zFk (l.map g)=true:=by
 induction l with
 | nil=>rfl
 | cons x l ih=>simp only [List.map_cons,zFk,h,ih,Bool.and_self]
theorem zRz (l:List α) (h:∀ x,(g x).ways=[]:=by intro;rfl):zBA (l.map g)=[]:=by
 induction l with
 | nil=>rfl
 | cons x l ih=>simp only [List.map_cons,zBA,h,ih,List.append_nil]
theorem all_map {p:PV→Bool} (l:List α) (h:∀ x,p (g x)=true:=by intro;rfl):(l.map g).all p=true:=by
 rw [List.all_map];exact List.all_eq_true.2 fun x _=>h x
theorem zBE (l:List α):List.take l.length (l.map g)=l.map g:=List.take_of_length_le (by simp)
theorem zAZ {xs ys:List PV} (h:xs=ys):PV.own z xs=PV.own z ys:=by rw [h]
theorem zKo {xs ys:List PV} (h:xs=ys):PV.sl xs=PV.sl ys:=by rw [h]
theorem zFq {a x m:Nat} {sh:Option Nat} (h:Nat.beq m 1=true):PV.addr r pre i (a+x*m) sh=PV.addr r pre i (a+x) sh:=by rw [Nat.eq_of_beq_eq_true h,Nat.mul_one]
end
end Go.Eng
namespace Go.Eng
open Go
section
def zVG:Code→Bool
 | .label _=>true
 | _=>false
theorem ap {p:Prop} {ps:List Prop} (h:p) (hs:zSE ps):zSE (p::ps):=⟨h,hs⟩
theorem an:zSE []:=trivial
theorem zCr {a b:Int} (h:a=b) (hr : -9223372036854775808≤b∧b<9223372036854775808):PV.int .i64 (IntKind.i64.wrap a)=PV.int .i64 b:=by rw [h,zXs hr]
variable [Yo] {P:Program} {H:zBh} {f:FuncId} {nt:Nat} {e e':Env} {lg:Option Log} {K:X→Env→Option Log→Prop} {i:Nat} {c:Code} {s:RS} {R:Env→Option Log→Prop}
theorem S_a (as:Ans) {obs:List Prop} (ho:zSE obs) (h:WS P H f c (i+1) (rsX (zWq P H f c i as s)) R) (hq:(zWq P H f c i as s).map (·.2)=some obs:=by kernel_rfl) (hi:Nat.blt i (zFj c).size=true:=by kernel_rfl):WS P H f c i s R:=S_x as obs ho h hq hi
theorem E_a {fn:Func} {nh:Nat} {v:PV} {h:List PV} {x:X} (as:Ans) {obs:List Prop} (ho:zSE obs) (v':PV) (h':List PV) (hv:v'=v) (hh:h'=h) (hf:zKX P H f fn as e nh=some ((v',h'),obs):=by kernel_rfl) (hl:lg=none:=by kernel_rfl) (hx:x = .norm∨x = .ret:=by first | exact .inr rfl | exact .inl rfl):zTV P H f fn nh v h x e lg:=E_x as obs v' h' ho hv hh hf hl hx
theorem zVF {c:Code} (h:K .norm e lg) (hc:zVG c=true:=by kernel_rfl):W P H f nt c e lg K:=by
 cases c<;>first | (cases hc;done) | exact zTj 1 rfl h
theorem zUJ {t:TypeId} {k:IntKind} {a b q:Int} (hb:b≠0) (h:a.tmod b=q):zHt P .rem t (.int k a) (.int k b)=some (.int k q):=by
 simp [zHt,zTt,hb,h]
end
end Go.Eng
namespace Go.Eng
open Go
section
variable [Yo] {P:Program} {H:zBh} {f:FuncId}
end
end Go.Eng
namespace Go.Eng
open Go
def zQd (pre:zAU) (put:PV→PV):Prop:=∀ f z xs,zAu f (put (.own z xs)) pre=(f (.own z xs)).map put
theorem zQd.nil:zQd [] (fun q=>q):=fun f z xs=>by simp [zAu]
theorem zQd.box:zQd [(0,0)] (fun q => .box q):=fun f z xs=>by
 simp only [zAu,zA0,List.getElem?_cons_zero,PV.cells]
 cases f (.own z xs)<;>rfl
theorem zGC [Yo] {r z:Nat} {pre:zAU} {put:PV→PV} (L:zQd pre put):∀ {ys:List PV} {j:Nat} {xs:List PV} {e:Env},e.get r=put (.own z xs)→j+ys.length≤xs.length→(∀ (a:Nat) (x y:PV),xs[j+a]? = some x→ys[a]? = some y→y.heavy=false∧y.cells.all (fun q=>q.ways.isEmpty)=true∧y.cells.length≤x.cells.length∧zAx x 0 y.cells=y) →
  ∃ e',e'.get r=put (.own z (xs.take j++ys++xs.drop (j+ys.length)))∧(∀ t,t≠r→e'.get t=e.get t)∧∀ (o:zAF) (k:PM),(zGo r pre j ys k).run o e=k.run o e'
 | [],j,xs,e,he,hj,hy=>⟨e,by simp [he],fun _ _=>rfl,fun _ _=>rfl⟩
 | y :: ys,j,xs,e,he,hj,hy=>by
  simp only [List.length_cons] at hj
  have hjx:j<xs.length:=by omega
  obtain ⟨h1,h2,h3,h4⟩:=hy 0 xs[j] y (by simp [hjx]) rfl
  have hws:zBA y.cells=[]:=zM0 h2
  have hb:Nat.ble (0+y.cells.length) xs[j].cells.length=true:=by rw [Nat.ble_eq];omega
  have yW:(e.set r (put (.own z (xs.set j y)))).get r=put (.own z (xs.set j y)):=by rw [Env.get_set,if_pos rfl]
  obtain ⟨e',g1,g2,g3⟩:=zGC L (ys:=ys) (j:=j+1) yW (by simp;omega) fun a x' y' uQ uK=>by
   rw [List.getElem?_set] at uQ
   rw [if_neg (by omega)] at uQ
   exact hy (a+1) x' y' (by rw [← uQ];congr 1;omega) (by simpa using uK)
  refine ⟨e',?_,fun t ht=>?_,?_⟩
  ·rw [g1,zTh hj]
   simp only [List.length_cons]
  ·rw [g2 t ht,Env.get_set,if_neg ht]
  ·intro o k
   simp only [zGo]
   rw [zFa (by simpa using zNg h1)]
   simp only [PM.run,he,zBF,hws,List.isEmpty_nil,Bool.not_true,Bool.and_false,cond_false,L _ z xs,zBg,List.getElem?_eq_getElem hjx,hb,cond_true,zAC,h4,Option.map_some]
   exact g3 o k
section
variable [Yo] {P:Program} {H:zBh} {f:FuncId} {i:Nat} {c:Code} {R:Env→Option Log→Prop}
theorem zUZ {pre:zAU} (put':PV→PV) (r s:Nat) (xs ys zs:List PV) {st:RS} (hy:∀ (a:Nat) (x y:PV),xs[a]? = some x→ys[a]? = some y→zXy s x y) (hZ:ys.length≤xs.length) (hz:ys++xs.drop ys.length=zs) (L:zQd pre put')
  (h:WS P H f c (i+1) ⟨none,zLW ((put (zDY c i).dst (.int .i64 ys.length)).run zHs (st.e.set r (put' (.own s zs)))),none⟩ R) (he:st.e.get r=put' (.own s xs):=by kernel_rfl) (ho:zUq P st.e (zDY c i)=some (s,.bor r pre s 0 xs.length,.sl ys):=by kernel_rfl) (hs:Nat.blt 0 s=true:=by kernel_rfl)
  (hq:((put (zDY c i).dst (.int .i64 ys.length)).run zHs (st.e.set r (put' (.own s zs)))).isSome=true:=by kernel_rfl) (ji:st.dr=none:=by kernel_rfl) (vR:st.lg=none:=by kernel_rfl) (hg:zKT c i st.e=true:=by kernel_rfl) (hi:Nat.blt i (zFj c).size=true:=by kernel_rfl):WS P H f c i st R:=by
 subst hz
 obtain ⟨dr,e,lg⟩:=st
 simp only at ji h he ho hq hg vR
 subst ji;subst vR
 have km:∀ y∈ys,y.plain=true∧y.cells.length=s:=fun y uK=>by
  obtain ⟨a,ha⟩:=List.getElem?_of_mem uK
  have yK:=(List.getElem?_eq_some_iff.1 ha).1
  have:=hy a _ y (List.getElem?_eq_getElem (by omega)) ha
  exact ⟨this.1,this.2.1⟩
 obtain ⟨e',g1,g2,g3⟩:=zGC L he (j:=0) (ys:=ys) (by omega) fun a x y hx uK=>by
  rw [Nat.zero_add] at hx
  obtain ⟨_,_,h3,h4,h5,h6⟩:=hy a x y hx uK
  exact ⟨h3,h4,h5,h6⟩
 simp only [List.take_zero,List.nil_append,Nat.zero_add] at g1
 have yW:∀ t,e'.get t=(e.set r (put' (.own s (ys++xs.drop ys.length)))).get t:=fun t=>by
  rw [Env.get_set]
  split
  ·rename_i h;subst h;exact g1
  ·rename_i h;exact g2 t h
 have jt:=zHw hq
 obtain ⟨e1,h1,h2⟩:=zFp (funext yW) jt
 refine zW2 (s:=⟨none,e,none⟩) (e':=e1) ⟨0,fun n _=>?_⟩ (zUM h fun t=>congrFun h2 t) rfl rfl hg hi
 have yA:=zFN (o:=zCO P H n) h1
 show (opM P H _ _ _ (zDY c i)).run _ e=_
 generalize zDY c i=o at ho yA
 cases hop:o.op<;>simp only [zUq,hop] at ho<;>try (cases ho;done)
 rename_i cc
 split at ho
 ·rename_i x y t ts hc ha hT
  split at ho
  ·rename_i s' yt
   simp only [Option.some.injEq,Prod.mk.injEq] at ho
   obtain ⟨rfl,hx,hyv⟩:=ho
   have hb:Nat.ble ys.length xs.length=true:=by rw [Nat.ble_eq];exact hZ
   have jd:(ys.all fun y=>y.plain&&Nat.beq y.cells.length s')=true:=List.all_eq_true.2 fun y uK=>by
    obtain ⟨q1,q2⟩:=km y uK
    rw [q1,q2,Nat.beq_refl];rfl
   simp only [opM,hop,zIY,hc,ha,hT,zBu,yt,zIC]
   rw [zNs hx (by simp),zNs hyv (by simp)]
   simp only [zGN,Nat.beq_refl,hs,hb,jd,Bool.and_self,cond_true]
   rw [g3];exact yA
  ·cases ho
 ·cases ho
theorem zSO {α β:Type} {g:α→PV} {g':β→PV} {s:Nat} {l:List α} {m:List β} (h:∀ (x:α) (y:β),zXy s (g x) (g' y)):∀ (a:Nat) (x y:PV),(l.map g)[a]? = some x→(m.map g')[a]? = some y→zXy s x y:=by
 intro a x y hx hy
 rw [List.getElem?_map] at hx hy
 obtain ⟨x',_,rfl⟩:=Option.map_eq_some_iff.1 hx
 obtain ⟨y',_,rfl⟩:=Option.map_eq_some_iff.1 hy
 exact h x' y'
theorem zLd {k:IntKind} {a b:Int}:zXy 1 (.int k a) (.int k b):=⟨rfl,rfl,rfl,rfl,Nat.le_refl _,rfl⟩
theorem zVM {α β:Type} {g:α→PV} {g':β→PV} {l:List α} {m:List β} (h:l.length=m.length):l.map g++(m.map g').drop (l.map g).length=l.map g:=by simp [h]
end
end Go.Eng
namespace Go.Eng
open Go
abbrev zPN (sh:Option Nat) (a:List Int):PV:=match sh with | none=>I (a.getD 0 0) | some _ => .agg (a.map I)
theorem zOV {l:List Int} {i k:Nat} {sh:Option Nat} (j8:sh=some k∨(sh=none∧k=1)) (h:i+k≤l.length):sub (.agg (l.map I)) i sh=some (zPN sh ((l.drop i).take k)):=by
 rcases j8 with rfl | ⟨rfl,rfl⟩
 ·simp only [sub,List.length_map,h,if_true,zPN,List.map_take,List.map_drop]
 ·have h2:i<l.length:=by omega
  simp only [sub,zPN]
  rw [List.drop_eq_getElem_cons h2]
  simp [h2]
theorem zMZ {eq:PV→PV→Option Bool} {sh:Option Nat} {k:Nat} {l m:List Int} (ub:∀ a b:List Int,a.length=k→b.length=k→eq (zPN sh a) (zPN sh b)=some (decide (a=b))) (j8:sh=some k∨(sh=none∧k=1)):∀ n i,(i+n)*k=l.length→(i+n)*k=m.length→zUG eq sh k (.agg (l.map I)) (.agg (m.map I)) i n=some (decide (l.drop (i*k)=m.drop (i*k)))
 | 0,i,h1,h2=>by
  simp only [zUG]
  rw [List.drop_eq_nil_of_le (by simpa using Nat.le_of_eq h1.symm),List.drop_eq_nil_of_le (by simpa using Nat.le_of_eq h2.symm)];simp
 | n + 1,i,h1,h2=>by
  have e:(i+(n+1))*k=i*k+k+n*k:=by rw [Nat.add_mul,Nat.succ_mul];omega
  have e1:(i+1)*k=i*k+k:=by rw [Nat.succ_mul]
  have hl:i*k+k≤l.length:=by omega
  have hm:i*k+k≤m.length:=by omega
  have ih:=zMZ ub j8 n (i+1) (by rw [← h1];congr 1;omega) (by rw [← h2];congr 1;omega)
  simp only [zUG,zOV j8 hl,zOV j8 hm]
  rw [ub _ _ (by rw [List.length_take,List.length_drop];omega) (by rw [List.length_take,List.length_drop];omega)]
  have d1:l.drop (i*k)=(l.drop (i*k)).take k++l.drop ((i+1)*k):=by rw [e1,← List.drop_drop,List.take_append_drop]
  have d2:m.drop (i*k)=(m.drop (i*k)).take k++m.drop ((i+1)*k):=by rw [e1,← List.drop_drop,List.take_append_drop]
  by_cases hc:(l.drop (i*k)).take k=(m.drop (i*k)).take k
  ·simp only [hc,decide_true,ih]
   congr 1
   rw [d1,d2,hc]
   simp
  ·simp only [hc,decide_false]
   rw [Eq.comm,decide_eq_false]
   intro hx
   exact hc (by rw [hx])
def zOd:Option TypeDesc→Bool
 | some (.array ..)=>true
 | _=>false
def zV4:Option TypeDesc→Bool
 | some (.int .i64)=>true
 | _=>false
theorem zSZ {x:Option TypeDesc} (h:zV4 x=true):x=some (.int .i64):=by
 unfold zV4 at h;split at h
 ·rfl
 ·cases h
theorem zMG {x:Option TypeDesc} (h:zOd x=true):∃ c e,x=some (.array c e):=by
 unfold zOd at h;split at h
 ·exact ⟨_,_,rfl⟩
 ·cases h
def zSJ (P:Program):Nat→TypeId→Option Nat
 | 0,_=>none
 | n + 1,t=>match P.underlying t with
  | some (.int k)=>if k = .i64 then some 1 else none
  | some (.array m e)=>match szT P e,shT P e,zSJ P n e with
   | some sz,some sh,some k=>if sz=k∧(sh=some k∧zOd (P.underlying e)=true∨sh=none∧k=1∧zV4 (P.underlying e)=true) then some (m*k) else none
   | _,_,_=>none
  | _=>none
theorem zUS {P:Program} {n:Nat} {t:TypeId} {a b:Int} (h:P.underlying t=some (.int .i64)):eqT P (n+1) t (I a) (I b)=some (decide (a=b)):=by
 simp only [eqT,h,if_true];rfl
theorem zOn {P:Program}:∀ (n:Nat) (t:TypeId) (k:Nat) (l m:List Int),zSJ P n t=some k→(∃ c e,P.underlying t=some (.array c e))→l.length=k→m.length=k→eqT P n t (.agg (l.map I)) (.agg (m.map I))=some (decide (l=m))
 | 0,_,_,_,_,h,_,_,_=>by cases h
 | n + 1, t, k,l,m,h,⟨c,e,hu⟩,hl,hm=>by
  simp only [zSJ,hu] at h
  split at h
  ·rename_i sz sh k1 h1 h2 h3
   split at h
   ·rename_i hx
    obtain ⟨rfl,hx⟩:=hx
    cases h
    simp only [eqT,hu,h1,h2]
    have:=zMZ (eq:=eqT P n e) (sh:=sh) (k:=sz) (l:=l) (m:=m) (fun a b ha hb=>by
     rcases hx with ⟨rfl,hx⟩ | ⟨rfl,rfl,hx⟩
     ·exact zOn n e sz a b h3 (zMG hx) ha hb
     ·cases n with
      | zero=>cases h3
      | succ n =>
       simp only [zPN,zUS (zSZ hx)]
       match a,b,ha,hb with
       | [x],[y],_,_=>simp) (by
     rcases hx with ⟨rfl,_⟩ | ⟨rfl,rfl,_⟩
     ·exact .inl rfl
     ·exact .inr ⟨rfl,rfl⟩) c 0 (by rw [hl];simp) (by rw [hm];simp)
    simpa using this
   ·cases h
  ·cases h
def zKc (P:Program) (t:TypeId) (k:Nat):Bool := !P.eqGuardType P.depth t&&decide (zSJ P 20 t=some k)&&zOd (P.underlying t)
theorem zQj {P:Program} {t:TypeId} {k:Nat} {l m:List Int} (h:zKc P t k=true) (hl:l.length=k) (hm:m.length=k):eqT P 20 t (.agg (l.map I)) (.agg (m.map I))=some (decide (l=m)):=by
 unfold zKc at h
 simp only [Bool.and_eq_true,decide_eq_true_eq,Bool.not_eq_true'] at h
 obtain ⟨⟨h1,h2⟩,h3⟩:=h
 exact zOn 20 t k l m h2 (zMG h3) hl hm
theorem zUt {P:Program} {t:TypeId} {k:Nat} {l m:List Int} (h:zKc P t k=true) (hl:l.length=k) (hm:m.length=k):eqV P t (.agg (l.map I)) (.agg (m.map I))=some (decide (l=m)):=by
 have hg:P.eqGuardType P.depth t=false:=by
  unfold zKc at h
  simp only [Bool.and_eq_true,Bool.not_eq_true'] at h
  exact h.1.1
 simp only [eqV,hg,cond_false,zQj h hl hm]
theorem zRh {P:Program} {t:TypeId} {l m:List Int} (k:Nat) (hl:l.length=k) (hm:m.length=k) (h:zKc P t k=true:=by kernel_rfl):zHt P .eql t (.agg (l.map I)) (.agg (m.map I))=some (.bool (decide (l=m))):=by
 simp only [zHt,zUt h hl hm,Option.map_some]
theorem zUP {P:Program} {t:TypeId} {l m:List Int} (k:Nat) (hl:l.length=k) (hm:m.length=k) (h:zKc P t k=true:=by kernel_rfl):zHt P .neq t (.agg (l.map I)) (.agg (m.map I))=some (.bool (!decide (l=m))):=by
 simp only [zHt,zUt h hl hm,Option.map_some]
theorem zR7 {a b c d:Int}:decide ([a,b]=[c,d])=(decide (a=c)&&decide (b=d)):=by simp
theorem zRa {P:Program} {t:TypeId} {a b c d:Int} (h:zKc P t 2=true:=by kernel_rfl):zHt P .eql t (.agg [I a,I b]) (.agg [I c,I d])=some (.bool (decide (a=c)&&decide (b=d))):=by
 rw [← zR7];exact zRh (l:=[a,b]) (m:=[c,d]) 2 rfl rfl h
theorem zMg {P:Program} {kt:TypeId} {α:Type} {g:α→PV×PV} {kx ky:α→Int} (hk:∀ x,(g x).1 = .agg [I (kx x),I (ky x)]) (ub:∀ a b c d:Int,eqT P 20 kt (.agg [I a,I b]) (.agg [I c,I d])=some (decide (a=c)&&decide (b=d))) (a b:Int):∀ (M:List α) (i:Nat),zDb P kt (.agg [I a,I b]) (M.map g) i=some ((M.findIdx? fun x=>decide (a=kx x)&&decide (b=ky x)).map (· + i))
 | [],i=>rfl
 | x :: M,i=>by
  have h1:=ub a b (kx x) (ky x)
  rw [← hk x] at h1
  have h2:zFO (PV.agg [I a,I b]).cells (g x).1.cells=some (a==kx x&&(b==ky x&&true)):=by rw [hk x];rfl
  rw [List.map_cons,List.findIdx?_cons]
  have e:g x=((g x).1,(g x).2):=rfl
  rw [e]
  simp only [zDb,h1,h2]
  cases hc:(decide (a=kx x)&&decide (b=ky x)) with
  | true =>
   simp only [Bool.and_eq_true,decide_eq_true_eq] at hc
   simp [hc.1,hc.2]
  | false =>
   simp only
   rw [zMg hk ub a b M (i+1)]
   simp only [Bool.false_eq_true,if_false,Option.map_map]
   congr 2
   funext y
   simp only [Function.comp];omega
theorem zRK {P:Program} {t:TypeId} (h:zKc P t 2=true:=by kernel_rfl) (a b c d:Int):eqT P 20 t (.agg [I a,I b]) (.agg [I c,I d])=some (decide (a=c)&&decide (b=d)):=by
 rw [← zR7];exact zQj (l:=[a,b]) (m:=[c,d]) h rfl rfl
def zXP (F:List Int) (n:Nat):Nat→List PV
 | 0=>[]
 | m+1=>I (F.getD (n-(m+1)) 0)::zXP F n m
abbrev zAX (F:List Int) (m:Nat):List PV:=zXP F m m
theorem zQQ {F:List Int} {n:Nat}:∀ (m:Nat),m≤n→zXP F n m=(List.range' (n-m) m).map fun k=>I (F.getD k 0)
 | 0,_=>rfl
 | m+1,h=>by
  rw [zXP,zQQ m (by omega),List.range'_succ,List.map_cons,show n-(m+1)+1=n-m by omega]
theorem zND {F:List Int} {m:Nat}:zAX F m=(List.range m).map fun k=>I (F.getD k 0):=by
 rw [List.range_eq_range',zAX,zQQ m (Nat.le_refl m),Nat.sub_self]
theorem zEv {F:List Int} {m:Nat} (h:F.length=m):zAX F m=F.map I:=by
 rw [zND]
 apply List.ext_getElem?
 intro k
 by_cases hk:k<m
 ·simp [hk,show k<F.length by omega]
 ·rw [List.getElem?_eq_none (by simp;omega),List.getElem?_eq_none (by simp;omega)]
section
variable {A B:List PV} {F:List Int} {m j:Nat} {r i c':Nat} {pre:zAU}
theorem zJp:(zAX F m).length=m:=by rw [zND];simp
theorem zQE (hj:j<m):(zAX F m)[j]? = some (I (F.getD j 0)):=by rw [zND];simp [hj]
theorem zVN (hj:j<m):(A++zAX F m++B)[A.length+j]? = some (I (F.getD j 0)):=by
 rw [List.append_assoc,List.getElem?_append_right (by omega),Nat.add_sub_cancel_left,List.getElem?_append_left (by rw [zJp];exact hj)]
 exact zQE hj
theorem zWD (hj:j<m):zCo (.ref (.agg (zAX F m))) j none=some (.ref (I (F.getD j 0))):=by
 have h1:(I (F.getD j 0)).oneCell=true:=rfl
 simp only [zCo,zN9,sub,zQE hj,Option.isSome,Bool.false_or,h1,cond_true]
theorem zGq {n:Nat} (hj:j<m) (hn:Nat.beq n 1=true:=by kernel_rfl):zCo (.ref (.agg (zAX F m))) (j*n) none=some (.ref (I (F.getD j 0))):=by
 rw [Nat.eq_of_beq_eq_true hn,Nat.mul_one];exact zWD hj
theorem zKv (hc:c'=A.length+j) (hj:j<m):zMf r pre i c' 1 (.agg (A++zAX F m++B))=some (true,[I (F.getD j 0)]):=by
 subst hc
 have hZ:A.length+j<(A++zAX F m++B).length:=by rw [List.length_append,List.length_append,zJp];omega
 have hb:Nat.ble (A.length+j+1) (PV.agg (A++zAX F m++B)).cells.length=true:=by rw [Nat.ble_eq];exact hZ
 have h2:((A++zAX F m++B).drop (A.length+j)).take 1=[I (F.getD j 0)]:=by
  rw [List.drop_eq_getElem_cons hZ]
  have:=zVN (A:=A) (B:=B) (F:=F) hj
  rw [List.getElem?_eq_getElem hZ] at this
  simp only [Option.some.injEq] at this
  rw [this];simp
 simp only [zMf,hb,cond_true,PV.isAgg]
 show some (true,zBD r pre i (A.length+j) (((A++zAX F m++B).drop (A.length+j)).take 1))=_
 rw [h2];rfl
theorem zUW {u:Int} (hj:j<m) (hF:F.length=m):(zAX F m).set j (I u)=zAX (F.set j u) m:=by
 rw [zEv hF,zEv (F:=F.set j u) (by simpa using hF),List.map_set]
theorem zOJ {u:Int} (hc:c'=A.length+j) (hj:j<m) (hF:F.length=m):zAx (.agg (A++zAX F m++B)) c' [I u] = .agg (A++zAX (F.set j u) m++B):=by
 subst hc
 have hZ:A.length+j<(A++zAX F m++B).length:=by rw [List.length_append,List.length_append,zJp];omega
 have e:(A++zAX F m++B).take (A.length+j)++[I u]++(A++zAX F m++B).drop (A.length+j+1)=(A++zAX F m++B).set (A.length+j) (I u):=by
  rw [List.set_eq_take_append_cons_drop,if_pos hZ];simp
 simp only [zAx,List.length_singleton,e]
 rw [List.append_assoc,List.set_append_right _ _ (by omega),Nat.add_sub_cancel_left,List.set_append_left _ _ (by rw [zJp];exact hj),zUW hj hF,List.append_assoc]
theorem zO4 (hc:c'=A.length+j) (hj:j<m) {q:PV}:Nat.ble (c' + [q].length) (PV.agg (A++zAX F m++B)).cells.length=true:=by
 subst hc;rw [Nat.ble_eq];show _≤(A++zAX F m++B).length;rw [List.length_append,List.length_append,zJp];simp;omega
theorem zU0 (hj:j<m):sub (.agg (zAX F m)) j none=some (I (F.getD j 0)):=by
 simp only [sub,zQE hj]
theorem zFg (hc:c'=j) (hj:j<m):zMf r pre i c' 1 (.agg (zAX F m))=some (true,[I (F.getD j 0)]):=by
 have:=zKv (A:=[]) (B:=[]) (F:=F) (r:=r) (pre:=pre) (i:=i) (c':=c') (by simpa using hc) hj
 simpa using this
theorem zNh {u:Int} (hc:c'=j) (hj:j<m) (hF:F.length=m):zAx (.agg (zAX F m)) c' [I u] = .agg (zAX (F.set j u) m):=by
 have:=zOJ (A:=[]) (B:=[]) (F:=F) (u:=u) (c':=c') (by simpa using hc) hj hF
 simpa using this
theorem zN2 (hc:c'=j) (hj:j<m) {q:PV}:Nat.ble (c' + [q].length) (PV.agg (zAX F m)).cells.length=true:=by
 have:=zO4 (A:=[]) (B:=[]) (F:=F) (q:=q) (c':=c') (by simpa using hc) hj
 simpa using this
theorem zT6 {n:Nat} (hj:j<m) (hn:Nat.beq n 1=true:=by kernel_rfl):sub (.agg (zAX F m)) (j*n) none=some (I (F.getD j 0)):=by
 rw [Nat.eq_of_beq_eq_true hn,Nat.mul_one];exact zU0 hj
end
section
variable {l:List Int} {r i c c' k:Nat} {pre:zAU}
theorem zIF:∀ (l:List Int) (c:Nat),zBD r pre i c (l.map I)=l.map I
 | [],_=>rfl
 | x::l,c=>by simp only [List.map_cons,zBD,zIF l (c+1)];rfl
theorem zXC (hc:c'=c) (h:c+k≤l.length):zMf r pre i c' k (.agg (l.map I))=some (true,((l.drop c).take k).map I):=by
 subst hc
 have hb:Nat.ble (c'+k) (PV.agg (l.map I)).cells.length=true:=by rw [Nat.ble_eq];simpa [PV.cells] using h
 simp only [zMf,hb,cond_true,PV.isAgg]
 show some (true,zBD r pre i c' (((l.map I).drop c').take k))=_
 rw [← List.map_drop,← List.map_take,zIF]
theorem zV3 {K:Nat} (hc:c'=c) (h:c+K≤l.length) (hk:Nat.beq k K=true):zMf r pre i c' k (.agg (l.map I))=some (true,((l.drop c).take K).map I):=by rw [Nat.eq_of_beq_eq_true hk];exact zXC hc h
theorem zVj {K m:Nat} (hl:l.length=m) (hc:c'=c) (h:c+K≤m) (hk:Nat.beq k K=true):zMf r pre i c' k (.agg (zAX l m))=some (true,zAX ((l.drop c).take K) K):=by
 rw [zEv hl,zV3 (K:=K) hc (by omega) hk,zEv (F:=(l.drop c).take K) (by rw [List.length_take,List.length_drop];omega)]
theorem zVV {P:Program} {t:TypeId} {l m:List Int} (k:Nat) (hl:l.length=k) (hm:m.length=k) (h:zKc P t k=true:=by kernel_rfl):zHt P .eql t (.agg (zAX l k)) (.agg (zAX m k))=some (.bool (decide (l=m))):=by
 rw [zEv hl,zEv hm];exact zRh k hl hm h
theorem zSc {P:Program} {t:TypeId} {l m:List Int} (k:Nat) (hl:l.length=k) (hm:m.length=k) (h:zKc P t k=true:=by kernel_rfl):zHt P .neq t (.agg (zAX l k)) (.agg (zAX m k))=some (.bool (!decide (l=m))):=by
 rw [zEv hl,zEv hm];exact zUP k hl hm h
end
end Go.Eng
namespace Go.Eng
open Go
theorem zDN {a b m k M:Nat} (h:Nat.beq m M=true) (h2:Nat.beq k 1=true):a*m+b*k=a*M+b:=by rw [Nat.eq_of_beq_eq_true h,Nat.eq_of_beq_eq_true h2,Nat.mul_one]
theorem zDE {a m M:Nat} (h:Nat.beq m M=true):a*m=a*M:=by rw [Nat.eq_of_beq_eq_true h]
theorem zDU {a b m k M:Nat} (h:Nat.beq m M=true) (h2:Nat.beq k 1=true):0+a*m+b*k=a*M+b:=by rw [Nat.zero_add];exact zDN h h2
theorem zDG {a m M:Nat} (h:Nat.beq m M=true):0+a*m=a*M:=by rw [Nat.zero_add];exact zDE h
theorem zBI {α:Type} {g:α→PV} {l:List α} {u:α} {y:PV} (h:g u=y):l.map g++[y]=(l++[u]).map g:=by rw [← h,List.map_append];rfl
def zUm (P:Program) (e:Env) (o:Oper):Option (Nat×PV×PV) :=
 match o.op,o.dst with
 | .call c,none=>match c.callee,c.args.toList,c.argTypes.toList with
  | .builtin .clear,[x],t::_=>match (zBW P t).bind (zCK P),(zBW P t).bind (szT P) with
   | some q,some s=>some (s,q,zXM e x)
   | _,_=>none
  | _,_,_=>none
 | _,_=>none
section
variable [Yo] {P:Program} {H:zBh} {f:FuncId} {i:Nat} {c:Code} {R:Env→Option Log→Prop}
theorem zQh {α:Type} {g:α→PV} {pre:zAU} (put':PV→PV) (r s lo n:Nat) (l:List α) (u:α) {st:RS} (ko:lo+n≤l.length) (hu:(g u).plain=true∧(g u).cells.length=s) (hy:∀ x,zXy s (g x) (g u)) (L:zQd pre put')
  (h:WS P H f c (i+1) ⟨none,st.e.set r (put' (.own s ((l.take lo++List.replicate n u++l.drop (lo+n)).map g))),none⟩ R) (he:st.e.get r=put' (.own s (l.map g)):=by kernel_rfl) (ho:zUm P st.e (zDY c i)=some (s,g u,.bor r pre s lo n):=by kernel_rfl) (hs:Nat.blt 0 s=true:=by kernel_rfl)
  (ji:st.dr=none:=by kernel_rfl) (vR:st.lg=none:=by kernel_rfl) (hg:zKT c i st.e=true:=by kernel_rfl) (hi:Nat.blt i (zFj c).size=true:=by kernel_rfl):WS P H f c i st R:=by
 obtain ⟨dr,e,lg⟩:=st
 simp only at ji h he ho hg vR
 subst ji;subst vR
 obtain ⟨e',g1,g2,g3⟩:=zGC L he (j:=lo) (ys:=List.replicate n (g u)) (by simpa using ko) fun a x y hx uK=>by
  rw [List.getElem?_map] at hx
  obtain ⟨x',_,rfl⟩:=Option.map_eq_some_iff.1 hx
  obtain ⟨hn,hy2⟩:=List.getElem?_eq_some_iff.1 uK
  rw [List.getElem_replicate] at hy2
  subst hy2
  obtain ⟨_,_,h3,h4,h5,h6⟩:=hy x'
  exact ⟨h3,h4,h5,h6⟩
 have yW:∀ t,e'.get t=(e.set r (put' (.own s ((l.take lo++List.replicate n u++l.drop (lo+n)).map g)))).get t:=fun t=>by
  rw [Env.get_set]
  split
  ·rename_i h;subst h;rw [g1];simp
  ·rename_i h;exact g2 t h
 refine zW2 (s:=⟨none,e,none⟩) (e':=e') ⟨0,fun m _=>?_⟩ (zUM h fun t=>yW t) rfl rfl hg hi
 show (opM P H _ _ _ (zDY c i)).run _ e=_
 generalize zDY c i=o at ho
 cases hop:o.op<;>simp only [zUm,hop] at ho<;>try (cases ho;done)
 rename_i cc
 cases jz:o.dst<;>rw [jz] at ho<;>simp only at ho<;>try (cases ho;done)
 split at ho
 ·rename_i x t ts hc ha hT
  split at ho
  ·rename_i q s' hq yt
   simp only [Option.some.injEq,Prod.mk.injEq] at ho
   obtain ⟨rfl,rfl,hx⟩:=ho
   simp only [opM,hop,zIY,hc,ha,hT,zBu,jz]
   rw [zNs hx (by simp)]
   simp only [zRg,hs,Nat.beq_refl,hu.1,hu.2,Bool.and_self,cond_true,hq,yt]
   rw [g3];rfl
  ·cases ho
 ·cases ho
end
end Go.Eng
namespace Go.Eng
open Go
section
variable [Yo] {P:Program} {H:zBh} {f:FuncId} {nt:Nat} {c:Code} {e:Env} {lg:Option Log} {K:X→Env→Option Log→Prop}
end
end Go.Eng
namespace Go.Eng
open Go
theorem zOl [Yo] {P:Program} {H:zBh} {f:FuncId} {nt:Nat} {e:Env} {lg:Option Log} {K:X→Env→Option Log→Prop} {σ:Type} {c:Code} {t g:Nat} {first caps:List PV} {xs:List (List PV)} (hY:zGa g first caps xs) (Inv:Nat→σ→Prop) (upd:σ→List (Nat×PV)) (s:σ) (hi:Inv 0 s)
  (h:∀ j x s,xs[j]? = some x→Inv j s→zLi P H f nt (zXI c) (rgA c) (rgB c) x (zLM (upd s) e) fun y e3=>match y with
   | .norm=>∃ s',Inv (j+1) s'∧after nt [] (zWj c) (zLM (upd s) e) e3=zLM (upd s') e
   | y=>K y (after nt [] (zWj c) (zLM (upd s) e) e3) none) (hK:∀ s,Inv xs.length s→K .norm (zLM (upd s) e) none) (hs:e=zLM (upd s) e:=by kernel_rfl) (yO:zDF e t=some (g,first,caps,[]):=by kernel_rfl) (hc:rgT c=some t:=by kernel_rfl) (hl:lg=none:=by kernel_rfl):W P H f nt c e lg K :=
 zVY (t:=t) hY Inv (fun s=>zLM (upd s) e) s hi h hK hs yO hc hl
end Go.Eng
namespace Go.Eng
open Go
theorem zQd.field (A B:List PV):zQd [(0,A.length)] (fun q => .box (.agg (A++q::B))):=fun f z xs=>by
 have h1:(A++PV.own z xs::B)[A.length]? = some (.own z xs):=by simp
 simp only [zAu,zA0,List.getElem?_cons_zero,PV.cells,h1]
 cases f (.own z xs) with
 | none=>rfl
 | some q=>simp [zAC,zAx]
end Go.Eng
namespace Go.Eng
open Go
theorem zFE (l:List Int):zAv (l.map I)=l.map I:=zAG l
theorem zH6 (k:IntKind) (l:List Int):zAv (l.map (PV.int k))=l.map (PV.int k):=zAG l
theorem zFd (l:List Bool):zAv (l.map PV.bool)=l.map PV.bool:=zAG l
theorem zAW {α:Type} {g g':α→PV} (l:List α) (h:∀ x,zAV (g x)=g' x:=by intro x;simp only [zAV,zAv,zFE,zFd,zH6]):zAv (l.map g)=l.map g':=by
 induction l with
 | nil=>rfl
 | cons x l ih=>simp only [List.map_cons,zAv,h,ih]
theorem zA7 {xs ys:List PV} (h:zAv xs=ys):zAv ((xs.drop 0).take xs.length)=ys:=by rw [List.drop_zero,List.take_length];exact h
theorem zVA {r z:Nat} {xs ys:List PV} (h:zAv xs=ys):PV.mapW (inl r [] (.own z xs)) (.bor r [] z 0 xs.length) = .sl ys:=by
 have e:zAL r [] r []=true:=by simp [zAL]
 have e2:Nat.ble (0+xs.length) xs.length=true:=by simp
 simp only [PV.mapW,inl,e,cond_true]
 show zGi (zAz (.own z xs) []) (zCH 0 xs.length)=_
 simp only [zAz,zGi,zCH,e2,cond_true]
 rw [zA7 h]
def zRX (P:Program) (t:TypeId) (k1 k2:IntKind):Bool := !P.eqGuardType P.depth t && !P.stoodInHeld t&&match P.underlying t with
  | some (.struct fs)=>match fs.toList with
    | [f1, f2] => !decide (f1.name = "_") && !decide (f2.name = "_") && decide (shT P f1.type = some none) && decide (shT P f2.type = some none) && decide (f1.offset = 0) && decide (f2.offset = 1) &&
      (match P.underlying f1.type with | some (.int k)=>decide (k=k1) | _=>false)&&(match P.underlying f2.type with | some (.int k)=>decide (k=k2) | _=>false)
    | _=>false
  | _=>false
theorem zVl {P:Program} {t:TypeId} {k1 k2:IntKind} {a b c d:Int} (h:zRX P t k1 k2=true):eqV P t (.agg [.int k1 a,.int k2 b]) (.agg [.int k1 c,.int k2 d])=some (decide (a=c)&&decide (b=d)):=by
 unfold zRX at h
 rw [Bool.and_eq_true,Bool.and_eq_true] at h
 obtain ⟨⟨h1,h2⟩,h3⟩:=h
 split at h3
 ·rename_i fs hu
  split at h3
  ·rename_i f1 f2 hl
   simp only [Bool.and_eq_true,decide_eq_true_eq,Bool.not_eq_true',decide_eq_false_iff_not] at h1 h2 h3
   obtain ⟨⟨⟨⟨⟨⟨⟨n1,n2⟩,s1⟩,s2⟩,o1⟩,o2⟩,u1⟩,u2⟩:=h3
   split at u1
   ·rename_i k1' jR
    split at u2
    ·rename_i k2' wn
     simp only [decide_eq_true_eq] at u1 u2
     subst u1;subst u2
     simp only [eqV,h1,cond_false,eqT,hu,h2,hl,zV8,n1,n2,s1,s2,o1,o2,sub,jR,wn,if_true,if_false,List.getElem?_cons_zero,List.getElem?_cons_succ]
     by_cases e1:a=c
     ·subst e1
      by_cases e2:b=d
      ·subst e2;simp
      ·simp [e2]
     ·simp [e1]
    ·cases u2
   ·cases u1
  ·cases h3
 ·cases h3
theorem zSw {P:Program} {t:TypeId} {k1 k2:IntKind} {a b c d:Int} (h:zRX P t k1 k2=true:=by kernel_rfl):zHt P .neq t (.agg [.int k1 a,.int k2 b]) (.agg [.int k1 c,.int k2 d])=some (.bool (!(decide (a=c)&&decide (b=d)))):=by
 simp only [zHt,zVl h,Option.map_some]
section
variable {α:Type} {g:α→PV} {l:List α} {i z:Nat} {b:PV}
theorem zWE (h:i<l.length):((l.map g).set i b)[i]? = some b:=by simp [h]
end
def zIj (P:Program) (t:TypeId):Bool:=match P.underlying t with | some (.slice _)=>true | _=>false
theorem zVi {P:Program} {t:TypeId} {p:PV} {z:Nat} (he:zEX p=true) (hp:(match p with | .nils _=>false | .agg _=>false | _=>true)=true:=by rfl) (h:zIj P t=true:=by kernel_rfl):eqV P t p (.nils z)=some false:=by
 unfold zIj at h
 split at h
 ·rename_i e hu
  unfold eqV
  rw [hu]
  cases p<;>first | (cases hp;done) | simp only [he,cond_true]
 ·cases h
theorem zT4 {P:Program} {t:TypeId} {p:PV} {z:Nat} (he:zEX p=true) (hp:(match p with | .nils _=>false | .agg _=>false | _=>true)=true:=by rfl) (h:zIj P t=true:=by kernel_rfl):(eqV P t p (.nils z)).map PV.bool=some (.bool false):=by rw [zVi he hp h];rfl
theorem zBe {xs:List PV}:List.take xs.length (List.drop 0 xs)=xs:=by rw [List.drop_zero,List.take_length]
def zXF [Yo] (P:Program) (H:zBh) (f:FuncId) (fn:Func) (nh:Nat) (Q:PV→List PV→Prop) (x:X) (e:Env) (lg:Option Log):Prop:=∃ v h,zTV P H f fn nh v h x e lg∧Q v h
section
variable [Yo] {P:Program} {H:zBh} {f:FuncId} {e:Env} {lg:Option Log}
theorem E_q {fn:Func} {nh:Nat} {Q:PV→List PV→Prop} {x:X} (as:Ans) {obs:List Prop} (ho:zSE obs) (v':PV) (h':List PV) (hQ:Q v' h') (hf:zKX P H f fn as e nh=some ((v',h'),obs):=by kernel_rfl) (hl:lg=none:=by kernel_rfl) (hx:x = .norm∨x = .ret:=by first | exact .inr rfl | exact .inl rfl):zXF P H f fn nh Q x e lg:=⟨v',h',E_a as ho v' h' rfl rfl hf hl hx,hQ⟩
theorem zMi (fn:Func) {args hid:List PV} (Q:PV→List PV→Prop) (h:W P H f fn.ntmps (fn.body.getD .ret) (zBb args hid) none (zXF P H f fn hid.length Q)) (hf:P.funcs[f]? = some fn:=by kernel_rfl) (hi:(H f).intr=0:=by kernel_rfl) (hb:fn.body.isSome=true:=by kernel_rfl)
  (hc:(Nat.ble args.length fn.ntmps&&Nat.ble hid.length 1000&&args.all (fun p => !p.isTup))=true:=by kernel_rfl):∃ v h,zAo P H f args hid v h∧Q v h:=by
 obtain ⟨n0,x,e1,lg1,h1,v,h',h2,h3⟩:=h
 exact ⟨v,h',zAe fn ⟨n0,x,e1,lg1,h1,h2⟩ hf hi hb hc,h3⟩
end
theorem zQw {f:PV→PV}:∀ l:List Int,zCt f (l.map I)=l.map I
 | []=>rfl
 | x::l=>by rw [List.map_cons,zCt,zQw l];rfl
theorem zQ7 {f:PV→PV}:∀ l:List Bool,zCt f (l.map PV.bool)=l.map PV.bool
 | []=>rfl
 | x::l=>by rw [List.map_cons,zCt,zQ7 l];rfl
theorem zS8 {α:Type} {g:α→PV} {l:List α} (h:0<l.length):zEX (.sl (l.map g))=true:=by
 cases l with
 | nil=>exact absurd h (Nat.lt_irrefl _)
 | cons x l=>rfl
theorem zNi {P:Program} {t:TypeId} {z:Nat} {α:Type} {g:α→PV} {l:List α} (hp:0<l.length) (h:zIj P t=true:=by kernel_rfl):zHt P .eql t (.sl (l.map g)) (.nils z)=some (.bool false):=by
 have:=zT4 (P:=P) (t:=t) (z:=z) (zS8 (g:=g) hp) rfl h
 simpa [zHt] using this
class FrzOf {α:Type} (g:α→PV) (g':outParam (α→PV)):Prop where
 frz:∀ x,zAV (g x)=g' x
theorem zA1 {α:Type} {g g':α→PV} [h:FrzOf g g'] (l:List α):zAv (l.map g)=l.map g':=zAW l h.frz
section
variable {α:Type} {g:α→PV} {l:List α} {i z:Nat} {b:PV} {u0:α}
end
end Go.Eng
namespace Go.Eng
open Go
theorem zWO [Yo] {P:Program} {H:zBh} {f:FuncId} {nt:Nat} {e:Env} {lg:Option Log} {K:X→Env→Option Log→Prop} {σ:Type} {c:Code} (Inv:σ→Prop) (upd:σ→List (Nat×PV)) (D:List Nat) (h1:W P H f nt (cl c) e lg fun x e' lg'=>match x with
   | .norm=>∃ s,Inv s∧e'=zLM (upd s) (e.drop D)∧lg'=lg
   | x=>K x e' lg') (h2:∀ s,Inv s→W P H f nt (cr c) (zLM (upd s) (e.drop D)) lg K) (hc:zTX c=true:=by kernel_rfl):W P H f nt c e lg K :=
 zAh (zQS h1 fun x e' lg' h=>by
  cases x with
  | norm=>obtain ⟨s,hs,rfl,rfl⟩:=h;exact h2 s hs
  | _=>exact h) hc
theorem blz (l:List PV):(0+l.length).ble l.length=true:=by rw [Nat.zero_add];exact Nat.ble_self_eq_true _
theorem frT {α:Type} (g:α→PV) (l:List α) (h:∀ x,zAV (g x)=g x:=by intro x;simp only [zAV,zAv,zFE,zFd,zH6]):PV.sl (zAv (List.take (List.map g l).length (List.drop 0 (List.map g l))))=PV.sl (List.map g l):=zKo (zA7 (zAW l h))
theorem frC {α:Type} (g g':α→PV) [FrzOf g g'] (l:List α):PV.sl (zAv (List.take (List.map g l).length (List.drop 0 (List.map g l))))=PV.sl (List.map g' l):=zKo (zA7 (zA1 l))
theorem lnS {α:Type} (g:α→PV) (l:List α):some (List.map g l).length=some l.length:=by rw [List.length_map]
theorem wrN (i:Nat) (h:(i:Int)+1<9223372036854775808:=by omega):PV.int IntKind.i64 (IntKind.i64.wrap ((i:Int)+1))=PV.int IntKind.i64 ((i+1:Nat):Int):=zCr (by omega) (by omega)
theorem zAd [Yo] {P:Program} {H:zBh} {f:FuncId} {nt:Nat} {e:Env} {lg:Option Log} {K:X→Env→Option Log→Prop} {c:Code} (m:Nat) (h:WS P H f (cl c) (0+m) (zWm (zHQ P H f (cl c) m 0 {dr:=bif zQ2 (cl c) then some ([],[]) else none,e:=e,lg:=lg})) (zYQ P H f nt (cr c) K .norm)) (h1:zTX c=true:=by kernel_rfl) (h2:zVK (cl c)=true:=by kernel_rfl) (h3:(zHQ P H f (cl c) m 0 {dr:=bif zQ2 (cl c) then some ([],[]) else none,e:=e,lg:=lg}).isSome=true:=by kernel_rfl) (h4:(0+m).ble (zFj (cl c)).size=true:=by kernel_rfl):W P H f nt c e lg K:=zAh (zAg (zAc m h h3 h4) h2) h1
abbrev zs (F:List Int) (i k:Nat):PV:=PV.int IntKind.i64 ((F.set i (i:Int)).getD k 0)
abbrev z8 (i:Nat):PV:=PV.int IntKind.i64 ((List.replicate 8 (0:Int)).getD i 0)
end Go.Eng
