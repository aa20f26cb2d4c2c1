/- For whatever news, cries and evenings, the law NewsLeft returns true and changes no argument: gaps, misled yz, when all is zD8 and when all is clear are as the reference tells them. -/
import Derived.Test.YtppbomajegnkeaaGreatPc
import Derived.Test.YtppbomajegnkeaaGreatPa
import Derived.KernelRfl
import Derived.IntWalk
set_option linter.unusedVariables false
set_option linter.unusedSimpArgs false
set_option linter.unusedSectionVars false
namespace Go.Eng
open Go
section
variable {P:Program} {H:zBf} {w0 w:World} {U Φ0 Φ:Nat→Prop} {nt:Nat} {hv:Hid} {a:Act} {e e':Env} {rv:Nat→Value} {E:Nat→PV} {L:Nat→List Nat} {o:zAA}
theorem zWf (S:St w0 U Φ0 nt hv a w e Φ rv E L) {g:Nat} (hg:zAe≤g) {k:PV→PM} {k2:PM} (h:(zSB (E g) k k2).run o e=some e') :
  k2.run o e=some e'∨∃ e1 rv1 E1,(k (E1 g)).run o e1=some e'∧Worked w0 U Φ0 nt hv a w rv E g e1 rv1 E1:=by
 have hO:=S.conf.rep g
 have fin:∀ {r:Nat} {pre:zAP} {q root p':PV} (hr:r<zAe) (yF:(E r).unlock=E r) (hq:zAw (E r) pre=some q) (h1:q.oneCell=true) (hm:zAs (fun _=>some .bad) (E r) pre=some root),
   (E g).oneCell=true→p'.oneCell=true→(∀ nv Li,zAM w (rv r) (E r) pre=some (nv,q)→Rep w Φ (zA0 w rv E) q nv Li→Li.Nodup→∃ Lg,Rep w Φ (zA0 w rv E) p' (rv g) Lg∧Lg.Nodup∧∀ b∈Lg,b∈Li) →
   (k p').run o (e.set r root)=some e'→∃ e1 rv1 E1,(k (E1 g)).run o e1=some e'∧Worked w0 U Φ0 nt hv a w rv E g e1 rv1 E1:=by
  intro r pre q root p' hr yF hq h1 hm uX jg y7 hk
  obtain ⟨kk1,kk2⟩:=zBF (q' := .bad) rfl rfl hm
  obtain ⟨nv,Li,g1,g2,g3,g4,g5⟩:=S.taken hg hr yF hq h1 hm kk1 kk2
  obtain ⟨Lg,p1,p2,p3⟩:=y7 nv Li g1 g2 g3
  obtain ⟨L',S1,v9⟩:=g5 p' (rv g) Lg p1 p2 (fun b hb => .inl (p3 b hb))
  have jI:∀ s,upd rv g (rv g) s=rv s:=fun s=>by
   by_cases hs:s=g
   ·subst hs;rw [zAj]
   ·rw [zAg hs]
  refine ⟨_,_,_,by rw [zAj];exact hk,⟨⟨_,_,S1⟩,jI g,fun s _=>jI s,fun s hs hI=>⟨by rw [zAg hI,zAg (by omega)],jI s⟩,?_,?_⟩⟩
  ·rw [zAj,(zBd jg).2,(zBd uX).2]
  ·rw [zAj,(zBd jg).1,(zBd uX).1];rfl
 generalize hE:E g=p at h
 rw [hE] at hO
 simp only [zSB] at h
 split at h
 ·rename_i r pre z lo n
  obtain ⟨q,hq,h1⟩:=zBE h
  obtain ⟨_,hr,⟨b,cap,yG,_⟩,hn⟩:=hO
  split at h1
  ·rename_i sz xs
   cases hc:Nat.ble (lo+n) xs.length with
   | false=>rw [hc] at h1;exact .inl h1
   | true =>
    rw [hc] at h1;simp only [cond_true] at h1
    obtain ⟨root,hl,hm,h2⟩:=zBQ h1
    have yF:=zBu hl
    rw [yF,← S.env r hr] at hq
    rw [← S.env r hr] at yF hm
    refine .inr (fin hr yF hq rfl hm (by rw [hE];rfl) rfl (fun nv Li hf uZ yX=>?_) h2)
    obtain ⟨s2,xs2,q1,q2,q3⟩:=hn nv _ (by rw [yF];exact hf) rfl
    cases q1;subst q2
    obtain ⟨Lg,p1,p2,p3⟩:=zIE uZ (Nat.le_of_ble_eq_true hc) q3
    exact ⟨Lg,p1,p3 yX,p2⟩
  ·exact .inl h1
 ·rename_i r pre sh
  obtain ⟨q,hq,h1⟩:=zBE h
  obtain ⟨_,hr,b,yG,y4,hn⟩:=hO
  split at h1
  ·rename_i q
   obtain ⟨root,hl,hm,h2⟩:=zBQ h1
   have yF:=zBu hl
   rw [yF,← S.env r hr] at hq
   rw [← S.env r hr] at yF hm
   refine .inr (fin hr yF hq rfl hm (by rw [hE];rfl) rfl (fun nv Li hf uZ yX=>?_) h2)
   refine ⟨Li,?_,yX,fun b hb=>hb⟩
   have hrp':=uZ
   obtain ⟨x,c,u,L',h3,h4,h5,_⟩:=hrp'
   have h6:nv=rv g:=by
    rw [yG,h4]
    have:=hn nv _ (by rw [yF];exact hf) x (by rw [h4];cases x;simp_all [zA2,zAq])
    rw [this]
   rw [← h6];exact uZ
  ·exact .inl h1
 ·rename_i r pre
  obtain ⟨q,hq,h1⟩:=zBE h
  obtain ⟨_,hr,⟨b,yG⟩,hn⟩:=hO
  split at h1
  ·rename_i es
   obtain ⟨root,hl,hm,h2⟩:=zBQ h1
   have yF:=zBu hl
   rw [yF,← S.env r hr] at hq
   rw [← S.env r hr] at yF hm
   refine .inr (fin hr yF hq rfl hm (by rw [hE];rfl) rfl (fun nv Li hf uZ yX=>⟨Li,?_,yX,fun b hb=>hb⟩) h2)
   rw [hn nv _ (by rw [yF];exact hf) _ rfl];exact uZ
  ·exact .inl h1
 ·exact .inl h
theorem zNf (S:St w0 U Φ0 nt hv a w e Φ rv E L) {g:Nat} (hg:zAe≤g) {frz:Bool} {k:PV→PM} (h:(zFA frz (E g) k).run o e=some e'):∃ e1 rv1 E1,(k (E1 g)).run o e1=some e'∧Worked w0 U Φ0 nt hv a w rv E g e1 rv1 E1:=by
 have iced:(zLS zAm zDq (E g) k).run o e=some e'→∃ e1 rv1 E1,(k (E1 g)).run o e1=some e'∧Worked w0 U Φ0 nt hv a w rv E g e1 rv1 E1:=by
  intro h
  obtain ⟨e1,Φ1,E1,L1,h1,S1,h2,h3,h4,h5,h6,h7⟩:=zJP (hb:=zAm) hg (by decide) zDq S h
  exact ⟨e1,rv,E1,h1,⟨⟨_,_,S1⟩,rfl,fun _ _=>rfl,fun s hs hI=>⟨h3 s hs hI,rfl⟩,h6,h7⟩⟩
 simp only [zFA] at h
 cases hc:(frz||(E g).ways.any fun w=>Nat.ble zAm w.1) with
 | true=>rw [hc] at h;exact iced h
 | false =>
  rw [hc] at h;simp only [cond_false] at h
  rcases zWf S hg h with h | h
  ·exact iced h
  ·exact h
theorem zKO {frz:Bool}:∀ (ps:List PV) (i:Nat) {k:List PV→PM} {e:Env} {Φ:Nat→Prop} {rv:Nat→Value} {E:Nat→PV} {L:Nat→List Nat},St w0 U Φ0 nt hv a w e Φ rv E L→(∀ (j:Nat) (p:PV),ps[j]? = some p→E (zAe+i+j)=p)→(zCk frz ps k).run o e=some e' →
  ∃ e1 Φ1 rv1 E1 L1 qs,(k qs).run o e1=some e'∧St w0 U Φ0 nt hv a w e1 Φ1 rv1 E1 L1∧qs.length=ps.length∧(∀ (j:Nat) (q:PV),qs[j]? = some q→E1 (zAe+i+j)=q∧rv1 (zAe+i+j)=rv (zAe+i+j)) ∧
   (∀ s,s<zAe→rv1 s=rv s)∧∀ s,zAe≤s→(s<zAe+i∨zAe+i+ps.length≤s)→E1 s=E s∧rv1 s=rv s
 | [],i,k,e,Φ,rv,E,L,S,hp,h=>⟨e,Φ,rv,E,L,[],h,S,rfl,by simp,fun _ _=>rfl,fun _ _ _=>⟨rfl,rfl⟩⟩
 | p :: ps,i,k,e,Φ,rv,E,L,S,hp,h=>by
  simp only [zCk] at h
  have hE:=hp 0 p rfl
  simp only [Nat.add_zero] at hE
  rw [← hE] at h
  obtain ⟨e1,rv1,E1,h1,W⟩:=zNf S (g:=zAe+i) (by omega) h
  obtain ⟨Φ1,L1,S1⟩:=W.st
  obtain ⟨e2,Φ2,rv2,E2,L2,qs,h2,S2,h3,h4,h5,h6⟩:=zKO ps (i+1) S1 (fun j q hq=>by
   rw [(W.rest _ (by omega) (by omega)).1,show zAe+(i+1)+j=zAe+i+(j+1) by omega];exact hp (j+1) q (by simpa using hq)) h1
  refine ⟨e2,Φ2,rv2,E2,L2,E1 (zAe+i)::qs,h2,S2,by simp [h3],fun j q hq=>?_,fun s hs=>(h5 s hs).trans (W.low s hs),fun s hs jq=>?_⟩
  ·cases j with
   | zero =>
    simp at hq;subst hq
    obtain ⟨k1,k2⟩:=h6 (zAe+i) (by omega) (.inl (by omega))
    simp only [Nat.add_zero]
    exact ⟨k1,k2.trans W.val⟩
   | succ j =>
    obtain ⟨k1,k2⟩:=h4 j q (by simpa using hq)
    rw [show zAe+(i+1)+j=zAe+i+(j+1) by omega] at k1 k2
    exact ⟨k1,k2.trans (W.rest _ (by omega) (by omega)).2⟩
  ·obtain ⟨k1,k2⟩:=h6 s hs (by simp at jq;omega)
   obtain ⟨k3,k4⟩:=W.rest s hs (by simp at jq;omega)
   exact ⟨k1.trans k3,k2.trans k4⟩
theorem zKP (C:Conf w0 U Φ0 w Φ rv E L):∀ (qs:List PV) (vs:List Value) (i:Nat),vs.length=qs.length→(∀ (j:Nat) (q:PV) (v:Value),qs[j]? = some q→vs[j]? = some v→E (i+j)=q∧rv (i+j)=v) →
  ∃ Lp,zAX w Φ (zA0 w rv E) qs vs Lp∧Lp.Nodup∧∀ b∈Lp,∃ t,i≤t∧t<i+qs.length∧b∈L t
 | [],vs,i,hl,h=>by
  have:vs=[]:=List.eq_nil_of_length_eq_zero (by simpa using hl)
  subst this;exact ⟨[],⟨rfl,rfl⟩,List.nodup_nil,by simp⟩
 | q :: qs,vs,i,hl,h=>by
  match vs,hl,h with
  | v :: vs,hl,h =>
   obtain ⟨h1,h2⟩:=h 0 q v rfl rfl
   simp only [Nat.add_zero] at h1 h2
   obtain ⟨Lp,k1,k2,k3⟩:=zKP C qs vs (i+1) (by simpa using hl) fun j q' v' hq hv=>by
    rw [show i+1+j=i+(j+1) by omega];exact h (j+1) q' v' (by simpa using hq) (by simpa using hv)
   have hr:=C.rep i
   rw [h1,h2] at hr
   refine ⟨L i++Lp,⟨v,vs,_,_,rfl,rfl,hr,k1⟩,?_,fun b hb=>?_⟩
   ·rw [List.nodup_append]
    refine ⟨C.nodup i,k2,fun x hx y hy e=>?_⟩
    obtain ⟨t,k4,k5,k6⟩:=k3 y hy
    exact C.disj i t (by omega) x hx (e▸k6)
   ·rcases List.mem_append.1 hb with hb | hb
    ·exact ⟨i,Nat.le_refl _,by simp,hb⟩
    ·obtain ⟨t,k4,k5,k6⟩:=k3 b hb
     exact ⟨t,by omega,by simp;omega,k6⟩
theorem zM1 (S:St w0 U Φ0 nt hv a w e Φ rv E L) {j g:Nat} (hj:j<1000) (hg:zAe≤g) (hb:∀ s,zAe≤s→s≠g→E s = .bad) {k:PM} (h:(lay (zAx+j) (E g) k).run o e=some e') :
  ∃ e1 E1 L1,k.run o e1=some e'∧St w0 U Φ0 nt hv a w e1 Φ (upd rv (zAx+j) (rv g)) E1 L1∧zBh E1:=by
 have hh:zAm=50000000:=rfl
 have ho:zAx=60000000:=rfl
 have wT:zAe=1000000000:=rfl
 have jh:=S.small
 obtain ⟨e1,E1,L1,h1,C,h2,h3,h4,h5,h6⟩:=zRZ S (d:=zAx+j) (by omega) hg h
 have ud:∀ d ps,d≠zAx+j→d<zAe→E1 d = .tup ps→∃ ps',E d = .tup ps'∧ps'.length=ps.length:=by
  intro d ps hd uh hp
  rcases h3 d hd uh with h7 | h7
  ·exact ⟨ps,by rw [← h7,hp],rfl⟩
  ·rw [h7] at hp;exact zD1 (zIy _ _) hp
 refine ⟨e1,E1,L1,h1,⟨C,h2,S.size,S.small,fun t ht=>?_,fun d ps i hd hp hi=>?_,fun s h7 h8=>?_,S.dfr⟩,fun s hs=>?_⟩
 ·rw [zAg (by omega)];exact S.tmps t ht
 ·obtain ⟨ps',h7,h8⟩:=ud d ps (by omega) (by omega) hp
  obtain ⟨h9,vs,jP,vF⟩:=S.parts d ps' i hd h7 (by omega)
  refine ⟨h9,vs,by rw [zAg (by omega)];exact jP,?_⟩
  rw [zAg (by simp only [zBm];omega)];exact vF
 ·rw [zAg (by omega)];exact S.hid s h7 h8
 ·by_cases ya:s=g
  ·subst ya;exact h5
  ·rcases h6 s hs ya with h7 | h7
   ·rw [h7];exact hb s hs ya
   ·rw [h7,hb s hs ya];rfl
theorem zWz (S:St w0 U Φ0 nt hv a w e Φ rv E L) (hb:zBh E) {frz:Bool} {j:Nat} (hj:j<1000) {p:PV} {v:Value} (hp:Rep w Φ (zA0 w rv E) p v []) {k:PM} (h:(zGE frz p fun q=>lay (zAx+j) q k).run o e=some e') :
  ∃ e1 Φ1 rv1 E1 L1,k.run o e1=some e'∧St w0 U Φ0 nt hv a w e1 Φ1 rv1 E1 L1∧zBh E1∧rv1 (zAx+j)=v∧∀ s,s<zAe→s≠zAx+j→rv1 s=rv s:=by
 have ho:zAx=60000000:=rfl
 have wT:zAe=1000000000:=rfl
 have single:(zFA frz p fun q=>lay (zAx+j) q k).run o e=some e'→∃ e1 Φ1 rv1 E1 L1,k.run o e1=some e'∧St w0 U Φ0 nt hv a w e1 Φ1 rv1 E1 L1∧zBh E1∧rv1 (zAx+j)=v∧∀ s,s<zAe→s≠zAx+j→rv1 s=rv s:=by
  intro h
  have S1:=S.hold (g:=zAe) (Nat.le_refl _) hp
  obtain ⟨e1,rv1,E1,h1,W⟩:=zNf S1 (g:=zAe) (Nat.le_refl _) (by rw [zAj];exact h)
  obtain ⟨Φ1,L1,S2⟩:=W.st
  obtain ⟨e2,E2,L2,h2,S3,qa⟩:=zM1 S2 hj (Nat.le_refl zAe) (fun s hs hI=>by rw [(W.rest s hs hI).1,zAg hI];exact hb s hs) h1
  refine ⟨e2,Φ1,_,E2,L2,h2,S3,qa,?_,fun s hs hI=>?_⟩
  ·rw [zAj,W.val,zAj]
  ·rw [zAg hI,W.low s hs,zAg (by omega)]
 simp only [zGE] at h
 split at h
 ·rename_i cs
  obtain ⟨vs,rfl,hr⟩:=hp
  obtain ⟨rv1,E1,L1,S1,k1,k2,k3⟩:=zK7 cs vs.toList 1 S hr
  have yN:=hr.length
  have yU:∀ (j:Nat) (p:PV),cs[j]? = some p→∃ v,vs.toList[j]? = some v:=fun j p hj=>⟨_,List.getElem?_eq_getElem (by have:=(List.getElem?_eq_some_iff.1 hj).1;omega)⟩
  obtain ⟨e2,Φ2,rv2,E2,L2,qs,h2,S2,h3,h4,h5,h6⟩:=zKO cs 1 S1 (fun j p hjp=>by
   obtain ⟨v,yG⟩:=yU j p hjp
   exact (k2 j p v hjp yG).1) h
  have vH:∀ s,zAe≤s→(s<zAe+1∨zAe+1+cs.length≤s)→E2 s = .bad:=fun s hs jq=>by
   rw [(h6 s hs jq).1,(k3 s hs jq).1];exact hb s hs
  have gX:∀ (j:Nat) (q:PV) (v:Value),qs[j]? = some q→vs.toList[j]? = some v→E2 (zAe+1+j)=q∧rv2 (zAe+1+j)=v:=fun j q v hq yG=>by
   obtain ⟨m1,m2⟩:=h4 j q hq
   have jb:j<cs.length:=by have:=(List.getElem?_eq_some_iff.1 hq).1;omega
   have:=k2 j _ v (List.getElem?_eq_getElem jb) yG
   exact ⟨m1,m2.trans this.2.1⟩
  obtain ⟨Lp,r1,r2,r3⟩:=zKP S2.conf qs vs.toList (zAe+1) (by omega) gX
  have hG:∀ s,decide (zAe+1≤s∧s<zAe+1+cs.length)=true↔zAe+1≤s∧s<zAe+1+cs.length:=fun s=>decide_eq_true_iff
  have hc:=S2.conf.make (w':=w) (fun s=>decide (zAe+1≤s∧s<zAe+1+cs.length)) (fun s hs=>by have:=(hG s).1 hs;omega) (g:=zAe) (Nat.le_refl _) (p := .agg qs) (v := .agg vs) (Lp:=Lp)
   (fun A hA=>⟨vs,rfl,r1.mono zDb.refl hA (fun _ _=>rfl)⟩) r2 (fun b hb=>by
    obtain ⟨t,q1,q2,q3⟩:=r3 b hb
    exact .inl ⟨t,q3,(hG t).2 ⟨q1,by omega⟩⟩) (Nat.le_refl _) (fun _ _ _=>rfl) ⟨rfl,rfl,rfl⟩
  have yt:∀ s,s<zAe→decide (zAe+1≤s∧s<zAe+1+cs.length)=false:=fun s hs=>decide_eq_false (by omega)
  have S3:=S2.turn (e':=e2) hc (fun s hs=>by
   rw [zAg (by omega)]
   simp only [yt s hs,Bool.false_eq_true,if_false];exact S2.env s hs) (fun s hs=>zAg (by omega)) (fun d ps hd hp=>by
   rw [zAg (by omega)] at hp
   simp only [yt d (by omega),Bool.false_eq_true,if_false] at hp;exact ⟨ps,hp,rfl⟩)
  obtain ⟨e4,E4,L4,m1,S4,m2⟩:=zM1 S3 hj (Nat.le_refl zAe) (fun s hs hI=>by
   rw [zAg hI]
   by_cases h7:s<zAe+1+cs.length
   ·simp only [(hG s).2 ⟨by omega,h7⟩,if_true]
   ·have:decide (zAe+1≤s∧s<zAe+1+cs.length)=false:=decide_eq_false (by omega)
    simp only [this,Bool.false_eq_true,if_false];exact vH s hs (by omega)) (by rw [zAj];exact h2)
  refine ⟨e4,Φ2,_,E4,L4,m1,S4,m2,?_,fun s hs hI=>?_⟩
  ·rw [zAj,zAj]
  ·rw [zAg hI,zAg (by omega),h5 s hs,(k1 s hs).2]
 ·exact single h
def zXB (nt:Nat):ResultVar→Bool
 | .tmp t=>Nat.blt t nt
 | .cell t _=>Nat.blt t nt
def zG0 (a:Act):ResultVar→Sem Value
 | .tmp t=>pure (a.tmps.getD t undef)
 | .cell t ty=>do loadVar ty (← asAddr (a.tmps.getD t undef))
theorem zMG {frz:Bool}:∀ (rs:List ResultVar) (j:Nat) {e:Env} {Φ:Nat→Prop} {rv:Nat→Value} {E:Nat→PV} {L:Nat→List Nat},St w0 U Φ0 nt hv a w e Φ rv E L→zBh E→j+rs.length≤1000→(∀ x∈rs,zXB nt x=true)→(zCD P frz j rs).run o e=some e' →
  ∃ Φ1 rv1 E1 L1,St w0 U Φ0 nt hv a w e' Φ1 rv1 E1 L1∧zBh E1∧(∀ s,s<zAx+j→rv1 s=rv s)∧∀ (i:Nat) (x:ResultVar),rs[i]? = some x→(zG0 a x).run P w = .ok (rv1 (zAx+j+i)) w
 | [],j,e,Φ,rv,E,L,S,hb,hj,hr,h=>by
  simp only [zCD,PM.run,Option.some.injEq] at h;subst h
  exact ⟨Φ,rv,E,L,S,hb,fun _ _=>rfl,by simp⟩
 | x :: rs,j,e,Φ,rv,E,L,S,hb,hj,hr,h=>by
  have ho:zAx=60000000:=rfl
  have wT:zAe=1000000000:=rfl
  simp only [List.length_cons] at hj
  have hx:=hr x (by simp)
  have fin:∀ {p:PV} {v:Value},Rep w Φ (zA0 w rv E) p v []→(zG0 a x).run P w = .ok v w→(zGE frz p fun q=>lay (zAx+j) q (zCD P frz (j+1) rs)).run o e=some e' →
    ∃ Φ1 rv1 E1 L1,St w0 U Φ0 nt hv a w e' Φ1 rv1 E1 L1∧zBh E1∧(∀ s,s<zAx+j→rv1 s=rv s)∧∀ (i:Nat) (y:ResultVar),(x::rs)[i]? = some y→(zG0 a y).run P w = .ok (rv1 (zAx+j+i)) w:=by
   intro p v hp yG h
   obtain ⟨e1,Φ1,rv1,E1,L1,h1,S1,y6,h2,h3⟩:=zWz S hb (by omega) hp h
   obtain ⟨Φ2,rv2,E2,L2,S2,j2,h4,h5⟩:=zMG rs (j+1) S1 y6 (by omega) (fun y hy=>hr y (by simp [hy])) h1
   refine ⟨Φ2,rv2,E2,L2,S2,j2,fun s hs=>(h4 s (by omega)).trans (h3 s (by omega) (by omega)),fun i y hy=>?_⟩
   cases i with
   | zero =>
    simp at hy;subst hy
    rw [Nat.add_zero,h4 _ (by omega),h2];exact yG
   | succ i =>
    rw [show zAx+j+(i+1)=zAx+(j+1)+i by omega]
    exact h5 i y (by simpa using hy)
  cases x with
  | tmp t =>
   have uP:t<nt:=zBX hx
   have yf:t<zAe:=Nat.lt_of_lt_of_le uP (Nat.le_trans S.small (by decide))
   simp only [zCD,PM.run] at h
   rw [← S.env t yf] at h
   exact fin (S.conf.view yf) (by simp only [zG0,Sem.run_pure];rw [S.tmps t uP]) h
  | cell t ty =>
   have uP:t<nt:=zBX hx
   have yf:t<zAe:=Nat.lt_of_lt_of_le uP (Nat.le_trans S.small (by decide))
   simp only [zCD] at h
   obtain ⟨sh,j3,h1⟩:=zBz h
   simp only [PM.run] at h1
   rw [← S.env t yf] at h1
   have yG:=S.conf.view yf
   split at h1
   ·rename_i r pre i c s' uc
    rw [uc] at yG
    obtain ⟨b,u,q,q1,q2,q3,q4⟩:=zK0 (P:=P) S j3 yG h1
    exact fin q4 (by simp only [zG0,Sem.run_bind];rw [S.tmps t uP,q1];simp [asAddr,q2]) q3
   ·cases h1
end
end Go.Eng
namespace Go.Eng
open Go
def zVp (P:Program) (fn:Func):Bool :=
 match fn.body with
 | none=>true
 | some c=>zCA P fn.ntmps c&&fn.results.toList.all (zXB fn.ntmps)&&Nat.ble fn.ntmps 2000000&&Nat.ble fn.results.size 1000
section
variable {P:Program} {H:zBf} {w:World} {orc:zAA} {yo:zCJ}
theorem zIV {α β:Type} {f:α→Sem β}:∀ (l:List α) (vs:List β),l.length=vs.length→(∀ (i:Nat) (x:α) (v:β),l[i]? = some x→vs[i]? = some v→(f x).run P w = .ok v w)→(l.mapM f).run P w = .ok vs w
 | [],[],_,_=>rfl
 | [],_::_,h,_=>by cases h
 | _::_,[],h,_=>by cases h
 | x::l,v::vs,h,hf=>by
  simp only [List.mapM_cons,Sem.run_bind,hf 0 x v rfl rfl,Result.andThen_ok,zIV l vs (by simpa using h) (fun i y u hy hu=>hf (i+1) y u (by simpa using hy) (by simpa using hu)),Sem.run_pure]
theorem zNQ {fn:Func} {a:Act} {vs:List Value} (hl:fn.results.size=vs.length) (h:∀ (i:Nat) (x:ResultVar) (v:Value),fn.results.toList[i]? = some x→vs[i]? = some v→(zG0 a x).run P w = .ok v w) :
  (results fn a.tmps).run P w = .ok (if h:vs.toArray.size=1 then vs.toArray[0] else .tuple vs.toArray) w:=by
 have h1:=zIV (P:=P) (w:=w) (f:=zG0 a) fn.results.toList vs (by simpa using hl) h
 have h2:(fn.results.mapM (zG0 a)).run P w = .ok vs.toArray w:=by
  rw [Array.mapM_eq_mapM_toList]
  simp only [Sem.run_map,h1,Result.andThen_ok]
 have h3:(fun | .tmp t=>pure (a.tmps.getD t undef) | .cell t ty=>do loadVar ty (← asAddr (a.tmps.getD t undef)):ResultVar→Sem Value)=zG0 a:=by
  funext x;cases x<;>rfl
 simp only [results,Sem.run_bind]
 have h4:(fn.results.mapM (fun | .tmp t=>pure (a.tmps.getD t undef) | .cell t ty=>do loadVar ty (← asAddr (a.tmps.getD t undef)):ResultVar→Sem Value)).run P w = .ok vs.toArray w:=by rw [h3];exact h2
 erw [h4]
 rfl
theorem zI1 {fn:Func} {tmps:Array Value} {R:Ending→World→Prop}:∀ (ds:List Deferred) (w:World),(∀ d∈ds,∃ D,d.target = .collected D∧w.heap[D]? = some (.deferred (some [])))→ds.Pairwise (fun d d'=>∀ D D',d.target = .collected D→d'.target = .collected D'→D≠D') →
  (∀ w',w'.heap.size=w.heap.size→(∀ b,(∀ d∈ds,d.target ≠ .collected b)→w'.heap[b]? = w.heap[b]?)→(w'.os=w.os∧w'.tape=w.tape∧w'.output=w.output)→LeavesIn (FF none) 0 P fn tmps R [] .returning w')→LeavesInM (FF none) 0 P fn tmps R ds .returning w
 | [],w,_,_,h=>h w rfl (fun _ _=>rfl) ⟨rfl,rfl,rfl⟩
 | d :: ds,w,h1,h2,h=>by
  obtain ⟨D,q1,q2⟩:=h1 d (by simp)
  obtain ⟨p1,p2⟩:=List.pairwise_cons.1 h2
  refine ⟨by simp,.inl ⟨D,_,q1,run_takeDeferred q2,zI1 ds _ (fun d' hd=>?_) p2 fun w' g1 g2 g3=>?_⟩⟩
  ·obtain ⟨D',r1,r2⟩:=h1 d' (by simp [hd])
   exact ⟨D',r1,(World.putObj_heap_other (Ne.symm (p1 d' hd D D' q1 r1))).trans r2⟩
  ·refine h w' (g1.trans (by simp)) (fun b hb=>(g2 b fun d' hd=>hb d' (by simp [hd])).trans (World.putObj_heap_other fun e=>hb d (by simp) (e▸q1))) g3
theorem zWc (zEW:P.follows .mixedOrders=true) (jG:zGj P orc) (hnm:zEH P) (qj:zM8 P yo) {f:FuncId} {fn:Func} {body:Code} {n:Nat} {args hid hZ:List PV} {v:PV} (hf:P.funcs[f]? = some fn) (yW:fn.body=some body) (hwf:zVp P fn=true) (h:zJw P H orc yo zB3 n f fn body args hid=some (v,hZ)) :
    zFz P f args hid v hZ:=by
  have ho:zAx=60000000:=rfl
  have hh:zAm=50000000:=rfl
  have wT:zAe=1000000000:=rfl
  simp only [zVp,yW,Bool.and_eq_true] at hwf
  obtain ⟨⟨⟨jJ,y8⟩,ua⟩,jV⟩:=hwf
  have ua:=Nat.le_of_ble_eq_true ua
  have jV:=Nat.le_of_ble_eq_true jV
  simp only [zJw] at h
  cases hc:(Nat.ble args.length fn.ntmps&&Nat.ble hid.length 1000&&args.all fun p => !p.isTup) with
  | false=>rw [hc] at h;cases h
  | true =>
    rw [hc] at h;simp only [cond_true] at h
    simp only [Bool.and_eq_true] at hc
    obtain ⟨⟨yL,u9⟩,ud⟩:=hc
    have yL:=Nat.le_of_ble_eq_true yL
    have u9:=Nat.le_of_ble_eq_true u9
    have key : ∀ x e1,exec P H orc yo zB3 fn.ntmps (H f) n body (zA4 args hid) none=some (x,e1,none)→(x = .norm∨x = .ret)→∀ e',(zCD P (H f).frz 0 fn.results.toList).run orc e1=some e' →
        (bif Nat.beq fn.results.size 1&&(e'.get zAx).isTup then none else some (zVO e' fn.results.size,(List.range hid.length).map fun j=>e'.get (zAm+j)))=some (v,hZ)→zFz P f args hid v hZ:=by
      intro x e1 hx gU e' wE ye w Φ rv E L vs hE kd C yI yp j9
      refine callsIn_wide.1 (callsIn_of_wp_marks (n:=0) hf yW trivial ?_)
      have hntm:vs.size+(fn.ntmps-vs.size)=fn.ntmps:=by omega
      have S:St w (fun b=>∃ s,b∈L s) Φ fn.ntmps ⟨rv,[]⟩ {tmps:=vs++Array.replicate (fn.ntmps-vs.size) undef,defers:=[]} w (zA4 args hid) Φ rv E L:=by
        refine ⟨C,hE,by simp;omega,ua,fun t ht=>?_,fun d ps i hd hp hi=>?_,fun _ _ _=>rfl,rfl⟩
        · simp only [Array.getD_eq_getD_getElem?,Array.getElem?_append]
          by_cases h1:t<vs.size
          · rw [if_pos h1,yp t (by omega)];rfl
          · rw [if_neg h1,Array.getElem?_replicate,if_pos (by omega),j9 t (by omega) (by omega)];rfl
        · rw [hE d (by omega),zDa (by omega)] at hp
          split at hp
          · rename_i v4
            have:(args.getD d .bad)∈args:=by
              simp only [List.getD,List.getElem?_eq_getElem v4,Option.getD_some];exact List.getElem_mem v4
            have:=List.all_eq_true.1 ud _ this
            rw [hp] at this;cases this
          · split at hp
            · omega
            · cases hp
      have hw:=zHP (zXD jG hnm) zEW n body (.inr (zWG zEW jG hnm qj)) jJ (fun _ _=>trivial) rfl (⟨rfl,w,_,Φ,[],Rel.refl,⟨fun _ h=>(by cases h),.nil⟩,Φ,rv,E,L,S,kd⟩:GB w (fun b=>∃ s,b∈L s) Φ fn.ntmps rv _ w _ none) hx
      refine wpIn_mono hw fun ex a' w1 ⟨wB,_,wz,Uz,Φz,ds,wx,wU,Φ1,rv1,E1,L1,Sz,y6⟩=>?_
      have ue:LeavesInM (FF none) 0 P fn a'.tmps (fun e w'=>∃ u Φ' rv' E' L',e = .returned u∧Conf w (fun b=>∃ s,b∈L s) Φ w' Φ' rv' E' L'∧hZ.length=hid.length ∧
          (∀ j,j<hid.length→E' (zAm+j)=hZ.getD j .bad∧rv' (zAm+j)=rv (zAm+j))∧Gave v u rv' E') a'.defers .returning w1:=by
       rw [Sz.dfr]
       have gY:∀ d∈ds,∀ D,d.target = .collected D→(∀ s,D∉L1 s)∧¬ Φ1 D∧w.heap.size≤D:=by
         intro d hd D hD
         obtain ⟨D',q1,q0,q2,q3,q4,q5⟩:=wU.each d hd
         rw [q1] at hD;cases hD
         refine ⟨fun s hs=>?_,fun h=>?_,q0⟩
         · rcases (Sz.conf.own s D hs).2.2 with h | h
           · exact q4 h
           · omega
         · rcases (Sz.conf.frz D h).2 with h | h | h
           · exact q5 h
           · exact q4 h
           · omega
       refine zI1 ds w1 (fun d hd=>?_) wU.apart fun w' m1 m2 m3=>?_
       · obtain ⟨D,q1,_,q2,q3,q4,_⟩:=wU.each d hd
         exact ⟨D,q1,(Sz.conf.kept D q2 q4).trans q3⟩
       have C1:Conf w (fun b=>∃ s,b∈L s) Φ w' Φ1 rv1 E1 L1:=(Sz.conf.rebase wx).moved (by omega) (fun s b hb=>m2 b fun d hd h=>(gY d hd b h).1 s hb) (fun b hb=>m2 b fun d hd h=>(gY d hd b h).2.1 hb) (fun b hb _=>m2 b fun d hd h=>by have:=(gY d hd b h).2.2;omega) m3
       have S1:St w (fun b=>∃ s,b∈L s) Φ fn.ntmps ⟨rv,ds⟩ a' w' e1 Φ1 rv1 E1 L1:=Sz.with C1
       obtain ⟨Φ2,rv2,E2,L2,S2,j2,_,h3⟩:=zMG fn.results.toList 0 S1 y6 (by simpa using jV) (fun y hy=>List.all_eq_true.1 y8 y hy) wE
       let us:List Value:=(List.range fn.results.size).map fun i=>rv2 (zAx+i)
       have yA:=zNQ (P:=P) (w:=w') (fn:=fn) (a:=a') (vs:=us) (by simp [us]) (fun i y u hy hu=>by
         have:=h3 i y hy
         rw [Nat.add_zero] at this
         rw [this]
         have hi:i<fn.results.size:=by have:=(List.getElem?_eq_some_iff.1 hy).1;simpa using this
         simp only [us,List.getElem?_map,List.getElem?_range hi,Option.map_some,Option.some.injEq] at hu
         rw [hu])
       refine ⟨_,yA,_,Φ2,rv2,E2,L2,rfl,S2.conf,?_⟩
       have hv:v=zVO e' fn.results.size∧hZ=(List.range hid.length).map fun j=>e'.get (zAm+j):=by
         revert ye
         cases (Nat.beq fn.results.size 1&&(e'.get zAx).isTup) with
         | true=>intro h;cases h
         | false=>intro h;simp only [cond_false,Option.some.injEq,Prod.mk.injEq] at h;exact ⟨h.1.symm,h.2.symm⟩
       obtain ⟨uq,ke⟩:=hv
       refine ⟨by rw [ke];simp,fun j hj=>⟨?_,S2.hid _ (by omega) (by omega)⟩,?_⟩
       · rw [S2.env _ (by omega),ke]
         simp [List.getD,hj]
       · by_cases h1:fn.results.size=1
         · have ua:(e'.get zAx).isTup=false:=by
             revert ye
             cases hb:(e'.get zAx).isTup with
             | true=>simp [h1]
             | false=>intro _;rfl
           have hv3:v=e'.get zAx:=by rw [uq,zVO,if_pos h1]
           have wQ:us=[rv2 zAx]:=by simp only [us,h1];rfl
           refine ⟨fun _=>⟨by rw [S2.env _ (by omega),hv3],?_⟩,fun ps yc=>?_⟩
           · rw [wQ];rfl
           · rw [hv3] at yc;rw [yc] at ua;cases ua
         · have hv3:v = .tup ((List.range fn.results.size).map fun j=>e'.get (zAx+j)):=by rw [uq,zVO,if_neg h1]
           refine ⟨fun h=>absurd hv3 (h _),fun ps yc=>?_⟩
           rw [hv3] at yc
           simp only [PV.tup.injEq] at yc
           subst yc
           refine ⟨us.toArray,?_,by simp [us],fun j p hj=>?_⟩
           · rw [dif_neg (by simpa [us] using h1)]
           · simp only [List.getElem?_map] at hj
             cases hr:(List.range fn.results.size)[j]? with
             | none=>rw [hr] at hj;cases hj
             | some k =>
               rw [hr] at hj;simp only [Option.map_some,Option.some.injEq] at hj
               obtain ⟨jD,kf⟩:=List.getElem?_eq_some_iff.1 hr
               simp only [List.getElem_range] at kf
               subst kf
               simp only [List.length_range] at jD
               exact ⟨by rw [S2.env _ (by omega)];exact hj,by simp [us,jD]⟩
      subst wB
      rcases gU with rfl | rfl<;>exact ue
    revert h
    cases hx:exec P H orc yo zB3 fn.ntmps (H f) n body (zA4 args hid) none with
    | none=>intro h;cases h
    | some r =>
      obtain ⟨x,e1,lg⟩:=r
      intro h
      cases x with
      | ex id=>cases lg<;>cases h
      | norm =>
        cases lg with
        | some g=>cases h
        | none =>
          cases wE:(zCD P (H f).frz 0 fn.results.toList).run orc e1 with
          | none=>simp only [wE] at h;cases h
          | some e'=>simp only [wE] at h;exact key .norm e1 hx (.inl rfl) e' wE h
      | ret =>
        cases lg with
        | some g=>cases h
        | none =>
          cases wE:(zCD P (H f).frz 0 fn.results.toList).run orc e1 with
          | none=>simp only [wE] at h;cases h
          | some e'=>simp only [wE] at h;exact key .ret e1 hx (.inr rfl) e' wE h
def zET (P:Program) (H:zBf):Prop:=∀ (f:FuncId) (fn:Func) (args hid:List PV) (v:PV) (hZ:List PV),P.funcs[f]? = some fn→(H f).intr≠0→zDP P fn (H f).intr args hid=some (v,hZ)→zCx P f∧zFz P f args hid v hZ
def Fit (P:Program) (H:zBf):Prop:=∀ (f:FuncId) (fn:Func),P.funcs[f]? = some fn→(H f).intr=0→zVp P fn=true
def zUR (P:Program) (g:FuncId) (first:List PV) (i:Nat) (caps:List PV) (k:Int) (plan:List (List PV)):Prop :=
  ∀ (J:List (List PV)→World→(Nat→Prop)→Prop) (Jx:World→Prop) (Ψ:Nat→Prop),Client P i plan k Ψ J Jx→∀ (w:World) (Φ:Nat→Prop) (rv:Nat→Value) (E:Nat→PV) (L:Nat→List Nat) (vs:Array Value) (B:Nat→Prop),
   (∀ s,s<zAe→E s=(zA4 (first++PV.yld i::caps) []).get s)→(∀ s,zAe≤s→E s = .bad)→Conf w (fun b=>∃ s,b∈L s) Φ w Φ rv E L→vs.size=(first++PV.yld i::caps).length→(∀ j,j<(first++PV.yld i::caps).length→vs[j]? = some (rv j)) →
   (∀ s,(first++PV.yld i::caps).length≤s→s<zAm→rv s=undef)→J [] w B→(∀ b,B b→∀ s,b∉L s)→(∀ b,Φ b→Ψ b∨¬ B b) →
   CallsIn (FF none) 0 P g vs w fun en w'=>(∃ v,en = .returned v)∧((k-plan.length≠0∧∃ B',J plan w' B')∨(k-plan.length=0∧Jx w'))
theorem zPP (zEW:P.follows .mixedOrders=true) (jG:zGj P orc) (hnm:zEH P) (zMz:Fit P H) {n:Nat} {g:FuncId} {first caps:List PV} {i:Nat} {k:Int} {plan:List (List PV)} (h:zW1 P H orc yo zB3 n g first i caps k=some plan):zCx P g∧(first++PV.yld i::caps).length≤zAm∧zUR P g first i caps k plan:=by
 have hh:zAm=50000000:=rfl
 simp only [zW1] at h
 split at h
 ·rename_i fn hf
  split at h
  ·rename_i body yW
   rcases zBc h with ⟨hc,h⟩ | ⟨_,h⟩
   ·simp only [Bool.and_eq_true] at hc
    obtain ⟨⟨⟨⟨h1,h2⟩,h3⟩,h4⟩,hint⟩:=hc
    have hint:=Nat.eq_of_beq_eq_true hint
    have h1:=Nat.le_of_ble_eq_true h1
    have hwf:=zMz g fn hf hint
    simp only [zVp,yW,Bool.and_eq_true] at hwf
    obtain ⟨⟨⟨jJ,y8⟩,ua⟩,jV⟩:=hwf
    have ua:=Nat.le_of_ble_eq_true ua
    have ud:(first++PV.yld i::caps).all (fun p => !p.isTup)=true:=by
     rw [List.all_append,List.all_cons,Bool.and_eq_true] 
     rw [List.all_append,Bool.and_eq_true] at h3
     exact ⟨h3.1,by rw [h3.2];rfl⟩
    have hk:k≠0:=by simpa using h4
    refine ⟨⟨fn,hf,by rw [yW];rfl⟩,by omega,?_⟩
    have key:∀ {x:X} {e1:Env} {l:Log},exec P H orc yo zB3 fn.ntmps (H g) n body (zA4 (first++PV.yld i::caps) []) (some ⟨[],k,i⟩)=some (x,e1,some l)→(x = .norm∨x = .ret)→l.xs=plan→zUR P g first i caps k plan:=fun hx gU hg J Jx Ψ hC w Φ rv E L vs B hE kd C yI yp j9 hJ hBL hBΦ =>
     zVU zEW jG hnm hC hf yW jJ ua h1 ud h2 hx gU hg hk hE kd C yI yp j9 hJ hBL hBΦ
    split at h
    ·rename_i e1 l hx
     simp only [Option.some.injEq] at h
     exact key hx (.inl rfl) h
    ·rename_i e1 l hx
     simp only [Option.some.injEq] at h
     exact key hx (.inr rfl) h
    ·cases h
   ·cases h
  ·cases h
 ·cases h
theorem zE4 [Yo] (zEW:P.follows .mixedOrders=true) (hnm:zEH P) (zMz:Fit P H) (hin:zET P H) (qj:zM8 P Yo.yo):∀ n,zGj P (zCT P H n)
 | 0=>by intro f args hid v hZ h;cases h
 | n + 1 => by
  have jG:=zE4 zEW hnm zMz hin qj n
  intro f args hid v hZ h
  have h:zJk P H (zCT P H n) Yo.yo zB3 (n+1) f args hid=some (v,hZ):=h
  simp only [zJk] at h
  split at h
  ·rename_i fn hf
   split at h
   ·rename_i hi
    exact hin f fn args hid v hZ hf hi h
   ·rename_i hi
    split at h
    ·rename_i body yW
     exact ⟨⟨fn,hf,by rw [yW];rfl⟩,zWc zEW jG hnm qj hf yW (zMz f fn hf (by simpa using hi)) h⟩
    ·cases h
  ·cases h
abbrev yo0:Yo:=⟨fun _ _ _ _ _=>none⟩
noncomputable def zTF (P:Program) (H:zBf) (n:Nat):zCJ:=fun g first i caps k=>zW1 P H (@zCT P H yo0 n) yo0.yo zB3 (n+1) g first i caps k
open Classical in
noncomputable def zXq (P:Program) (H:zBf):zCJ:=fun g first i caps k=>if h:∃ xs n0,∀ n,n0≤n→zTF P H n g first i caps k=some xs then some (Classical.choose h) else none
noncomputable abbrev yo1 (P:Program) (H:zBf):Yo:=⟨zXq P H⟩
theorem zU2 {g:FuncId} {first:List PV} {i:Nat} {caps:List PV} {k:Int} {xs:List (List PV)} {n0:Nat} (h:∀ n,n0≤n→zTF P H n g first i caps k=some xs):zXq P H g first i caps k=some xs:=by
 have h':∃ xs n0,∀ n,n0≤n→zTF P H n g first i caps k=some xs:=⟨xs,n0,h⟩
 simp only [zXq,dif_pos h']
 obtain ⟨n1,h1⟩:=Classical.choose_spec h'
 have h2:=h1 (max n0 n1) (by omega)
 rw [h (max n0 n1) (by omega)] at h2
 exact h2.symm
theorem zPU (zEW:P.follows .mixedOrders=true) (hnm:zEH P) (zMz:Fit P H) (hin:zET P H):zM8 P (zXq P H):=by
 intro g first i caps k plan h
 simp only [zXq] at h
 split at h
 ·rename_i h'
  simp only [Option.some.injEq] at h;subst h
  obtain ⟨n1,h1⟩:=Classical.choose_spec h'
  exact zPP zEW (@zE4 P H yo0 zEW hnm zMz hin (fun g first i caps k plan h=>by cases h) n1) hnm zMz (h1 n1 (by omega))
 ·cases h
end
end Go.Eng
namespace Go.Eng
open Go
def zHu:zAA:=fun _ _ _=>none
def zWl:zCJ:=fun _ _ _ _ _=>none
def zGU:All:=fun _=>none
theorem zFx {o:zAA}:∀ {p:PM} {e e1:Env},p.run zHu e=some e1→p.run o e=some e1:=by
 intro p
 induction p with
 | ok=>intro e e1 h;exact h
 | fail=>intro e e1 h;cases h
 | view s k ih=>intro e e1 h;exact ih _ h
 | get s k ih=>intro e e1 h;simp only [PM.run] at h ⊢;split at h<;>first | (cases h;done) | exact ih _ h
 | set s q k ih=>intro e e1 h;exact ih h
 | cells r pre i c n k ih=>intro e e1 h;simp only [PM.run] at h ⊢;split at h<;>first | (cases h;done) | exact ih _ _ h
 | deep r pre k ih=>intro e e1 h;simp only [PM.run] at h ⊢;split at h<;>first | (cases h;done) | exact ih _ h
 | wcells r pre i c qs k ih=>intro e e1 h;simp only [PM.run] at h ⊢;split at h<;>first | (cases h;done) | exact ih h
 | wnode r pre q k ih =>
  intro e e1 h
  simp only [PM.run] at h ⊢
  rcases zBc h with ⟨_,h⟩ | ⟨hl,h⟩
  ·cases h
  ·rw [hl];simp only [cond_false]
   split at h
   ·exact ih h
   ·cases h
 | kill r pre k ih=>intro e e1 h;exact ih h
 | frz r pre k ih=>intro e e1 h;simp only [PM.run] at h ⊢;split at h<;>first | (cases h;done) | exact ih h
 | killEx r pre k ih=>intro e e1 h;exact ih h
 | forget r k ih=>intro e e1 h;exact ih h
 | call f args hid k ih=>intro e e1 h;cases h
theorem zAn {α β:Type} {x y:Option α} {f:α→β} {r:β} (h:x.map f=some r) (g:∀ a,x=some a→y=some a):y.map f=some r:=by
 obtain ⟨a,h1,h2⟩:=Option.map_eq_some_iff.1 h
 rw [g a h1];simp [h2]
theorem zIF {o:zAA}:∀ {p:PM} {e:Env} {r:Env×Tok},p.runT zHu e=some r→p.runT o e=some r:=by
 intro p
 induction p with
 | ok=>intro e e1 h;exact h
 | fail=>intro e e1 h;cases h
 | view s k ih=>intro e e1 h;exact zAn h fun a h=>ih _ h
 | get s k ih=>intro e e1 h;simp only [PM.runT] at h ⊢;split at h<;>first | (cases h;done) | exact zAn h fun a h=>ih _ h
 | set s q k ih=>intro e e1 h;exact zAn h fun a h=>ih h
 | cells r pre i c n k ih=>intro e e1 h;simp only [PM.runT] at h ⊢;split at h<;>first | (cases h;done) | exact zAn h fun a h=>ih _ _ h
 | deep r pre k ih=>intro e e1 h;simp only [PM.runT] at h ⊢;split at h<;>first | (cases h;done) | exact zAn h fun a h=>ih _ h
 | wcells r pre i c qs k ih=>intro e e1 h;simp only [PM.runT] at h ⊢;split at h<;>first | (cases h;done) | exact zAn h fun a h=>ih h
 | wnode r pre q k ih =>
  intro e e1 h
  simp only [PM.runT] at h ⊢
  rcases zBc h with ⟨_,h⟩ | ⟨hl,h⟩
  ·cases h
  ·rw [hl];simp only [cond_false]
   split at h
   ·exact zAn h fun a h=>ih h
   ·cases h
 | kill r pre k ih=>intro e e1 h;exact zAn h fun a h=>ih h
 | frz r pre k ih=>intro e e1 h;simp only [PM.runT] at h ⊢;split at h<;>first | (cases h;done) | exact zAn h fun a h=>ih h
 | killEx r pre k ih=>intro e e1 h;exact zAn h fun a h=>ih h
 | forget r k ih=>intro e e1 h;exact zAn h fun a h=>ih h
 | call f args hid k ih=>intro e e1 h;cases h
section
variable {P:Program} {H:zBf} {o:zAA} {fz tk nl:Bool} {fzs tks:List Nat} {ops:Array Oper} {nt:Nat} {hh:FHint} {yo:zCJ} {al:All}
theorem zHS {x:Oper} {h0:Nat} {args:List PV} {l:Log} {e:Env} {r:Env×Option Log} (h:zBK zHu ops x h0 args l e=some r):zBK o ops x h0 args l e=some r:=by
 simp only [zBK] at h ⊢
 split at h
 ·rcases zBc h with ⟨hc,h⟩ | ⟨_,h⟩
  ·rw [hc];simp only [cond_true]
   refine zAn h fun a h=>?_
   rcases zBc h with ⟨hk,h⟩ | ⟨hk,h⟩<;>rw [hk]
   ·exact zFx h
   ·exact zFx h
  ·cases h
 ·exact zAn h fun a h=>zFx h
 ·cases h
theorem zQL {x:Oper} {e:Env} {lg:Option Log} {r:Env×Option Log} (h:zCK P H zHu fz tk nl ops x e lg=some r):zCK P H o fz tk nl ops x e lg=some r:=by
 simp only [zCK] at h ⊢
 split at h
 ·exact zAn h fun a h=>zFx h
 ·split at h
  ·exact zHS h
  ·exact zAn h fun a h=>zFx h
theorem zLW {x:Oper} {e:Env} {lg:Option Log} {r:Env×Option Log×Tok} (h:zEj P H zHu fz tk nl ops x e lg=some r):zEj P H o fz tk nl ops x e lg=some r:=by
 simp only [zEj] at h ⊢
 split at h
 ·exact zAn h fun a h=>zIF h
 ·split at h
  ·exact zAn h fun a h=>zHS h
  ·exact zAn h fun a h=>zIF h
theorem zHc:∀ {l:List Oper} {i:Nat} {e:Env} {lg:Option Log} {r:Env×Option Log},zA7 P H zHu fzs tks nl ops l i e lg=some r→zA7 P H o fzs tks nl ops l i e lg=some r
 | [],_,_,_,_,h=>h
 | x::l,i,e,lg,r,h=>by
  simp only [zA7] at h ⊢
  cases hs:zCK P H zHu (fzs.contains i) (tks.contains i) nl ops x e lg with
  | none=>rw [hs] at h;cases h
  | some q=>rw [hs] at h;rw [zQL hs];exact zHc h
theorem zI7:∀ {l:List Oper} {i:Nat} {acc:List Nat} {ts:List Tok} {e:Env} {lg:Option Log} {r:Env×Option Log},zCp P H zHu fzs tks nl ops l i acc ts e lg=some r→zCp P H o fzs tks nl ops l i acc ts e lg=some r
 | [],_,_,_,_,_,_,h=>h
 | x :: l,i,acc,ts,e,lg,r,h=>by
  simp only [zCp] at h ⊢
  cases hs:zEj P H zHu (fzs.contains i) (tks.contains i) nl ops x e lg with
  | none=>rw [hs] at h;cases h
  | some q =>
   rw [hs] at h;rw [zLW hs]
   simp only at h ⊢
   rcases zBc h with ⟨hc,h⟩ | ⟨_,h⟩
   ·rw [hc];exact zI7 h
   ·cases h
theorem zON:∀ {m:Nat} {c:Code} {e:Env} {lg:Option Log} {r:X×Env×Option Log},exec P H zHu zWl zGU nt hh m c e lg=some r→∀ {m':Nat},m≤m'→exec P H o yo al nt hh m' c e lg=some r
 | 0,_,_,_,_,h,_,_=>by cases h
 | m + 1,c,e,lg,r,h,m',hm=>by
  obtain ⟨m',rfl⟩:∃ k,m'=k+1:=⟨m'-1,by omega⟩
  have ih:∀ {c:Code} {e:Env} {lg:Option Log} {r:X×Env×Option Log},exec P H zHu zWl zGU nt hh m c e lg=some r→exec P H o yo al nt hh m' c e lg=some r:=fun h=>zON h (by omega)
  cases c with
  | region id ops draw =>
   simp only [exec] at h ⊢
   split at h
   ·rename_i e1 lg1 h1
    have:(if draw=true then zCp P H o (hh.frzs id) (hh.take id) hh.nils ops ops.toList 0 [] [] e lg else zA7 P H o (hh.frzs id) (hh.take id) hh.nils ops ops.toList 0 e lg)=some (e1,lg1):=by
     cases draw with
     | true=>exact zI7 h1
     | false=>exact zHc h1
    rw [this];exact h
   ·cases h
  | seq a b =>
   simp only [exec] at h ⊢
   cases h1:exec P H zHu zWl zGU nt hh m a e lg with
   | none=>rw [h1] at h;cases h
   | some q =>
    rw [h1] at h;rw [ih h1]
    obtain ⟨x,e1,lg1⟩:=q
    cases x with
    | norm=>exact ih h
    | ex id=>exact h
    | ret=>exact h
  | cond c a b =>
   cases c with
   | tmp t =>
    simp only [exec] at h ⊢
    revert h
    cases e.get t with
    | bool v=>intro h;cases v<;>exact ih h
    | _=>intro h;cases h
   | const v =>
    simp only [exec] at h ⊢
    revert h
    cases v with
    | bool v=>intro h;cases v<;>exact ih h
    | _=>intro h;cases h
   | _=>cases h
  | block id b =>
   simp only [exec] at h ⊢
   cases h1:exec P H zHu zWl zGU nt hh m b e lg with
   | none=>rw [h1] at h;cases h
   | some q =>
    rw [h1] at h;rw [ih h1];exact h
  | loop b =>
   simp only [exec] at h ⊢
   cases h1:exec P H zHu zWl zGU nt hh m b (e.drop (hh.loopDrop (zAN b))) lg with
   | none=>rw [h1] at h;cases h
   | some q =>
    rw [h1] at h;rw [ih h1]
    obtain ⟨x,e1,lg1⟩:=q
    cases x with
    | norm=>exact ih h
    | ex id=>exact h
    | ret=>exact h
  | scope b=>exact ih h
  | rangeFunc x ps ca cb =>
   cases x with
   | tmp t =>
    simp only [exec] at h
    cases lg with
    | none =>
     simp only at h
     obtain ⟨q,h1,_⟩:=Option.map_eq_some_iff.1 h
     simp only [zHq] at h1
     split at h1
     ·cases h1
     ·cases h1
    | some _=>cases h
   | _=>cases h
  | skip=>exact h
  | exit id=>exact h
  | ret=>exact h
  | label l=>exact h
  | _=>cases h
end
def cl:Code→Code
 | .seq a _=>a
 | .cond _ a _=>a
 | .block _ b=>b
 | .loop b=>b
 | .scope b=>b
 | c=>c
def cr:Code→Code
 | .seq _ b=>b
 | .cond _ _ b=>b
 | c=>c
def zWx:Code→Bool
 | .seq .. => true
 | _=>false
def zOr:Code→Bool
 | .loop _=>true
 | _=>false
def zQA:Code→Bool
 | .scope _=>true
 | _=>false
def zQF:Code→Option Nat
 | .block n _=>some n
 | _=>none
def zSl:Code→Option Nat
 | .cond (.tmp t) _ _=>some t
 | _=>none
def zUn:Code→Option Nat
 | .exit n=>some n
 | _=>none
def zW4:Code→Bool
 | .ret=>true
 | _=>false
def zUq:Code→Bool
 | .skip=>true
 | _=>false
def zW3:Code→Bool
 | .region .. => true
 | _=>false
def rid:Code→Nat
 | .region n _ _=>n
 | _=>0
def zFn:Code→Array Oper
 | .region _ o _=>o
 | _=>#[]
def zU4:Code→Bool
 | .region _ _ d=>d
 | _=>false
def zDT (c : Code) (i : Nat) : Oper := (zFn c)[i]?.getD { dst := none, op := .move (.const .nilIface), type := 0, pos := "", after := #[], guard := none }
theorem zT3 {c:Code} (h:zWx c=true):c = .seq (cl c) (cr c):=by cases c<;>first | rfl | cases h
theorem zMn {c:Code} (h:zOr c=true):c = .loop (cl c):=by cases c<;>first | rfl | cases h
theorem zQk {c:Code} (h:zQA c=true):c = .scope (cl c):=by cases c<;>first | rfl | cases h
theorem zUg {c:Code} (h:zW4 c=true):c = .ret:=by cases c<;>first | rfl | cases h
theorem zRB {c:Code} (h:zUq c=true):c = .skip:=by cases c<;>first | rfl | cases h
theorem zTl {c:Code} (h:zW3 c=true):c = .region (rid c) (zFn c) (zU4 c):=by cases c<;>first | rfl | cases h
theorem zPy {c:Code} {n:Nat} (h:zQF c=some n):c = .block n (cl c):=by cases c<;>first | (cases h;rfl) | cases h
theorem zRD {c:Code} {n:Nat} (h:zUn c=some n):c = .exit n:=by cases c<;>first | (cases h;rfl) | cases h
theorem zQl {c:Code} {t:Nat} (h:zSl c=some t):c = .cond (.tmp t) (cl c) (cr c):=by
 cases c<;>try (cases h;done)
 rename_i x a b
 cases x<;>first | (cases h;rfl) | cases h
section
variable [Yo] (P:Program) (H:zBf)
def zDj (f:FuncId) (args hid:List PV) (v:PV) (hZ:List PV):Prop:=∃ n0,∀ n,n0≤n→zCT P H n f args hid=some (v,hZ)
def W (f:FuncId) (nt:Nat) (c:Code) (e:Env) (lg:Option Log) (K:X→Env→Option Log→Prop):Prop :=
 ∃ n0 x e' lg',(∀ n m,n0≤n→n0≤m→exec P H (zCT P H n) Yo.yo zB3 nt (H f) m c e lg=some (x,e',lg'))∧K x e' lg'
def zFm (dr:Option (List Nat×List Tok)) (i:Nat) (o:Oper) (t:Tok):Option (Option (List Nat×List Tok)) :=
 match dr with
 | none=>some none
 | some (acc,ts)=>bif o.after.toList.all (fun e => !Region.binds .any e||Nat.blt e.on i)&&zF1 (zHW acc o) t 0 ts then some (some (acc++[zHW acc o],ts++[t])) else none
def zVE (orc:zAA) (fzs tks:List Nat) (nl:Bool) (ops:Array Oper) (dr:Option (List Nat×List Tok)) (l:List Oper) (i:Nat) (e:Env) (lg:Option Log):Option (Env×Option Log) :=
 match dr with
 | none=>zA7 P H orc fzs tks nl ops l i e lg
 | some (acc,ts)=>zCp P H orc fzs tks nl ops l i acc ts e lg
def WR (f:FuncId) (id:Nat) (ops:Array Oper) (dr:Option (List Nat×List Tok)) (i:Nat) (e:Env) (lg:Option Log) (K:Env→Option Log→Prop):Prop :=
 ∃ n0 eN lg',(∀ n,n0≤n→∃ e',zVE P H (zCT P H n) ((H f).frzs id) ((H f).take id) (H f).nils ops dr (ops.toList.drop i) i e lg=some (e',lg')∧(e'.drop ((H f).drop id)).norm=eN)∧K eN lg'
end
section
variable [Yo] {P:Program} {H:zBf} {f:FuncId} {nt:Nat} {e e':Env} {lg:Option Log} {K:X→Env→Option Log→Prop}
def zZC (P:Program) (H:zBf) (f:FuncId) (nt:Nat) (b:Code) (K:X→Env→Option Log→Prop):X→Env→Option Log→Prop
 | .norm,e,lg=>W P H f nt b e lg K
 | x,e,lg=>K x e lg
theorem zYb {a b:Code} (h:W P H f nt a e lg (zZC P H f nt b K)):W P H f nt (.seq a b) e lg K:=by
 obtain ⟨n0,x,e1,lg1,h1,h2⟩:=h
 cases x with
 | norm =>
  obtain ⟨n2,x,e2,lg2,h3,h4⟩:=h2
  refine ⟨max n0 n2+1,x,e2,lg2,fun n m hn hm=>?_,h4⟩
  obtain ⟨m,rfl⟩:∃ k,m=k+1:=⟨m-1,by omega⟩
  simp only [exec,h1 n m (by omega) (by omega),h3 n m (by omega) (by omega)]
 | ex id =>
  refine ⟨n0+1,_,e1,lg1,fun n m hn hm=>?_,h2⟩
  obtain ⟨m,rfl⟩:∃ k,m=k+1:=⟨m-1,by omega⟩
  simp only [exec,h1 n m (by omega) (by omega)]
 | ret =>
  refine ⟨n0+1,_,e1,lg1,fun n m hn hm=>?_,h2⟩
  obtain ⟨m,rfl⟩:∃ k,m=k+1:=⟨m-1,by omega⟩
  simp only [exec,h1 n m (by omega) (by omega)]
theorem zT7 (m:Nat) {c:Code} {x:X} {e1:Env} {lg1:Option Log} (h:exec P H zHu zWl zGU nt (H f) m c e lg=some (x,e1,lg1)) (hk:K x e1 lg1):W P H f nt c e lg K :=
 ⟨m,x,e1,lg1,fun _ _ _ hm=>zON h hm,hk⟩
theorem zUs {c:Code} {K':X→Env→Option Log→Prop} (h:W P H f nt c e lg K) (hk:∀ x e lg,K x e lg→K' x e lg):W P H f nt c e lg K':=by
 obtain ⟨n0,x,e1,lg1,h1,h2⟩:=h
 exact ⟨n0,x,e1,lg1,h1,hk _ _ _ h2⟩
theorem zX4 (h:K .ret e lg):W P H f nt .ret e lg K:=zT7 1 rfl h
theorem zXw (h:K .norm e lg):W P H f nt .skip e lg K:=zT7 1 rfl h
theorem zXv {id:Nat} (h:K (.ex id) (zWm ((H f).ices id) e) lg):W P H f nt (.exit id) e lg K:=zT7 1 rfl h
theorem zVl {b:Code} (h:W P H f nt b e lg K):W P H f nt (.scope b) e lg K:=by
 obtain ⟨n0,x,e1,lg1,h1,h2⟩:=h
 refine ⟨n0+1,x,e1,lg1,fun n m hn hm=>?_,h2⟩
 obtain ⟨m,rfl⟩:∃ k,m=k+1:=⟨m-1,by omega⟩
 exact h1 n m (by omega) (by omega)
def Blk (id:Nat) (K:X→Env→Option Log→Prop):X→Env→Option Log→Prop
 | .ex id',e,lg=>bif Nat.beq id' id then K .norm e lg else K (.ex id') e lg
 | x,e,lg=>K x e lg
theorem zU6 {id:Nat} {b:Code} (h:W P H f nt b e lg (Blk id K)):W P H f nt (.block id b) e lg K:=by
 obtain ⟨n0,x,e1,lg1,h1,h2⟩:=h
 cases x with
 | ex id' =>
  by_cases hid:id'=id
  ·subst hid
   simp only [Blk,Nat.beq_refl,cond_true] at h2
   refine ⟨n0+1,.norm,e1,lg1,fun n m hn hm=>?_,h2⟩
   obtain ⟨m,rfl⟩:∃ k,m=k+1:=⟨m-1,by omega⟩
   simp only [exec,h1 n m (by omega) (by omega),if_true]
  ·have hb:Nat.beq id' id=false:=by
    cases hc:Nat.beq id' id with
    | false=>rfl
    | true=>exact (hid (Nat.eq_of_beq_eq_true hc)).elim
   simp only [Blk,hb,cond_false] at h2
   refine ⟨n0+1,.ex id',e1,lg1,fun n m hn hm=>?_,h2⟩
   obtain ⟨m,rfl⟩:∃ k,m=k+1:=⟨m-1,by omega⟩
   simp only [exec,h1 n m (by omega) (by omega),if_neg hid]
 | norm =>
  refine ⟨n0+1,_,e1,lg1,fun n m hn hm=>?_,h2⟩
  obtain ⟨m,rfl⟩:∃ k,m=k+1:=⟨m-1,by omega⟩
  simp only [exec,h1 n m (by omega) (by omega)]
 | ret =>
  refine ⟨n0+1,_,e1,lg1,fun n m hn hm=>?_,h2⟩
  obtain ⟨m,rfl⟩:∃ k,m=k+1:=⟨m-1,by omega⟩
  simp only [exec,h1 n m (by omega) (by omega)]
theorem zXg {t:Nat} {a b:Code} {c:Bool} (ht:e.get t = .bool c) (h1:c=true→W P H f nt a e lg K) (h2:c=false→W P H f nt b e lg K):W P H f nt (.cond (.tmp t) a b) e lg K:=by
 cases c with
 | true =>
  obtain ⟨n0,x,e1,lg1,h3,h4⟩:=h1 rfl
  refine ⟨n0+1,_,_,lg1,fun n m hn hm=>?_,h4⟩
  obtain ⟨m,rfl⟩:∃ k,m=k+1:=⟨m-1,by omega⟩
  simp only [exec,ht];exact h3 n m (by omega) (by omega)
 | false =>
  obtain ⟨n0,x,e1,lg1,h3,h4⟩:=h2 rfl
  refine ⟨n0+1,_,_,lg1,fun n m hn hm=>?_,h4⟩
  obtain ⟨m,rfl⟩:∃ k,m=k+1:=⟨m-1,by omega⟩
  simp only [exec,ht];exact h3 n m (by omega) (by omega)
theorem zWR {σ:Type} (Inv:σ→Prop) (I:σ→Env) (μ:σ→Nat) {b:Code} (h:∀ s,Inv s→W P H f nt b (I s) lg fun x e lg'=>match x with
   | .norm=>∃ s',Inv s'∧μ s'<μ s∧e.drop ((H f).loopDrop (zAN b))=I s'∧lg'=lg
   | x=>K x e lg'):∀ (n:Nat) (s:σ) (e:Env),μ s≤n→Inv s→e.drop ((H f).loopDrop (zAN b))=I s→W P H f nt (.loop b) e lg K:=by
 intro n
 induction n with
 | zero =>
  intro s e hs hi he
  obtain ⟨n0,x,e1,lg1,h1,h2⟩:=h s hi
  cases x with
  | norm=>obtain ⟨s',_,h3,_⟩:=h2;omega
  | ex id =>
   refine ⟨n0+1,_,e1,lg1,fun n m hn hm=>?_,h2⟩
   obtain ⟨m,rfl⟩:∃ k,m=k+1:=⟨m-1,by omega⟩
   simp only [exec,he,h1 n m (by omega) (by omega)]
  | ret =>
   refine ⟨n0+1,_,e1,lg1,fun n m hn hm=>?_,h2⟩
   obtain ⟨m,rfl⟩:∃ k,m=k+1:=⟨m-1,by omega⟩
   simp only [exec,he,h1 n m (by omega) (by omega)]
 | succ n ih =>
  intro s e hs hi he
  obtain ⟨n0,x,e1,lg1,h1,h2⟩:=h s hi
  cases x with
  | norm =>
   obtain ⟨s',h3,h4,h7,rfl⟩:=h2
   obtain ⟨n2,x,e2,lg2,h5,h6⟩:=ih s' e1 (by omega) h3 h7
   refine ⟨max n0 n2+1,x,e2,lg2,fun n m hn hm=>?_,h6⟩
   obtain ⟨m,rfl⟩:∃ k,m=k+1:=⟨m-1,by omega⟩
   simp only [exec,he,h1 n m (by omega) (by omega),h5 n m (by omega) (by omega)]
  | ex id =>
   refine ⟨n0+1,_,e1,lg1,fun n m hn hm=>?_,h2⟩
   obtain ⟨m,rfl⟩:∃ k,m=k+1:=⟨m-1,by omega⟩
   simp only [exec,he,h1 n m (by omega) (by omega)]
  | ret =>
   refine ⟨n0+1,_,e1,lg1,fun n m hn hm=>?_,h2⟩
   obtain ⟨m,rfl⟩:∃ k,m=k+1:=⟨m-1,by omega⟩
   simp only [exec,he,h1 n m (by omega) (by omega)]
theorem zAb {c:Code} (h:W P H f nt (cl c) e lg (zZC P H f nt (cr c) K)) (hc:zWx c=true:=by kernel_rfl):W P H f nt c e lg K:=by rw [zT3 hc];exact zYb h
theorem zAl {c:Code} (h:K .ret e lg) (hc:zW4 c=true:=by kernel_rfl):W P H f nt c e lg K:=by rw [zUg hc];exact zX4 h
theorem zAi {c:Code} (h:K .norm e lg) (hc:zUq c=true:=by kernel_rfl):W P H f nt c e lg K:=by rw [zRB hc];exact zXw h
theorem zAv {c:Code} (n:Nat) (h:K (.ex n) (zWm ((H f).ices n) e) lg) (hc:zUn c=some n:=by kernel_rfl):W P H f nt c e lg K:=by rw [zRD hc];exact zXv h
theorem zVI {c:Code} (h:W P H f nt (cl c) e lg K) (hc:zQA c=true:=by kernel_rfl):W P H f nt c e lg K:=by rw [zQk hc];exact zVl h
theorem zAh {c:Code} (n:Nat) (h:W P H f nt (cl c) e lg (Blk n K)) (hc:zQF c=some n:=by kernel_rfl):W P H f nt c e lg K:=by rw [zPy hc];exact zU6 h
def zEt (c:Code) (e:Env):Option Bool :=
 match zSl c with
 | some t=>match e.get t with
  | .bool b=>some b
  | _=>none
 | none=>none
theorem zD4 (b:Bool) {c:Code} (h1:b=true→W P H f nt (cl c) e lg K) (h2:b=false→W P H f nt (cr c) e lg K) (hc:zEt c e=some b:=by kernel_rfl):W P H f nt c e lg K:=by
 simp only [zEt] at hc
 split at hc
 ·rename_i t ht
  rw [zQl ht]
  split at hc
  ·rename_i b' hb
   simp only [Option.some.injEq] at hc;subst hc
   exact zXg hb h1 h2
  ·cases hc
 ·cases hc
theorem zBT {c:Code} (h:W P H f nt (cl c) e lg K) (hc:zEt c e=some true:=by kernel_rfl):W P H f nt c e lg K:=zD4 true (fun _=>h) (fun h=>by cases h) hc
theorem zAU {c:Code} (h:W P H f nt (cr c) e lg K) (hc:zEt c e=some false:=by kernel_rfl):W P H f nt c e lg K:=zD4 false (fun h=>by cases h) (fun _=>h) hc
theorem zWA {σ:Type} {c:Code} (Inv:σ→Prop) (I:σ→Env) (μ:σ→Nat) (s:σ) (hi:Inv s) (h:∀ s,Inv s→W P H f nt (cl c) (I s) lg fun x e lg'=>match x with
   | .norm=>∃ s',Inv s'∧μ s'<μ s∧e.drop ((H f).loopDrop (zAN (cl c)))=I s'∧lg'=lg
   | x=>K x e lg') (hs:e.drop ((H f).loopDrop (zAN (cl c)))=I s:=by kernel_rfl) (hc:zOr c=true:=by kernel_rfl):W P H f nt c e lg K:=by
 rw [zMn hc];exact zWR Inv I μ h (μ s) s e (Nat.le_refl _) hi hs
def zM2 (o:Option Env):Env :=
 match o with
 | some e=>e
 | none=>[]
structure RS where
 dr:Option (List Nat×List Tok)
 e:Env
 lg:Option Log
def noY (lg:Option Log) (e:Env) (o:Oper):Bool :=
 match lg with
 | none=>true
 | some _=>(zB6 e o).isNone
def WS (P:Program) (H:zBf) (f:FuncId) (c:Code) (i:Nat) (s:RS) (R:Env→Option Log→Prop):Prop:=WR P H f (rid c) (zFn c) s.dr i s.e s.lg R
def zV3 (P:Program) (H:zBf) (f:FuncId) (c:Code) (i:Nat) (s:RS):Option RS :=
 match zEj P H zHu (((H f).frzs (rid c)).contains i) (((H f).take (rid c)).contains i) (H f).nils (zFn c) (zDT c i) s.e s.lg with
 | some (e',lg',t)=>(zFm s.dr i (zDT c i) t).map fun dr=>⟨dr,e',lg'⟩
 | none=>none
def zKf (P:Program) (H:zBf) (f:FuncId) (c:Code):Nat→Nat→RS→Option RS
 | 0,_,s=>some s
 | m+1,i,s=>match zV3 P H f c i s with
  | some s'=>zKf P H f c m (i+1) s'
  | none=>none
variable {i:Nat} {c:Code} {s s':RS} {R:Env→Option Log→Prop}
abbrev zW8 (P:Program) (H:zBf) (f:FuncId) (c:Code) (i:Nat):PM:=opM P H (((H f).frzs (rid c)).contains i) (((H f).take (rid c)).contains i) (H f).nils (zDT c i)
def zWE (o:Option RS):RS :=
 match o with
 | some s=>s
 | none=>⟨none,[],none⟩
theorem zM0 {o:Option RS} (h:o.isSome=true):o=some (zWE o):=by cases o<;>first | rfl | cases h
theorem zAa (h:WS P H f c 0 ⟨bif zU4 c then some ([],[]) else none,e,lg⟩ (K .norm)) (hc:zW3 c=true:=by kernel_rfl):W P H f nt c e lg K:=by
 obtain ⟨n0,e1,lg1,h1,h2⟩:=h
 rw [zTl hc]
 refine ⟨n0+1,_,_,lg1,fun n m hn hm=>?_,h2⟩
 obtain ⟨m,rfl⟩:∃ k,m=k+1:=⟨m-1,by omega⟩
 obtain ⟨e2,this,h3⟩:=h1 n (by omega)
 cases hd:zU4 c with
 | true=>simp only [hd,cond_true,zVE,List.drop_zero] at this;simp only [exec,this,if_true,h3]
 | false=>simp only [hd,cond_false,zVE,List.drop_zero] at this;simp only [exec,this,← h3];rfl
theorem zXm (e1:Env) (h:R e1 s.lg) (he:(s.e.drop ((H f).drop (rid c))).norm=e1:=by kernel_rfl) (hi:Nat.ble (zFn c).size i=true:=by kernel_rfl):WS P H f c i s R:=by
 have hi:=Nat.le_of_ble_eq_true hi
 refine ⟨0,e1,s.lg,fun n _=>⟨s.e,?_,he⟩,h⟩
 rw [List.drop_eq_nil_of_le (by simpa using hi)]
 cases s.dr<;>rfl
theorem zAc (h:R ((s.e.drop ((H f).drop (rid c))).norm) s.lg) (hi:Nat.ble (zFn c).size i=true:=by kernel_rfl):WS P H f c i s R:=zXm _ h rfl hi
theorem zWb (h:Nat.blt i (zFn c).size=true):(zFn c)[i]? = some (zDT c i):=by
 have:i<(zFn c).size:=by simpa using h
 simp [zDT,this]
theorem zSc (h:Nat.blt i (zFn c).size=true):(zFn c).toList.drop i=zDT c i::(zFn c).toList.drop (i+1):=by
 have h1:(zFn c).toList[i]? = some (zDT c i):=by rw [Array.getElem?_toList];exact zWb h
 obtain ⟨h2,h3⟩:=List.getElem?_eq_some_iff.1 h1
 rw [← h3];exact (List.drop_eq_getElem_cons h2)
theorem zJ6 {orc:zAA} {fz tk nl:Bool} {ops:Array Oper} {o:Oper} {lg':Option Log} {t:Tok} (h:zEj P H orc fz tk nl ops o e lg=some (e',lg',t)):zCK P H orc fz tk nl ops o e lg=some (e',lg'):=by
 simp only [zEj] at h
 simp only [zCK]
 split at h
 ·obtain ⟨a,h1,h2⟩:=Option.map_eq_some_iff.1 h
  cases h2
  rw [zEi h1];rfl
 ·split at h
  ·obtain ⟨a,h1,h2⟩:=Option.map_eq_some_iff.1 h
   cases h2
   rw [h1]
  ·obtain ⟨a,h1,h2⟩:=Option.map_eq_some_iff.1 h
   cases h2
   rw [zEi h1];rfl
theorem zKY {t:Tok} {dr':Option (List Nat×List Tok)} {lg':Option Log} (hi:Nat.blt i (zFn c).size=true) (hT:∃ n0,∀ n,n0≤n→zEj P H (zCT P H n) (((H f).frzs (rid c)).contains i) (((H f).take (rid c)).contains i) (H f).nils (zFn c) (zDT c i) s.e s.lg=some (e',lg',t))
  (hd:zFm s.dr i (zDT c i) t=some dr') (h:WS P H f c (i+1) ⟨dr',e',lg'⟩ R):WS P H f c i s R:=by
 obtain ⟨n0,hT⟩:=hT
 obtain ⟨n2,e2,lg2,h1,h2⟩:=h
 obtain ⟨dr,e,lg⟩:=s
 refine ⟨max n0 n2,e2,lg2,fun n hn=>?_,h2⟩
 have hs:=hT n (by omega)
 obtain ⟨e3,h1,h3⟩:=h1 n (by omega)
 refine ⟨e3,?_,h3⟩
 rw [zSc hi]
 cases dr with
 | none =>
  simp only [zFm,Option.some.injEq] at hd;subst hd
  simp only [zVE] at h1 ⊢
  simp only [zA7,zJ6 hs];exact h1
 | some d =>
  obtain ⟨acc,ts⟩:=d
  simp only [zFm] at hd
  rcases zBc hd with ⟨hc,hd⟩ | ⟨_,hd⟩
  ·simp only [Option.some.injEq] at hd;subst hd
   simp only [zVE] at h1 ⊢
   simp only [zCp,hs,hc,cond_true];exact h1
  ·cases hd
theorem zSH {orc:zAA} {fz tk nl:Bool} {ops:Array Oper} {o:Oper} {t:Tok} (hy:noY lg e o=true) (h:(zFJ P H ops fz tk nl o).runT orc e=some (e',t)):zEj P H orc fz tk nl ops o e lg=some (e',lg,t):=by
 cases lg with
 | none=>simp only [zEj,h];rfl
 | some l =>
  simp only [noY,Option.isNone_iff_eq_none] at hy
  simp only [zEj,hy,h];rfl
theorem zXy {t:Tok} {dr':Option (List Nat×List Tok)} (hi:Nat.blt i (zFn c).size=true) (hT:∃ n0,∀ n,n0≤n→(zFJ P H (zFn c) (((H f).frzs (rid c)).contains i) (((H f).take (rid c)).contains i) (H f).nils (zDT c i)).runT (zCT P H n) s.e=some (e',t))
  (hd:zFm s.dr i (zDT c i) t=some dr') (h:WS P H f c (i+1) ⟨dr',e',s.lg⟩ R) (hy:noY s.lg s.e (zDT c i)=true):WS P H f c i s R:=by
 obtain ⟨n0,hT⟩:=hT
 exact zKY hi ⟨n0,fun n hn=>zSH hy (hT n hn)⟩ hd h
theorem zSU (hi:Nat.blt i (zFn c).size=true) (hs:zV3 P H f c i s=some s') (h:WS P H f c (i+1) s' R):WS P H f c i s R:=by
 simp only [zV3] at hs
 split at hs
 ·rename_i e1 lg1 t ht
  obtain ⟨dr,hd,rfl⟩:=Option.map_eq_some_iff.1 hs
  exact zKY hi ⟨0,fun n _=>zLW ht⟩ hd h
 ·cases hs
theorem zL0:∀ (m:Nat) {i:Nat} {s s':RS},Nat.ble (i+m) (zFn c).size=true→zKf P H f c m i s=some s'→WS P H f c (i+m) s' R→WS P H f c i s R
 | 0,i,s,s',_,hs,h=>by simp only [zKf,Option.some.injEq] at hs;subst hs;exact h
 | m + 1,i,s,s',hi,hs,h=>by
  have gC:=Nat.le_of_ble_eq_true hi
  simp only [zKf] at hs
  split at hs
  ·rename_i s1 h1
   refine zSU (by simp;omega) h1 (zL0 m ?_ hs ?_)
   ·rw [show i+1+m=i+(m+1) by omega];exact hi
   ·rw [show i+1+m=i+(m+1) by omega];exact h
  ·cases hs
theorem zAd (m:Nat) (h:WS P H f c (i+m) (zWE (zKf P H f c m i s)) R) (hs:(zKf P H f c m i s).isSome=true:=by kernel_rfl) (hi:Nat.ble (i+m) (zFn c).size=true:=by kernel_rfl):WS P H f c i s R :=
 zL0 m hi (zM0 hs) h
def zLu (c:Code) (i:Nat) (e:Env):Bool :=
 match (zDT c i).guard with
 | none=>true
 | some (j,want)=>match ((zFn c)[j]?).bind (·.dst) with
  | some t=>match e.get t with
   | .bool b=>b==want
   | _=>false
  | none=>false
theorem zWC {e':Env} (hm:∃ n0,∀ n,n0≤n→(zW8 P H f c i).run (zCT P H n) s.e=some e') (h:WS P H f c (i+1) ⟨none,e',s.lg⟩ R) (ji:s.dr=none:=by kernel_rfl) (hy:noY s.lg s.e (zDT c i)=true:=by kernel_rfl) (hg:zLu c i s.e=true:=by kernel_rfl) (hi:Nat.blt i (zFn c).size=true:=by kernel_rfl):WS P H f c i s R:=by
 obtain ⟨n0,hm⟩:=hm
 obtain ⟨n2,e2,lg2,h1,h2⟩:=h
 obtain ⟨dr,e,lg⟩:=s
 simp only at ji hg hm hy;subst ji
 refine ⟨max n0 n2,e2,lg2,fun n hn=>?_,h2⟩
 obtain ⟨e3,h1,h3⟩:=h1 n (by omega)
 refine ⟨e3,?_,h3⟩
 have hr:(zFJ P H (zFn c) (((H f).frzs (rid c)).contains i) (((H f).take (rid c)).contains i) (H f).nils (zDT c i)).run (zCT P H n) e=some e':=by
  have hm:=hm n (by omega)
  revert hg
  simp only [zLu]
  cases qb:(zDT c i).guard with
  | none=>intro _;simp only [zFJ,qb];exact hm
  | some w =>
   obtain ⟨j,want⟩:=w
   intro hg
   simp only at hg
   cases hj:((zFn c)[j]?).bind (·.dst) with
   | none=>rw [hj] at hg;cases hg
   | some u =>
    rw [hj] at hg;simp only at hg
    cases hv:e.get u<;>rw [hv] at hg<;>try (cases hg;done)
    have hb:=eq_of_beq hg
    simp only [zFJ,qb,hj,PM.run,hv,hb,if_true]
    exact hm
 rw [zSc hi]
 simp only [zVE] at h1 ⊢
 have hs:zCK P H (zCT P H n) (((H f).frzs (rid c)).contains i) (((H f).take (rid c)).contains i) (H f).nils (zFn c) (zDT c i) e lg=some (e',lg):=by
  cases lg with
  | none=>simp only [zCK,hr,Option.map_some]
  | some l =>
   simp only [noY,Option.isNone_iff_eq_none] at hy
   simp only [zCK,hy,hr,Option.map_some]
 simp only [zA7,hs];exact h1
end
end Go.Eng
namespace Go.Eng
open Go
section
variable {P:Program} {H:zBf} {f:FuncId} {e e':Env} {i:Nat} {c:Code} {fz tk nl:Bool} {orc:zAA}
def zXN (e:Env):Operand→PV
 | .tmp t=>view t (e.get t)
 | .const v=>zEx v
 | .func f => .func f [] []
 | .global _ => .bad
theorem zPH {α β:Type} {f:β→α→β} {b:β} {l:List α} {i:Nat} (h:i<l.length):(l.take (i+1)).foldl f b=f ((l.take i).foldl f b) l[i]:=by
 rw [List.take_add_one,List.getElem?_eq_getElem h]
 simp only [Option.toList,List.foldl_append,List.foldl]
def two (o:Oper) (r:PV):PM :=
 match o.op with
 | .binOp _ _ x y _=>opd x fun _=>opd y fun _=>put o.dst r
 | .indexAddr _ x y=>opd x fun _=>opd y fun _=>put o.dst r
 | .index _ x y=>opd x fun _=>opd y fun _=>put o.dst r
 | _ => .fail
theorem zXr {a:Int} (h : -9223372036854775808≤a∧a<9223372036854775808):IntKind.i64.wrap a=a:=by
 rw [IntKind.wrap_i64];omega
end
end Go.Eng
namespace Go.Eng
open Go
section
variable [Yo] {P:Program} {H:zBf} {f:FuncId} {e e':Env} {i:Nat} {c:Code} {s:RS} {R:Env→Option Log→Prop} {fz tk nl:Bool} {orc:zAA}
def zZR (e:Env) (p q:PV) (l:List (Nat×zAP)):Prop:=∀ (orc:zAA) (k:PV→List (Nat×zAP)→PM),(zQb p k).run orc e=(k q l).run orc e
inductive SeenAll (e:Env):List Nat→List PV→List Arg→Prop where
 | nil {ms}:SeenAll e ms [] []
 | ref {ms ps as p}:Nat.beq (ms.headD 0) 1=true→SeenAll e ms.tail ps as→SeenAll e ms (p::ps) ({p:=p,byref:=true}::as)
 | one {ms ps as p q l}:Nat.beq (ms.headD 0) 1=false→zZR e p q l→SeenAll e ms.tail ps as→SeenAll e ms (p::ps) ({p:=q,shared:=l}::as)
theorem zKg {o o':zAA} (ho:∀ g a h r,o g a h=some r→o' g a h=some r):∀ {p:PM} {e e1:Env},p.run o e=some e1→p.run o' e=some e1:=by
 intro p
 induction p with
 | ok=>intro e e1 h;exact h
 | fail=>intro e e1 h;cases h
 | view s k ih=>intro e e1 h;exact ih _ h
 | get s k ih=>intro e e1 h;simp only [PM.run] at h ⊢;split at h<;>first | (cases h;done) | exact ih _ h
 | set s q k ih=>intro e e1 h;exact ih h
 | cells r pre i c n k ih=>intro e e1 h;simp only [PM.run] at h ⊢;split at h<;>first | (cases h;done) | exact ih _ _ h
 | deep r pre k ih=>intro e e1 h;simp only [PM.run] at h ⊢;split at h<;>first | (cases h;done) | exact ih _ h
 | wcells r pre i c qs k ih=>intro e e1 h;simp only [PM.run] at h ⊢;split at h<;>first | (cases h;done) | exact ih h
 | wnode r pre q k ih =>
  intro e e1 h
  simp only [PM.run] at h ⊢
  rcases zBc h with ⟨_,h⟩ | ⟨hl,h⟩
  ·cases h
  ·rw [hl];simp only [cond_false]
   split at h
   ·exact ih h
   ·cases h
 | kill r pre k ih=>intro e e1 h;exact ih h
 | frz r pre k ih=>intro e e1 h;simp only [PM.run] at h ⊢;split at h<;>first | (cases h;done) | exact ih h
 | killEx r pre k ih=>intro e e1 h;exact ih h
 | forget r k ih=>intro e e1 h;exact ih h
 | call f args hid k ih =>
  intro e e1 h
  simp only [PM.run] at h ⊢
  split at h
  ·rename_i v hZ hq
   rw [ho _ _ _ _ hq];exact ih _ _ h
  ·cases h
end
end Go.Eng
namespace Go.Eng
open Go
section
variable [Yo] {P:Program} {H:zBf} {f:FuncId} {e e':Env} {i:Nat} {c:Code} {s:RS} {R:Env→Option Log→Prop} {fz tk nl:Bool} {orc:zAA}
def zRL (c:Code) (i:Nat) (s:RS) (e':Env) (t:Tok):Option RS :=
 bif noY s.lg s.e (zDT c i) then match (match (zDT c i).guard with
  | none=>some t
  | some (j,want)=>match ((zFn c)[j]?).bind (·.dst) with
   | some u=>match s.e.get u with
    | .bool b=>bif b==want then some (Tok.join {rd:=[u]} t) else none
    | _=>none
   | none=>none) with
 | some t=>(zFm s.dr i (zDT c i) t).map fun dr=>⟨dr,e',s.lg⟩
 | none=>none else none
theorem zXV {m:Option (Env×Tok)} (hm:∃ n0,∀ n,n0≤n→(zW8 P H f c i).runT (zCT P H n) s.e=m) (h:WS P H f c (i+1) (zWE (m.bind fun r=>zRL c i s r.1 r.2)) R) (hs:(m.bind fun r=>zRL c i s r.1 r.2).isSome=true:=by kernel_rfl) (hi:Nat.blt i (zFn c).size=true:=by kernel_rfl):WS P H f c i s R:=by
 cases m with
 | none=>cases hs
 | some r =>
 obtain ⟨e',t⟩:=r
 have yy:=zM0 hs
 revert h
 generalize zWE ((some (e',t)).bind fun r=>zRL c i s r.1 r.2)=s' at yy
 intro h
 obtain ⟨n0,hm⟩:=hm
 simp only [Option.bind_some,zRL] at yy
 rcases zBc yy with ⟨hy,yy⟩ | ⟨_,yy⟩
 case inr=>cases yy
 split at yy
 ·rename_i t' ht
  obtain ⟨dr,hd,rfl⟩:=Option.map_eq_some_iff.1 yy
  refine zXy hi ⟨n0,fun n hn=>?_⟩ hd h hy
  revert ht
  cases hg:(zDT c i).guard with
  | none=>intro ht;simp only [Option.some.injEq] at ht;subst ht;simp only [zFJ,hg];exact hm n hn
  | some w =>
   obtain ⟨j,want⟩:=w
   intro ht
   simp only at ht
   cases hj:((zFn c)[j]?).bind (·.dst) with
   | none=>rw [hj] at ht;cases ht
   | some u =>
    rw [hj] at ht;simp only at ht
    cases hv:s.e.get u<;>rw [hv] at ht<;>try (cases ht;done)
    rcases zBc ht with ⟨hb,ht⟩ | ⟨_,ht⟩
    ·have hb:=eq_of_beq hb
     simp only [Option.some.injEq] at ht;subst ht
     simp only [zFJ,hg,hj,PM.runT,hv,hb,if_true]
     rw [hm n hn];rfl
    ·cases ht
 ·cases yy
theorem zNA {x:Operand} {p:PV} {k:PV→PM} (hx:zXN e x=p) (hp:p ≠ .bad):(opd x k).run orc e=(k p).run orc e:=by
 subst hx
 cases x with
 | tmp t=>rfl
 | const v=>rfl
 | func g=>rfl
 | global g=>exact (hp rfl).elim
theorem zNp {v:PV} (hh:v.heavy=false):v.cells.all (fun q => !q.heavy)=true:=by
 cases v<;>simp only [PV.cells,List.all_cons,List.all_nil,Bool.and_true,hh,Bool.not_false]
 rename_i cs
 simp only [PV.heavy] at hh
 refine List.all_eq_true.2 fun q hq=>?_
 obtain ⟨i,hi⟩:=List.getElem?_of_mem hq
 rw [zEr hh hi];rfl
theorem zMO:∀ {ps:List PV},ps.all (fun q=>q.ways.isEmpty)=true→zBp ps=[]
 | [],_=>rfl
 | p::ps,h=>by
  simp only [List.all_cons,Bool.and_eq_true,List.isEmpty_iff] at h
  simp only [zBp,h.1,List.nil_append,zMO h.2]
end
end Go.Eng
namespace Go.Eng
open Go
section
variable [Yo] {P:Program} {H:zBf} {f:FuncId} {e e':Env} {i:Nat} {c:Code} {s:RS} {R:Env→Option Log→Prop} {fz tk nl:Bool} {orc:zAA}
theorem zHx {x:Option Env} (h:x.isSome=true):x=some (zM2 x):=by cases x<;>first | rfl | cases h
theorem zTE {α:Type} {xs ys:List α} {y:α} {j:Nat} (h:j+(ys.length+1)≤xs.length):(xs.set j y).take (j+1)++ys++(xs.set j y).drop (j+1+ys.length)=xs.take j++(y::ys)++xs.drop (j+(ys.length+1)):=by
 obtain ⟨A, x, B, rfl, rfl⟩ : ∃ A x B, xs = A ++ x :: B ∧ A.length = j := ⟨xs.take j, xs[j]'(by omega), xs.drop (j + 1), by rw [← List.drop_eq_getElem_cons (by omega), List.take_append_drop], by simp; omega⟩
 have h1:(A++x::B).set A.length y=A++y::B:=by simp
 have h2:(A++y::B).take (A.length+1)=A++[y]:=by rw [List.take_append,List.take_of_length_le (by omega)];simp
 have h3:(A++y::B).drop (A.length+1+ys.length)=B.drop ys.length:=by
  rw [List.drop_append,List.drop_eq_nil_of_le (by omega)]
  simp [show A.length+1+ys.length-A.length=ys.length+1 by omega]
 have h4:(A++x::B).drop (A.length+(ys.length+1))=B.drop ys.length:=by
  rw [List.drop_append,List.drop_eq_nil_of_le (by omega)]
  simp
 have h5:(A++x::B).take A.length=A:=by simp
 rw [h1,h2,h3,h4,h5];simp
end
end Go.Eng
namespace Go.Eng
open Go
def Srt (e:Env):Prop:=e.Pairwise (fun a b=>a.1<b.1)∧∀ x∈e,x.2 ≠ .bad
theorem zMt:∀ {e:Env} {k:Nat},(∀ x∈e,k<x.1)→e.get k = .bad
 | [],_,_=>rfl
 | (k',v)::e,k,h=>by
  have h1:k<k':=h (k',v) (by simp)
  have:Nat.beq k' k=false:=by
   cases hb:Nat.beq k' k with
   | false=>rfl
   | true=>have:=Nat.eq_of_beq_eq_true hb;omega
  simp only [Env.get,this,cond_false]
  exact zMt fun x hx=>h x (by simp [hx])
theorem Srt.eq:∀ {e e':Env},Srt e→Srt e'→(∀ s,e.get s=e'.get s)→e=e'
 | [],[],_,_,_=>rfl
 | [],(k,v)::e',_,h2,h=>by
  have:=h k
  simp only [Env.get,Nat.beq_refl,cond_true] at this
  exact (h2.2 (k,v) (by simp) this.symm).elim
 | (k,v)::e,[],h1,_,h=>by
  have:=h k
  simp only [Env.get,Nat.beq_refl,cond_true] at this
  exact (h1.2 (k,v) (by simp) this).elim
 | (k, v)::e,(k',v')::e',h1,h2,h=>by
  obtain ⟨p1,q1⟩:=h1
  obtain ⟨p2,q2⟩:=h2
  obtain ⟨a1,b1⟩:=List.pairwise_cons.1 p1
  obtain ⟨a2,b2⟩:=List.pairwise_cons.1 p2
  have hk:k=k':=by
   rcases Nat.lt_trichotomy k k' with yJ | uc | yJ
   ·have:=h k
    rw [zMt (e:=(k',v')::e') (k:=k) (fun x hx=>by
     rcases List.mem_cons.1 hx with rfl | hx
     ·exact yJ
     ·exact Nat.lt_trans yJ (a2 x hx))] at this
    simp only [Env.get,Nat.beq_refl,cond_true] at this
    exact (q1 (k,v) (by simp) this).elim
   ·exact uc
   ·have:=h k'
    rw [zMt (e:=(k,v)::e) (k:=k') (fun x hx=>by
     rcases List.mem_cons.1 hx with rfl | hx
     ·exact yJ
     ·exact Nat.lt_trans yJ (a1 x hx))] at this
    simp only [Env.get,Nat.beq_refl,cond_true] at this
    exact (q2 (k',v') (by simp) this.symm).elim
  subst hk
  have hv:=h k
  simp only [Env.get,Nat.beq_refl,cond_true] at hv
  subst hv
  congr 1
  refine Srt.eq ⟨b1,fun x hx=>q1 x (by simp [hx])⟩ ⟨b2,fun x hx=>q2 x (by simp [hx])⟩ fun s=>?_
  have hs:=h s
  simp only [Env.get] at hs
  cases hb:Nat.beq k s with
  | false=>rw [hb] at hs;exact hs
  | true =>
   have:=Nat.eq_of_beq_eq_true hb;subst this
   rw [zMt a1,zMt a2]
theorem zLh:∀ {e:Env} {k:Nat} {v:PV} {x:Nat×PV},x∈e.set k v→x=(k,v)∨x∈e
 | [],k,v,x,h=>by simp only [Env.set,List.mem_singleton] at h;exact .inl h
 | (k',v')::e,k,v,x,h=>by
  simp only [Env.set] at h
  cases hb:Nat.beq k' k with
  | true=>rw [hb] at h;simp only [cond_true,List.mem_cons] at h;rcases h with h | h<;>simp [h]
  | false =>
   rw [hb] at h;simp only [cond_false] at h
   cases hl:Nat.ble k k' with
   | true=>rw [hl] at h;simp only [cond_true,List.mem_cons] at h;rcases h with h | h | h<;>simp [h]
   | false =>
    rw [hl] at h;simp only [cond_false,List.mem_cons] at h
    rcases h with h | h
    ·simp [h]
    ·rcases zLh h with h | h<;>simp [h]
theorem Srt.set:∀ {e:Env} {k:Nat} {v:PV},Srt e→v ≠ .bad→Srt (e.set k v)
 | [],k,v,_,hv=>⟨by simp [Env.set],by simp [Env.set,hv]⟩
 | (k',v')::e,k,v,h,hv=>by
  obtain ⟨p,q⟩:=h
  obtain ⟨a,b⟩:=List.pairwise_cons.1 p
  refine ⟨?_,fun x hx=>by
   rcases zLh hx with rfl | hx
   ·exact hv
   ·exact q x hx⟩
  simp only [Env.set]
  cases hb:Nat.beq k' k with
  | true =>
   have:=Nat.eq_of_beq_eq_true hb;subst this
   exact List.pairwise_cons.2 ⟨a,b⟩
  | false =>
   have hI:k'≠k:=by intro h;subst h;rw [Nat.beq_refl] at hb;cases hb
   cases hl:Nat.ble k k' with
   | true =>
    have:=Nat.le_of_ble_eq_true hl
    exact List.pairwise_cons.2 ⟨fun x hx=>by
     rcases List.mem_cons.1 hx with rfl | hx
     ·show k<k';omega
     ·have:k'<x.1:=a x hx
      show k<x.1;omega,p⟩
   | false =>
    have yJ:k'<k:=by
     have:¬ k≤k':=fun hh=>by rw [← Nat.ble_eq] at hh;rw [hh] at hl;cases hl
     omega
    refine List.pairwise_cons.2 ⟨fun x hx=>?_,(Srt.set ⟨b,fun x hx=>q x (by simp [hx])⟩ hv).1⟩
    rcases zLh hx with rfl | hx
    ·exact yJ
    ·exact a x hx
theorem Srt.norm:∀ (e:Env),Srt e.norm
 | []=>⟨by simp [Env.norm],by simp [Env.norm]⟩
 | (k,v)::e=>by
  have ih:=Srt.norm e
  simp only [Env.norm,Env.put]
  split
  ·exact ⟨ih.1.filter _,fun x hx=>ih.2 x (List.mem_filter.1 hx).1⟩
  ·rename_i hv;exact ih.set (fun h=>hv h)
theorem zVF {e e':Env} (h:∀ s,e.get s=e'.get s):e.norm=e'.norm:=(Srt.norm e).eq (Srt.norm e') fun s=>by rw [zIs,zIs];exact h s
section
variable [Yo] {P:Program} {H:zBf} {f:FuncId} {i:Nat} {c:Code} {R:Env→Option Log→Prop}
theorem zFW {o:zAA} {fzs tks:List Nat} {nl:Bool} {ops:Array Oper}:∀ {l:List Oper} {i:Nat} {e g:Env} {r:Env×Option Log},g.get=e.get→zA7 P H o fzs tks nl ops l i e none=some r→∃ g1,zA7 P H o fzs tks nl ops l i g none=some (g1,r.2)∧g1.get=r.1.get
 | [],_,e,g,r,he,h=>by simp only [zA7,Option.some.injEq] at h;subst h;exact ⟨g,rfl,he⟩
 | x :: l,i,e,g,r,he,h=>by
  simp only [zA7,zCK] at h ⊢
  cases hs:(zFJ P H ops (fzs.contains i) (tks.contains i) nl x).run o e with
  | none=>rw [hs] at h;cases h
  | some e1 =>
   rw [hs] at h
   obtain ⟨g1,h1,h2⟩:=zFr he hs
   rw [h1]
   exact zFW h2 h
theorem zUm {e e':Env} (h:WS P H f c i ⟨none,e',none⟩ R) (he:∀ s,e.get s=e'.get s):WS P H f c i ⟨none,e,none⟩ R:=by
 obtain ⟨n0,eN,lg',h1,h2⟩:=h
 refine ⟨n0,eN,lg',fun n hn=>?_,h2⟩
 obtain ⟨e1,h3,h4⟩:=h1 n hn
 simp only [zVE] at h3
 obtain ⟨g1,h5,h6⟩:=zFW (funext he) h3
 refine ⟨g1,h5,?_⟩
 rw [← h4]
 refine zVF fun s=>?_
 rw [Env.get_drop,Env.get_drop,h6]
def zUD (P:Program) (e:Env) (o:Oper):Option (Nat×PV×PV) :=
 match o.op with
 | .call c=>match c.callee,c.args.toList,c.argTypes.toList with
  | .builtin .copy,[x,y],t::_=>match (zBL P t).bind (szT P) with
   | some s=>some (s,zXN e x,zXN e y)
   | none=>none
  | _,_,_=>none
 | _=>none
def zWw (s:Nat) (x y:PV):Prop:=y.plain=true∧y.cells.length=s∧y.heavy=false∧y.cells.all (fun q=>q.ways.isEmpty)=true∧y.cells.length≤x.cells.length∧zAy x 0 y.cells=y
end
end Go.Eng
namespace Go.Eng
open Go
def Le (o o':zAA):Prop:=∀ g a h r,o g a h=some r→o' g a h=some r
theorem zRq {o0 o:zAA} (ho:Le o0 o):∀ {p:PM} {e:Env} {r:Env×Tok},p.runT o0 e=some r→p.runT o e=some r:=by
 intro p
 induction p with
 | ok=>intro e e1 h;exact h
 | fail=>intro e e1 h;cases h
 | view s k ih=>intro e e1 h;exact zAn h fun a h=>ih _ h
 | get s k ih=>intro e e1 h;simp only [PM.runT] at h ⊢;split at h<;>first | (cases h;done) | exact zAn h fun a h=>ih _ h
 | set s q k ih=>intro e e1 h;exact zAn h fun a h=>ih h
 | cells r pre i c n k ih=>intro e e1 h;simp only [PM.runT] at h ⊢;split at h<;>first | (cases h;done) | exact zAn h fun a h=>ih _ _ h
 | deep r pre k ih=>intro e e1 h;simp only [PM.runT] at h ⊢;split at h<;>first | (cases h;done) | exact zAn h fun a h=>ih _ h
 | wcells r pre i c qs k ih=>intro e e1 h;simp only [PM.runT] at h ⊢;split at h<;>first | (cases h;done) | exact zAn h fun a h=>ih h
 | wnode r pre q k ih =>
  intro e e1 h
  simp only [PM.runT] at h ⊢
  rcases zBc h with ⟨_,h⟩ | ⟨hl,h⟩
  ·cases h
  ·rw [hl];simp only [cond_false]
   split at h
   ·exact zAn h fun a h=>ih h
   ·cases h
 | kill r pre k ih=>intro e e1 h;exact zAn h fun a h=>ih h
 | frz r pre k ih=>intro e e1 h;simp only [PM.runT] at h ⊢;split at h<;>first | (cases h;done) | exact zAn h fun a h=>ih h
 | killEx r pre k ih=>intro e e1 h;exact zAn h fun a h=>ih h
 | forget r k ih=>intro e e1 h;exact zAn h fun a h=>ih h
 | call f args hid k ih =>
  intro e e1 h
  simp only [PM.runT] at h ⊢
  split at h
  ·rename_i v hZ hq
   rw [ho _ _ _ _ hq];exact ih _ _ h
  ·cases h
section
variable [Yo] {P:Program} {H:zBf} {o0 o:zAA} (ho:Le o0 o) {fz tk nl:Bool} {fzs tks:List Nat} {ops:Array Oper} {nt:Nat} {hh:FHint} {yo0 yo:zCJ} {al:All}
include ho in
theorem zIR {x:Oper} {h0:Nat} {args:List PV} {l:Log} {e:Env} {r:Env×Option Log} (h:zBK o0 ops x h0 args l e=some r):zBK o ops x h0 args l e=some r:=by
 simp only [zBK] at h ⊢
 split at h
 ·rcases zBc h with ⟨hc,h⟩ | ⟨_,h⟩
  ·rw [hc];simp only [cond_true]
   refine zAn h fun a h=>?_
   rcases zBc h with ⟨hk,h⟩ | ⟨hk,h⟩<;>rw [hk]
   ·exact zKg ho h
   ·exact zKg ho h
  ·cases h
 ·exact zAn h fun a h=>zKg ho h
 ·cases h
include ho in
theorem zS0 {x:Oper} {e:Env} {lg:Option Log} {r:Env×Option Log} (h:zCK P H o0 fz tk nl ops x e lg=some r):zCK P H o fz tk nl ops x e lg=some r:=by
 simp only [zCK] at h ⊢
 split at h
 ·exact zAn h fun a h=>zKg ho h
 ·split at h
  ·exact zIR ho h
  ·exact zAn h fun a h=>zKg ho h
include ho in
theorem zTB {x:Oper} {e:Env} {lg:Option Log} {r:Env×Option Log×Tok} (h:zEj P H o0 fz tk nl ops x e lg=some r):zEj P H o fz tk nl ops x e lg=some r:=by
 simp only [zEj] at h ⊢
 split at h
 ·exact zAn h fun a h=>zRq ho h
 ·split at h
  ·exact zAn h fun a h=>zIR ho h
  ·exact zAn h fun a h=>zRq ho h
include ho in
theorem zH6:∀ {l:List Oper} {i:Nat} {e:Env} {lg:Option Log} {r:Env×Option Log},zA7 P H o0 fzs tks nl ops l i e lg=some r→zA7 P H o fzs tks nl ops l i e lg=some r
 | [],_,_,_,_,h=>h
 | x::l,i,e,lg,r,h=>by
  simp only [zA7] at h ⊢
  cases hs:zCK P H o0 (fzs.contains i) (tks.contains i) nl ops x e lg with
  | none=>rw [hs] at h;cases h
  | some q=>rw [hs] at h;rw [zS0 ho hs];exact zH6 h
include ho in
theorem zKR:∀ {l:List Oper} {i:Nat} {acc:List Nat} {ts:List Tok} {e:Env} {lg:Option Log} {r:Env×Option Log},zCp P H o0 fzs tks nl ops l i acc ts e lg=some r→zCp P H o fzs tks nl ops l i acc ts e lg=some r
 | [],_,_,_,_,_,_,h=>h
 | x :: l,i,acc,ts,e,lg,r,h=>by
  simp only [zCp] at h ⊢
  cases hs:zEj P H o0 (fzs.contains i) (tks.contains i) nl ops x e lg with
  | none=>rw [hs] at h;cases h
  | some q =>
   rw [hs] at h;rw [zTB ho hs]
   simp only at h ⊢
   rcases zBc h with ⟨hc,h⟩ | ⟨_,h⟩
   ·rw [hc];exact zKR h
   ·cases h
include ho in
theorem zSa:∀ {m:Nat} {c:Code} {e:Env} {lg:Option Log} {r:X×Env×Option Log},exec P H o0 yo0 zGU nt hh m c e lg=some r→∀ {m':Nat},m≤m'→exec P H o yo al nt hh m' c e lg=some r
 | 0,_,_,_,_,h,_,_=>by cases h
 | m + 1,c,e,lg,r,h,m',hm=>by
  obtain ⟨m',rfl⟩:∃ k,m'=k+1:=⟨m'-1,by omega⟩
  have ih:∀ {c:Code} {e:Env} {lg:Option Log} {r:X×Env×Option Log},exec P H o0 yo0 zGU nt hh m c e lg=some r→exec P H o yo al nt hh m' c e lg=some r:=fun h=>zSa h (by omega)
  cases c with
  | region id ops draw =>
   simp only [exec] at h ⊢
   split at h
   ·rename_i e1 lg1 h1
    have:(if draw=true then zCp P H o (hh.frzs id) (hh.take id) hh.nils ops ops.toList 0 [] [] e lg else zA7 P H o (hh.frzs id) (hh.take id) hh.nils ops ops.toList 0 e lg)=some (e1,lg1):=by
     cases draw with
     | true=>exact zKR ho h1
     | false=>exact zH6 ho h1
    rw [this];exact h
   ·cases h
  | seq a b =>
   simp only [exec] at h ⊢
   cases h1:exec P H o0 yo0 zGU nt hh m a e lg with
   | none=>rw [h1] at h;cases h
   | some q =>
    rw [h1] at h;rw [ih h1]
    obtain ⟨x,e1,lg1⟩:=q
    cases x with
    | norm=>exact ih h
    | ex id=>exact h
    | ret=>exact h
  | cond c a b =>
   cases c with
   | tmp t =>
    simp only [exec] at h ⊢
    revert h
    cases e.get t with
    | bool v=>intro h;cases v<;>exact ih h
    | _=>intro h;cases h
   | const v =>
    simp only [exec] at h ⊢
    revert h
    cases v with
    | bool v=>intro h;cases v<;>exact ih h
    | _=>intro h;cases h
   | _=>cases h
  | block id b =>
   simp only [exec] at h ⊢
   cases h1:exec P H o0 yo0 zGU nt hh m b e lg with
   | none=>rw [h1] at h;cases h
   | some q =>
    rw [h1] at h;rw [ih h1];exact h
  | loop b =>
   simp only [exec] at h ⊢
   cases h1:exec P H o0 yo0 zGU nt hh m b (e.drop (hh.loopDrop (zAN b))) lg with
   | none=>rw [h1] at h;cases h
   | some q =>
    rw [h1] at h;rw [ih h1]
    obtain ⟨x,e1,lg1⟩:=q
    cases x with
    | norm=>exact ih h
    | ex id=>exact h
    | ret=>exact h
  | scope b=>exact ih h
  | rangeFunc x ps ca cb =>
   cases x with
   | tmp t =>
    simp only [exec] at h
    cases lg with
    | none =>
     simp only at h
     obtain ⟨q,h1,_⟩:=Option.map_eq_some_iff.1 h
     simp only [zHq] at h1
     split at h1
     ·cases h1
     ·cases h1
    | some _=>cases h
   | _=>cases h
  | skip=>exact h
  | exit id=>exact h
  | ret=>exact h
  | label l=>exact h
  | _=>cases h
end
section
variable [Yo] {P:Program} {H:zBf}
theorem zTw {o0 o:zAA} (ho:Le o0 o) {yo0 yo:zCJ} {al:All} {n n':Nat} (hn:n≤n') {f:FuncId} {args hid:List PV} {r:PV×List PV} (h:zJk P H o0 yo0 zGU n f args hid=some r):zJk P H o yo al n' f args hid=some r:=by
 simp only [zJk] at h ⊢
 cases hf:P.funcs[f]? with
 | none=>rw [hf] at h;cases h
 | some fn =>
  rw [hf] at h
  simp only at h ⊢
  by_cases hi:(H f).intr≠0
  ·rw [if_pos hi] at h ⊢;exact h
  ·rw [if_neg hi] at h ⊢
   cases hb:fn.body with
   | none=>rw [hb] at h;cases h
   | some body =>
    rw [hb] at h
    simp only [zJw] at h ⊢
    rcases zBc h with ⟨hc,h⟩ | ⟨_,h⟩
    ·rw [hc];simp only [cond_true]
     cases hx:exec P H o0 yo0 zGU fn.ntmps (H f) n body (zA4 args hid) none with
     | none=>rw [hx] at h;cases h
     | some q =>
      rw [hx] at h;rw [zSa ho hx hn]
      obtain ⟨x,e1,lg⟩:=q
      cases x<;>cases lg<;>simp only at h ⊢ <;> try (cases h;done)
      all_goals
       cases hr:(zCD P (H f).frz 0 fn.results.toList).run o0 e1 with
       | none=>rw [hr] at h;cases h
       | some e2=>rw [hr] at h;rw [zKg ho hr];exact h
    ·cases h
abbrev zW9 (P:Program) (H:zBf) (n:Nat):zAA:=(zSv P H zGU n).1
theorem zOA:∀ (n n':Nat),n≤n'→Le (zW9 P H n) (zCT P H n')
 | 0,_,_=>fun g a h r hh=>by cases hh
 | n+1,n',hn=>by
  obtain ⟨k,rfl⟩:∃ k,n'=k+1:=⟨n'-1,by omega⟩
  intro g a h r hh
  exact zTw (zOA n k (by omega)) (by omega) hh
theorem zDj.closed {f:FuncId} {args hid hZ:List PV} {v:PV} (n:Nat) (h:zW9 P H n f args hid=some (v,hZ):=by kernel_rfl):zDj P H f args hid v hZ:=⟨n,fun n' hn=>zOA n n' hn _ _ _ _ h⟩
end
end Go.Eng
namespace Go.Eng
open Go
section
variable {P:Program} {H:zBf}
theorem zRG (zEW:P.follows .mixedOrders=true) (hnm:zEH P) (zMz:Fit P H) (hin:zET P H) {f:FuncId} {args:List PV} (hg:@zDj (yo1 P H) P H f args [] (.bool true) []) {w:World} {Φ:Nat→Prop} {vs:Array Value} (hΦ:∀ b,Φ b→b<w.heap.size) (hr:zAX w Φ zB4 args vs.toList []) (uY:args.length≤zAm) :
  Calls P f vs w fun e w'=>e = .returned (.bool true)∧w.heap.size≤w'.heap.size∧(∀ b,b<w.heap.size→w'.heap[b]? = w.heap[b]?)∧w'.os=w.os∧w'.tape=w.tape∧w'.output=w.output:=by
 have wT:zAe=1000000000:=rfl
 have hhh:zAm=50000000:=rfl
 obtain ⟨n0,hg⟩:=hg
 obtain ⟨_,hm⟩:=@zE4 P H (yo1 P H) zEW hnm zMz hin (zPU zEW hnm zMz hin) n0 f args [] (.bool true) [] (hg n0 (Nat.le_refl _))
 obtain ⟨hX,jl⟩:=zLs hr
 have hvz:vs.size=args.length:=by rw [← hX];simp
 have p2:Conf w (fun b=>∃ s,b∈((fun _=>[]):Nat→List Nat) s) Φ w Φ (fun s=>(vs[s]?).getD undef) (fun s=>(zA4 args []).get s) (fun _=>[]):=by
  refine ⟨fun s=>?_,fun _=>List.nodup_nil,fun _ _ _ _ h=>(by cases h),fun _ _ h=>(by cases h),fun b hb=>⟨hΦ b hb,.inl hb⟩,fun _ h=>h,Nat.le_refl _,fun _ _ _=>rfl,rfl,rfl,rfl⟩
  show Rep _ _ _ ((zA4 args []).get s) _ _
  rw [zDa (by omega)]
  by_cases h1:s<args.length
  ·rw [if_pos h1]
   obtain ⟨v,uq,ke⟩:=jl s args[s] (List.getElem?_eq_getElem h1)
   have:vs[s]? = some v:=by rw [← Array.getElem?_toList];exact uq
   rw [this]
   simp only [List.getD,List.getElem?_eq_getElem h1,Option.getD_some]
   exact ke.mono (fun b hb=>⟨hb,rfl⟩) (fun _ _ _ h=>h.elim) (by simp)
  ·rw [if_neg h1,if_neg (by simp only [List.length_nil];omega)]
   rfl
 have hc:=hm w Φ (fun s=>(vs[s]?).getD undef) (fun s=>(zA4 args []).get s) (fun _=>[]) vs (fun _ _=>rfl) (fun s hs=>by
   rw [zDa (by omega),if_neg (by omega),if_neg (by simp only [List.length_nil];omega)]) p2 hvz (fun j hj=>by rw [Array.getElem?_eq_getElem (by omega)];rfl) (fun s hs _=>by rw [Array.getElem?_eq_none (by omega)];rfl)
 refine hc.mono fun e w' ⟨u,Φ',rv',E',L',he,C,_,_,uw⟩=>?_
 obtain ⟨h1,h2⟩:=uw.one (fun ps h=>by cases h)
 have hO:=C.rep zAx
 rw [h1] at hO
 have hu:u = .bool true:=by rw [← h2];exact hO.1
 refine ⟨by rw [he,hu],C.size,fun b hb=>C.kept b hb (fun ⟨s,hs⟩=>by cases hs),C.os,C.tape,C.output⟩
end
end Go.Eng
namespace Go.Eng
open Go
section
variable [Yo] {P:Program} {H:zBf} {f:FuncId} {nt:Nat} {e e':Env} {lg:Option Log} {K:X→Env→Option Log→Prop} {i:Nat} {c:Code} {s:RS} {R:Env→Option Log→Prop} {fz tk nl:Bool} {orc:zAA}
theorem zBU (p:Prop) [Decidable p] (h1:p→W P H f nt (cl c) e lg K) (h2:¬p→W P H f nt (cr c) e lg K) (hc:zEt c e=some (decide p):=by kernel_rfl):W P H f nt c e lg K :=
 zD4 (decide p) (fun h=>h1 (of_decide_eq_true h)) (fun h=>h2 (of_decide_eq_false h)) hc
theorem zAL (p:Prop) [Decidable p] (hp:p) (h1:W P H f nt (cl c) e lg K) (hc:zEt c e=some (decide p):=by kernel_rfl):W P H f nt c e lg K :=
 zD4 (decide p) (fun _=>h1) (fun h=>absurd hp (of_decide_eq_false h)) hc
theorem zAO (p:Prop) [Decidable p] (hp:¬p) (h2:W P H f nt (cr c) e lg K) (hc:zEt c e=some (decide p):=by kernel_rfl):W P H f nt c e lg K :=
 zD4 (decide p) (fun h=>absurd (of_decide_eq_true h) hp) (fun _=>h2) hc
theorem zC6 (p:Prop) [Decidable p] (h1:¬p→W P H f nt (cl c) e lg K) (h2:p→W P H f nt (cr c) e lg K) (hc:zEt c e=some (!decide p):=by kernel_rfl):W P H f nt c e lg K :=
 zD4 (!decide p) (fun h=>h1 (by simpa using h)) (fun h=>h2 (by simpa using h)) hc
theorem zCj (p:Prop) [Decidable p] (hp:¬p) (h1:W P H f nt (cl c) e lg K) (hc:zEt c e=some (!decide p):=by kernel_rfl):W P H f nt c e lg K :=
 zC6 p (fun _=>h1) (fun h=>absurd h hp) hc
theorem zEc (p:Prop) [Decidable p] (hp:p) (h1:W P H f nt (cr c) e lg K) (hc:zEt c e=some (!decide p):=by kernel_rfl):W P H f nt c e lg K :=
 zC6 p (fun h=>absurd hp h) (fun _=>h1) hc
theorem zDV (t:Nat) (b:Bool) (h1:b=true→WS P H f c i ⟨s.dr,s.e.set t (.bool true),s.lg⟩ R) (h2:b=false→WS P H f c i ⟨s.dr,s.e.set t (.bool false),s.lg⟩ R) (hb:s.e.set t (.bool b)=s.e:=by kernel_rfl):WS P H f c i s R:=by
 obtain ⟨dr,e,lg⟩:=s
 simp only at h1 h2 hb
 rw [← hb]
 cases b with
 | true=>exact h1 rfl
 | false=>exact h2 rfl
theorem zEw (t:Nat) (p:Prop) [Decidable p] (h1:p→WS P H f c i ⟨s.dr,s.e.set t (.bool true),s.lg⟩ R) (h2:¬p→WS P H f c i ⟨s.dr,s.e.set t (.bool false),s.lg⟩ R) (hb:s.e.set t (.bool (decide p))=s.e:=by kernel_rfl):WS P H f c i s R :=
 zDV t (decide p) (fun h=>h1 (of_decide_eq_true h)) (fun h=>h2 (of_decide_eq_false h)) hb
theorem zJ3 (t:Nat) (p:Prop) [Decidable p] (hp:p) (h1:WS P H f c i ⟨s.dr,s.e.set t (.bool true),s.lg⟩ R) (hb:s.e.set t (.bool (decide p))=s.e:=by kernel_rfl):WS P H f c i s R :=
 zEw t p (fun _=>h1) (fun h=>absurd hp h) hb
theorem zUx (t:Nat) (p:Prop) [Decidable p] (hp:¬p) (h1:WS P H f c i ⟨s.dr,s.e.set t (.bool false),s.lg⟩ R) (hb:s.e.set t (.bool (decide p))=s.e:=by kernel_rfl):WS P H f c i s R :=
 zEw t p (fun h=>absurd h hp) (fun _=>h1) hb
theorem zUS (t:Nat) (p:Prop) [Decidable p] (h1:¬p→WS P H f c i ⟨s.dr,s.e.set t (.bool true),s.lg⟩ R) (h2:p→WS P H f c i ⟨s.dr,s.e.set t (.bool false),s.lg⟩ R) (hb:s.e.set t (.bool (!decide p))=s.e:=by kernel_rfl):WS P H f c i s R :=
 zDV t (!decide p) (fun h=>h1 (by simpa using h)) (fun h=>h2 (by simpa using h)) hb
theorem zOh (t:Nat) (p:Prop) [Decidable p] (hp:p) (h1:WS P H f c i ⟨s.dr,s.e.set t (.bool false),s.lg⟩ R) (hb:s.e.set t (.bool (!decide p))=s.e:=by kernel_rfl):WS P H f c i s R :=
 zUS t p (fun h=>absurd hp h) (fun _=>h1) hb
theorem get_map {α β:Type} {g:α→β} {l:List α} {i:Nat} {d:α} (h:i<l.length):(l.map g)[i]? = some (g (l.getD i d)):=by
 simp [List.getD,List.getElem?_eq_getElem h]
def zY7 (e:Env) (p q:PV) (l:List (Nat×zAP)) (t:Tok):Prop:=∀ (orc:zAA) (k:PV→List (Nat×zAP)→PM),(zQb p k).runT orc e=((k q l).runT orc e).map fun y=>(y.1,Tok.join t y.2)
inductive SeenAllT (e:Env):List Nat→List PV→List Arg→List Tok→Prop where
 | nil {ms}:SeenAllT e ms [] [] []
 | ref {ms ps as ts p}:SeenAllT e ms.tail ps as ts→(hb:Nat.beq (ms.headD 0) 1=true:=by kernel_rfl)→SeenAllT e ms (p::ps) ({p:=p,byref:=true}::as) ts
 | one {ms ps as ts p q l t}:zY7 e p q l t→SeenAllT e ms.tail ps as ts→(hb:Nat.beq (ms.headD 0) 1=false:=by kernel_rfl)→SeenAllT e ms (p::ps) ({p:=q,shared:=l}::as) (t::ts)
def zNj:List (Nat×PV)→Env→Env
 | [],e=>e
 | (k,v)::l,e=>zNj l (e.set k v)
theorem zAo {σ:Type} {c:Code} (Inv:σ→Prop) (upd:σ→List (Nat×PV)) (μ:σ→Nat) (s:σ) (hi:Inv s) (h:∀ s,Inv s→W P H f nt (cl c) (zNj (upd s) (e.drop ((H f).loopDrop (zAN (cl c))))) lg fun x e' lg'=>match x with
   | .norm=>∃ s',Inv s'∧μ s'<μ s∧e'.drop ((H f).loopDrop (zAN (cl c)))=zNj (upd s') (e.drop ((H f).loopDrop (zAN (cl c))))∧lg'=lg
   | x=>K x e' lg') (hs:e.drop ((H f).loopDrop (zAN (cl c)))=zNj (upd s) (e.drop ((H f).loopDrop (zAN (cl c)))):=by kernel_rfl) (hc:zOr c=true:=by kernel_rfl):W P H f nt c e lg K :=
 zWA Inv (fun s=>zNj (upd s) (e.drop ((H f).loopDrop (zAN (cl c))))) μ s hi h hs hc
end
end Go.Eng
namespace Go.Eng
open Go
theorem zJv {x:Nat→Option (List (List PV))} {r:List (List PV)} (h:∀ i,x i=some r):zB3 x=some r:=by
 have h':∃ r,∀ i,x i=some r:=⟨r,h⟩
 simp only [zB3,dif_pos h']
 have:=(Classical.choose_spec h') 0
 rw [h 0] at this
 exact this.symm
section
def zTV [Yo] (g:FuncId) (first caps:List PV) (k:Int) (xs:List (List PV)):Prop:=∀ i,Yo.yo g first i caps k=some xs
def zF9 [Yo] (g:FuncId) (first caps:List PV) (xs:List (List PV)):Prop:=zTV g first caps (-1) xs∧∀ j:Nat,1≤j→j≤xs.length→zTV g first caps j (xs.take j)
variable [Yo] (P:Program) (H:zBf)
def zLq (f:FuncId) (nt:Nat) (ps:List Tmp) (assign body:Code) (x:List PV) (e:Env) (K:X→Env→Prop):Prop :=
 ∃ e1,zCh ps x e=some e1∧W P H f nt assign e1 none fun y e2 lg=>y = .norm∧lg=none∧W P H f nt body e2 none fun y e3 lg=>lg=none∧K y e3
def Rg (f:FuncId) (nt:Nat) (ps:List Tmp) (assign body:Code) (R ds:List Nat) (K:X→Env→Option Log→Prop):List (List PV)→Env→Prop
 | [],e=>K .norm e none
 | x :: xs,e=>zLq P H f nt ps assign body x e fun y e3=>match y with
  | .norm=>match R with
   | []=>Rg f nt ps assign body R ds K xs (after nt [] ds e e3)
   | r::R'=>zFX e (zCM e (r::R'))=true∧∃ e1,zEk (zCM e (r::R')) e=some e1∧zLq P H f nt ps assign body x e1 fun y e3=>y = .norm∧Rg f nt ps assign body R ds K xs (after nt (zCM e (r::R')) ds e e3)
  | y=>K y (after nt [] ds e e3) none
end
section
variable [Yo] {P:Program} {H:zBf} {f:FuncId} {nt:Nat} {e e':Env} {lg:Option Log} {K:X→Env→Option Log→Prop}
noncomputable abbrev zNT (P:Program) (H:zBf) (f:FuncId) (nt n m:Nat):Code→Env→Option (X×Env):=fun c e=>match exec P H (zCT P H n) Yo.yo zB3 nt (H f) m c e none with | some (x,e',none)=>some (x,e') | _=>none
def zOy (run:Code→Env→Option (X×Env)) (ps:List Tmp) (assign body:Code) (x:List PV) (e:Env):Option (X×Env):=match zCh ps x e with
 | some e1=>match run assign e1 with
  | some (.norm,e2)=>run body e2
  | _=>none
 | none=>none
theorem zBG {run:Code→Env→Option (X×Env)} {ps:List Tmp} {assign body:Code} {R ds:List Nat} {x:List PV} {xs:List (List PV)} {j:Nat}:zC1 nt run ps assign body R ds (x::xs) e j=(match zOy run ps assign body x e with
  | some (.norm,e3)=>match R with
   | []=>zC1 nt run ps assign body R ds xs (after nt [] ds e e3) (j+1)
   | r :: R=>match (bif zFX e (zCM e (r::R)) then zEk (zCM e (r::R)) e else none) with
    | some e1=>match zOy run ps assign body x e1 with
     | some (.norm,e3)=>zC1 nt run ps assign body (r::R) ds xs (after nt (zCM e (r::R)) ds e e3) (j+1)
     | _=>none
    | none=>none
  | some (r,e3)=>some (some (j+1,r),after nt [] ds e e3)
  | none=>none):=by
 cases R<;>rfl
theorem zLq.run {ps:List Tmp} {assign body:Code} {x:List PV} {K:X→Env→Prop} (h:zLq P H f nt ps assign body x e K):∃ n0 y e3,(∀ n m,n0≤n→n0≤m→zOy (zNT P H f nt n m) ps assign body x e=some (y,e3))∧K y e3:=by
 obtain ⟨e1,h1,n1,y,e2,lg,h2,rfl,rfl,n2,z,e3,lg,h3,rfl,h4⟩:=h
 refine ⟨max n1 n2,z,e3,fun n m hn hm=>?_,h4⟩
 simp only [zOy,h1,zNT,h2 n m (by omega) (by omega),h3 n m (by omega) (by omega)]
theorem Rg.run {ps:List Tmp} {assign body:Code} {R ds:List Nat}:∀ {xs:List (List PV)} {e:Env},Rg P H f nt ps assign body R ds K xs e→∃ n0,
  (∃ e',(∀ n m j,n0≤n→n0≤m→zC1 nt (zNT P H f nt n m) ps assign body R ds xs e j=some (none,e'))∧K .norm e' none) ∨
  (∃ i y e',i<xs.length∧y ≠ .norm∧(∀ n m j,n0≤n→n0≤m→zC1 nt (zNT P H f nt n m) ps assign body R ds xs e j=some (some (j+i+1,y),e')) ∧
   (∀ n m j,n0≤n→n0≤m→zC1 nt (zNT P H f nt n m) ps assign body R ds (xs.take (i+1)) e j=some (some (j+i+1,y),e'))∧K y e' none)
 | [],e,h=>⟨0,.inl ⟨e,fun _ _ _ _ _=>rfl,h⟩⟩
 | x :: xs,e,h=>by
  obtain ⟨n1,y,e3,h1,h2⟩:=zLq.run h
  cases y with
  | norm =>
   cases R with
   | nil =>
    simp only at h2
    obtain ⟨n2,h3⟩:=Rg.run h2
    refine ⟨max n1 n2,?_⟩
    rcases h3 with ⟨e',h3,h4⟩ | ⟨i,y,e',hi,hy,h3,h4,h5⟩
    ·exact .inl ⟨e',fun n m j hn hm=>by rw [zBG,h1 n m (by omega) (by omega)];exact h3 n m _ (by omega) (by omega),h4⟩
    ·refine .inr ⟨i+1,y,e',by simp;omega,hy,fun n m j hn hm=>?_,fun n m j hn hm=>?_,h5⟩
     ·rw [zBG,h1 n m (by omega) (by omega)];simp only;rw [h3 n m _ (by omega) (by omega)];simp only [Option.some.injEq,Prod.mk.injEq,and_true];omega
     ·rw [List.take_succ_cons,zBG,h1 n m (by omega) (by omega)];simp only;rw [h4 n m _ (by omega) (by omega)];simp only [Option.some.injEq,Prod.mk.injEq,and_true];omega
   | cons r R' =>
    simp only at h2
    obtain ⟨hc,e1,hf,hr⟩:=h2
    obtain ⟨n3,z,e4,h6,rfl,h7⟩:=zLq.run hr
    obtain ⟨n2,h3⟩:=Rg.run h7
    refine ⟨max n1 (max n2 n3),?_⟩
    rcases h3 with ⟨e',h3,h4⟩ | ⟨i,y,e',hi,hy,h3,h4,h5⟩
    ·exact .inl ⟨e',fun n m j hn hm=>by rw [zBG,h1 n m (by omega) (by omega)];simp only [hc,cond_true,hf,h6 n m (by omega) (by omega)];exact h3 n m _ (by omega) (by omega),h4⟩
    ·refine .inr ⟨i+1,y,e',by simp;omega,hy,fun n m j hn hm=>?_,fun n m j hn hm=>?_,h5⟩
     ·rw [zBG,h1 n m (by omega) (by omega)];simp only [hc,cond_true,hf,h6 n m (by omega) (by omega)];rw [h3 n m _ (by omega) (by omega)];simp only [Option.some.injEq,Prod.mk.injEq,and_true];omega
     ·rw [List.take_succ_cons,zBG,h1 n m (by omega) (by omega)];simp only [hc,cond_true,hf,h6 n m (by omega) (by omega)];rw [h4 n m _ (by omega) (by omega)];simp only [Option.some.injEq,Prod.mk.injEq,and_true];omega
  | ex id =>
   refine ⟨n1,.inr ⟨0,.ex id,_,by simp,by simp,fun n m j hn hm=>?_,fun n m j hn hm=>?_,h2⟩⟩
   ·rw [zBG,h1 n m (by omega) (by omega)]
   ·rw [List.take_succ_cons,zBG,h1 n m (by omega) (by omega)]
  | ret =>
   refine ⟨n1,.inr ⟨0,.ret,_,by simp,by simp,fun n m j hn hm=>?_,fun n m j hn hm=>?_,h2⟩⟩
   ·rw [zBG,h1 n m (by omega) (by omega)]
   ·rw [List.take_succ_cons,zBG,h1 n m (by omega) (by omega)]
def rgT:Code→Option Nat
 | .rangeFunc (.tmp t) _ _ _=>some t
 | _=>none
def zXj:Code→List Tmp
 | .rangeFunc _ ps _ _=>ps.toList
 | _=>[]
def rgA:Code→Code
 | .rangeFunc _ _ a _=>a
 | c=>c
def rgB:Code→Code
 | .rangeFunc _ _ _ b=>b
 | c=>c
def zWo (c:Code):List Nat:=zXj c++zBJ (rgA c)++zBJ (rgB c)
theorem zVe {t:Tmp} {ps:Array Tmp} {assign body:Code} {g:FuncId} {first caps:List PV} {R:List Nat} {xs:List (List PV)} (yN:zDN e t=some (g,first,caps,R)) (hY:zF9 g first caps xs)
  (h:Rg P H f nt ps.toList assign body R (ps.toList++zBJ assign++zBJ body) K xs e):W P H f nt (.rangeFunc (.tmp t) ps assign body) e none K:=by
 obtain ⟨hY1,hY2⟩:=hY
 obtain ⟨n2,hr⟩:=Rg.run h
 rcases hr with ⟨e',h3,h4⟩ | ⟨i,y,e',hi,hy,h3,h4,h5⟩
 ·refine ⟨n2+1,.norm,e',none,fun n m hn hm=>?_,h4⟩
  obtain ⟨m,rfl⟩:∃ k,m=k+1:=⟨m-1,by omega⟩
  show (zHq nt Yo.yo zB3 (zNT P H f nt n m) t ps.toList assign body e).map (fun x=>(x.1,x.2,none))=_
  simp only [zHq,yN,zJv (fun i=>hY1 i),h3 n m 0 (by omega) (by omega),Option.map_some]
 ·have hY2:=hY2 (i+1) (by omega) (by omega)
  refine ⟨n2+1,y,e',none,fun n m hn hm=>?_,h5⟩
  obtain ⟨m,rfl⟩:∃ k,m=k+1:=⟨m-1,by omega⟩
  show (zHq nt Yo.yo zB3 (zNT P H f nt n m) t ps.toList assign body e).map (fun x=>(x.1,x.2,none))=_
  simp only [zHq,yN,zJv (fun i=>hY1 i),h3 n m 0 (by omega) (by omega)]
  have hcast:((0+i+1:Nat):Int)=((i+1:Nat):Int):=by omega
  rw [hcast,zJv (fun i=>hY2 i)]
  simp only [h4 n m 0 (by omega) (by omega),List.length_take]
  rw [if_pos ⟨trivial,by omega⟩]
  rfl
theorem zSE {c:Code} {t g:Nat} {first caps:List PV} {R:List Nat} {xs:List (List PV)} (hY:zF9 g first caps xs) (h:Rg P H f nt (zXj c) (rgA c) (rgB c) R (zWo c) K xs e) (yN:zDN e t=some (g,first,caps,R):=by kernel_rfl) (hc:rgT c=some t:=by kernel_rfl) (hl:lg=none:=by kernel_rfl):W P H f nt c e lg K:=by
 subst hl
 cases c<;>try (cases hc;done)
 rename_i x ps a b
 cases x<;>try (cases hc;done)
 rename_i u
 simp only [rgT,Option.some.injEq] at hc;subst hc
 exact zVe yN hY h
theorem zV8 {σ:Type} {c:Code} {t g:Nat} {first caps:List PV} {xs:List (List PV)} (hY:zF9 g first caps xs) (Inv:Nat→σ→Prop) (I:σ→Env) (s:σ) (hi:Inv 0 s)
  (h:∀ j x s,xs[j]? = some x→Inv j s→zLq P H f nt (zXj c) (rgA c) (rgB c) x (I s) fun y e3=>match y with
   | .norm=>∃ s',Inv (j+1) s'∧after nt [] (zWo c) (I s) e3=I s'
   | y=>K y (after nt [] (zWo c) (I s) e3) none) (hK:∀ s,Inv xs.length s→K .norm (I s) none) (hs:e=I s:=by kernel_rfl) (yN:zDN e t=some (g,first,caps,[]):=by kernel_rfl) (hc:rgT c=some t:=by kernel_rfl) (hl:lg=none:=by kernel_rfl):W P H f nt c e lg K:=by
 refine zSE hY ?_ yN hc hl
 clear yN hY
 subst hs
 have key:∀ (ys:List (List PV)) (j:Nat) (s:σ),xs.drop j=ys→j≤xs.length→Inv j s→Rg P H f nt (zXj c) (rgA c) (rgB c) [] (zWo c) K ys (I s):=by
  intro ys
  induction ys with
  | nil =>
   intro j s hd hj hi
   have:j=xs.length:=by
    have:=congrArg List.length hd;simp at this;omega
   subst this
   exact hK s hi
  | cons x ys ih =>
   intro j s hd hj hi
   have hx:xs[j]? = some x:=by
    have:=congrArg (fun l=>l[0]?) hd
    simpa using this
   have yJ:=(List.getElem?_eq_some_iff.1 hx).1
   obtain ⟨e1,h1,h2⟩:=h j x s hx hi
   refine ⟨e1,h1,zUs h2 fun y e2 lg ⟨a1,a2,a3⟩=>⟨a1,a2,zUs a3 fun y e3 lg ⟨b1,b2⟩=>⟨b1,?_⟩⟩⟩
   cases y with
   | norm =>
    obtain ⟨s',yy,he⟩:=b2
    simp only
    rw [he]
    refine ih (j+1) s' ?_ (by omega) yy
    rw [← List.drop_drop,hd];rfl
   | ex id=>exact b2
   | ret=>exact b2
 exact key xs 0 s rfl (by omega) hi
theorem zPa {ps:List Tmp} {a b:Code} {x:List PV} {K:X→Env→Prop} (h:W P H f nt a ((zCh ps x e).getD []) none fun y e2 lg=>y = .norm∧lg=none∧W P H f nt b e2 none fun y e3 lg=>lg=none∧K y e3) (hp:(zCh ps x e).isSome=true:=by kernel_rfl):zLq P H f nt ps a b x e K:=by
 obtain ⟨e1,h1⟩:=Option.isSome_iff_exists.1 hp
 rw [h1] at h
 exact ⟨e1,h1,h⟩
omit [Yo] in
theorem zUf (fn:Func) {g:FuncId} {first caps:List PV} {k:Int} {xs:List (List PV)} (h:∀ i,@W yo0 P H g fn.ntmps (fn.body.getD .ret) (zA4 (first++PV.yld i::caps) []) (some ⟨[],k,i⟩) fun x _ lg=>(x = .norm∨x = .ret)∧lg.map (·.xs)=some xs) (hk:k≠0)
  (hf:P.funcs[g]? = some fn:=by kernel_rfl) (hb:fn.body.isSome=true:=by kernel_rfl) (hc:∀ i,(Nat.ble (first++PV.yld i::caps).length fn.ntmps&&fn.results.isEmpty&&(first++caps).all (fun p => !p.isTup))=true:=by intro i;kernel_rfl) (hin:Nat.beq (H g).intr 0=true:=by kernel_rfl):@zTV (yo1 P H) g first caps k xs:=by
 intro i
 obtain ⟨body,hb⟩:∃ body,fn.body=some body:=by cases hx:fn.body<;>first | exact ⟨_,rfl⟩ | (rw [hx] at hb;cases hb)
 have h:=h i
 simp only [hb,Option.getD_some] at h
 obtain ⟨n0,x,e1,lg1,h1,hx,hl⟩:=h
 refine zU2 (n0:=n0) fun n hn=>?_
 have j4:=h1 n (n+1) (by omega) (by omega)
 cases lg1 with
 | none=>cases hl
 | some l =>
  simp only [Option.map_some,Option.some.injEq] at hl
  simp only [zTF,zW1,hf,hb]
  have wL:(k != 0)=true:=by simpa using hk
  have hc':=hc i
  rw [hc',wL,hin]
  simp only [Bool.and_self,cond_true,j4]
  rcases hx with rfl | rfl<;>simp [hl]
end
end Go.Eng
namespace Go.Eng
open Go
inductive PX where
 | ok | fail | emb (p:PM)
 | view (s:Nat) (k:PV→PX) | get (s:Nat) (k:PV→PX) | set (s:Nat) (p:PV) (k:PX)
 | cells (r:Nat) (pre:zAP) (i c n:Nat) (k:Bool→List PV→PX) | deep (r:Nat) (pre:zAP) (k:PV→PX)
 | wcells (r:Nat) (pre:zAP) (i c:Nat) (qs:List PV) (k:PX) | wnode (r:Nat) (pre:zAP) (q:PV) (k:PX)
 | kill (r:Nat) (pre:zAP) (k:PX) | frz (r:Nat) (pre:zAP) (k:PX) | frzp (r:Nat) (pre:zAP) (p:PV) (k:PV→PX) | killEx (r:Nat) (keep:List zAP) (k:PX)
 | call (f:FuncId) (args hid:List PV) (k:PV→List PV→PX)
 | test (b:Bool) (k:PX) | pick (x:Option PV) (k:PV→PX) | num (x:Option Nat) (k:Nat→PX) | idx (x:Option (Option Nat)) (k:Option Nat→PX)
 | choose (b:Bool) (k1 k2:PX) | same (p:PV) (k:PV→PX) | sames (ps:List PV) (k:List PV→PX)
 | nats (x:List Nat) (k:List Nat→PX) | pure (d:Option Nat) (f:FuncId) (args:List PV) (k:PX)
def PX.toPM:PX→PM
 | .ok => .ok
 | .fail => .fail
 | .emb p=>p
 | .view s k => .view s fun p=>(k p).toPM
 | .get s k => .get s fun p=>(k p).toPM
 | .set s p k => .set s p k.toPM
 | .cells r pre i c n k => .cells r pre i c n fun a qs=>(k a qs).toPM
 | .deep r pre k => .deep r pre fun q=>(k q).toPM
 | .wcells r pre i c qs k => .wcells r pre i c qs k.toPM
 | .wnode r pre q k => .wnode r pre q k.toPM
 | .kill r pre k => .kill r pre k.toPM
 | .frz r pre k => .frz r pre k.toPM
 | .frzp r pre p k => .frz r pre (k p).toPM
 | .killEx r keep k => .killEx r keep k.toPM
 | .call f args hid k => .call f args hid fun v h=>(k v h).toPM
 | .test b k=>bif b then k.toPM else .fail
 | .pick x k=>match x with
  | some v=>(k v).toPM
  | none => .fail
 | .num x k=>match x with
  | some v=>(k v).toPM
  | none => .fail
 | .idx x k=>match x with
  | some v=>(k v).toPM
  | none => .fail
 | .choose b k1 k2=>bif b then k1.toPM else k2.toPM
 | .same p k=>(k p).toPM
 | .sames ps k=>(k ps).toPM
 | .nats x k=>(k x).toPM
 | .pure _ _ _ k=>k.toPM
inductive An where
 | ob | v (p:PV) | vs (ps:List PV) | n (k:Nat) | ix (k:Option Nat) | yes | no | cs (a:Bool) (qs:List PV) | root (r:PV) (kept:Bool) | ret (v:PV) (hid:List PV) | ns (l:List Nat) | env (e:Env) | envv (e:Env) (q:PV)
abbrev Ans:=List (Nat×An)
def zGk:Ans→Option An×Ans
 | []=>(none,[])
 | (0,a)::l=>(some a,l)
 | (n+1,a)::l=>(none,(n,a)::l)
section
variable [Yo] (P:Program) (H:zBf)
def zTj (f:FuncId) (args:List PV) (v:PV):Prop:=∀ (d:Option Nat) (e:Env),∃ n0,∀ n,n0≤n→(zNy H d f args).runT (zCT P H n) e=(put d v).runT (zCT P H n) e
abbrev XR:=Option (Env×Tok×List Prop)
def XR.tok (t:Tok) (x:XR):XR:=x.map fun y=>(y.1,Tok.join t y.2.1,y.2.2)
def XR.ob (q:Prop) (x:XR):XR:=x.map fun y=>(y.1,y.2.1,q::y.2.2)
def PX.run:PX→Ans→Env→XR
 | .ok,_,e=>some (e,{},[])
 | .fail,_,_=>none
 | .emb p,_,e=>(p.runT zHu e).map fun y=>(y.1,y.2,[])
 | .view s k,as,e=>((k (Eng.view s (e.get s))).run as e).tok {look:=[s]}
 | .get s k,as,e=>match e.get s with
  | .lock _=>none
  | p=>((k p).run as e).tok {rd:=[s]}
 | .set s p k,as,e=>(k.run as (e.set s p)).tok (zFl s (e.get s) p)
 | .cells r pre i c n k,as,e=>match zGk as with
  | (none,as)=>match zAt r (e.get r) pre i c n with
   | some (a,qs)=>((k a qs).run as e).tok {cel:=[(r,pre)]}
   | none=>none
  | (some (.cs a qs),as)=>(((k a qs).run as e).tok {cel:=[(r,pre)]}).ob (zAt r (e.get r) pre i c n=some (a,qs))
  | _=>none
 | .deep r pre k,as,e=>match zGk as with
  | (none,as)=>match zAw (e.get r).unlock pre with
   | some q=>((k q).run as e).tok {rd:=[r]}
   | none=>none
  | (some (.v q),as)=>(((k q).run as e).tok {rd:=[r]}).ob (zAw (e.get r).unlock pre=some q)
  | _=>none
 | .wcells r pre i c qs k,as,e=>match zGk as with
  | (none,as)=>match zBx (e.get r) pre i c qs with
   | some root=>(k.run as (e.set r root)).tok (zA8 r [] (zAD (e.get r) root pre) (e.get r) root)
   | none=>none
  | (some (.root root kp),as)=>((k.run as (e.set r root)).tok (zA8 r [] kp (e.get r) root)).ob (zBx (e.get r) pre i c qs=some root∧zAD (e.get r) root pre=kp)
  | _=>none
 | .wnode r pre q k,as,e=>match zGk as with
  | (none,as)=>bif (e.get r).isLock then none else match zAs (fun _=>some q) (e.get r) pre with
   | some root=>(k.run as (e.set r root)).tok (zA8 r pre.dropLast (zAD (e.get r) root pre&&(pre.isEmpty || !q.isAgg)) (e.get r) root)
   | none=>none
  | (some (.root root kp),as)=>bif (e.get r).isLock then none else ((k.run as (e.set r root)).tok (zA8 r pre.dropLast (kp&&(pre.isEmpty || !q.isAgg)) (e.get r) root)).ob (zAs (fun _=>some q) (e.get r) pre=some root∧zAD (e.get r) root pre=kp)
  | _=>none
 | .kill r pre k,as,e=>(k.run as (e.kill r pre)).tok (zAG (zDi e fun z=>zAF r pre z.1 z.2) e.get (e.kill r pre).get [r] [])
 | .frz r pre k,as,e=>match zGk as with
  | (none,as)=>match e.frz r pre with
   | some e'=>(k.run as e').tok (zAG (r::zDi e fun z=>zAF r pre z.1 z.2) e.get e'.get [r] [])
   | none=>none
  | (some (.env e'),as)=>((k.run as e').tok (zAG (r::zDi e fun z=>zAF r pre z.1 z.2) e.get e'.get [r] [])).ob (e.frz r pre=some e')
  | _=>none
 | .frzp r pre p k,as,e=>match zGk as with
  | (none,as)=>match e.frz r pre with
   | some e'=>((k p).run as e').tok (zAG (r::zDi e fun z=>zAF r pre z.1 z.2) e.get e'.get [r] [])
   | none=>none
  | (some (.env e'),as)=>(((k p).run as e').tok (zAG (r::zDi e fun z=>zAF r pre z.1 z.2) e.get e'.get [r] [])).ob (e.frz r pre=some e')
  | (some (.envv e' q),as)=>(((k q).run as e').tok (zAG (r::zDi e fun z=>zAF r pre z.1 z.2) e.get e'.get [r] [])).ob (e.frz r pre=some e'∧p=q)
  | _=>none
 | .killEx r keep k,as,e=>(k.run as (e.killEx r keep)).tok (zAG (zDi e fun z=>Nat.beq z.1 r && !z.2.isEmpty) e.get (e.killEx r keep).get [] [r])
 | .call f args hid k,as,e=>match zGk as with
  | (some (.ret v hZ),as)=>((k v hZ).run as e).ob (zDj P H f args hid v hZ)
  | _=>none
 | .test b k,as,e=>match zGk as with
  | (none,as)=>bif b then k.run as e else none
  | (some .ob,as)=>(k.run as e).ob (b=true)
  | _=>none
 | .pick x k,as,e=>match zGk as with
  | (none,as)=>match x with
   | some v=>(k v).run as e
   | none=>none
  | (some (.v v),as)=>((k v).run as e).ob (x=some v)
  | _=>none
 | .num x k,as,e=>match zGk as with
  | (none,as)=>match x with
   | some v=>(k v).run as e
   | none=>none
  | (some (.n v),as)=>((k v).run as e).ob (x=some v)
  | _=>none
 | .idx x k,as,e=>match zGk as with
  | (none,as)=>match x with
   | some v=>(k v).run as e
   | none=>none
  | (some (.ix v),as)=>((k v).run as e).ob (x=some v)
  | _=>none
 | .choose b k1 k2,as,e=>match zGk as with
  | (none,as)=>bif b then k1.run as e else k2.run as e
  | (some .yes,as)=>(k1.run as e).ob (b=true)
  | (some .no,as)=>(k2.run as e).ob (b=false)
  | _=>none
 | .same p k,as,e=>match zGk as with
  | (none,as)=>(k p).run as e
  | (some (.v q),as)=>((k q).run as e).ob (p=q)
  | _=>none
 | .sames ps k,as,e=>match zGk as with
  | (none,as)=>(k ps).run as e
  | (some (.vs qs),as)=>((k qs).run as e).ob (ps=qs)
  | _=>none
 | .nats x k,as,e=>match zGk as with
  | (none,as)=>(k x).run as e
  | (some (.ns l),as)=>((k l).run as e).ob (x=l)
  | _=>none
 | .pure d f args k,as,e=>match zGk as with
  | (none,as)=>k.run as e
  | (some (.v v),_)=>XR.ob (zTj P H f args v∧k.toPM=zNy H d f args) (((put d v).runT zHu e).map fun y=>(y.1,y.2,[]))
  | _=>none
def zTi:List Prop→Prop
 | []=>True
 | p::ps=>p∧zTi ps
end
section
variable [Yo] {P:Program} {H:zBf}
theorem XR.tok_some {t u:Tok} {x:XR} {e':Env} {obs:List Prop} (h:x.tok t=some (e',u,obs)):∃ u',x=some (e',u',obs)∧u=Tok.join t u':=by
 obtain ⟨⟨a,b,c⟩,h1,h2⟩:=Option.map_eq_some_iff.1 h
 simp only [Prod.mk.injEq] at h2
 obtain ⟨rfl,rfl,rfl⟩:=h2
 exact ⟨_,h1,rfl⟩
theorem XR.ob_some {q:Prop} {u:Tok} {x:XR} {e':Env} {obs:List Prop} (h:x.ob q=some (e',u,obs)):∃ o',x=some (e',u,o')∧obs=q::o':=by
 obtain ⟨⟨a,b,c⟩,h1,h2⟩:=Option.map_eq_some_iff.1 h
 simp only [Prod.mk.injEq] at h2
 obtain ⟨rfl,rfl,rfl⟩:=h2
 exact ⟨_,h1,rfl⟩
theorem PX.run_ok:∀ {p:PX} {as:Ans} {e e':Env} {t:Tok} {obs:List Prop},p.run P H as e=some (e',t,obs)→zTi obs→∃ n0,∀ n,n0≤n→p.toPM.runT (zCT P H n) e=some (e',t):=by
 intro p
 induction p with
 | ok=>intro as e e' t obs h _;simp only [PX.run,Option.some.injEq,Prod.mk.injEq] at h;obtain ⟨rfl,rfl,_⟩:=h;exact ⟨0,fun _ _=>rfl⟩
 | fail=>intro as e e' t obs h _;cases h
 | emb p =>
  intro as e e' t obs h _
  obtain ⟨⟨a,b⟩,h1,h2⟩:=Option.map_eq_some_iff.1 h
  simp only [Prod.mk.injEq] at h2
  obtain ⟨rfl,rfl,_⟩:=h2
  exact ⟨0,fun _ _=>zIF h1⟩
 | view s k ih =>
  intro as e e' t obs h ha
  obtain ⟨u,h1,rfl⟩:=XR.tok_some h
  obtain ⟨n0,h2⟩:=ih _ h1 ha
  exact ⟨n0,fun n hn=>by simp only [PX.toPM,PM.runT,h2 n hn];rfl⟩
 | get s k ih =>
  intro as e e' t obs h ha
  simp only [PX.run] at h
  cases hg:e.get s<;>rw [hg] at h<;>simp only at h<;>try (cases h;done)
  all_goals
   obtain ⟨u,h1,rfl⟩:=XR.tok_some h
   obtain ⟨n0,h2⟩:=ih _ h1 ha
   exact ⟨n0,fun n hn=>by simp only [PX.toPM,PM.runT,hg,h2 n hn];rfl⟩
 | set s q k ih =>
  intro as e e' t obs h ha
  obtain ⟨u,h1,rfl⟩:=XR.tok_some h
  obtain ⟨n0,h2⟩:=ih h1 ha
  exact ⟨n0,fun n hn=>by simp only [PX.toPM,PM.runT,h2 n hn];rfl⟩
 | cells r pre i c n k ih =>
  intro as e e' t obs h ha
  simp only [PX.run] at h
  split at h
  ·split at h
   ·rename_i hr
    obtain ⟨u,h1,rfl⟩:=XR.tok_some h
    obtain ⟨n0,h2⟩:=ih _ _ h1 ha
    exact ⟨n0,fun n hn=>by simp only [PX.toPM,PM.runT,hr,h2 n hn];rfl⟩
   ·cases h
  ·obtain ⟨o,h0,rfl⟩:=XR.ob_some h
   obtain ⟨u,h1,rfl⟩:=XR.tok_some h0
   obtain ⟨n0,h2⟩:=ih _ _ h1 ha.2
   exact ⟨n0,fun n hn=>by simp only [PX.toPM,PM.runT,ha.1,h2 n hn];rfl⟩
  ·cases h
 | deep r pre k ih =>
  intro as e e' t obs h ha
  simp only [PX.run] at h
  split at h
  ·split at h
   ·rename_i hr
    obtain ⟨u,h1,rfl⟩:=XR.tok_some h
    obtain ⟨n0,h2⟩:=ih _ h1 ha
    exact ⟨n0,fun n hn=>by simp only [PX.toPM,PM.runT,hr,h2 n hn];rfl⟩
   ·cases h
  ·obtain ⟨o,h0,rfl⟩:=XR.ob_some h
   obtain ⟨u,h1,rfl⟩:=XR.tok_some h0
   obtain ⟨n0,h2⟩:=ih _ h1 ha.2
   exact ⟨n0,fun n hn=>by simp only [PX.toPM,PM.runT,ha.1,h2 n hn];rfl⟩
  ·cases h
 | wcells r pre i c qs k ih =>
  intro as e e' t obs h ha
  simp only [PX.run] at h
  split at h
  ·split at h
   ·rename_i hr
    obtain ⟨u,h1,rfl⟩:=XR.tok_some h
    obtain ⟨n0,h2⟩:=ih h1 ha
    exact ⟨n0,fun n hn=>by simp only [PX.toPM,PM.runT,hr,h2 n hn];rfl⟩
   ·cases h
  ·obtain ⟨o,h0,rfl⟩:=XR.ob_some h
   obtain ⟨u,h1,rfl⟩:=XR.tok_some h0
   obtain ⟨n0,h2⟩:=ih h1 ha.2
   exact ⟨n0,fun n hn=>by simp only [PX.toPM,PM.runT,ha.1.1,ha.1.2,h2 n hn];rfl⟩
  ·cases h
 | wnode r pre q k ih =>
  intro as e e' t obs h ha
  simp only [PX.run] at h
  split at h
  ·rcases zBc h with ⟨_,h⟩ | ⟨hl,h⟩
   ·cases h
   ·split at h
    ·rename_i hr
     obtain ⟨u,h1,rfl⟩:=XR.tok_some h
     obtain ⟨n0,h2⟩:=ih h1 ha
     exact ⟨n0,fun n hn=>by simp only [PX.toPM,PM.runT,hl,cond_false,hr,h2 n hn];rfl⟩
    ·cases h
  ·rcases zBc h with ⟨_,h⟩ | ⟨hl,h⟩
   ·cases h
   ·obtain ⟨o,h0,rfl⟩:=XR.ob_some h
    obtain ⟨u,h1,rfl⟩:=XR.tok_some h0
    obtain ⟨n0,h2⟩:=ih h1 ha.2
    exact ⟨n0,fun n hn=>by simp only [PX.toPM,PM.runT,hl,cond_false,ha.1.1,ha.1.2,h2 n hn];rfl⟩
  ·cases h
 | kill r pre k ih =>
  intro as e e' t obs h ha
  obtain ⟨u,h1,rfl⟩:=XR.tok_some h
  obtain ⟨n0,h2⟩:=ih h1 ha
  exact ⟨n0,fun n hn=>by simp only [PX.toPM,PM.runT,h2 n hn];rfl⟩
 | frz r pre k ih =>
  intro as e e' t obs h ha
  simp only [PX.run] at h
  split at h
  ·split at h
   ·rename_i hr
    obtain ⟨u,h1,rfl⟩:=XR.tok_some h
    obtain ⟨n0,h2⟩:=ih h1 ha
    exact ⟨n0,fun n hn=>by simp only [PX.toPM,PM.runT,hr,h2 n hn];rfl⟩
   ·cases h
  ·obtain ⟨o,h0,rfl⟩:=XR.ob_some h
   obtain ⟨u,h1,rfl⟩:=XR.tok_some h0
   obtain ⟨n0,h2⟩:=ih h1 ha.2
   exact ⟨n0,fun n hn=>by simp only [PX.toPM,PM.runT,ha.1,h2 n hn];rfl⟩
  ·cases h
 | frzp r pre p k ih =>
  intro as e e' t obs h ha
  simp only [PX.run] at h
  split at h
  ·split at h
   ·rename_i hr
    obtain ⟨u,h1,rfl⟩:=XR.tok_some h
    obtain ⟨n0,h2⟩:=ih _ h1 ha
    exact ⟨n0,fun n hn=>by simp only [PX.toPM,PM.runT,hr,h2 n hn];rfl⟩
   ·cases h
  ·obtain ⟨o,h0,rfl⟩:=XR.ob_some h
   obtain ⟨u,h1,rfl⟩:=XR.tok_some h0
   obtain ⟨n0,h2⟩:=ih _ h1 ha.2
   exact ⟨n0,fun n hn=>by simp only [PX.toPM,PM.runT,ha.1,h2 n hn];rfl⟩
  ·obtain ⟨o,h0,rfl⟩:=XR.ob_some h
   obtain ⟨u,h1,rfl⟩:=XR.tok_some h0
   obtain ⟨⟨hf,rfl⟩,ha⟩:=ha
   obtain ⟨n0,h2⟩:=ih _ h1 ha
   exact ⟨n0,fun n hn=>by simp only [PX.toPM,PM.runT,hf,h2 n hn];rfl⟩
  ·cases h
 | killEx r keep k ih =>
  intro as e e' t obs h ha
  obtain ⟨u,h1,rfl⟩:=XR.tok_some h
  obtain ⟨n0,h2⟩:=ih h1 ha
  exact ⟨n0,fun n hn=>by simp only [PX.toPM,PM.runT,h2 n hn];rfl⟩
 | call f args hid k ih =>
  intro as e e' t obs h ha
  simp only [PX.run] at h
  split at h
  ·obtain ⟨o,h1,rfl⟩:=XR.ob_some h
   obtain ⟨n0,h2⟩:=ih _ _ h1 ha.2
   obtain ⟨n1,h3⟩:=ha.1
   exact ⟨max n0 n1,fun n hn=>by simp only [PX.toPM,PM.runT,h3 n (by omega),h2 n (by omega)]⟩
  ·cases h
 | test b k ih =>
  intro as e e' t obs h ha
  simp only [PX.run] at h
  split at h
  ·rcases zBc h with ⟨hb,h⟩ | ⟨_,h⟩
   ·obtain ⟨n0,h2⟩:=ih h ha
    exact ⟨n0,fun n hn=>by simp only [PX.toPM,hb,cond_true,h2 n hn]⟩
   ·cases h
  ·obtain ⟨o,h1,rfl⟩:=XR.ob_some h
   obtain ⟨n0,h2⟩:=ih h1 ha.2
   exact ⟨n0,fun n hn=>by simp only [PX.toPM,ha.1,cond_true,h2 n hn]⟩
  ·cases h
 | pick x k ih =>
  intro as e e' t obs h ha
  simp only [PX.run] at h
  split at h
  ·split at h
   ·obtain ⟨n0,h2⟩:=ih _ h ha
    exact ⟨n0,fun n hn=>by simp only [PX.toPM,h2 n hn]⟩
   ·cases h
  ·obtain ⟨o,h1,rfl⟩:=XR.ob_some h
   obtain ⟨n0,h2⟩:=ih _ h1 ha.2
   exact ⟨n0,fun n hn=>by simp only [PX.toPM,ha.1,h2 n hn]⟩
  ·cases h
 | num x k ih =>
  intro as e e' t obs h ha
  simp only [PX.run] at h
  split at h
  ·split at h
   ·obtain ⟨n0,h2⟩:=ih _ h ha
    exact ⟨n0,fun n hn=>by simp only [PX.toPM,h2 n hn]⟩
   ·cases h
  ·obtain ⟨o,h1,rfl⟩:=XR.ob_some h
   obtain ⟨n0,h2⟩:=ih _ h1 ha.2
   exact ⟨n0,fun n hn=>by simp only [PX.toPM,ha.1,h2 n hn]⟩
  ·cases h
 | idx x k ih =>
  intro as e e' t obs h ha
  simp only [PX.run] at h
  split at h
  ·split at h
   ·obtain ⟨n0,h2⟩:=ih _ h ha
    exact ⟨n0,fun n hn=>by simp only [PX.toPM,h2 n hn]⟩
   ·cases h
  ·obtain ⟨o,h1,rfl⟩:=XR.ob_some h
   obtain ⟨n0,h2⟩:=ih _ h1 ha.2
   exact ⟨n0,fun n hn=>by simp only [PX.toPM,ha.1,h2 n hn]⟩
  ·cases h
 | choose b k1 k2 ih1 ih2 =>
  intro as e e' t obs h ha
  simp only [PX.run] at h
  split at h
  ·rcases zBc h with ⟨hb,h⟩ | ⟨hb,h⟩
   ·obtain ⟨n0,h2⟩:=ih1 h ha
    exact ⟨n0,fun n hn=>by simp only [PX.toPM,hb,cond_true,h2 n hn]⟩
   ·obtain ⟨n0,h2⟩:=ih2 h ha
    exact ⟨n0,fun n hn=>by simp only [PX.toPM,hb,cond_false,h2 n hn]⟩
  ·obtain ⟨o,h1,rfl⟩:=XR.ob_some h
   obtain ⟨n0,h2⟩:=ih1 h1 ha.2
   exact ⟨n0,fun n hn=>by simp only [PX.toPM,ha.1,cond_true,h2 n hn]⟩
  ·obtain ⟨o,h1,rfl⟩:=XR.ob_some h
   obtain ⟨n0,h2⟩:=ih2 h1 ha.2
   exact ⟨n0,fun n hn=>by simp only [PX.toPM,ha.1,cond_false,h2 n hn]⟩
  ·cases h
 | same p k ih =>
  intro as e e' t obs h ha
  simp only [PX.run] at h
  split at h
  ·exact ih _ h ha
  ·obtain ⟨o,h1,rfl⟩:=XR.ob_some h
   obtain ⟨n0,h2⟩:=ih _ h1 ha.2
   exact ⟨n0,fun n hn=>by simp only [PX.toPM,ha.1,h2 n hn]⟩
  ·cases h
 | sames ps k ih =>
  intro as e e' t obs h ha
  simp only [PX.run] at h
  split at h
  ·exact ih _ h ha
  ·obtain ⟨o,h1,rfl⟩:=XR.ob_some h
   obtain ⟨n0,h2⟩:=ih _ h1 ha.2
   exact ⟨n0,fun n hn=>by simp only [PX.toPM,ha.1,h2 n hn]⟩
  ·cases h
 | nats x k ih =>
  intro as e e' t obs h ha
  simp only [PX.run] at h
  split at h
  ·exact ih _ h ha
  ·obtain ⟨o,h1,rfl⟩:=XR.ob_some h
   obtain ⟨n0,h2⟩:=ih _ h1 ha.2
   exact ⟨n0,fun n hn=>by simp only [PX.toPM,ha.1,h2 n hn]⟩
  ·cases h
 | pure d f args k ih =>
  intro as e e' t obs h ha
  simp only [PX.run] at h
  split at h
  ·exact ih h ha
  ·obtain ⟨o,h1,rfl⟩:=XR.ob_some h
   obtain ⟨⟨a,b⟩,h2,h3⟩:=Option.map_eq_some_iff.1 h1
   simp only [Prod.mk.injEq] at h3
   obtain ⟨rfl,rfl,_⟩:=h3
   obtain ⟨⟨hp,hk⟩,_⟩:=ha
   obtain ⟨n0,hp⟩:=hp d e
   exact ⟨n0,fun n hn=>by simp only [PX.toPM];rw [hk,hp n hn];exact zIF h2⟩
  ·cases h
end
end Go.Eng
namespace Go.Eng
open Go
def zGP (x:Operand) (k:PV→PX):PX :=
 match x with
 | .tmp t => .view t k
 | .const v=>k (zEx v)
 | .func f=>k (.func f [] [])
 | .global _ => .fail
def zLR (x:Operand) (k:PV→PX):PX :=
 match x with
 | .tmp t => .get t fun p => .choose p.heavy (.set t .bad (k p)) (k p)
 | .const v=>k (zEx v)
 | .func f=>k (.func f [] [])
 | .global _ => .fail
def zPO:List Operand→(List PV→PX)→PX
 | [],k=>k []
 | x::xs,k=>zGP x fun p=>zPO xs fun ps=>k (p::ps)
def zWn (d:Nat) (p:PV) (k:PX):PX := .choose p.heavy (.kill d [] (.set d (p.mapW (lose d [])) k)) (.set d p k)
def zGh (d:Option Nat) (p:PV):PX :=
 match d with
 | none => .ok
 | some d => .same p fun p=>bif p.isTup then .fail else zWn d p .ok
def zHf (d:Nat):Nat→List PV→PX→PX
 | n,[],k => .set d (.tup (List.replicate n .bad)) k
 | i,p::ps,k => .same p fun p=>zWn (zBm d i) p (zHf d (i+1) ps k)
def zEZ (d:Option Nat) (v:PV):PX :=
 match d,v with
 | some d,.tup vs => .test (Nat.ble vs.length 16) (.test ((zBp vs).all (fun w => !zIJ d w.1)) (.set d .bad (zHf d 0 vs .ok)))
 | d,v=>zGh d v
def zFB:PV→(Nat→PX)→PX
 | .int _ n,k => .test (decide (0≤n)) (.num (some n.toNat) k)
 | _,_ => .fail
def zSG (r:Nat) (pre:zAP) (i c:Nat) (sh:Option Nat) (k:PV→PX):PX :=
 match sh with
 | some n => .cells r pre i c n fun a qs=>bif a then k (.agg qs) else .fail
 | none => .cells r pre i c 1 fun _ qs=>k (qs.headD .bad)
def zHn (r:Nat) (pre:zAP) (i:Nat):Nat→List PV→PX→PX
 | _,[],k=>k
 | c,q::qs,k=>bif q.heavy then .kill r (pre++[(i,c)]) (zHn r pre i (c+1) qs k) else zHn r pre i (c+1) qs k
def zQu (r:Nat) (pre:zAP) (i c:Nat) (qs:List PV) (k:PX):PX := .choose (qs.all fun q => !q.heavy) k (zHn r pre i c qs k)
section
variable {k:PX} {kp:PV→PX}
theorem zB2 {x:Operand} {k:PV→PX}:(zGP x k).toPM=opd x fun p=>(k p).toPM:=by cases x<;>rfl
theorem zBo {α:Type} {b:Bool} {x y:α}:(bif b then x else y)=if b=true then x else y:=by cases b<;>rfl
theorem zF5 {x:Operand} {k:PV→PX}:(zLR x k).toPM=zO9 x fun p=>(k p).toPM:=by
 cases x<;>first | rfl | simp only [zLR,zO9,PX.toPM,zBo]
theorem zIz:∀ {xs:List Operand} {k:List PV→PX},(zPO xs k).toPM=zTh xs fun p=>(k p).toPM
 | [],_=>rfl
 | x::xs,k=>by simp only [zPO,zTh,zB2,zIz]
theorem zLd {d:Nat} {p:PV} {k:PX}:(zWn d p k).toPM=lay d p k.toPM:=by simp only [zWn,lay,PX.toPM]
theorem zC8 {b:Bool} {x y:PX}:(bif b then x else y).toPM=bif b then x.toPM else y.toPM:=by cases b<;>rfl
theorem zOS {c:Prop} [Decidable c] {x y:PX}:(if c then x else y).toPM=if c then x.toPM else y.toPM:=by split<;>rfl
theorem zBn {d:Option Nat} {p:PV}:(zGh d p).toPM=put d p:=by
 cases d with
 | none=>rfl
 | some d=>simp only [zGh,put,PX.toPM,zC8,zLd]
theorem zHQ {d:Nat}:∀ {ps:List PV} {i:Nat} {k:PX},(zHf d i ps k).toPM=zFh d i ps k.toPM
 | [],_,_=>rfl
 | p::ps,i,k=>by simp only [zHf,zFh,PX.toPM,zLd,zHQ]
theorem zDe {α:Type} {a b:Bool} {x y:α}:(bif a&&b then x else y)=bif a then (bif b then x else y) else y:=by cases a<;>rfl
theorem zER {d:Option Nat} {v:PV}:(zEZ d v).toPM=zDl d v:=by
 cases d with
 | none=>cases v<;>simp only [zEZ,zDl,zBn]
 | some d=>cases v<;>simp only [zEZ,zDl,PX.toPM,zHQ,zDe,zBn]
theorem zEQ {p:PV} {k:Nat→PX}:(zFB p k).toPM=zGo p fun n=>(k n).toPM:=by
 cases p<;>first | rfl | skip
 simp only [zFB,zGo,PX.toPM,zBo,decide_eq_true_eq]
theorem zLB {r:Nat} {pre:zAP} {i c:Nat} {sh:Option Nat} {k:PV→PX}:(zSG r pre i c sh k).toPM=zMw r pre i c sh fun p=>(k p).toPM:=by
 cases sh<;>simp only [zSG,zMw,PX.toPM,zC8]
theorem zIO {r:Nat} {pre:zAP} {i:Nat}:∀ {qs:List PV} {c:Nat} {k:PX},(zHn r pre i c qs k).toPM=zDR r pre i c qs k.toPM
 | [],_,_=>rfl
 | q::qs,c,k=>by simp only [zHn,zDR,zC8,PX.toPM,zIO]
theorem zE9 {r:Nat} {pre:zAP} {i:Nat}:∀ {qs:List PV} {c:Nat} {k:PM},(qs.all fun q => !q.heavy)=true→zDR r pre i c qs k=k
 | [],_,_,_=>rfl
 | q::qs,c,k,h=>by
  simp only [List.all_cons,Bool.and_eq_true,Bool.not_eq_true'] at h
  simp only [zDR,h.1,cond_false];exact zE9 h.2
theorem zQW {r:Nat} {pre:zAP} {i c:Nat} {qs:List PV} {k:PX}:(zQu r pre i c qs k).toPM=zDR r pre i c qs k.toPM:=by
 simp only [zQu,PX.toPM,zIO]
 cases h:qs.all fun q => !q.heavy with
 | false=>rfl
 | true=>exact (zE9 h).symm
end
def zEJ (res:PV→(PV→List (Nat×zAP)→PX)→PX):List PV→(List PV→List (Nat×zAP)→PX)→PX
 | [],k=>k [] []
 | p::ps,k=>res p fun q l=>zEJ res ps fun qs m=>k (q::qs) (l++m)
def zDA (hb:Nat):Nat→PV→(PV→List (Nat×zAP)→PX)→PX
 | 0,_,_ => .fail
 | n + 1,p,k =>
  match p with
  | .addr r pre i c sh=>bif Nat.ble hb r then k p [] else .deep r pre fun q=>match zA6 q with
   | some xs => .pick xs[i]? fun x=>match sh with
     | some m => .test (Nat.ble (c+m) x.cells.length) (.test x.isAgg (zDA hb n (.agg ((x.cells.drop c).take m)) fun q l=>k (.ref q) ((r,pre)::l)))
     | none => .pick x.cells[c]? fun q => .test q.oneCell (zDA hb n q fun q l=>k (.ref q) ((r,pre)::l))
   | none => .fail
  | .bor r pre _ lo m=>bif Nat.ble hb r then k p [] else .deep r pre fun q=>match q with
   | .own _ xs => .test (Nat.ble (lo+m) xs.length) (.same (.sl (zAB ((xs.drop lo).take m))) fun p=>k p [(r,pre)])
   | _ => .fail
  | .bsl r pre i c sz ag m=>bif Nat.ble hb r then k p [] else .deep r pre fun q=>match zA6 q with
   | some xs => .pick xs[i]? fun x => .test (zCd ag sz m ((x.cells.drop c).take (m*sz))) (.test (zBp x.cells).isEmpty (.same (.sl (zCe ag sz m (zAB ((x.cells.drop c).take (m*sz))))) fun p=>k p [(r,pre)]))
   | none => .fail
  | .bmap r pre=>bif Nat.ble hb r then k p [] else .deep r pre fun q=>match q with
   | .omap es=>k (.map es) [(r,pre)]
   | _ => .fail
  | .agg cs => .choose (p.ways).isEmpty (.same (zAQ p) fun q=>k q []) (zEJ (zDA hb n) cs fun qs l=>k (.agg qs) l)
  | .func f a b => .choose (p.ways).isEmpty (k p []) (zEJ (zDA hb n) a fun as l=>zEJ (zDA hb n) b fun bs m=>k (.func f as bs) (l++m))
  | .ref q => .choose (q.ways).isEmpty (k p []) (zDA hb n q fun q l=>k (.ref q) l)
  | .bad=>k .bad []
  | p => .test (p.ways.all (fun w=>Nat.ble hb w.1)) (.same (zAQ p) fun q=>k q [])
def zUo (p:PV) (k:PV→List (Nat×zAP)→PX):PX:=zDA zAe depth p k
theorem zH1 {res:PV→(PV→List (Nat×zAP)→PX)→PX} {res':PV→(PV→List (Nat×zAP)→PM)→PM} (h:∀ p k,(res p k).toPM=res' p fun q l=>(k q l).toPM):∀ {ps:List PV} {k:List PV→List (Nat×zAP)→PX},(zEJ res ps k).toPM=zEl res' ps fun q l=>(k q l).toPM
 | [],_=>rfl
 | p::ps,k=>by simp only [zEJ,zEl,h,zH1 h]
theorem zIU {hb:Nat}:∀ {n:Nat} {p:PV} {k:PV→List (Nat×zAP)→PX},(zDA hb n p k).toPM=resolve hb n p fun q l=>(k q l).toPM
 | 0,_,_=>rfl
 | n + 1,p,k=>by
  have ih:∀ (p:PV) (k:PV→List (Nat×zAP)→PX),(zDA hb n p k).toPM=resolve hb n p fun q l=>(k q l).toPM:=fun p k=>zIU
  cases p<;>simp only [zDA,resolve,zC8,PX.toPM,zDe,ih,zH1 ih]
  ·congr 1;congr 1;funext q
   cases zA6 q with
   | none=>rfl
   | some xs =>
    simp only [PX.toPM]
    rename_i r pre i c sh
    cases xs[i]? with
    | none=>rfl
    | some x =>
     cases sh with
     | some m=>simp only [PX.toPM,zDe,ih]
     | none =>
      simp only [PX.toPM,ih]
      cases x.cells[c]? with
      | none=>rfl
      | some q=>simp only [PX.toPM,zBo,ih]
  ·congr 1;congr 1;funext q
   cases q<;>rfl
  ·congr 1;congr 1;funext q
   cases zA6 q with
   | none=>rfl
   | some xs =>
    simp only [PX.toPM]
    rename_i r pre i c sz ag m
    cases xs[i]? with
    | none=>rfl
    | some x=>simp only [PX.toPM,zDe]
  ·congr 1;congr 1;funext q
   cases q<;>rfl
theorem zQz {p:PV} {k:PV→List (Nat×zAP)→PX}:(zUo p k).toPM=zQb p fun q l=>(k q l).toPM:=zIU
def zPE (hb:Nat):Nat→PV→(PV→PX)→PX
 | 0,_,_ => .fail
 | n+1,p,k=>match p.ways.find? (fun w=>Nat.blt w.1 hb) with
  | none => .same p k
  | some (r,pre) => .deep r pre fun q => .frzp r pre (p.mapW (inl r pre q)) fun p=>zPE hb n p k
theorem zFD {hb:Nat}:∀ {n:Nat} {p:PV} {k:PV→PX},(zPE hb n p k).toPM=zLS hb n p fun q=>(k q).toPM
 | 0,_,_=>rfl
 | n+1,p,k=>by
  simp only [zPE,zLS]
  cases p.ways.find? (fun w=>Nat.blt w.1 hb) with
  | none=>rfl
  | some w=>simp only [PX.toPM,zFD]
def zK3 (p:PV) (k:List PV→PX):PX :=
 match p with
 | .nils _=>k []
 | .nn=>k []
 | .sl xs=>k xs
 | .bor r pre z lo n => .deep r pre fun q=>match q with
  | .own _ xs => .test (Nat.ble (lo+n) xs.length) (.sames ((xs.drop lo).take n) k)
  | _ => .fail
 | .bsl r pre i c sz ag n => .cells r pre i c (n*sz) fun _ cs => .test (zCd ag sz n cs) (.test (cs.all (fun q=>q.plain0)) (.sames (zCe ag sz n cs) k))
 | _ => .fail
theorem zKG {p:PV} {k:List PV→PX}:(zK3 p k).toPM=zHp p fun l=>(k l).toPM:=by
 cases p<;>simp only [zK3,zHp,PX.toPM,zDe]
 congr 1;funext q
 cases q<;>rfl
section
variable (P:Program) (H:zBf)
def zFU:List Nat→List PV→(List (Bool×PV)→PX)→PX
 | _,[],k=>k []
 | ms,p::ps,k =>
  match ms.headD 0,p with
  | 2,.bor r pre _ 0 n => .deep r pre fun q=>match q with
   | .own sz xs => .test (Nat.ble n xs.length) (.wnode r pre .bad (.same (.own sz ((xs.drop 0).take n)) fun o=>zFU ms.tail ps fun as=>k ((true,o)::as)))
   | _ => .fail
  | _,p=>zFU ms.tail ps fun as=>k ((false,p)::as)
def zDo:List Nat→List (Bool×PV)→(List Arg→PX)→PX
 | _,[],k=>k []
 | ms,(true,p)::ps,k=>zDo ms.tail ps fun as=>k ({p:=p}::as)
 | ms,(false,p)::ps,k =>
  bif Nat.beq (ms.headD 0) 1 then zDo ms.tail ps fun as=>k ({p:=p,byref:=true}::as)
  else zUo p fun q l=>zDo ms.tail ps fun as=>k ({p:=q,shared:=l}::as)
def zE5:List Nat→List (Bool×PV)→(List Arg→PX)→PX
 | _,[],k=>k []
 | ms,(true,p)::ps,k=>zE5 ms.tail ps fun as=>k ({p:=p}::as)
 | ms,(false,p)::ps,k =>
  bif Nat.beq (ms.headD 0) 1 then zE5 ms.tail ps fun as=>k ({p:=p,byref:=true}::as)
  else zPE zAe zDq p fun q=>zE5 ms.tail ps fun as=>k ({p:=q}::as)
def zRs:List Nat→(List PV→PX)→PX
 | [],k=>k []
 | r::rs,k => .get r fun p=>zRs rs fun ps=>k (p::ps)
def zTD:List Nat→List PV→List PV→PX→PX
 | r::rs,o::os,p::ps,k => .test (zGs o p) (.same p fun p => .wnode r [] p (zTD rs os ps k))
 | [],[],[],k=>k
 | _,_,_,_ => .fail
def zPc:Nat→List Nat→(List Nat→PX)→PX
 | 0,R,k=>k R
 | n+1,R,k=>zRs R fun ts=>let R':=(R++ts.flatMap zN7).eraseDups;bif Nat.beq R'.length R.length then k R else zPc n R' k
def zHj:List Nat→PX→PX
 | [],k=>k
 | r::rs,k => .killEx r [] (zHj rs k)
def zMh:List Bool→PX→PX→PX
 | [a,b,c],x,y => .choose a x (.choose b (.choose c x y) y)
 | _,_,y=>y
theorem zL6 {a b c:Bool} {x y:PX}:(zMh [a,b,c] x y).toPM=bif a||b&&c then x.toPM else y.toPM:=by
 cases a<;>cases b<;>cases c<;>rfl
def zOR (d:Option Nat) (f:FuncId) (as:List Arg) (again:PX):PX :=
 .nats (zOZ as) fun R0=>zPc 3 R0 fun R =>
 bif zG3 R&&R.all (fun r=>Nat.blt r zAe)&&Nat.ble R.length 1000&&Nat.ble as.length 1000&&(as.flatMap (·.shared)).all (fun x => !R.contains x.1) then
  zRs R fun hid => .sames (as.map fun a=>if a.byref then zGJ (zDv R) a.p else a.p) fun args => .call f args (hid.map (zGJ (zDv R))) fun v hZ =>
   zMh [(as.flatMap (·.shared)).isEmpty,v.free,zEC hZ]
    (zHj R<|zTD R hid (hZ.map (zGJ (zB5 R))) (zEZ d (zGJ (zB5 R) v)))
    again
 else .fail
def zRk (d:Option Nat) (f:FuncId) (args:List PV):PX :=
 .nats (H f).mode fun ms=>zFU ms args fun bs=>zDo ms bs fun as=>zOR d f as (zE5 ms bs fun as=>zOR d f as .fail)
theorem zFs:∀ {ps:List PV} {ms:List Nat} {k:List (Bool×PV)→PX},(zFU ms ps k).toPM=zDX ms ps fun as=>(k as).toPM
 | [],_,_=>rfl
 | p :: ps,ms,k=>by
  unfold zFU zDX
  generalize ms.headD 0=m
  split
  ·simp only [PX.toPM]
   congr 1;funext q
   cases q<;>first | rfl | skip
   simp only [PX.toPM,zFs]
  ·simp only [zFs]
theorem zE3:∀ {ps:List (Bool×PV)} {ms:List Nat} {k:List Arg→PX},(zDo ms ps k).toPM=zCn ms ps fun as=>(k as).toPM
 | [],_,_=>rfl
 | (true,p)::ps,ms,k=>by simp only [zDo,zCn,zE3]
 | (false,p)::ps,ms,k=>by simp only [zDo,zCn,zC8,zQz,zE3]
theorem zGI:∀ {ps:List (Bool×PV)} {ms:List Nat} {k:List Arg→PX},(zE5 ms ps k).toPM=zD7 ms ps fun as=>(k as).toPM
 | [],_,_=>rfl
 | (true,p)::ps,ms,k=>by simp only [zE5,zD7,zGI]
 | (false,p)::ps,ms,k=>by simp only [zE5,zD7,zC8,zFD,zGI]
theorem zLk:∀ {rs:List Nat} {k:List PV→PX},(zRs rs k).toPM=zNt rs fun ps=>(k ps).toPM
 | [],_=>rfl
 | r::rs,k=>by simp only [zRs,zNt,PX.toPM,zLk]
theorem zOF:∀ {rs:List Nat} {os ps:List PV} {k:PX},(zTD rs os ps k).toPM=zNG rs os ps k.toPM
 | [],[],[],_=>rfl
 | r::rs,o::os,p::ps,k=>by simp only [zTD,zNG,PX.toPM,zOF]
 | [],[],_::_,_=>rfl
 | [],_::_,_,_=>rfl
 | _::_,[],_,_=>rfl
 | _::_,_::_,[],_=>rfl
theorem zMC:∀ {n:Nat} {R:List Nat} {k:List Nat→PX},(zPc n R k).toPM=zKN n R fun R=>(k R).toPM
 | 0,_,_=>rfl
 | n+1,R,k=>by simp only [zPc,zKN,zLk,zC8,zMC]
theorem zIa:∀ {rs:List Nat} {k:PX},(zHj rs k).toPM=zKI rs k.toPM
 | [],_=>rfl
 | r::rs,k=>by simp only [zHj,zKI,PX.toPM,zIa]
theorem zQI {d:Option Nat} {f:FuncId} {as:List Arg} {again:PX}:(zOR d f as again).toPM=zRv d f as again.toPM:=by
 simp only [zOR,zRv,zMC,zC8,zLk,PX.toPM,zL6,zIa,zOF,zER]
theorem zSA {d:Option Nat} {f:FuncId} {args:List PV}:(zRk H d f args).toPM=zNy H d f args:=by
 simp only [zRk,zNy,zFs,zE3,zQI,zGI,PX.toPM]
def zQB (d:Option Nat) (args:List Operand) (g:PV):PX :=
 match g with
 | .func g first caps=>zPO args fun as => .pure d g (first++as++caps) (zRk H d g (first++as++caps))
 | _ => .fail
theorem zQ0 {d:Option Nat} {args:List Operand} {g:PV}:(zQB H d args g).toPM=zSV H d args g:=by
 cases g<;>first | rfl | skip
 simp only [zQB,zSV,zIz,PX.toPM,zSA]
def zN9 (d:Option Nat) (sz:Nat) (base:PV) (ys:List PV):PX :=
 .test (ys.all (fun y=>Nat.beq y.cells.length sz&&y.cells.all fun q=>q.oneCell)) (.test (zBp ys).isEmpty (
 match base with
 | .bor r pre z lo n => .deep r pre fun q=>match q with
  | .own s xs =>
   .test (Nat.beq s sz) (.test (Nat.ble (lo+n) xs.length) (.test (Nat.ble (xs.length+ys.length) zA1) (
    .choose (Nat.beq (lo+n) xs.length) (.test (Nat.beq lo 0) (.wnode r pre .bad (zGh d (.own sz (xs++ys))))) (.emb (zLt d r pre z lo n s xs ys)))))
  | _ => .fail
 | .nils _ => .test (Nat.ble ys.length zA1) (zGh d (.own sz ys))
 | _ => .fail))
theorem zP1 {d:Option Nat} {sz:Nat} {base:PV} {ys:List PV}:(zN9 d sz base ys).toPM=zLv d sz base ys:=by
 cases base<;>simp only [zN9,zLv,PX.toPM,zDe,zBn]
 congr 1;congr 1;congr 1;funext q
 cases q<;>first | rfl | skip
 simp only [PX.toPM,zBn]
def zWg (x:Operand) (k:List PV→PX):PX :=
 match x with
 | .tmp t => .get t fun p=>match p with
  | .own _ xs => .set t .bad (k xs)
  | _ => .view t fun p=>zK3 p fun xs => .test (xs.all (fun x=>x.plain)) (k xs)
 | x=>zGP x fun p=>zK3 p fun xs => .test (xs.all (fun x=>x.plain)) (k xs)
theorem zS9 {x:Operand} {k:List PV→PX}:(zWg x k).toPM=zNk x fun l=>(k l).toPM:=by
 cases x<;>simp only [zWg,zNk,PX.toPM,zB2,zKG,zBo]
 congr 1;funext p
 cases p<;>first | rfl | simp only [PX.toPM,zKG,zBo]
def zLm (d:Option Nat) (b:Builtin) (ts:List TypeId) (args:List Operand):PX :=
 match b,args,ts with
 | .len,[x],t::_=>zGP x fun p=>match P.underlying t with
  | some (.array n _)=>zGh d (.int .i64 n)
  | some (.slice _) => .num (lenOf p) fun n=>zGh d (.int .i64 n)
  | _ => .fail
 | .append,[x,y],[t,t2]=>bif (zBL P t2).isNone then .fail else match (zBL P t).bind (szT P),(zBL P t).bind (zH3 P),(zBL P t).bind (zCz P) with
  | some sz,some by_,some z=>if by_≤16384∧z.cells.length=sz then zGP x fun base=>zWg y fun ys=>zN9 d sz base ys else .fail
  | _,_,_ => .fail
 | .max,xs,_=>zPO xs fun ps => .pick (zXo ps) fun v=>zGh d v
 | .min,xs,_=>zPO xs fun ps => .pick (zXt ps) fun v=>zGh d v
 | b,args,ts => .emb (zBj P d b ts args)
theorem zOd {d:Option Nat} {b:Builtin} {ts:List TypeId} {args:List Operand}:(zLm P d b ts args).toPM=zBj P d b ts args:=by
 unfold zLm
 split
 ·simp only [zB2,zBj]
  congr 1;funext p
  generalize P.underlying _=u
  cases u with
  | none=>rfl
  | some u =>
   cases u<;>first | rfl | exact zBn | skip
   simp only [PX.toPM,zBn]
   cases lenOf p<;>simp only [PX.toPM,zBn]
 ·simp only [zBj,zC8]
  congr 1
  generalize (zBL P _).bind (szT P)=a1
  generalize (zBL P _).bind (zH3 P)=a2
  generalize (zBL P _).bind (zCz P)=a3
  cases a1<;>cases a2<;>cases a3<;>first | rfl | simp only [zOS,zB2,zS9,zP1,PX.toPM]
 ·simp only [zBj,zIz,PX.toPM,zBn]
  congr 1;funext ps
  cases zXo ps<;>simp only [PX.toPM,zBn]
 ·simp only [zBj,zIz,PX.toPM,zBn]
  congr 1;funext ps
  cases zXt ps<;>simp only [PX.toPM,zBn]
 ·rfl
end
end Go.Eng
namespace Go.Eng
open Go
section
variable (P:Program) (H:zBf)
def zWq {α:Type} (x:Option α) (k:α→PX):PX :=
 match x with
 | some a=>k a
 | none => .fail
theorem zJF {α:Type} {x:Option α} {k:α→PX}:(zWq x k).toPM=zIw x fun a=>(k a).toPM:=by cases x<;>rfl
theorem zJa {x:Option PV} {k:PV→PX}:(PX.pick x k).toPM=zIw x fun a=>(k a).toPM:=by cases x<;>rfl
def zPv (p:PV) (k:PV→PX) (k2:PX):PX :=
 match p with
 | .bor r pre _ lo n => .deep r pre fun q=>match q with
  | .own sz xs => .choose (Nat.beq lo 0&&Nat.beq n xs.length) (.wnode r pre .bad (k (.own sz xs))) k2
  | _=>k2
 | .bmap r pre => .deep r pre fun q=>match q with
  | .omap es => .wnode r pre .bad (k (.omap es))
  | _=>k2
 | p=>k p
theorem zMF {p:PV} {k:PV→PX} {k2:PX}:(zPv p k k2).toPM=zNC p (fun q=>(k q).toPM) k2.toPM:=by
 cases p<;>simp only [zPv,zNC,PX.toPM]
 all_goals
  congr 1;funext q
  cases q<;>rfl
def zTK (p:PV) (k:PV→PX):PX:=zPv p k (zPE zAe zDq p k)
theorem zPo {p:PV} {k:PV→PX}:(zTK p k).toPM=zMS p fun q=>(k q).toPM:=by simp only [zTK,zMS,zMF,zFD]
def zOV:List PV→(List PV→PX)→PX
 | [],k=>k []
 | p::ps,k=>zPv p (fun q=>zOV ps fun qs=>k (q::qs)) .fail
theorem zNg:∀ {ps:List PV} {k:List PV→PX},(zOV ps k).toPM=zJM ps fun qs=>(k qs).toPM
 | [],_=>rfl
 | p::ps,k=>by simp only [zOV,zJM,zMF,zNg,PX.toPM]
def zQ3:PV→Bool
 | .bor .. | .bmap .. | .bsl .. => true
 | _=>false
def zII (tk:Bool) (p:PV) (k:PV→PX):PX :=
 match p with
 | .agg cs=>bif tk then zOV cs fun cs=>k (.agg cs) else .choose (cs.any zQ3) (zPE zAe zDq p k) (k p)
 | .bsl .. => zPE zAe zDq p k
 | .bor .. | .bmap .. => bif tk then zTK p k else zPE zAe zDq p k
 | p=>k p
theorem zHL {tk:Bool} {p:PV} {k:PV→PX}:(zII tk p k).toPM=zFG tk p fun q=>(k q).toPM:=by
 cases p<;>simp only [zII,zFG,zC8,zNg,zPo,zFD,PX.toPM]
 rfl
def zIp (tk:Bool):List PV→(List PV→PX)→PX
 | [],k=>k []
 | p::ps,k=>zII tk p fun q=>zIp tk ps fun qs=>k (q::qs)
theorem zJB {tk:Bool}:∀ {ps:List PV} {k:List PV→PX},(zIp tk ps k).toPM=zFZ tk ps fun qs=>(k qs).toPM
 | [],_=>rfl
 | p::ps,k=>by simp only [zIp,zFZ,zHL,zJB]
def zOm (r:Nat) (pre:zAP) (i c:Nat) (v:PV):PX :=
 .test (!v.heavy||v.ways.all (fun w => !(zAF r pre w.1 w.2&&Nat.blt pre.length w.2.length))) (.test (v.cells.all (fun q=>q.oneCell)) (.test (!v.cells.isEmpty) (zQu r pre i c v.cells (.wcells r pre i c v.cells .ok))))
theorem zMx {r:Nat} {pre:zAP} {i c:Nat} {v:PV}:(zOm r pre i c v).toPM=zH2 r pre i c v:=by
 simp only [zOm,zH2,PX.toPM,zQW,zDe]
def zJs (tk:Bool) (r:Nat) (pre:zAP) (v:PV) (k:PV→PX):PX :=
 bif pre.isEmpty && !tk then .view r fun q=>(match q with | .addr .. => k v | _=>zII tk v k) else zII tk v k
theorem zMY {tk:Bool} {r:Nat} {pre:zAP} {v:PV} {k:PV→PX}:(zJs tk r pre v k).toPM=zIf tk r pre v fun q=>(k q).toPM:=by
 simp only [zJs,zIf,zC8,PX.toPM,zHL]
 congr 1;congr 1;funext q
 cases q<;>first | rfl | exact zHL
def zJd (tk:Bool) (r:Nat) (pre:zAP) (i c:Nat) (v:PV):PX :=
 match zQt r pre i c v with
 | some m => .deep r (pre++[(i,c)]) fun q=>match q with
  | .own s xs => .test (Nat.ble m xs.length) (.wnode r (pre++[(i,c)]) .bad (.same (.own s ((xs.drop 0).take m)) fun v=>zOm r pre i c v))
  | _ => .fail
 | none=>zJs tk r pre v fun v => .same v fun v=>zOm r pre i c v
theorem zKo {tk:Bool} {r:Nat} {pre:zAP} {i c:Nat} {v:PV}:(zJd tk r pre i c v).toPM=zHT tk r pre i c v:=by
 simp only [zJd,zHT]
 cases zQt r pre i c v with
 | none=>simp only [zMY,PX.toPM,zMx]
 | some m =>
  simp only [PX.toPM]
  congr 1;funext q
  cases q<;>first | rfl | simp only [PX.toPM,zMx]
def zQ1 (fz tk:Bool) (t:TypeId) (a x:Operand):PX :=
 zGP a fun pa=>match pa,x with
 | .addr r pre i c _,.const (.slice none 0 0)=>zWq ((zBL P t).bind (szT P)) fun s=>if szT P t=some 1 then zJd tk r pre i c (.own s []) else .fail
 | pa,x=>match pa,shT P t,szT P t with
 | .addr r pre i c _,some sh,some n=>(bif fz&&tk then zGP x else zLR x) fun v =>
  .test (Nat.beq v.cells.length n) (.test (v.isAgg==sh.isSome) (zJd (tk && !fz) r pre i c (bif fz && !tk then zAQ v else v)))
 | _,_,_ => .fail
theorem zRu {fz tk:Bool} {t:TypeId} {a x:Operand}:(zQ1 P fz tk t a x).toPM=zO7 P fz tk t a x:=by
 simp only [zQ1,zO7,zB2]
 congr 1;funext pa
 have key:∀ (sh:Option (Option Nat)) (n:Option Nat),(match pa,sh,n with
   | .addr r pre i c _,some sh,some n=>(bif fz&&tk then zGP x else zLR x) fun v=>PX.test (Nat.beq v.cells.length n) (.test (v.isAgg==sh.isSome) (zJd (tk && !fz) r pre i c (bif fz && !tk then zAQ v else v)))
   | _,_,_=>PX.fail).toPM=(match pa,sh,n with
   | .addr r pre i c _,some sh,some n=>(bif fz&&tk then opd x else zO9 x) fun v=>bif Nat.beq v.cells.length n&&v.isAgg==sh.isSome then zHT (tk && !fz) r pre i c (bif fz && !tk then zAQ v else v) else .fail
   | _,_,_=>PM.fail):=by
  intro sh n
  cases pa<;>first | rfl | skip
  cases sh<;>cases n<;>first | rfl | skip
  cases hc:(fz&&tk)<;>simp only [cond_true,cond_false,zB2,zF5,PX.toPM,zKo,zDe]
 split
 ·simp only [zJF,zOS,zKo,PX.toPM]
 ·rename_i h
  rw [key]
  cases pa<;>first | rfl | skip
  cases x<;>first | rfl | skip
  rename_i v
  cases v<;>first | rfl | skip
  rename_i a n m
  cases a<;>cases n<;>cases m<;>first | rfl | exact (h _ _ _ _ _ rfl rfl).elim
def zIj (d:Option Nat) (p:PV):PX :=
 match d,p with
 | some d',.bor r [] z lo n=>if r=d' then .get r fun root=>match root with
   | .own sz xs => .test (Nat.ble (lo+n) xs.length) (.kill r [] (.same (.own sz ((xs.drop lo).take n)) fun o => .set r o .ok))
   | _ => .fail
  else zGh d p
 | _,_=>zGh d p
theorem zN3 {d:Option Nat} {p:PV}:(zIj d p).toPM=zFK d p:=by
 unfold zIj zFK
 split
 ·simp only [zOS,zBn,PX.toPM]
  congr 1;congr 1;funext q
  cases q<;>rfl
 ·rename_i h
  split
  ·exact (h _ _ _ _ _ rfl rfl).elim
  ·exact zBn
def zIG (tk nl:Bool) (d:Option Nat) (t:TypeId) (x:Operand):PX :=
 match x with
 | .const (.slice none 0 0) => .emb (zF3 P tk nl d t x)
 | x=>zLR x fun p=>bif tk then zTK p (zIj d) else zIj d p
theorem zL4 {tk nl:Bool} {d:Option Nat} {t:TypeId} {x:Operand}:(zIG P tk nl d t x).toPM=zF3 P tk nl d t x:=by
 unfold zIG
 split
 ·rfl
 ·rename_i h
  unfold zF3
  split
  ·exact (h rfl).elim
  ·simp only [zF5,zC8,zPo,zN3]
def zRe (d:Option Nat) (t:TypeId) (x:Operand):PX:=zLR x fun p=>match shT P t,szT P t with
 | some sh,some n => .test (decide (p.cells.length=n)) (.test (decide (p.isAgg=sh.isSome)) (.test p.whole (zGh d (.box p))))
 | _,_ => .fail
theorem zRi {d:Option Nat} {t:TypeId} {x:Operand}:(zRe P d t x).toPM=zSZ P d t x:=by
 simp only [zRe,zSZ,zF5]
 congr 1;funext p
 cases shT P t<;>cases szT P t<;>first | rfl | skip
 simp only [PX.toPM,zBn,zBo,Bool.and_eq_true,decide_eq_true_eq]
 split<;>split<;>(try split)<;>simp_all
def zVt (nz:Option Nat) (x:Operand) (k:PV→PX):PX :=
 match nz,x with
 | some s,.const (.slice none 0 0)=>k (.own s [])
 | _,x=>zLR x k
def zOn (nz:Option Nat):List Operand→(List PV→PX)→PX
 | [],k=>k []
 | x::xs,k=>zVt nz x fun p=>zOn nz xs fun ps=>k (p::ps)
theorem zS1 {nz:Option Nat} {x:Operand} {k:PV→PX}:(zVt nz x k).toPM=zXl nz x fun p=>(k p).toPM:=by
 unfold zVt zXl
 split
 ·rfl
 ·rename_i h
  rw [zF5]
  split
  ·exact (h _ rfl rfl).elim
  ·rfl
theorem zMP {nz:Option Nat}:∀ {xs:List Operand} {k:List PV→PX},(zOn nz xs k).toPM=zPM nz xs fun p=>(k p).toPM
 | [],_=>rfl
 | x::xs,k=>by simp only [zOn,zPM,zS1,zMP]
def zEX (tk:Bool) (d:Option Nat) (t:TypeId) (n:Nat) (ps:List (Nat×Operand)):PX :=
 match zBL P t with
 | some e=>match szT P e,zCz P e with
  | some s,some z=>if n*s≤65536&&Nat.beq z.cells.length s&&ps.all (fun x=>x.1<n) then zOn (zXH (zCz P e)) (ps.map (·.2)) fun vs=>zIp tk vs fun vs =>
    .sames vs fun vs => .test (zBp vs).isEmpty (.test (vs.all (fun v=>v.cells.length=s&&v.isAgg=z.isAgg&&v.whole)) (zGh d (.own s (zM6 n z ((ps.map (·.1)).zip vs)))))
   else .fail
  | _,_ => .fail
 | none => .fail
theorem zIc {tk:Bool} {d:Option Nat} {t:TypeId} {n:Nat} {ps:List (Nat×Operand)}:(zEX P tk d t n ps).toPM=zDL P tk d t n ps:=by
 simp only [zEX,zDL]
 cases zBL P t with
 | none=>rfl
 | some e =>
  simp only
  generalize szT P e=a1
  generalize zCz P e=a2
  cases a1<;>cases a2<;>first | rfl | skip
  simp only [zOS,zMP,zJB,PX.toPM,zBn]
  congr 1;congr 1;funext vs;congr 1;funext vs
  cases (zBp vs).isEmpty with
  | false=>rfl
  | true=>simp only [cond_true,Bool.true_and,zBo,if_true]
def zPs (d:Option Nat) (sh:Option Nat) (p:PV):PX :=
 match p with
 | .ref q => .test (decide (q.isAgg=sh.isSome)) (.test (decide (q.cells.length=sh.getD 1)) (zGh d q))
 | .addr r pre i c _=>zSG r pre i c sh (zGh d)
 | _ => .fail
theorem zMW {d:Option Nat} {sh:Option Nat} {p:PV}:(zPs d sh p).toPM=zPT d sh p:=by
 cases p<;>simp only [zPs,zPT,PX.toPM,zLB,zBn]
 simp only [zBo,Bool.and_eq_true,decide_eq_true_eq]
 split<;>split<;>simp_all
def zN0 (tk:Bool) (d:Option Nat) (t:TypeId) (a:Operand):PX:=zWq (shT P t) fun sh=>zGP a fun p =>
 bif tk then (match p with
  | .addr r pre i c _=>zSG r pre i c sh fun v=>zPE zAe zDq v (zGh d)
  | p=>zPs d sh p) else zPs d sh p
theorem zP4 {tk:Bool} {d:Option Nat} {t:TypeId} {a:Operand}:(zN0 P tk d t a).toPM=zO1 P tk d t a:=by
 simp only [zN0,zO1,zJF,zB2,zC8,zMW]
 congr 1;funext sh;congr 1;funext p;congr 1
 cases p<;>simp only [zMW,zLB,zFD,zBn]
def zQ9 (d:Option Nat) (op:BinOp) (t:TypeId) (x y:Operand):PX:=zGP x fun p=>zGP y fun q => .pick (zJH P op t p q) (zGh d)
theorem zRg {d:Option Nat} {op:BinOp} {t:TypeId} {x y:Operand}:(zQ9 P d op t x y).toPM=zSP P d op t x y:=by
 simp only [zQ9,zSP,zB2,zJa,zBn]
def zZA (d:Option Nat) (op:UnOp) (p:PV):PX :=
 match op,p with
 | .not,.bool b=>zGh d (.bool !b)
 | .neg,.int k n=>zGh d (.int k (k.wrap (0-n)))
 | _,_ => .fail
theorem zVW {d:Option Nat} {op:UnOp} {p:PV}:(zZA d op p).toPM=unV d op p:=by
 cases op<;>cases p<;>first | rfl | exact zBn
def zSs (d:Option Nat) (t:TypeId) (p:PV):PX :=
 match P.underlying t,p with
 | some (.int k),.int _ n=>zGh d (.int k (k.wrap n))
 | _,_ => .fail
theorem zQJ {d:Option Nat} {t:TypeId} {p:PV}:(zSs P d t p).toPM=zSr P d t p:=by
 simp only [zSs,zSr]
 cases P.underlying t with
 | none=>rfl
 | some u=>cases u<;>cases p<;>first | rfl | exact zBn
def zFt (d:Option Nat) (t:TypeId) (l c:Operand):PX :=
 zGP l fun l=>zFB l fun l=>zGP c fun c=>zFB c fun c=>match zBL P t with
 | some e=>match zCz P e,szT P e,zH3 P e with
  | some z,some s,some b => .test (decide (l≤c)) (.test (decide (c≤zA1)) (.test (decide (b≤16384∧z.cells.length=s)) (zGh d (.own s (List.replicate l z)))))
  | _,_,_ => .fail
 | none => .fail
theorem zJD {d:Option Nat} {t:TypeId} {l c:Operand}:(zFt P d t l c).toPM=zFc P d t l c:=by
 simp only [zFt,zFc,zB2,zEQ]
 congr 1;funext p;congr 1;funext l;congr 1;funext q;congr 1;funext c
 cases zBL P t with
 | none=>rfl
 | some e =>
  simp only
  generalize zCz P e=a1
  generalize szT P e=a2
  generalize zH3 P e=a3
  cases a1<;>cases a2<;>cases a3<;>first | rfl | skip
  simp only [PX.toPM,zBn,zBo,decide_eq_true_eq]
  by_cases h1:l≤c<;>by_cases h2:c≤zA1<;>simp [h1,h2]
def zNn (d:Option Nat) (n:Nat) (e:TypeId) (p:PV) (i:Nat):PX :=
 match szT P e,shT P e with
 | some s,some sh => .test (decide (i<n)) (.pick (zCb p (i*s) sh) (zGh d))
 | _,_ => .fail
def zSt (d:Option Nat) (e:TypeId) (p:PV) (i:Nat):PX :=
 match p with
 | .sl xs => .pick (xs[i]?) fun x => .test (decide (szT P e=some x.cells.length)) (zGh d (.ref x))
 | .bor r pre z lo n=>match shT P e with
  | some sh => .test (decide (i<n)) (.test (decide (szT P e=some z)) (.num (some (lo+i)) fun j=>zGh d (.addr r pre j 0 sh)))
  | none => .fail
 | .bsl r pre j c s ag n => .test (decide (i<n)) (.test (decide (szT P e=some s)) (.num (some (c+i*s)) fun c=>zGh d (.addr r pre j c (if ag then some s else none))))
 | _ => .fail
theorem zQi {d:Option Nat} {n:Nat} {e:TypeId} {p:PV} {i:Nat}:(zNn P d n e p i).toPM=zPg P d n e p i:=by
 simp only [zNn,zPg]
 generalize szT P e=a1
 generalize shT P e=a2
 cases a1<;>cases a2<;>first | rfl | skip
 simp only [PX.toPM,zJa,zBn,zBo,decide_eq_true_eq]
theorem zSh {d:Option Nat} {e:TypeId} {p:PV} {i:Nat}:(zSt P d e p i).toPM=zQv P d e p i:=by
 cases p<;>simp only [zSt,zQv,PX.toPM,zJa,zBn]
 ·congr 1;funext x;simp only [zBo,decide_eq_true_eq]
 ·cases shT P e with
  | none=>rfl
  | some sh =>
   simp only [PX.toPM,zBn,zBo,decide_eq_true_eq]
   split<;>split<;>simp_all
 ·simp only [zBo,decide_eq_true_eq]
  split<;>split<;>simp_all
def zFM (d:Option Nat) (t:TypeId) (x i:Operand):PX :=
 zGP x fun p=>zGP i fun i=>zFB i fun i=>match P.underlying t with
 | some (.array n e)=>zNn P d n e p i
 | some (.slice e)=>zSt P d e p i
 | _ => .fail
theorem zJZ {d:Option Nat} {t:TypeId} {x i:Operand}:(zFM P d t x i).toPM=zFb P d t x i:=by
 simp only [zFM,zFb,zB2,zEQ]
 congr 1;funext p;congr 1;funext q;congr 1;funext i
 cases P.underlying t with
 | none=>rfl
 | some u=>cases u<;>first | rfl | exact zQi P | exact zSh P
def zKW (d:Option Nat) (t:TypeId) (x i:Operand):PX :=
 zGP x fun p=>zGP i fun i=>zFB i fun i=>match P.underlying t with
 | some (.array n e)=>match szT P e,shT P e with
  | some s,some sh => .test (decide (i<n)) (.pick (sub p (i*s) sh) (zGh d))
  | _,_ => .fail
 | _ => .fail
theorem zNx {d:Option Nat} {t:TypeId} {x i:Operand}:(zKW P d t x i).toPM=zLg P d t x i:=by
 simp only [zKW,zLg,zB2,zEQ]
 congr 1;funext p;congr 1;funext q;congr 1;funext i
 cases P.underlying t with
 | none=>rfl
 | some u =>
  cases u<;>first | rfl | skip
  rename_i n e
  simp only
  generalize szT P e=a1
  generalize shT P e=a2
  cases a1<;>cases a2<;>first | rfl | skip
  simp only [PX.toPM,zJa,zBn,zBo,decide_eq_true_eq]
def zWt (x:Option Operand) (n:Nat) (k:Nat→PX):PX :=
 match x with
 | some x=>zGP x fun p=>zFB p k
 | none=>k n
theorem zQC {x:Option Operand} {n:Nat} {k:Nat→PX}:(zWt x n k).toPM=zSK x n fun m=>(k m).toPM:=by
 cases x with
 | none=>rfl
 | some x=>simp only [zWt,zSK,zB2,zEQ]
def zNw (d:Option Nat) (s:Nat) (p:PV) (l h:Nat):PX :=
 match p with
 | .sl xs => .test (Nat.ble l h) (.test (Nat.ble h xs.length) (.test (xs.all (fun x=>Nat.beq x.cells.length s)) (zGh d (.sl ((xs.drop l).take (h-l))))))
 | .bor r pre z a n =>
  .test (Nat.beq z s) (.test (Nat.ble l h) (
   .choose (Nat.ble h n) (.choose (Nat.beq l 0||Nat.blt l h) (zGh d (.bor r pre z (a+l) (h-l))) (zGh d (.sl [])))
   (.deep r pre fun q=>match q with
    | .own _ xs => .test (Nat.ble (a+h) xs.length) (.choose (Nat.beq l 0||Nat.blt l h) (zGh d (.bor r pre z (a+l) (h-l))) (zGh d (.sl [])))
    | _ => .fail)))
 | _ => .fail
theorem zUh {d:Option Nat} {b:Bool} {p q:PV}:put d (bif b then p else q)=bif b then put d p else put d q:=by cases b<;>rfl
theorem zQn {d:Option Nat} {s:Nat} {p:PV} {l h:Nat}:(zNw d s p l h).toPM=zPw d s p l h:=by
 cases p<;>simp only [zNw,zPw,PX.toPM,zBn,zDe,zUh]
 congr 1;congr 1;congr 1;congr 1;funext q
 cases q<;>first | rfl | simp only [PX.toPM,zBn]
def zNF (d:Option Nat) (n s:Nat) (sh:Option Nat) (p:PV) (l h:Nat):PX :=
 .test (Nat.ble l h) (.test (Nat.ble h n) (.test (Nat.beq l 0||Nat.blt l n) (
  match p with
  | .addr r pre i c _ => .num (some (h-l)) fun m=>zGh d (.bsl r pre i (c+l*s) s sh.isSome m)
  | .ref (.agg cs) => .test (Nat.ble (n*s) cs.length) (.test (zCd sh.isSome s (h-l) ((cs.drop (l*s)).take ((h-l)*s))) (.test (zBp cs).isEmpty (zGh d (.sl (zCe sh.isSome s (h-l) ((cs.drop (l*s)).take ((h-l)*s)))))))
  | _ => .fail)))
theorem zQe {d:Option Nat} {n s:Nat} {sh:Option Nat} {p:PV} {l h:Nat}:(zNF d n s sh p l h).toPM=zQY d n s sh p l h:=by
 cases p<;>simp only [zNF,zQY,PX.toPM,zBn,zDe]
 rename_i q
 cases q<;>simp only [PX.toPM,zBn,zDe]
def zRQ (d:Option Nat) (t:TypeId) (x:Operand) (lo hi mx:Option Operand):PX :=
 match mx with
 | some m => .emb (zIM P d t x lo hi (some m))
 | none=>zGP x fun p=>match P.underlying t with
  | some (.array n e)=>match szT P e,shT P e with
   | some s,some sh=>zWt hi n fun h=>zWt lo 0 fun l=>zNF d n s sh p l h
   | _,_ => .fail
  | some (.slice e)=>match szT P e,lenOf p with
   | some s,some n=>zWt hi n fun h=>zWt lo 0 fun l=>zNw d s p l h
   | _,_ => .fail
  | _ => .fail
theorem zSf {d:Option Nat} {t:TypeId} {x:Operand} {lo hi mx:Option Operand}:(zRQ P d t x lo hi mx).toPM=zIM P d t x lo hi mx:=by
 cases mx with
 | some _=>rfl
 | none =>
  simp only [zRQ,zIM,zB2]
  congr 1;funext p
  cases P.underlying t with
  | none=>rfl
  | some u =>
   cases u<;>first | rfl | skip
   ·rename_i e
    simp only
    generalize szT P e=a1
    generalize lenOf p=a2
    cases a1<;>cases a2<;>first | rfl | simp only [zQC,zQn]
   ·rename_i n e
    simp only
    generalize szT P e=a1
    generalize shT P e=a2
    cases a1<;>cases a2<;>first | rfl | simp only [zQC,zQe]
def zJA (es:List (PV×PV)) (i:Nat):Option PV:=(es[i]?).map (·.2)
def zJK (d:Option Nat) (kt:TypeId) (z key:PV) (ok:Bool) (es:List (PV×PV)):PX :=
 .idx (zC5 P kt key es 0) fun x=>match x with
 | some i => .pick (zJA es i) fun v => .test v.lone (zEZ d (if ok then .tup [v,.bool true] else v))
 | none=>zEZ d (if ok then .tup [z,.bool false] else z)
theorem zKH {d:Option Nat} {kt:TypeId} {z key:PV} {ok:Bool} {es:List (PV×PV)}:(zJK P d kt z key ok es).toPM=zI6 P d kt z key ok es:=by
 simp only [zJK,zI6,PX.toPM]
 cases zC5 P kt key es 0 with
 | none=>rfl
 | some x =>
  cases x with
  | none=>exact zER
  | some i =>
   show (PX.pick (zJA es i) fun v => .test v.lone (zEZ d (if ok then .tup [v,.bool true] else v))).toPM=_
   rw [zJa]
   simp only [zJA,PX.toPM,zER]
   cases es[i]?<;>rfl
def zSj (d:Option Nat) (kt:TypeId) (z key:PV) (ok:Bool) (m:PV):PX :=
 match m with
 | .nilm=>zJK P d kt z key ok []
 | .map es=>zJK P d kt z key ok es
 | .bmap r pre => .deep r pre fun q=>match q with
  | .omap es=>zJK P d kt z key ok es
  | _ => .fail
 | _ => .fail
theorem zQM {d:Option Nat} {kt:TypeId} {z key:PV} {ok:Bool} {m:PV}:(zSj P d kt z key ok m).toPM=zTA P d kt z key ok m:=by
 cases m<;>first | rfl | exact zKH P | skip
 simp only [zSj,zTA,PX.toPM]
 congr 1;funext q
 cases q<;>first | rfl | exact zKH P
def zJX (d:Option Nat) (t:TypeId) (m x:Operand) (ok:Bool):PX :=
 zGP m fun m=>zGP x fun key=>match P.underlying t with
 | some (.map kt e) => .test (zPe P 20 kt key) (zWq (zCz P e) fun z => .test (zJo z).lone (zSj P d kt (zJo z) key ok m))
 | _ => .fail
theorem zMK {d:Option Nat} {t:TypeId} {m x:Operand} {ok:Bool}:(zJX P d t m x ok).toPM=zIe P d t m x ok:=by
 simp only [zJX,zIe,zB2]
 congr 1;funext p;congr 1;funext q
 cases P.underlying t with
 | none=>rfl
 | some u=>cases u<;>first | rfl | simp only [PX.toPM,zJF,zQM]
def zUI (es:List (PV×PV)) (k:List (PV×PV)→PX):PX := .same (.omap es) fun q=>match q with
 | .omap es=>k es
 | _ => .fail
def zNE (kt:TypeId) (key v m:PV):PX :=
 match m with
 | .bmap r pre => .test v.lone (.deep r pre fun q=>match q with
  | .omap es => .idx (zC5 P kt key es 0) fun x=>match x with
   | some i=>zUI (es.modify i fun _=>(key,v)) fun es => .wnode r pre (.omap es) .ok
   | none=>zUI (es++[(key,v)]) fun es => .wnode r pre (.omap es) .ok
  | _ => .fail)
 | _ => .fail
theorem zPV {kt:TypeId} {key v m:PV}:(zNE P kt key v m).toPM=zMl P kt key v m:=by
 cases m<;>first | rfl | skip
 simp only [zNE,zMl,PX.toPM]
 congr 1;congr 1;funext q
 cases q<;>first | rfl | skip
 rename_i es
 simp only [PX.toPM]
 cases zC5 P kt key es 0 with
 | none=>rfl
 | some x=>cases x<;>rfl
def zFw (t:TypeId) (m x y:Operand):PX:=zGP m fun m=>zGP x fun key=>match P.underlying t with
 | some (.map kt _) => .test (zPe P 20 kt key&&key.flat) (zLR y fun v=>zPE zAe zDq v fun v=>zNE P kt key (zAQ v) m)
 | _ => .fail
theorem zJl {t:TypeId} {m x y:Operand}:(zFw P t m x y).toPM=zE8 P t m x y:=by
 simp only [zFw,zE8,zB2]
 congr 1;funext p;congr 1;funext q
 cases P.underlying t with
 | none=>rfl
 | some u=>cases u<;>first | rfl | simp only [PX.toPM,zF5,zFD,zPV]
def zUv (es:List (PV×PV)) (i:Nat):Option PV:=(es[i]?).map (·.1)
def zOc (d:Option Nat) (kt:TypeId) (z key m:PV):PX :=
 match m with
 | .bmap r pre => .deep r pre fun q=>match q with
  | .omap es => .idx (zC5 P kt key es 0) fun x=>match x with
   | some i => .pick (zJA es i) fun v => .test v.lone (.wnode r pre (.omap (es.modify i fun _=>(key,v))) (zEZ d (.tup [v,.int .i64 i])))
   | none => .wnode r pre (.omap (es++[(key,z)])) (zEZ d (.tup [z,.int .i64 es.length]))
  | _ => .fail
 | _ => .fail
theorem zPA {d:Option Nat} {kt:TypeId} {z key m:PV}:(zOc P d kt z key m).toPM=zOw P d kt z key m:=by
 cases m<;>first | rfl | skip
 simp only [zOc,zOw,PX.toPM]
 congr 1;funext q
 cases q<;>first | rfl | skip
 rename_i es
 simp only [PX.toPM]
 cases zC5 P kt key es 0 with
 | none=>rfl
 | some x =>
  cases x with
  | none=>simp only [PX.toPM,zER]
  | some i =>
   simp only [PX.toPM,zJA]
   cases es[i]? with
   | none=>rfl
   | some kv=>obtain ⟨k,v⟩:=kv;simp only [Option.map_some,PX.toPM,zER]
def zGy (d:Option Nat) (t:TypeId) (m x:Operand):PX:=zGP m fun m=>zGP x fun key=>match P.underlying t with
 | some (.map kt el) => .test (zPe P 20 kt key&&key.flat) (zWq (zCz P el) fun z => .test (zJo z).lone (zOc P d kt (zJo z) key m))
 | _ => .fail
theorem zKb {d:Option Nat} {t:TypeId} {m x:Operand}:(zGy P d t m x).toPM=zGg P d t m x:=by
 simp only [zGy,zGg,zB2]
 congr 1;funext p;congr 1;funext q
 cases P.underlying t with
 | none=>rfl
 | some u=>cases u<;>first | rfl | simp only [PX.toPM,zJF,zPA]
def zJO (i:Nat) (v m:PV):PX :=
 match m with
 | .bmap r pre => .test v.lone (.deep r pre fun q=>match q with
  | .omap es => .pick (zUv es i) fun k => .wnode r pre (.omap (es.modify i fun _=>(k,v))) .ok
  | _ => .fail)
 | _ => .fail
theorem zL7 {i:Nat} {v m:PV}:(zJO i v m).toPM=zIi i v m:=by
 cases m<;>first | rfl | skip
 simp only [zJO,zIi,PX.toPM]
 congr 1;congr 1;funext q
 cases q<;>first | rfl | skip
 rename_i es
 simp only [PX.toPM,zUv]
 cases es[i]? with
 | none=>rfl
 | some kv=>obtain ⟨k,x⟩:=kv;rfl
def zFe (m s y:Operand):PX:=zGP m fun m=>zGP s fun s=>zFB s fun i=>zLR y fun v=>zPE zAe zDq v fun v=>zJO i (zAQ v) m
theorem zIb {m s y:Operand}:(zFe m s y).toPM=zEm m s y:=by
 simp only [zFe,zEm,zB2,zEQ,zF5,zFD,zL7]
def zNU (d:Option Nat) (c:Call):PX :=
 match c.callee with
 | .builtin b=>zLm P d b c.argTypes.toList c.args.toList
 | .value f=>zGP f (zQB H d c.args.toList)
 | _ => .fail
theorem zPB {d:Option Nat} {c:Call}:(zNU P H d c).toPM=zI0 P H d c:=by
 simp only [zNU,zI0]
 cases c.callee<;>simp only [PX.toPM,zOd,zB2,zQ0]
def opX (fz tk nl:Bool) (o:Oper):PX :=
 match o.op with
 | .assign x=>zIG P tk nl o.dst o.type x
 | .box t x=>zRe P o.dst t x
 | .buildSlice t n ps=>zEX P tk o.dst t n ps.toList
 | .load t a=>zN0 P tk o.dst t a
 | .store t a x=>zQ1 P fz tk t a x
 | .binOp op t x y _=>zQ9 P o.dst op t x y
 | .unOp op _ x=>zGP x (zZA o.dst op)
 | .convert _ t x=>zGP x (zSs P o.dst t)
 | .makeSlice t l c=>zFt P o.dst t l c
 | .slice t x lo hi mx=>zRQ P o.dst t x lo hi mx
 | .indexAddr t x i=>zFM P o.dst t x i
 | .index t x i=>zKW P o.dst t x i
 | .lookup t m x ok=>zJX P o.dst t m x ok
 | .mapUpdate t m x y=>zFw P t m x y
 | .mapEntry t m x=>zGy P o.dst t m x
 | .entryStore _ m s x=>zFe m s x
 | .call c=>zNU P H o.dst c
 | _ => .emb (opM P H fz tk nl o)
theorem zXx {fz tk nl:Bool} {o:Oper}:(opX P H fz tk nl o).toPM=opM P H fz tk nl o:=by
 obtain ⟨dst,op,type,pos,after,guard⟩:=o
 cases op<;>simp only [opX,opM,PX.toPM,zL4,zRi,zIc,zP4,zRu,zRg,zB2,zVW,zQJ,zJD,zSf,zJZ,zNx,zMK,zJl,zKb,zIb,zPB]
end
end Go.Eng
namespace Go.Eng
open Go
section
variable [Yo] {P:Program} {H:zBf} {f:FuncId} {nt:Nat} {e e':Env} {lg:Option Log} {K:X→Env→Option Log→Prop} {i:Nat} {c:Code} {s:RS} {R:Env→Option Log→Prop}
abbrev zYQ (P:Program) (H:zBf) (f:FuncId) (c:Code) (i:Nat):PX:=opX P H (((H f).frzs (rid c)).contains i) (((H f).take (rid c)).contains i) (H f).nils (zDT c i)
def zWs [Yo] (P:Program) (H:zBf) (f:FuncId) (c:Code) (i:Nat) (as:Ans) (s:RS):Option (RS×List Prop) :=
 match (zYQ P H f c i).run P H as s.e with
 | some (e',t,obs)=>(zRL c i s e' t).map fun s'=>(s',obs)
 | none=>none
def rsX (o:Option (RS×List Prop)):RS:=zWE (o.map (·.1))
theorem S_x (as:Ans) (obs:List Prop) (ho:zTi obs) (h:WS P H f c (i+1) (rsX (zWs P H f c i as s)) R) (hq:(zWs P H f c i as s).map (·.2)=some obs:=by kernel_rfl) (hi:Nat.blt i (zFn c).size=true:=by kernel_rfl):WS P H f c i s R:=by
 obtain ⟨⟨s',obs'⟩,hs,hq⟩:=Option.map_eq_some_iff.1 hq
 simp only at hq;subst hq
 simp only [zWs] at hs
 split at hs
 ·rename_i e1 t obs hr
  obtain ⟨s1,h1,h2⟩:=Option.map_eq_some_iff.1 hs
  simp only [Prod.mk.injEq] at h2
  obtain ⟨rfl,rfl⟩:=h2
  obtain ⟨n0,hn⟩:=PX.run_ok hr ho
  refine zXV (m:=some (e1,t)) ⟨n0,fun n vi=>?_⟩ ?_ ?_ hi
  ·have:=hn n vi
   rw [zXx] at this
   exact this
  ·simpa [rsX,zWs,hr,h1] using h
  ·simp [h1]
 ·cases hs
def zUW (p:PV) (k:PV→PX) (k2:PX):PX :=
 match p with
 | .bor r pre _ lo n => .deep r pre fun q=>match q with
  | .own sz xs => .choose (Nat.ble (lo+n) xs.length) (.wnode r pre .bad (.same (.own sz ((xs.drop lo).take n)) k)) k2
  | _=>k2
 | .addr r pre 0 0 _ => .deep r pre fun q=>match q with
  | .box q => .wnode r pre .bad (k (.box q))
  | _=>k2
 | .bmap r pre => .deep r pre fun q=>match q with
  | .omap es => .wnode r pre .bad (k (.omap es))
  | _=>k2
 | _=>k2
omit [Yo] in
theorem zTd {p:PV} {k:PV→PX} {k2:PX}:(zUW p k k2).toPM=zSB p (fun q=>(k q).toPM) k2.toPM:=by
 unfold zUW zSB
 split
 ·simp only [PX.toPM]
  congr 1;funext q
  cases q<;>rfl
 ·simp only [PX.toPM]
  congr 1;funext q
  cases q<;>rfl
 ·simp only [PX.toPM]
  congr 1;funext q
  cases q<;>rfl
 ·rename_i h1 h2 h3
  split
  ·exact (h1 _ _ _ _ _ rfl).elim
  ·exact (h2 _ _ _ rfl).elim
  ·exact (h3 _ _ rfl).elim
  ·rfl
def zK1 (frz:Bool) (p:PV) (k:PV→PX):PX :=
 bif frz||p.ways.any (fun w=>Nat.ble zAm w.1) then zPE zAm zDq p k else zUW p k (zPE zAm zDq p k)
def zEn (frz:Bool):List PV→(List PV→PX)→PX
 | [],k=>k []
 | p::ps,k=>zK1 frz p fun q=>zEn frz ps fun qs=>k (q::qs)
def zIh (frz:Bool) (p:PV) (k:PV→PX):PX :=
 match p with
 | .agg cs => .choose (cs.all fun q=>q.num) (k (.agg cs)) (zEn frz cs fun qs=>k (.agg qs))
 | p=>zK1 frz p k
omit [Yo] in
theorem zKt {frz:Bool} {p:PV} {k:PV→PX}:(zK1 frz p k).toPM=zFA frz p fun q=>(k q).toPM:=by
 simp only [zK1,zFA,zC8,zFD,zTd]
omit [Yo] in
theorem zFV {frz:Bool}:∀ {ps:List PV} {k:List PV→PX},(zEn frz ps k).toPM=zCk frz ps fun qs=>(k qs).toPM
 | [],_=>rfl
 | p::ps,k=>by simp only [zEn,zCk,zKt,zFV]
omit [Yo] in
theorem zNo {frz:Bool} {p:PV} {k:PV→PM} (h:p.num=true):zFA frz p k=k p:=by
 cases p<;>first | (cases h;done) | skip
 all_goals cases frz<;>rfl
omit [Yo] in
theorem zFy {frz:Bool}:∀ {ps:List PV} {k:List PV→PM},ps.all (fun q=>q.num)=true→zCk frz ps k=k ps
 | [],_,_=>rfl
 | p::ps,k,h=>by
  simp only [List.all_cons,Bool.and_eq_true] at h
  simp only [zCk,zNo h.1,zFy h.2]
omit [Yo] in
theorem zI4 {frz:Bool} {p:PV} {k:PV→PX}:(zIh frz p k).toPM=zGE frz p fun q=>(k q).toPM:=by
 cases p<;>first | exact zKt | skip
 rename_i cs
 simp only [zIh,zGE,PX.toPM,zFV]
 cases h:cs.all fun q=>q.num with
 | false=>rfl
 | true=>simp only [cond_true];exact (zFy (k:=fun qs=>(k (.agg qs)).toPM) h).symm
def zHB (P:Program) (frz:Bool):Nat→List ResultVar→PX
 | _,[] => .ok
 | j,.tmp t::rs => .view t fun p=>zIh frz p fun q => .same q fun q=>zWn (zAx+j) q (zHB P frz (j+1) rs)
 | j,.cell a t::rs=>zWq (shT P t) fun sh => .view a fun p=>match p with
  | .addr r pre i c _=>zSG r pre i c sh fun v=>zIh frz v fun q => .same q fun q=>zWn (zAx+j) q (zHB P frz (j+1) rs)
  | _ => .fail
omit [Yo] in
theorem zHy {frz:Bool}:∀ {rs:List ResultVar} {j:Nat},(zHB P frz j rs).toPM=zCD P frz j rs
 | [],_=>rfl
 | .tmp t::rs,j=>by simp only [zHB,zCD,PX.toPM,zI4,zLd,zHy]
 | .cell a t::rs,j=>by
  simp only [zHB,zCD,zJF,PX.toPM]
  congr 1;funext sh;congr 1;funext p
  cases p<;>first | rfl | simp only [zLB,zI4,PX.toPM,zLd,zHy]
def zNW [Yo] (P:Program) (H:zBf) (f:FuncId) (fn:Func) (as:Ans) (e:Env) (nh:Nat):Option ((PV×List PV)×List Prop) :=
 match (zHB P (H f).frz 0 fn.results.toList).run P H as e with
 | some (e',_,obs)=>bif Nat.beq fn.results.size 1&&(e'.get zAx).isTup then none else some ((zVO e' fn.results.size,(List.range nh).map fun j=>e'.get (zAm+j)),obs)
 | none=>none
def zVu [Yo] (P:Program) (H:zBf) (f:FuncId) (fn:Func) (nh:Nat) (v:PV) (hZ:List PV) (x:X) (e:Env) (lg:Option Log):Prop :=
 (x = .norm∨x = .ret)∧lg=none∧∃ n0,∀ n,n0≤n→∃ e',(zCD P (H f).frz 0 fn.results.toList).run (zCT P H n) e=some e'∧(bif Nat.beq fn.results.size 1&&(e'.get zAx).isTup then none else some (zVO e' fn.results.size,(List.range nh).map fun j=>e'.get (zAm+j)))=some (v,hZ)
theorem E_x {fn:Func} {nh:Nat} {v:PV} {h:List PV} {x:X} (as:Ans) (obs:List Prop) (v':PV) (h':List PV) (ho:zTi obs) (hv:v'=v) (hh:h'=h) (hf:zNW P H f fn as e nh=some ((v',h'),obs):=by kernel_rfl) (hl:lg=none:=by kernel_rfl) (hx:x = .norm∨x = .ret:=by first | exact .inr rfl | exact .inl rfl):zVu P H f fn nh v h x e lg:=by
 subst hv;subst hh
 simp only [zNW] at hf
 split at hf
 ·rename_i e1 t obs' hr
  rcases zBc hf with ⟨_,hf⟩ | ⟨hb,hf⟩
  ·cases hf
  ·simp only [Option.some.injEq,Prod.mk.injEq] at hf
   obtain ⟨⟨h1,h2⟩,rfl⟩:=hf
   obtain ⟨n0,hn⟩:=PX.run_ok hr ho
   refine ⟨hx,hl,n0,fun n vi=>⟨e1,?_,?_⟩⟩
   ·have:=hn n vi
    rw [zHy] at this
    exact zEi this
   ·rw [hb];simp only [cond_false,h1,h2]
 ·cases hf
theorem zAf (fn:Func) {args hid:List PV} {v:PV} {hZ:List PV} (h:W P H f fn.ntmps (fn.body.getD .ret) (zA4 args hid) none (zVu P H f fn hid.length v hZ)) (hf:P.funcs[f]? = some fn:=by kernel_rfl) (hi:(H f).intr=0:=by kernel_rfl) (hb:fn.body.isSome=true:=by kernel_rfl)
  (hc:(Nat.ble args.length fn.ntmps&&Nat.ble hid.length 1000&&args.all (fun p => !p.isTup))=true:=by kernel_rfl):zDj P H f args hid v hZ:=by
 obtain ⟨body,hb⟩:∃ body,fn.body=some body:=by cases hx:fn.body<;>first | exact ⟨_,rfl⟩ | (rw [hx] at hb;cases hb)
 simp only [hb,Option.getD_some] at h
 obtain ⟨n0,x,e1,lg1,h1,hx,rfl,n1,hr⟩:=h
 refine ⟨max n0 n1+1,fun n hn=>?_⟩
 obtain ⟨n,rfl⟩:∃ k,n=k+1:=⟨n-1,by omega⟩
 have j4:=h1 n (n+1) (by omega) (by omega)
 obtain ⟨e2,h2,hr⟩:=hr n (by omega)
 show zJk P H (zCT P H n) Yo.yo zB3 (n+1) f args hid=_
 simp only [zJk,hf,hi,hb,zJw,hc,cond_true,j4,ne_eq,not_true,if_false]
 rcases hx with rfl | rfl<;>simp only [h2,hr]
theorem zWi (k:Int) (xss:List (List PV)) (args:List PV) (a:Nat) (h1:k=1→WS P H f c (i+1) ⟨(zFm s.dr i (zDT c i) {all:=true}).getD none,zM2 ((put (zDT c i).dst (.bool false)).run zHu (s.e.forget zAe)),some ⟨xss++[args],k-1,a⟩⟩ R)
  (h2:k≠1→WS P H f c (i+1) ⟨(zFm s.dr i (zDT c i) {all:=true}).getD none,zM2 ((put (zDT c i).dst (.bool true)).run zHu s.e),some ⟨xss++[args],k-1,a⟩⟩ R) (hk:k≠0)
  (hy:zB6 s.e (zDT c i)=some (a,args):=by kernel_rfl) (hl:s.lg=some ⟨xss,k,a⟩:=by kernel_rfl) (hw:zLa (zFn c) s.e (zDT c i)=some true:=by kernel_rfl) (hf:args.all PV.flat=true:=by kernel_rfl)
  (hd:(zFm s.dr i (zDT c i) {all:=true}).isSome=true:=by kernel_rfl) (uL:((put (zDT c i).dst (.bool false)).run zHu (s.e.forget zAe)).isSome=true:=by kernel_rfl) (ui:((put (zDT c i).dst (.bool true)).run zHu s.e).isSome=true:=by kernel_rfl)
  (hi:Nat.blt i (zFn c).size=true:=by kernel_rfl):WS P H f c i s R:=by
 have wO:zFm s.dr i (zDT c i) {all:=true}=some ((zFm s.dr i (zDT c i) {all:=true}).getD none):=by
  cases hx:zFm s.dr i (zDT c i) {all:=true} with
  | none=>rw [hx] at hd;cases hd
  | some d=>rfl
 have vN:(k != 0)=true:=by simpa using hk
 by_cases jD:k=1
 ·refine zKY hi ⟨0,fun n _=>?_⟩ wO (h1 jD)
  have hr:(put (zDT c i).dst (.bool false)).run (zCT P H n) (s.e.forget zAe)=some (zM2 ((put (zDT c i).dst (.bool false)).run zHu (s.e.forget zAe))):=zFx (zHx uL)
  have wL:(k==1)=true:=by simpa using jD
  have hyr:zBK (zCT P H n) (zFn c) (zDT c i) a args ⟨xss,k,a⟩ s.e=some (zM2 ((put (zDT c i).dst (.bool false)).run zHu (s.e.forget zAe)),some ⟨xss++[args],k-1,a⟩):=by
   unfold zBK
   rw [hw]
   simp only
   rw [hf,vN,Nat.beq_refl,wL]
   simp only [Bool.and_self,cond_true]
   rw [hr];rfl
  rw [hl]
  unfold zEj
  simp only
  rw [hy]
  simp only
  rw [hyr];rfl
 ·refine zKY hi ⟨0,fun n _=>?_⟩ wO (h2 jD)
  have hr:(put (zDT c i).dst (.bool true)).run (zCT P H n) s.e=some (zM2 ((put (zDT c i).dst (.bool true)).run zHu s.e)):=zFx (zHx ui)
  have wL:(k==1)=false:=by simpa using jD
  have hyr:zBK (zCT P H n) (zFn c) (zDT c i) a args ⟨xss,k,a⟩ s.e=some (zM2 ((put (zDT c i).dst (.bool true)).run zHu s.e),some ⟨xss++[args],k-1,a⟩):=by
   unfold zBK
   rw [hw]
   simp only
   rw [hf,vN,Nat.beq_refl,wL]
   simp only [Bool.and_self,cond_true,cond_false]
   rw [hr];rfl
  rw [hl]
  unfold zEj
  simp only
  rw [hy]
  simp only
  rw [hyr];rfl
theorem zVy {σ:Type} {c:Code} (Inv:σ→Prop) (upd:σ→List (Nat×PV)) (L:σ→Option Log) (μ:σ→Nat) (s:σ) (hi:Inv s) (h:∀ s,Inv s→W P H f nt (cl c) (zNj (upd s) (e.drop ((H f).loopDrop (zAN (cl c))))) (L s) fun x e' lg'=>match x with
   | .norm=>∃ s',Inv s'∧μ s'<μ s∧e'.drop ((H f).loopDrop (zAN (cl c)))=zNj (upd s') (e.drop ((H f).loopDrop (zAN (cl c))))∧lg'=L s'
   | x=>K x e' lg') (hs:e.drop ((H f).loopDrop (zAN (cl c)))=zNj (upd s) (e.drop ((H f).loopDrop (zAN (cl c)))):=by kernel_rfl) (hl:lg=L s:=by kernel_rfl) (hc:zOr c=true:=by kernel_rfl):W P H f nt c e lg K:=by
 rw [zMn hc]
 generalize hE:e.drop ((H f).loopDrop (zAN (cl c)))=e0 at h hs
 have key:∀ (n:Nat) (s:σ) (e:Env) (lg:Option Log),μ s≤n→Inv s→e.drop ((H f).loopDrop (zAN (cl c)))=zNj (upd s) e0→lg=L s→W P H f nt (.loop (cl c)) e lg K:=by
  intro n
  induction n with
  | zero =>
   intro s e lg hs hi he vQ
   subst vQ
   obtain ⟨n0,x,e1,lg1,h1,h2⟩:=h s hi
   cases x with
   | norm=>obtain ⟨s',_,h3,_⟩:=h2;omega
   | ex id =>
    refine ⟨n0+1,_,e1,lg1,fun n m hn hm=>?_,h2⟩
    obtain ⟨m,rfl⟩:∃ k,m=k+1:=⟨m-1,by omega⟩
    simp only [exec,he,h1 n m (by omega) (by omega)]
   | ret =>
    refine ⟨n0+1,_,e1,lg1,fun n m hn hm=>?_,h2⟩
    obtain ⟨m,rfl⟩:∃ k,m=k+1:=⟨m-1,by omega⟩
    simp only [exec,he,h1 n m (by omega) (by omega)]
  | succ n ih =>
   intro s e lg hs hi he vQ
   subst vQ
   obtain ⟨n0,x,e1,lg1,h1,h2⟩:=h s hi
   cases x with
   | norm =>
    obtain ⟨s',h3,h4,h7,h8⟩:=h2
    obtain ⟨n2,x,e2,lg2,h5,h6⟩:=ih s' e1 lg1 (by omega) h3 h7 h8
    refine ⟨max n0 n2+1,x,e2,lg2,fun n m hn hm=>?_,h6⟩
    obtain ⟨m,rfl⟩:∃ k,m=k+1:=⟨m-1,by omega⟩
    simp only [exec,he,h1 n m (by omega) (by omega),h5 n m (by omega) (by omega)]
   | ex id =>
    refine ⟨n0+1,_,e1,lg1,fun n m hn hm=>?_,h2⟩
    obtain ⟨m,rfl⟩:∃ k,m=k+1:=⟨m-1,by omega⟩
    simp only [exec,he,h1 n m (by omega) (by omega)]
   | ret =>
    refine ⟨n0+1,_,e1,lg1,fun n m hn hm=>?_,h2⟩
    obtain ⟨m,rfl⟩:∃ k,m=k+1:=⟨m-1,by omega⟩
    simp only [exec,he,h1 n m (by omega) (by omega)]
 exact key (μ s) s e lg (Nat.le_refl _) hi (hE.trans hs) hl
end
end Go.Eng
namespace Go.Eng
open Go
abbrev I (n:Int):PV := .int .i64 n
abbrev zAY (l:List Int):PV := .sl (l.map I)
section
theorem zPm {a b:Bool} (ha:a=true) (hb:b=true):(a&&b)=true:=by rw [ha,hb];rfl
theorem zBs {a b:Nat} (h:a≤b):Nat.ble a b=true:=by rw [Nat.ble_eq];exact h
theorem zBr {a b:Nat} (h:a=b):Nat.beq a b=true:=by rw [h];exact Nat.beq_refl _
theorem zAp {p:Prop} [Decidable p] (h:p):decide p=true:=decide_eq_true h
variable {α:Type} {g:α→PV} {l:List α} {i:Nat} {d:α} {x q root root':PV} {xs:List PV} {r z c n:Nat} {pre rest:zAP}
theorem zBA (d:α) (h:i<l.length):(l.map g)[i]? = some (g (l.getD i d)):=by simp [List.getD,List.getElem?_eq_getElem h]
theorem zGf {u:α}:(l.map g).set i (g u)=(l.set i u).map g:=(List.map_set).symm
theorem zM4 (hx:xs[i]? = some x) {y:PV} (hn:zAw y rest=some q) (hh:zAW root=some xs:=by kernel_rfl) (hc:x.cells[c]? = some y:=by kernel_rfl):zAw root ((i,c)::rest)=some q:=by
 simp only [zAw,hh,hx,hc,hn]
def zNi (r:Nat) (pre:zAP) (i c n:Nat) (x:PV):Option (Bool×List PV):=bif Nat.ble (c+n) x.cells.length then some (x.isAgg,zBv r pre i c ((x.cells.drop c).take n)) else none
theorem zDk {a:Bool} {qs:List PV} (hn:zAw root.unlock pre=some q) (hx:xs[i]? = some x) (hr:zNi r pre i c n x=some (a,qs):=by kernel_rfl) (hh:zA6 q=some xs:=by kernel_rfl):zAt r root pre i c n=some (a,qs):=by
 simp only [zAt,hn,hh,hx];exact hr
theorem zQm {qs:List PV} {xs':List PV} (hx:xs[i]? = some x) (hs:xs.set i (zAy x c qs)=xs') (hb:Nat.ble (c+qs.length) x.cells.length=true:=by kernel_rfl) (hw:(zBp qs).isEmpty=true:=by kernel_rfl):zBx (.own z xs) [] i c qs=some (.own z xs')∧zAD (.own z xs) (.own z xs') []=true:=by
 subst hs
 constructor
 ·simp only [zBx,hw,Bool.not_true,Bool.and_false,cond_false,zAs,zA6,hx,hb,cond_true,zAz]
 ·simp [zAD,zCr]
theorem zBZ {x m:Nat} (h:Nat.beq m 1=true):0+x*m=x:=by rw [Nat.eq_of_beq_eq_true h,Nat.mul_one,Nat.zero_add]
theorem zBW {a x m:Nat} (h:Nat.beq m 1=true):a+x*m=a+x:=by rw [Nat.eq_of_beq_eq_true h,Nat.mul_one]
def wf (i c:Nat) (qs:List PV) (q:PV):Option PV:=match zA6 q with
 | some xs=>match xs[i]? with
  | some x=>bif Nat.ble (c+qs.length) x.cells.length then zAz q (xs.set i (zAy x c qs)) else none
  | none=>none
 | none=>none
theorem zKA {qs:List PV} {q' y:PV} (hx:xs[i]? = some x) (hs:zAy x c qs=y) (hq:zAz q (xs.set i y)=some q') (hh:zA6 q=some xs:=by kernel_rfl) (hb:Nat.ble (c+qs.length) x.cells.length=true:=by kernel_rfl):zAs (wf i c qs) q []=some q':=by
 subst hs
 simp only [zAs,wf,hh,hx,hb,cond_true,hq]
theorem zPC {qs:List PV} {b:Bool} (h:zAs (wf i c qs) root pre=some root') (hk:zAD root root' pre=b) (hw:(zBp qs).isEmpty=true:=by kernel_rfl):zBx root pre i c qs=some root'∧zAD root root' pre=b:=by
 refine ⟨?_,hk⟩
 simp only [zBx,hw,Bool.not_true,Bool.and_false,cond_false]
 exact h
theorem zBN (l:List α) (h:∀ x,zAQ (g x)=g x:=by intro;rfl):zAB (l.map g)=l.map g:=by
 induction l with
 | nil=>rfl
 | cons x l ih=>simp only [List.map_cons,zAB,h,ih]
theorem zKT {ys:List PV} (hy:xs=ys) (h2:zAB ys=ys):zAB xs=ys:=by rw [hy];exact h2
theorem zDE (l:List α) (h:∀ x,(g x).free=true:=by intro;rfl):zEC (l.map g)=true:=by
 induction l with
 | nil=>rfl
 | cons x l ih=>simp only [List.map_cons,zEC,h,ih,Bool.and_self]
theorem zMg (l:List α) (h:∀ x,(g x).ways=[]:=by intro;rfl):zBp (l.map g)=[]:=by
 induction l with
 | nil=>rfl
 | cons x l ih=>simp only [List.map_cons,zBp,h,ih,List.append_nil]
theorem all_map {p:PV→Bool} (l:List α) (h:∀ x,p (g x)=true:=by intro;rfl):(l.map g).all p=true:=by
 rw [List.all_map];exact List.all_eq_true.2 fun x _=>h x
theorem zEO (l:List α):List.take l.length (l.map g)=l.map g:=List.take_of_length_le (by simp)
theorem zAR {xs ys:List PV} (h:xs=ys):PV.own z xs=PV.own z ys:=by rw [h]
theorem zRh {xs ys:List PV} (h:xs=ys):PV.sl xs=PV.sl ys:=by rw [h]
theorem zFO {a x m:Nat} {sh:Option Nat} (h:Nat.beq m 1=true):PV.addr r pre i (a+x*m) sh=PV.addr r pre i (a+x) sh:=by rw [Nat.eq_of_beq_eq_true h,Nat.mul_one]
end
end Go.Eng
namespace Go.Eng
open Go
section
def zWk:Code→Bool
 | .label _=>true
 | _=>false
theorem ap {p:Prop} {ps:List Prop} (h:p) (hs:zTi ps):zTi (p::ps):=⟨h,hs⟩
theorem an:zTi []:=trivial
theorem zDm {a b:Int} (h:a=b) (hr : -9223372036854775808≤b∧b<9223372036854775808):PV.int .i64 (IntKind.i64.wrap a)=PV.int .i64 b:=by rw [h,zXr hr]
variable [Yo] {P:Program} {H:zBf} {f:FuncId} {nt:Nat} {e e':Env} {lg:Option Log} {K:X→Env→Option Log→Prop} {i:Nat} {c:Code} {s:RS} {R:Env→Option Log→Prop}
theorem S_a (as:Ans) {obs:List Prop} (ho:zTi obs) (h:WS P H f c (i+1) (rsX (zWs P H f c i as s)) R) (hq:(zWs P H f c i as s).map (·.2)=some obs:=by kernel_rfl) (hi:Nat.blt i (zFn c).size=true:=by kernel_rfl):WS P H f c i s R:=S_x as obs ho h hq hi
theorem E_a {fn:Func} {nh:Nat} {v:PV} {h:List PV} {x:X} (as:Ans) {obs:List Prop} (ho:zTi obs) (v':PV) (h':List PV) (hv:v'=v) (hh:h'=h) (hf:zNW P H f fn as e nh=some ((v',h'),obs):=by kernel_rfl) (hl:lg=none:=by kernel_rfl) (hx:x = .norm∨x = .ret:=by first | exact .inr rfl | exact .inl rfl):zVu P H f fn nh v h x e lg:=E_x as obs v' h' ho hv hh hf hl hx
theorem zVq {c:Code} (h:K .norm e lg) (hc:zWk c=true:=by kernel_rfl):W P H f nt c e lg K:=by
 cases c<;>first | (cases hc;done) | exact zT7 1 rfl h
end
end Go.Eng
namespace Go.Eng
open Go
section
variable [Yo] {P:Program} {H:zBf} {f:FuncId}
end
end Go.Eng
namespace Go.Eng
open Go
def zNR (pre:zAP) (put:PV→PV):Prop:=∀ f z xs,zAs f (put (.own z xs)) pre=(f (.own z xs)).map put
theorem zNR.nil:zNR [] (fun q=>q):=fun f z xs=>by simp [zAs]
theorem zNR.box:zNR [(0,0)] (fun q => .box q):=fun f z xs=>by
 simp only [zAs,zAW,List.getElem?_cons_zero,PV.cells]
 cases f (.own z xs)<;>rfl
theorem zGG [Yo] {r z:Nat} {pre:zAP} {put:PV→PV} (L:zNR pre put):∀ {ys:List PV} {j:Nat} {xs:List PV} {e:Env},e.get r=put (.own z xs)→j+ys.length≤xs.length→(∀ (a:Nat) (x y:PV),xs[j+a]? = some x→ys[a]? = some y→y.heavy=false∧y.cells.all (fun q=>q.ways.isEmpty)=true∧y.cells.length≤x.cells.length∧zAy x 0 y.cells=y) →
  ∃ e',e'.get r=put (.own z (xs.take j++ys++xs.drop (j+ys.length)))∧(∀ t,t≠r→e'.get t=e.get t)∧∀ (o:zAA) (k:PM),(zGn r pre j ys k).run o e=k.run o e'
 | [],j,xs,e,he,hj,hy=>⟨e,by simp [he],fun _ _=>rfl,fun _ _=>rfl⟩
 | y :: ys,j,xs,e,he,hj,hy=>by
  simp only [List.length_cons] at hj
  have hjx:j<xs.length:=by omega
  obtain ⟨h1,h2,h3,h4⟩:=hy 0 xs[j] y (by simp [hjx]) rfl
  have hws:zBp y.cells=[]:=zMO h2
  have hb:Nat.ble (0+y.cells.length) xs[j].cells.length=true:=by rw [Nat.ble_eq];omega
  have yU:(e.set r (put (.own z (xs.set j y)))).get r=put (.own z (xs.set j y)):=by rw [Env.get_set,if_pos rfl]
  obtain ⟨e',g1,g2,g3⟩:=zGG L (ys:=ys) (j:=j+1) yU (by simp;omega) fun a x' y' js uM=>by
   rw [List.getElem?_set] at js
   rw [if_neg (by omega)] at js
   exact hy (a+1) x' y' (by rw [← js];congr 1;omega) (by simpa using uM)
  refine ⟨e',?_,fun t ht=>?_,?_⟩
  ·rw [g1,zTE hj]
   simp only [List.length_cons]
  ·rw [g2 t ht,Env.get_set,if_neg ht]
  ·intro o k
   simp only [zGn]
   rw [zE9 (by simpa using zNp h1)]
   simp only [PM.run,he,zBx,hws,List.isEmpty_nil,Bool.not_true,Bool.and_false,cond_false,L _ z xs,zA6,List.getElem?_eq_getElem hjx,hb,cond_true,zAz,h4,Option.map_some]
   exact g3 o k
section
variable [Yo] {P:Program} {H:zBf} {f:FuncId} {i:Nat} {c:Code} {R:Env→Option Log→Prop}
theorem zLQ {pre:zAP} (put':PV→PV) (r s:Nat) (xs ys zs:List PV) {st:RS} (hy:∀ (a:Nat) (x y:PV),xs[a]? = some x→ys[a]? = some y→zWw s x y) (hX:ys.length≤xs.length) (hz:ys++xs.drop ys.length=zs) (L:zNR pre put')
  (h:WS P H f c (i+1) ⟨none,zM2 ((put (zDT c i).dst (.int .i64 ys.length)).run zHu (st.e.set r (put' (.own s zs)))),none⟩ R) (he:st.e.get r=put' (.own s xs):=by kernel_rfl) (ho:zUD P st.e (zDT c i)=some (s,.bor r pre s 0 xs.length,.sl ys):=by kernel_rfl) (hs:Nat.blt 0 s=true:=by kernel_rfl)
  (hq:((put (zDT c i).dst (.int .i64 ys.length)).run zHu (st.e.set r (put' (.own s zs)))).isSome=true:=by kernel_rfl) (ji:st.dr=none:=by kernel_rfl) (vQ:st.lg=none:=by kernel_rfl) (hg:zLu c i st.e=true:=by kernel_rfl) (hi:Nat.blt i (zFn c).size=true:=by kernel_rfl):WS P H f c i st R:=by
 subst hz
 obtain ⟨dr,e,lg⟩:=st
 simp only at ji h he ho hq hg vQ
 subst ji;subst vQ
 have km:∀ y∈ys,y.plain=true∧y.cells.length=s:=fun y uM=>by
  obtain ⟨a,ha⟩:=List.getElem?_of_mem uM
  have yJ:=(List.getElem?_eq_some_iff.1 ha).1
  have:=hy a _ y (List.getElem?_eq_getElem (by omega)) ha
  exact ⟨this.1,this.2.1⟩
 obtain ⟨e',g1,g2,g3⟩:=zGG L he (j:=0) (ys:=ys) (by omega) fun a x y hx uM=>by
  rw [Nat.zero_add] at hx
  obtain ⟨_,_,h3,h4,h5,h6⟩:=hy a x y hx uM
  exact ⟨h3,h4,h5,h6⟩
 simp only [List.take_zero,List.nil_append,Nat.zero_add] at g1
 have yU:∀ t,e'.get t=(e.set r (put' (.own s (ys++xs.drop ys.length)))).get t:=fun t=>by
  rw [Env.get_set]
  split
  ·rename_i h;subst h;exact g1
  ·rename_i h;exact g2 t h
 have jy:=zHx hq
 obtain ⟨e1,h1,h2⟩:=zFr (funext yU) jy
 refine zWC (s:=⟨none,e,none⟩) (e':=e1) ⟨0,fun n _=>?_⟩ (zUm h fun t=>congrFun h2 t) rfl rfl hg hi
 have yA:=zFx (o:=zCT P H n) h1
 show (opM P H _ _ _ (zDT c i)).run _ e=_
 generalize zDT c i=o at ho yA
 cases hop:o.op<;>simp only [zUD,hop] at ho<;>try (cases ho;done)
 rename_i cc
 split at ho
 ·rename_i x y t ts hc ha hT
  split at ho
  ·rename_i s' yy
   simp only [Option.some.injEq,Prod.mk.injEq] at ho
   obtain ⟨rfl,hx,hyv⟩:=ho
   have hb:Nat.ble ys.length xs.length=true:=by rw [Nat.ble_eq];exact hX
   have jp:(ys.all fun y=>y.plain&&Nat.beq y.cells.length s')=true:=List.all_eq_true.2 fun y uM=>by
    obtain ⟨q1,q2⟩:=km y uM
    rw [q1,q2,Nat.beq_refl];rfl
   simp only [opM,hop,zI0,hc,ha,hT,zBj,yy,zIw]
   rw [zNA hx (by simp),zNA hyv (by simp)]
   simp only [zHp,Nat.beq_refl,hs,hb,jp,Bool.and_self,cond_true]
   rw [g3];exact yA
  ·cases ho
 ·cases ho
theorem zIo {α β:Type} {g:α→PV} {g':β→PV} {s:Nat} {l:List α} {m:List β} (h:∀ (x:α) (y:β),zWw s (g x) (g' y)):∀ (a:Nat) (x y:PV),(l.map g)[a]? = some x→(m.map g')[a]? = some y→zWw s x y:=by
 intro a x y hx hy
 rw [List.getElem?_map] at hx hy
 obtain ⟨x',_,rfl⟩:=Option.map_eq_some_iff.1 hx
 obtain ⟨y',_,rfl⟩:=Option.map_eq_some_iff.1 hy
 exact h x' y'
theorem zF2 {k:IntKind} {a b:Int}:zWw 1 (.int k a) (.int k b):=⟨rfl,rfl,rfl,rfl,Nat.le_refl _,rfl⟩
theorem zLA {α β:Type} {g:α→PV} {g':β→PV} {l:List α} {m:List β} (h:l.length=m.length):l.map g++(m.map g').drop (l.map g).length=l.map g:=by simp [h]
end
end Go.Eng
namespace Go.Eng
open Go
abbrev zP5 (sh:Option Nat) (a:List Int):PV:=match sh with | none=>I (a.getD 0 0) | some _ => .agg (a.map I)
theorem zOX {l:List Int} {i k:Nat} {sh:Option Nat} (j3:sh=some k∨(sh=none∧k=1)) (h:i+k≤l.length):sub (.agg (l.map I)) i sh=some (zP5 sh ((l.drop i).take k)):=by
 rcases j3 with rfl | ⟨rfl,rfl⟩
 ·simp only [sub,List.length_map,h,if_true,zP5,List.map_take,List.map_drop]
 ·have h2:i<l.length:=by omega
  simp only [sub,zP5]
  rw [List.drop_eq_getElem_cons h2]
  simp [h2]
theorem zMk {eq:PV→PV→Option Bool} {sh:Option Nat} {k:Nat} {l m:List Int} (uc:∀ a b:List Int,a.length=k→b.length=k→eq (zP5 sh a) (zP5 sh b)=some (decide (a=b))) (j3:sh=some k∨(sh=none∧k=1)):∀ n i,(i+n)*k=l.length→(i+n)*k=m.length→zUK eq sh k (.agg (l.map I)) (.agg (m.map I)) i n=some (decide (l.drop (i*k)=m.drop (i*k)))
 | 0,i,h1,h2=>by
  simp only [zUK]
  rw [List.drop_eq_nil_of_le (by simpa using Nat.le_of_eq h1.symm),List.drop_eq_nil_of_le (by simpa using Nat.le_of_eq h2.symm)];simp
 | n + 1,i,h1,h2=>by
  have e:(i+(n+1))*k=i*k+k+n*k:=by rw [Nat.add_mul,Nat.succ_mul];omega
  have e1:(i+1)*k=i*k+k:=by rw [Nat.succ_mul]
  have hl:i*k+k≤l.length:=by omega
  have hm:i*k+k≤m.length:=by omega
  have ih:=zMk uc j3 n (i+1) (by rw [← h1];congr 1;omega) (by rw [← h2];congr 1;omega)
  simp only [zUK,zOX j3 hl,zOX j3 hm]
  rw [uc _ _ (by rw [List.length_take,List.length_drop];omega) (by rw [List.length_take,List.length_drop];omega)]
  have d1:l.drop (i*k)=(l.drop (i*k)).take k++l.drop ((i+1)*k):=by rw [e1,← List.drop_drop,List.take_append_drop]
  have d2:m.drop (i*k)=(m.drop (i*k)).take k++m.drop ((i+1)*k):=by rw [e1,← List.drop_drop,List.take_append_drop]
  by_cases hc:(l.drop (i*k)).take k=(m.drop (i*k)).take k
  ·simp only [hc,decide_true,ih]
   congr 1
   rw [d1,d2,hc]
   simp
  ·simp only [hc,decide_false]
   rw [Eq.comm,decide_eq_false]
   intro hx
   exact hc (by rw [hx])
def zOC:Option TypeDesc→Bool
 | some (.array ..)=>true
 | _=>false
def zVP:Option TypeDesc→Bool
 | some (.int .i64)=>true
 | _=>false
theorem zUb {x:Option TypeDesc} (h:zVP x=true):x=some (.int .i64):=by
 unfold zVP at h;split at h
 ·rfl
 ·cases h
theorem zMu {x:Option TypeDesc} (h:zOC x=true):∃ c e,x=some (.array c e):=by
 unfold zOC at h;split at h
 ·exact ⟨_,_,rfl⟩
 ·cases h
def zTa (P:Program):Nat→TypeId→Option Nat
 | 0,_=>none
 | n + 1,t=>match P.underlying t with
  | some (.int k)=>if k = .i64 then some 1 else none
  | some (.array m e)=>match szT P e,shT P e,zTa P n e with
   | some sz,some sh,some k=>if sz=k∧(sh=some k∧zOC (P.underlying e)=true∨sh=none∧k=1∧zVP (P.underlying e)=true) then some (m*k) else none
   | _,_,_=>none
  | _=>none
theorem zWj {P:Program} {n:Nat} {t:TypeId} {a b:Int} (h:P.underlying t=some (.int .i64)):eqT P (n+1) t (I a) (I b)=some (decide (a=b)):=by
 simp only [eqT,h,if_true];rfl
theorem zPk {P:Program}:∀ (n:Nat) (t:TypeId) (k:Nat) (l m:List Int),zTa P n t=some k→(∃ c e,P.underlying t=some (.array c e))→l.length=k→m.length=k→eqT P n t (.agg (l.map I)) (.agg (m.map I))=some (decide (l=m))
 | 0,_,_,_,_,h,_,_,_=>by cases h
 | n + 1, t, k,l,m,h,⟨c,e,hu⟩,hl,hm=>by
  simp only [zTa,hu] at h
  split at h
  ·rename_i sz sh k1 h1 h2 h3
   split at h
   ·rename_i hx
    obtain ⟨rfl,hx⟩:=hx
    cases h
    simp only [eqT,hu,h1,h2]
    have:=zMk (eq:=eqT P n e) (sh:=sh) (k:=sz) (l:=l) (m:=m) (fun a b ha hb=>by
     rcases hx with ⟨rfl,hx⟩ | ⟨rfl,rfl,hx⟩
     ·exact zPk n e sz a b h3 (zMu hx) ha hb
     ·cases n with
      | zero=>cases h3
      | succ n =>
       simp only [zP5,zWj (zUb hx)]
       match a,b,ha,hb with
       | [x],[y],_,_=>simp) (by
     rcases hx with ⟨rfl,_⟩ | ⟨rfl,rfl,_⟩
     ·exact .inl rfl
     ·exact .inr ⟨rfl,rfl⟩) c 0 (by rw [hl];simp) (by rw [hm];simp)
    simpa using this
   ·cases h
  ·cases h
def zMT (P:Program) (t:TypeId) (k:Nat):Bool := !P.eqGuardType P.depth t&&decide (zTa P 20 t=some k)&&zOC (P.underlying t)
theorem zRp {P:Program} {t:TypeId} {k:Nat} {l m:List Int} (h:zMT P t k=true) (hl:l.length=k) (hm:m.length=k):eqT P 20 t (.agg (l.map I)) (.agg (m.map I))=some (decide (l=m)):=by
 unfold zMT at h
 simp only [Bool.and_eq_true,decide_eq_true_eq,Bool.not_eq_true'] at h
 obtain ⟨⟨h1,h2⟩,h3⟩:=h
 exact zPk 20 t k l m h2 (zMu h3) hl hm
theorem zWV {P:Program} {t:TypeId} {k:Nat} {l m:List Int} (h:zMT P t k=true) (hl:l.length=k) (hm:m.length=k):eqV P t (.agg (l.map I)) (.agg (m.map I))=some (decide (l=m)):=by
 have hg:P.eqGuardType P.depth t=false:=by
  unfold zMT at h
  simp only [Bool.and_eq_true,Bool.not_eq_true'] at h
  exact h.1.1
 simp only [eqV,hg,cond_false,zRp h hl hm]
theorem zSz {P:Program} {t:TypeId} {l m:List Int} (k:Nat) (hl:l.length=k) (hm:m.length=k) (h:zMT P t k=true:=by kernel_rfl):zJH P .neq t (.agg (l.map I)) (.agg (m.map I))=some (.bool (!decide (l=m))):=by
 simp only [zJH,zWV h hl hm,Option.map_some]
theorem zSw {a b c d:Int}:decide ([a,b]=[c,d])=(decide (a=c)&&decide (b=d)):=by simp
theorem zVr {P:Program} {t:TypeId} {a b c d:Int} (h:zMT P t 2=true:=by kernel_rfl):zJH P .neq t (.agg [I a,I b]) (.agg [I c,I d])=some (.bool (!(decide (a=c)&&decide (b=d)))):=by
 rw [← zSw];exact zSz (l:=[a,b]) (m:=[c,d]) 2 rfl rfl h
def zJ0 (P:Program) (t:TypeId):Bool := !P.eqGuardType P.depth t && !P.stoodInHeld t&&match P.underlying t with
  | some (.struct fs)=>match fs.toList with
    | [f1, f2] => !decide (f1.name = "_") && !decide (f2.name = "_") && decide (shT P f1.type = some none) && decide (shT P f2.type = some none) && decide (f1.offset = 0) && decide (f2.offset = 1) &&
      (match P.underlying f1.type with | some (.int k)=>decide (k = .i64) | _=>false)&&(match P.underlying f2.type with | some .bool=>true | _=>false)
    | _=>false
  | _=>false
theorem zPW {P:Program} {t:TypeId} {a c:Int} {b d:Bool} (h:zJ0 P t=true):eqV P t (.agg [I a,.bool b]) (.agg [I c,.bool d])=some (decide (a=c)&&decide (b=d)):=by
 unfold zJ0 at h
 rw [Bool.and_eq_true,Bool.and_eq_true] at h
 obtain ⟨⟨h1,h2⟩,h3⟩:=h
 split at h3
 ·rename_i fs hu
  split at h3
  ·rename_i f1 f2 hl
   simp only [Bool.and_eq_true,decide_eq_true_eq,Bool.not_eq_true',decide_eq_false_iff_not] at h1 h2 h3
   obtain ⟨⟨⟨⟨⟨⟨⟨n1,n2⟩,s1⟩,s2⟩,o1⟩,o2⟩,u1⟩,u2⟩:=h3
   split at u1
   ·rename_i k1' jD
    split at u2
    ·rename_i kf
     simp only [decide_eq_true_eq] at u1
     subst u1
     simp only [eqV,h1,cond_false,eqT,hu,h2,hl,zUA,n1,n2,s1,s2,o1,o2,sub,jD,kf,if_true,if_false,List.getElem?_cons_zero,List.getElem?_cons_succ]
     by_cases e1:a=c
     ·subst e1
      cases b<;>cases d<;>simp
     ·simp [e1]
    ·cases u2
   ·cases u1
  ·cases h3
 ·cases h3
theorem zTC {P:Program} {t:TypeId} {a c:Int} {b d:Bool} (h:zJ0 P t=true:=by kernel_rfl):zJH P .neq t (.agg [I a,.bool b]) (.agg [I c,.bool d])=some (.bool (!(decide (a=c)&&decide (b=d)))):=by
 simp only [zJH,zPW h,Option.map_some]
theorem zMi {P:Program} {kt:TypeId} {α:Type} {g:α→PV×PV} {kx ky:α→Int} (hk:∀ x,(g x).1 = .agg [I (kx x),I (ky x)]) (uc:∀ a b c d:Int,eqT P 20 kt (.agg [I a,I b]) (.agg [I c,I d])=some (decide (a=c)&&decide (b=d))) (a b:Int):∀ (M:List α) (i:Nat),zC5 P kt (.agg [I a,I b]) (M.map g) i=some ((M.findIdx? fun x=>decide (a=kx x)&&decide (b=ky x)).map (· + i))
 | [],i=>rfl
 | x :: M,i=>by
  have h1:=uc a b (kx x) (ky x)
  rw [← hk x] at h1
  have h2:zFE (PV.agg [I a,I b]).cells (g x).1.cells=some (a==kx x&&(b==ky x&&true)):=by rw [hk x];rfl
  rw [List.map_cons,List.findIdx?_cons]
  have e:g x=((g x).1,(g x).2):=rfl
  rw [e]
  simp only [zC5,h1,h2]
  cases hc:(decide (a=kx x)&&decide (b=ky x)) with
  | true =>
   simp only [Bool.and_eq_true,decide_eq_true_eq] at hc
   simp [hc.1,hc.2]
  | false =>
   simp only
   rw [zMi hk uc a b M (i+1)]
   simp only [Bool.false_eq_true,if_false,Option.map_map]
   congr 2
   funext y
   simp only [Function.comp];omega
theorem zQV {P:Program} {t:TypeId} (h:zMT P t 2=true:=by kernel_rfl) (a b c d:Int):eqT P 20 t (.agg [I a,I b]) (.agg [I c,I d])=some (decide (a=c)&&decide (b=d)):=by
 rw [← zSw];exact zRp (l:=[a,b]) (m:=[c,d]) h rfl rfl
def zXK (F:List Int) (n:Nat):Nat→List PV
 | 0=>[]
 | m+1=>I (F.getD (n-(m+1)) 0)::zXK F n m
abbrev zAS (F:List Int) (m:Nat):List PV:=zXK F m m
theorem zQ5 {F:List Int} {n:Nat}:∀ (m:Nat),m≤n→zXK F n m=(List.range' (n-m) m).map fun k=>I (F.getD k 0)
 | 0,_=>rfl
 | m+1,h=>by
  rw [zXK,zQ5 m (by omega),List.range'_succ,List.map_cons,show n-(m+1)+1=n-m by omega]
theorem zNM {F:List Int} {m:Nat}:zAS F m=(List.range m).map fun k=>I (F.getD k 0):=by
 rw [List.range_eq_range',zAS,zQ5 m (Nat.le_refl m),Nat.sub_self]
theorem zFY {F:List Int} {m:Nat} (h:F.length=m):zAS F m=F.map I:=by
 rw [zNM]
 apply List.ext_getElem?
 intro k
 by_cases hk:k<m
 ·simp [hk,show k<F.length by omega]
 ·rw [List.getElem?_eq_none (by simp;omega),List.getElem?_eq_none (by simp;omega)]
section
variable {A B:List PV} {F:List Int} {m j:Nat} {r i c':Nat} {pre:zAP}
theorem zJ2:(zAS F m).length=m:=by rw [zNM];simp
theorem zQE (hj:j<m):(zAS F m)[j]? = some (I (F.getD j 0)):=by rw [zNM];simp [hj]
theorem zVx (hj:j<m):(A++zAS F m++B)[A.length+j]? = some (I (F.getD j 0)):=by
 rw [List.append_assoc,List.getElem?_append_right (by omega),Nat.add_sub_cancel_left,List.getElem?_append_left (by rw [zJ2];exact hj)]
 exact zQE hj
theorem zWD (hj:j<m):zCb (.ref (.agg (zAS F m))) j none=some (.ref (I (F.getD j 0))):=by
 have h1:(I (F.getD j 0)).oneCell=true:=rfl
 simp only [zCb,zPh,sub,zQE hj,Option.isSome,Bool.false_or,h1,cond_true]
theorem zGw {n:Nat} (hj:j<m) (hn:Nat.beq n 1=true:=by kernel_rfl):zCb (.ref (.agg (zAS F m))) (j*n) none=some (.ref (I (F.getD j 0))):=by
 rw [Nat.eq_of_beq_eq_true hn,Nat.mul_one];exact zWD hj
theorem zKn (hc:c'=A.length+j) (hj:j<m):zNi r pre i c' 1 (.agg (A++zAS F m++B))=some (true,[I (F.getD j 0)]):=by
 subst hc
 have hX:A.length+j<(A++zAS F m++B).length:=by rw [List.length_append,List.length_append,zJ2];omega
 have hb:Nat.ble (A.length+j+1) (PV.agg (A++zAS F m++B)).cells.length=true:=by rw [Nat.ble_eq];exact hX
 have h2:((A++zAS F m++B).drop (A.length+j)).take 1=[I (F.getD j 0)]:=by
  rw [List.drop_eq_getElem_cons hX]
  have:=zVx (A:=A) (B:=B) (F:=F) hj
  rw [List.getElem?_eq_getElem hX] at this
  simp only [Option.some.injEq] at this
  rw [this];simp
 simp only [zNi,hb,cond_true,PV.isAgg]
 show some (true,zBv r pre i (A.length+j) (((A++zAS F m++B).drop (A.length+j)).take 1))=_
 rw [h2];rfl
theorem zV7 {u:Int} (hj:j<m) (hF:F.length=m):(zAS F m).set j (I u)=zAS (F.set j u) m:=by
 rw [zFY hF,zFY (F:=F.set j u) (by simpa using hF),List.map_set]
theorem zPl {u:Int} (hc:c'=A.length+j) (hj:j<m) (hF:F.length=m):zAy (.agg (A++zAS F m++B)) c' [I u] = .agg (A++zAS (F.set j u) m++B):=by
 subst hc
 have hX:A.length+j<(A++zAS F m++B).length:=by rw [List.length_append,List.length_append,zJ2];omega
 have e:(A++zAS F m++B).take (A.length+j)++[I u]++(A++zAS F m++B).drop (A.length+j+1)=(A++zAS F m++B).set (A.length+j) (I u):=by
  rw [List.set_eq_take_append_cons_drop,if_pos hX];simp
 simp only [zAy,List.length_singleton,e]
 rw [List.append_assoc,List.set_append_right _ _ (by omega),Nat.add_sub_cancel_left,List.set_append_left _ _ (by rw [zJ2];exact hj),zV7 hj hF,List.append_assoc]
theorem zOD (hc:c'=A.length+j) (hj:j<m) {q:PV}:Nat.ble (c' + [q].length) (PV.agg (A++zAS F m++B)).cells.length=true:=by
 subst hc;rw [Nat.ble_eq];show _≤(A++zAS F m++B).length;rw [List.length_append,List.length_append,zJ2];simp;omega
theorem zWe (hj:j<m):sub (.agg (zAS F m)) j none=some (I (F.getD j 0)):=by
 simp only [sub,zQE hj]
theorem zE7 (hc:c'=j) (hj:j<m):zNi r pre i c' 1 (.agg (zAS F m))=some (true,[I (F.getD j 0)]):=by
 have:=zKn (A:=[]) (B:=[]) (F:=F) (r:=r) (pre:=pre) (i:=i) (c':=c') (by simpa using hc) hj
 simpa using this
theorem zNz {u:Int} (hc:c'=j) (hj:j<m) (hF:F.length=m):zAy (.agg (zAS F m)) c' [I u] = .agg (zAS (F.set j u) m):=by
 have:=zPl (A:=[]) (B:=[]) (F:=F) (u:=u) (c':=c') (by simpa using hc) hj hF
 simpa using this
theorem zNL (hc:c'=j) (hj:j<m) {q:PV}:Nat.ble (c' + [q].length) (PV.agg (zAS F m)).cells.length=true:=by
 have:=zOD (A:=[]) (B:=[]) (F:=F) (q:=q) (c':=c') (by simpa using hc) hj
 simpa using this
theorem zUa {n:Nat} (hj:j<m) (hn:Nat.beq n 1=true:=by kernel_rfl):sub (.agg (zAS F m)) (j*n) none=some (I (F.getD j 0)):=by
 rw [Nat.eq_of_beq_eq_true hn,Nat.mul_one];exact zWe hj
end
section
variable {l:List Int} {r i c c' k:Nat} {pre:zAP}
theorem zJe:∀ (l:List Int) (c:Nat),zBv r pre i c (l.map I)=l.map I
 | [],_=>rfl
 | x::l,c=>by simp only [List.map_cons,zBv,zJe l (c+1)];rfl
theorem zXA (hc:c'=c) (h:c+k≤l.length):zNi r pre i c' k (.agg (l.map I))=some (true,((l.drop c).take k).map I):=by
 subst hc
 have hb:Nat.ble (c'+k) (PV.agg (l.map I)).cells.length=true:=by rw [Nat.ble_eq];simpa [PV.cells] using h
 simp only [zNi,hb,cond_true,PV.isAgg]
 show some (true,zBv r pre i c' (((l.map I).drop c').take k))=_
 rw [← List.map_drop,← List.map_take,zJe]
theorem zWd {K:Nat} (hc:c'=c) (h:c+K≤l.length) (hk:Nat.beq k K=true):zNi r pre i c' k (.agg (l.map I))=some (true,((l.drop c).take K).map I):=by rw [Nat.eq_of_beq_eq_true hk];exact zXA hc h
theorem zUZ {K m:Nat} (hl:l.length=m) (hc:c'=c) (h:c+K≤m) (hk:Nat.beq k K=true):zNi r pre i c' k (.agg (zAS l m))=some (true,zAS ((l.drop c).take K) K):=by
 rw [zFY hl,zWd (K:=K) hc (by omega) hk,zFY (F:=(l.drop c).take K) (by rw [List.length_take,List.length_drop];omega)]
theorem zSn {P:Program} {t:TypeId} {l m:List Int} (k:Nat) (hl:l.length=k) (hm:m.length=k) (h:zMT P t k=true:=by kernel_rfl):zJH P .neq t (.agg (zAS l k)) (.agg (zAS m k))=some (.bool (!decide (l=m))):=by
 rw [zFY hl,zFY hm];exact zSz k hl hm h
end
end Go.Eng
namespace Go.Eng
open Go
theorem zDF {a b m k M:Nat} (h:Nat.beq m M=true) (h2:Nat.beq k 1=true):a*m+b*k=a*M+b:=by rw [Nat.eq_of_beq_eq_true h,Nat.eq_of_beq_eq_true h2,Nat.mul_one]
theorem zDI {a m M:Nat} (h:Nat.beq m M=true):a*m=a*M:=by rw [Nat.eq_of_beq_eq_true h]
theorem zDU {a b m k M:Nat} (h:Nat.beq m M=true) (h2:Nat.beq k 1=true):0+a*m+b*k=a*M+b:=by rw [Nat.zero_add];exact zDF h h2
theorem zDG {a m M:Nat} (h:Nat.beq m M=true):0+a*m=a*M:=by rw [Nat.zero_add];exact zDI h
theorem zCv {α:Type} {g:α→PV} {l:List α} {u:α} {y:PV} (h:g u=y):l.map g++[y]=(l++[u]).map g:=by rw [← h,List.map_append];rfl
def zUN (P:Program) (e:Env) (o:Oper):Option (Nat×PV×PV) :=
 match o.op,o.dst with
 | .call c,none=>match c.callee,c.args.toList,c.argTypes.toList with
  | .builtin .clear,[x],t::_=>match (zBL P t).bind (zCz P),(zBL P t).bind (szT P) with
   | some q,some s=>some (s,q,zXN e x)
   | _,_=>none
  | _,_,_=>none
 | _,_=>none
section
variable [Yo] {P:Program} {H:zBf} {f:FuncId} {i:Nat} {c:Code} {R:Env→Option Log→Prop}
theorem zSe {α:Type} {g:α→PV} {pre:zAP} (put':PV→PV) (r s lo n:Nat) (l:List α) (u:α) {st:RS} (ko:lo+n≤l.length) (hu:(g u).plain=true∧(g u).cells.length=s) (hy:∀ x,zWw s (g x) (g u)) (L:zNR pre put')
  (h:WS P H f c (i+1) ⟨none,st.e.set r (put' (.own s ((l.take lo++List.replicate n u++l.drop (lo+n)).map g))),none⟩ R) (he:st.e.get r=put' (.own s (l.map g)):=by kernel_rfl) (ho:zUN P st.e (zDT c i)=some (s,g u,.bor r pre s lo n):=by kernel_rfl) (hs:Nat.blt 0 s=true:=by kernel_rfl)
  (ji:st.dr=none:=by kernel_rfl) (vQ:st.lg=none:=by kernel_rfl) (hg:zLu c i st.e=true:=by kernel_rfl) (hi:Nat.blt i (zFn c).size=true:=by kernel_rfl):WS P H f c i st R:=by
 obtain ⟨dr,e,lg⟩:=st
 simp only at ji h he ho hg vQ
 subst ji;subst vQ
 obtain ⟨e',g1,g2,g3⟩:=zGG L he (j:=lo) (ys:=List.replicate n (g u)) (by simpa using ko) fun a x y hx uM=>by
  rw [List.getElem?_map] at hx
  obtain ⟨x',_,rfl⟩:=Option.map_eq_some_iff.1 hx
  obtain ⟨hn,hy2⟩:=List.getElem?_eq_some_iff.1 uM
  rw [List.getElem_replicate] at hy2
  subst hy2
  obtain ⟨_,_,h3,h4,h5,h6⟩:=hy x'
  exact ⟨h3,h4,h5,h6⟩
 have yU:∀ t,e'.get t=(e.set r (put' (.own s ((l.take lo++List.replicate n u++l.drop (lo+n)).map g)))).get t:=fun t=>by
  rw [Env.get_set]
  split
  ·rename_i h;subst h;rw [g1];simp
  ·rename_i h;exact g2 t h
 refine zWC (s:=⟨none,e,none⟩) (e':=e') ⟨0,fun m _=>?_⟩ (zUm h fun t=>yU t) rfl rfl hg hi
 show (opM P H _ _ _ (zDT c i)).run _ e=_
 generalize zDT c i=o at ho
 cases hop:o.op<;>simp only [zUN,hop] at ho<;>try (cases ho;done)
 rename_i cc
 cases kC:o.dst<;>rw [kC] at ho<;>simp only at ho<;>try (cases ho;done)
 split at ho
 ·rename_i x t ts hc ha hT
  split at ho
  ·rename_i q s' hq yy
   simp only [Option.some.injEq,Prod.mk.injEq] at ho
   obtain ⟨rfl,rfl,hx⟩:=ho
   simp only [opM,hop,zI0,hc,ha,hT,zBj,kC]
   rw [zNA hx (by simp)]
   simp only [zQU,hs,Nat.beq_refl,hu.1,hu.2,Bool.and_self,cond_true,hq,yy]
   rw [g3];rfl
  ·cases ho
 ·cases ho
end
end Go.Eng
namespace Go.Eng
open Go
section
variable [Yo] {P:Program} {H:zBf} {f:FuncId} {nt:Nat} {c:Code} {e:Env} {lg:Option Log} {K:X→Env→Option Log→Prop}
end
end Go.Eng
namespace Go.Eng
open Go
theorem zOs [Yo] {P:Program} {H:zBf} {f:FuncId} {nt:Nat} {e:Env} {lg:Option Log} {K:X→Env→Option Log→Prop} {σ:Type} {c:Code} {t g:Nat} {first caps:List PV} {xs:List (List PV)} (hY:zF9 g first caps xs) (Inv:Nat→σ→Prop) (upd:σ→List (Nat×PV)) (s:σ) (hi:Inv 0 s)
  (h:∀ j x s,xs[j]? = some x→Inv j s→zLq P H f nt (zXj c) (rgA c) (rgB c) x (zNj (upd s) e) fun y e3=>match y with
   | .norm=>∃ s',Inv (j+1) s'∧after nt [] (zWo c) (zNj (upd s) e) e3=zNj (upd s') e
   | y=>K y (after nt [] (zWo c) (zNj (upd s) e) e3) none) (hK:∀ s,Inv xs.length s→K .norm (zNj (upd s) e) none) (hs:e=zNj (upd s) e:=by kernel_rfl) (yN:zDN e t=some (g,first,caps,[]):=by kernel_rfl) (hc:rgT c=some t:=by kernel_rfl) (hl:lg=none:=by kernel_rfl):W P H f nt c e lg K :=
 zV8 (t:=t) hY Inv (fun s=>zNj (upd s) e) s hi h hK hs yN hc hl
end Go.Eng
namespace Go.Eng
open Go
theorem zNR.field (A B:List PV):zNR [(0,A.length)] (fun q => .box (.agg (A++q::B))):=fun f z xs=>by
 have h1:(A++PV.own z xs::B)[A.length]? = some (.own z xs):=by simp
 simp only [zAs,zAW,List.getElem?_cons_zero,PV.cells,h1]
 cases f (.own z xs) with
 | none=>rfl
 | some q=>simp [zAz,zAy]
end Go.Eng
namespace Go.Eng
open Go
theorem zFI (l:List Int):zAB (l.map I)=l.map I:=zBN l
theorem zH9 (k:IntKind) (l:List Int):zAB (l.map (PV.int k))=l.map (PV.int k):=zBN l
theorem zFg (l:List Bool):zAB (l.map PV.bool)=l.map PV.bool:=zBN l
theorem zCi {α:Type} {g g':α→PV} (l:List α) (h:∀ x,zAQ (g x)=g' x:=by intro x;simp only [zAQ,zAB,zFI,zFg,zH9]):zAB (l.map g)=l.map g':=by
 induction l with
 | nil=>rfl
 | cons x l ih=>simp only [List.map_cons,zAB,h,ih]
theorem zCR {xs ys:List PV} (h:zAB xs=ys):zAB ((xs.drop 0).take xs.length)=ys:=by rw [List.drop_zero,List.take_length];exact h
theorem zVX {r z:Nat} {xs ys:List PV} (h:zAB xs=ys):PV.mapW (inl r [] (.own z xs)) (.bor r [] z 0 xs.length) = .sl ys:=by
 have e:zAF r [] r []=true:=by simp [zAF]
 have e2:Nat.ble (0+xs.length) xs.length=true:=by simp
 simp only [PV.mapW,inl,e,cond_true]
 show zGp (zAw (.own z xs) []) (zCq 0 xs.length)=_
 simp only [zAw,zGp,zCq,e2,cond_true]
 rw [zCR h]
def zR3 (P:Program) (t:TypeId) (k1 k2:IntKind):Bool := !P.eqGuardType P.depth t && !P.stoodInHeld t&&match P.underlying t with
  | some (.struct fs)=>match fs.toList with
    | [f1, f2] => !decide (f1.name = "_") && !decide (f2.name = "_") && decide (shT P f1.type = some none) && decide (shT P f2.type = some none) && decide (f1.offset = 0) && decide (f2.offset = 1) &&
      (match P.underlying f1.type with | some (.int k)=>decide (k=k1) | _=>false)&&(match P.underlying f2.type with | some (.int k)=>decide (k=k2) | _=>false)
    | _=>false
  | _=>false
theorem zVn {P:Program} {t:TypeId} {k1 k2:IntKind} {a b c d:Int} (h:zR3 P t k1 k2=true):eqV P t (.agg [.int k1 a,.int k2 b]) (.agg [.int k1 c,.int k2 d])=some (decide (a=c)&&decide (b=d)):=by
 unfold zR3 at h
 rw [Bool.and_eq_true,Bool.and_eq_true] at h
 obtain ⟨⟨h1,h2⟩,h3⟩:=h
 split at h3
 ·rename_i fs hu
  split at h3
  ·rename_i f1 f2 hl
   simp only [Bool.and_eq_true,decide_eq_true_eq,Bool.not_eq_true',decide_eq_false_iff_not] at h1 h2 h3
   obtain ⟨⟨⟨⟨⟨⟨⟨n1,n2⟩,s1⟩,s2⟩,o1⟩,o2⟩,u1⟩,u2⟩:=h3
   split at u1
   ·rename_i k1' jD
    split at u2
    ·rename_i k2' kf
     simp only [decide_eq_true_eq] at u1 u2
     subst u1;subst u2
     simp only [eqV,h1,cond_false,eqT,hu,h2,hl,zUA,n1,n2,s1,s2,o1,o2,sub,jD,kf,if_true,if_false,List.getElem?_cons_zero,List.getElem?_cons_succ]
     by_cases e1:a=c
     ·subst e1
      by_cases e2:b=d
      ·subst e2;simp
      ·simp [e2]
     ·simp [e1]
    ·cases u2
   ·cases u1
  ·cases h3
 ·cases h3
theorem zOi {P:Program} {t:TypeId} {k1 k2:IntKind} {a b c d:Int} (h:zR3 P t k1 k2=true:=by kernel_rfl):zJH P .neq t (.agg [.int k1 a,.int k2 b]) (.agg [.int k1 c,.int k2 d])=some (.bool (!(decide (a=c)&&decide (b=d)))):=by
 simp only [zJH,zVn h,Option.map_some]
section
variable {α:Type} {g:α→PV} {l:List α} {i z:Nat} {b:PV}
end
def zIm (P:Program) (t:TypeId):Bool:=match P.underlying t with | some (.slice _)=>true | _=>false
theorem zVb {P:Program} {t:TypeId} {p:PV} {z:Nat} (he:zEY p=true) (hp:(match p with | .nils _=>false | .agg _=>false | _=>true)=true:=by rfl) (h:zIm P t=true:=by kernel_rfl):eqV P t p (.nils z)=some false:=by
 unfold zIm at h
 split at h
 ·rename_i e hu
  unfold eqV
  rw [hu]
  cases p<;>first | (cases hp;done) | simp only [he,cond_true]
 ·cases h
theorem zTy {P:Program} {t:TypeId} {p:PV} {z:Nat} (he:zEY p=true) (hp:(match p with | .nils _=>false | .agg _=>false | _=>true)=true:=by rfl) (h:zIm P t=true:=by kernel_rfl):(eqV P t p (.nils z)).map PV.bool=some (.bool false):=by rw [zVb he hp h];rfl
theorem zAK {xs:List PV}:List.take xs.length (List.drop 0 xs)=xs:=by rw [List.drop_zero,List.take_length]
section
variable [Yo] {P:Program} {H:zBf} {f:FuncId} {e:Env} {lg:Option Log}
end
theorem zTs {α:Type} {g:α→PV} {l:List α} (h:0<l.length):zEY (.sl (l.map g))=true:=by
 cases l with
 | nil=>exact absurd h (Nat.lt_irrefl _)
 | cons x l=>rfl
theorem zNZ {P:Program} {t:TypeId} {z:Nat} {α:Type} {g:α→PV} {l:List α} (hp:0<l.length) (h:zIm P t=true:=by kernel_rfl):zJH P .eql t (.sl (l.map g)) (.nils z)=some (.bool false):=by
 have:=zTy (P:=P) (t:=t) (z:=z) (zTs (g:=g) hp) rfl h
 simpa [zJH] using this
class FrzOf {α:Type} (g:α→PV) (g':outParam (α→PV)):Prop where
 frz:∀ x,zAQ (g x)=g' x
theorem zCZ {α:Type} {g g':α→PV} [h:FrzOf g g'] (l:List α):zAB (l.map g)=l.map g':=zCi l h.frz
section
variable {α:Type} {g:α→PV} {l:List α} {i z:Nat} {b:PV} {u0:α}
end
end Go.Eng
namespace Go.Eng
open Go
theorem blz (l:List PV):(0+l.length).ble l.length=true:=by rw [Nat.zero_add];exact Nat.ble_self_eq_true _
theorem frT {α:Type} (g:α→PV) (l:List α) (h:∀ x,zAQ (g x)=g x:=by intro x;simp only [zAQ,zAB,zFI,zFg,zH9]):PV.sl (zAB (List.take (List.map g l).length (List.drop 0 (List.map g l))))=PV.sl (List.map g l):=zRh (zCR (zCi l h))
theorem frC {α:Type} (g g':α→PV) [FrzOf g g'] (l:List α):PV.sl (zAB (List.take (List.map g l).length (List.drop 0 (List.map g l))))=PV.sl (List.map g' l):=zRh (zCR (zCZ l))
theorem lnS {α:Type} (g:α→PV) (l:List α):some (List.map g l).length=some l.length:=by rw [List.length_map]
theorem wrN (i:Nat) (h:(i:Int)+1<9223372036854775808:=by omega):PV.int IntKind.i64 (IntKind.i64.wrap ((i:Int)+1))=PV.int IntKind.i64 ((i+1:Nat):Int):=zDm (by omega) (by omega)
abbrev z8 (i:Nat):PV:=PV.int IntKind.i64 ((List.replicate 8 (0:Int)).getD i 0)
end Go.Eng
