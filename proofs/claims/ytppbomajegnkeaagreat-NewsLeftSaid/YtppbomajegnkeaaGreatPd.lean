/- For whatever news, cries and evenings, the law NewsLeft returns true and changes no argument: gaps, misled yz, when all is zEd and when all is clear are as the reference tells them. -/
import Derived.Test.YtppbomajegnkeaaGreatPc
import Derived.Test.YtppbomajegnkeaaGreatPa
import Derived.KernelRfl
import Derived.IntWalk
set_option linter.unusedVariables false
set_option linter.unusedSimpArgs false
set_option linter.unusedSectionVars false
namespace Go.Eng
open Go
section
variable {P:Program} {H:zBf} {w0 w:World} {U Φ0 Φ:Nat→Prop} {nt:Nat} {hv:Hid} {a:Act} {e e':Env} {rv:Nat→Value} {E:Nat→PV} {L:Nat→List Nat} {o:zAA}
theorem zVJ (S:St w0 U Φ0 nt hv a w e Φ rv E L) {g:Nat} (hg:zAe≤g) {k:PV→PM} {k2:PM} (h:(zQ9 (E g) k k2).run o e=some e') :
  k2.run o e=some e'∨∃ e1 rv1 E1,(k (E1 g)).run o e1=some e'∧Worked w0 U Φ0 nt hv a w rv E g e1 rv1 E1:=by
 have hO:=S.conf.rep g
 have fin:∀ {r:Nat} {pre:zAP} {q root p':PV} (hr:r<zAe) (yF:(E r).unlock=E r) (hq:zAx (E r) pre=some q) (h1:q.oneCell=true) (hm:zAs (fun _=>some .bad) (E r) pre=some root),
   (E g).oneCell=true→p'.oneCell=true→(∀ nv Li,zAM w (rv r) (E r) pre=some (nv,q)→Rep w Φ (zA0 w rv E) q nv Li→Li.Nodup→∃ Lg,Rep w Φ (zA0 w rv E) p' (rv g) Lg∧Lg.Nodup∧∀ b∈Lg,b∈Li) →
   (k p').run o (e.set r root)=some e'→∃ e1 rv1 E1,(k (E1 g)).run o e1=some e'∧Worked w0 U Φ0 nt hv a w rv E g e1 rv1 E1:=by
  intro r pre q root p' hr yF hq h1 hm uX jg y7 hk
  obtain ⟨kk1,kk2⟩:=zBI (q' := .bad) rfl rfl hm
  obtain ⟨nv,Li,g1,g2,g3,g4,g5⟩:=S.taken hg hr yF hq h1 hm kk1 kk2
  obtain ⟨Lg,p1,p2,p3⟩:=y7 nv Li g1 g2 g3
  obtain ⟨L',S1,v9⟩:=g5 p' (rv g) Lg p1 p2 (fun b hb => .inl (p3 b hb))
  have jI:∀ s,upd rv g (rv g) s=rv s:=fun s=>by
   by_cases hs:s=g
   ·subst hs;rw [zAj]
   ·rw [zAg hs]
  refine ⟨_,_,_,by rw [zAj];exact hk,⟨⟨_,_,S1⟩,jI g,fun s _=>jI s,fun s hs hI=>⟨by rw [zAg hI,zAg (by omega)],jI s⟩,?_,?_⟩⟩
  ·rw [zAj,(zBd jg).2,(zBd uX).2]
  ·rw [zAj,(zBd jg).1,(zBd uX).1];rfl
 generalize hE:E g=p at h
 rw [hE] at hO
 simp only [zQ9] at h
 split at h
 ·rename_i r pre z lo n
  obtain ⟨q,hq,h1⟩:=zBE h
  obtain ⟨_,hr,⟨b,cap,yG,_⟩,hn⟩:=hO
  split at h1
  ·rename_i sz xs
   cases hc:Nat.ble (lo+n) xs.length with
   | false=>rw [hc] at h1;exact .inl h1
   | true =>
    rw [hc] at h1;simp only [cond_true] at h1
    obtain ⟨root,hl,hm,h2⟩:=zBQ h1
    have yF:=zBu hl
    rw [yF,← S.env r hr] at hq
    rw [← S.env r hr] at yF hm
    refine .inr (fin hr yF hq rfl hm (by rw [hE];rfl) rfl (fun nv Li hf uZ yX=>?_) h2)
    obtain ⟨s2,xs2,q1,q2,q3⟩:=hn nv _ (by rw [yF];exact hf) rfl
    cases q1;subst q2
    obtain ⟨Lg,p1,p2,p3⟩:=zIE uZ (Nat.le_of_ble_eq_true hc) q3
    exact ⟨Lg,p1,p3 yX,p2⟩
  ·exact .inl h1
 ·rename_i r pre sh
  obtain ⟨q,hq,h1⟩:=zBE h
  obtain ⟨_,hr,b,yG,y4,hn⟩:=hO
  split at h1
  ·rename_i q
   obtain ⟨root,hl,hm,h2⟩:=zBQ h1
   have yF:=zBu hl
   rw [yF,← S.env r hr] at hq
   rw [← S.env r hr] at yF hm
   refine .inr (fin hr yF hq rfl hm (by rw [hE];rfl) rfl (fun nv Li hf uZ yX=>?_) h2)
   refine ⟨Li,?_,yX,fun b hb=>hb⟩
   have hrp':=uZ
   obtain ⟨x,c,u,L',h3,h4,h5,_⟩:=hrp'
   have h6:nv=rv g:=by
    rw [yG,h4]
    have:=hn nv _ (by rw [yF];exact hf) x (by rw [h4];cases x;simp_all [zA1,zAq])
    rw [this]
   rw [← h6];exact uZ
  ·exact .inl h1
 ·rename_i r pre
  obtain ⟨q,hq,h1⟩:=zBE h
  obtain ⟨_,hr,⟨b,yG⟩,hn⟩:=hO
  split at h1
  ·rename_i es
   obtain ⟨root,hl,hm,h2⟩:=zBQ h1
   have yF:=zBu hl
   rw [yF,← S.env r hr] at hq
   rw [← S.env r hr] at yF hm
   refine .inr (fin hr yF hq rfl hm (by rw [hE];rfl) rfl (fun nv Li hf uZ yX=>⟨Li,?_,yX,fun b hb=>hb⟩) h2)
   rw [hn nv _ (by rw [yF];exact hf) _ rfl];exact uZ
  ·exact .inl h1
 ·exact .inl h
theorem zL6 (S:St w0 U Φ0 nt hv a w e Φ rv E L) {g:Nat} (hg:zAe≤g) {frz:Bool} {k:PV→PM} (h:(zFU frz (E g) k).run o e=some e'):∃ e1 rv1 E1,(k (E1 g)).run o e1=some e'∧Worked w0 U Φ0 nt hv a w rv E g e1 rv1 E1:=by
 have iced:(zLT zAm zDp (E g) k).run o e=some e'→∃ e1 rv1 E1,(k (E1 g)).run o e1=some e'∧Worked w0 U Φ0 nt hv a w rv E g e1 rv1 E1:=by
  intro h
  obtain ⟨e1,Φ1,E1,L1,h1,S1,h2,h3,h4,h5,h6,h7⟩:=zIU (hb:=zAm) hg (by decide) zDp S h
  exact ⟨e1,rv,E1,h1,⟨⟨_,_,S1⟩,rfl,fun _ _=>rfl,fun s hs hI=>⟨h3 s hs hI,rfl⟩,h6,h7⟩⟩
 simp only [zFU] at h
 cases hc:(frz||(E g).ways.any fun w=>Nat.ble zAm w.1) with
 | true=>rw [hc] at h;exact iced h
 | false =>
  rw [hc] at h;simp only [cond_false] at h
  rcases zVJ S hg h with h | h
  ·exact iced h
  ·exact h
theorem zKS {frz:Bool}:∀ (ps:List PV) (i:Nat) {k:List PV→PM} {e:Env} {Φ:Nat→Prop} {rv:Nat→Value} {E:Nat→PV} {L:Nat→List Nat},St w0 U Φ0 nt hv a w e Φ rv E L→(∀ (j:Nat) (p:PV),ps[j]? = some p→E (zAe+i+j)=p)→(zCl frz ps k).run o e=some e' →
  ∃ e1 Φ1 rv1 E1 L1 qs,(k qs).run o e1=some e'∧St w0 U Φ0 nt hv a w e1 Φ1 rv1 E1 L1∧qs.length=ps.length∧(∀ (j:Nat) (q:PV),qs[j]? = some q→E1 (zAe+i+j)=q∧rv1 (zAe+i+j)=rv (zAe+i+j)) ∧
   (∀ s,s<zAe→rv1 s=rv s)∧∀ s,zAe≤s→(s<zAe+i∨zAe+i+ps.length≤s)→E1 s=E s∧rv1 s=rv s
 | [],i,k,e,Φ,rv,E,L,S,hp,h=>⟨e,Φ,rv,E,L,[],h,S,rfl,by simp,fun _ _=>rfl,fun _ _ _=>⟨rfl,rfl⟩⟩
 | p :: ps,i,k,e,Φ,rv,E,L,S,hp,h=>by
  simp only [zCl] at h
  have hE:=hp 0 p rfl
  simp only [Nat.add_zero] at hE
  rw [← hE] at h
  obtain ⟨e1,rv1,E1,h1,W⟩:=zL6 S (g:=zAe+i) (by omega) h
  obtain ⟨Φ1,L1,S1⟩:=W.st
  obtain ⟨e2,Φ2,rv2,E2,L2,qs,h2,S2,h3,h4,h5,h6⟩:=zKS ps (i+1) S1 (fun j q hq=>by
   rw [(W.rest _ (by omega) (by omega)).1,show zAe+(i+1)+j=zAe+i+(j+1) by omega];exact hp (j+1) q (by simpa using hq)) h1
  refine ⟨e2,Φ2,rv2,E2,L2,E1 (zAe+i)::qs,h2,S2,by simp [h3],fun j q hq=>?_,fun s hs=>(h5 s hs).trans (W.low s hs),fun s hs jq=>?_⟩
  ·cases j with
   | zero =>
    simp at hq;subst hq
    obtain ⟨k1,k2⟩:=h6 (zAe+i) (by omega) (.inl (by omega))
    simp only [Nat.add_zero]
    exact ⟨k1,k2.trans W.val⟩
   | succ j =>
    obtain ⟨k1,k2⟩:=h4 j q (by simpa using hq)
    rw [show zAe+(i+1)+j=zAe+i+(j+1) by omega] at k1 k2
    exact ⟨k1,k2.trans (W.rest _ (by omega) (by omega)).2⟩
  ·obtain ⟨k1,k2⟩:=h6 s hs (by simp at jq;omega)
   obtain ⟨k3,k4⟩:=W.rest s hs (by simp at jq;omega)
   exact ⟨k1.trans k3,k2.trans k4⟩
theorem zKt (C:Conf w0 U Φ0 w Φ rv E L):∀ (qs:List PV) (vs:List Value) (i:Nat),vs.length=qs.length→(∀ (j:Nat) (q:PV) (v:Value),qs[j]? = some q→vs[j]? = some v→E (i+j)=q∧rv (i+j)=v) →
  ∃ Lp,zAX w Φ (zA0 w rv E) qs vs Lp∧Lp.Nodup∧∀ b∈Lp,∃ t,i≤t∧t<i+qs.length∧b∈L t
 | [],vs,i,hl,h=>by
  have:vs=[]:=List.eq_nil_of_length_eq_zero (by simpa using hl)
  subst this;exact ⟨[],⟨rfl,rfl⟩,List.nodup_nil,by simp⟩
 | q :: qs,vs,i,hl,h=>by
  match vs,hl,h with
  | v :: vs,hl,h =>
   obtain ⟨h1,h2⟩:=h 0 q v rfl rfl
   simp only [Nat.add_zero] at h1 h2
   obtain ⟨Lp,k1,k2,k3⟩:=zKt C qs vs (i+1) (by simpa using hl) fun j q' v' hq hv=>by
    rw [show i+1+j=i+(j+1) by omega];exact h (j+1) q' v' (by simpa using hq) (by simpa using hv)
   have hr:=C.rep i
   rw [h1,h2] at hr
   refine ⟨L i++Lp,⟨v,vs,_,_,rfl,rfl,hr,k1⟩,?_,fun b hb=>?_⟩
   ·rw [List.nodup_append]
    refine ⟨C.nodup i,k2,fun x hx y hy e=>?_⟩
    obtain ⟨t,k4,k5,k6⟩:=k3 y hy
    exact C.disj i t (by omega) x hx (e▸k6)
   ·rcases List.mem_append.1 hb with hb | hb
    ·exact ⟨i,Nat.le_refl _,by simp,hb⟩
    ·obtain ⟨t,k4,k5,k6⟩:=k3 b hb
     exact ⟨t,by omega,by simp;omega,k6⟩
theorem zNb (S:St w0 U Φ0 nt hv a w e Φ rv E L) {j g:Nat} (hj:j<1000) (hg:zAe≤g) (hb:∀ s,zAe≤s→s≠g→E s = .bad) {k:PM} (h:(lay (zAw+j) (E g) k).run o e=some e') :
  ∃ e1 E1 L1,k.run o e1=some e'∧St w0 U Φ0 nt hv a w e1 Φ (upd rv (zAw+j) (rv g)) E1 L1∧zBh E1:=by
 have hh:zAm=50000000:=rfl
 have ho:zAw=60000000:=rfl
 have wT:zAe=1000000000:=rfl
 have jh:=S.small
 obtain ⟨e1,E1,L1,h1,C,h2,h3,h4,h5,h6⟩:=zQX S (d:=zAw+j) (by omega) hg h
 have ud:∀ d ps,d≠zAw+j→d<zAe→E1 d = .tup ps→∃ ps',E d = .tup ps'∧ps'.length=ps.length:=by
  intro d ps hd uh hp
  rcases h3 d hd uh with h7 | h7
  ·exact ⟨ps,by rw [← h7,hp],rfl⟩
  ·rw [h7] at hp;exact zDW (zIk _ _) hp
 refine ⟨e1,E1,L1,h1,⟨C,h2,S.size,S.small,fun t ht=>?_,fun d ps i hd hp hi=>?_,fun s h7 h8=>?_,S.dfr⟩,fun s hs=>?_⟩
 ·rw [zAg (by omega)];exact S.tmps t ht
 ·obtain ⟨ps',h7,h8⟩:=ud d ps (by omega) (by omega) hp
  obtain ⟨h9,vs,jP,vF⟩:=S.parts d ps' i hd h7 (by omega)
  refine ⟨h9,vs,by rw [zAg (by omega)];exact jP,?_⟩
  rw [zAg (by simp only [zBm];omega)];exact vF
 ·rw [zAg (by omega)];exact S.hid s h7 h8
 ·by_cases ya:s=g
  ·subst ya;exact h5
  ·rcases h6 s hs ya with h7 | h7
   ·rw [h7];exact hb s hs ya
   ·rw [h7,hb s hs ya];rfl
theorem zWw (S:St w0 U Φ0 nt hv a w e Φ rv E L) (hb:zBh E) {frz:Bool} {j:Nat} (hj:j<1000) {p:PV} {v:Value} (hp:Rep w Φ (zA0 w rv E) p v []) {k:PM} (h:(zGv frz p fun q=>lay (zAw+j) q k).run o e=some e') :
  ∃ e1 Φ1 rv1 E1 L1,k.run o e1=some e'∧St w0 U Φ0 nt hv a w e1 Φ1 rv1 E1 L1∧zBh E1∧rv1 (zAw+j)=v∧∀ s,s<zAe→s≠zAw+j→rv1 s=rv s:=by
 have ho:zAw=60000000:=rfl
 have wT:zAe=1000000000:=rfl
 have single:(zFU frz p fun q=>lay (zAw+j) q k).run o e=some e'→∃ e1 Φ1 rv1 E1 L1,k.run o e1=some e'∧St w0 U Φ0 nt hv a w e1 Φ1 rv1 E1 L1∧zBh E1∧rv1 (zAw+j)=v∧∀ s,s<zAe→s≠zAw+j→rv1 s=rv s:=by
  intro h
  have S1:=S.hold (g:=zAe) (Nat.le_refl _) hp
  obtain ⟨e1,rv1,E1,h1,W⟩:=zL6 S1 (g:=zAe) (Nat.le_refl _) (by rw [zAj];exact h)
  obtain ⟨Φ1,L1,S2⟩:=W.st
  obtain ⟨e2,E2,L2,h2,S3,qa⟩:=zNb S2 hj (Nat.le_refl zAe) (fun s hs hI=>by rw [(W.rest s hs hI).1,zAg hI];exact hb s hs) h1
  refine ⟨e2,Φ1,_,E2,L2,h2,S3,qa,?_,fun s hs hI=>?_⟩
  ·rw [zAj,W.val,zAj]
  ·rw [zAg hI,W.low s hs,zAg (by omega)]
 simp only [zGv] at h
 split at h
 ·rename_i cs
  obtain ⟨vs,rfl,hr⟩:=hp
  obtain ⟨rv1,E1,L1,S1,k1,k2,k3⟩:=zLE cs vs.toList 1 S hr
  have yN:=hr.length
  have yU:∀ (j:Nat) (p:PV),cs[j]? = some p→∃ v,vs.toList[j]? = some v:=fun j p hj=>⟨_,List.getElem?_eq_getElem (by have:=(List.getElem?_eq_some_iff.1 hj).1;omega)⟩
  obtain ⟨e2,Φ2,rv2,E2,L2,qs,h2,S2,h3,h4,h5,h6⟩:=zKS cs 1 S1 (fun j p hjp=>by
   obtain ⟨v,yG⟩:=yU j p hjp
   exact (k2 j p v hjp yG).1) h
  have vH:∀ s,zAe≤s→(s<zAe+1∨zAe+1+cs.length≤s)→E2 s = .bad:=fun s hs jq=>by
   rw [(h6 s hs jq).1,(k3 s hs jq).1];exact hb s hs
  have gX:∀ (j:Nat) (q:PV) (v:Value),qs[j]? = some q→vs.toList[j]? = some v→E2 (zAe+1+j)=q∧rv2 (zAe+1+j)=v:=fun j q v hq yG=>by
   obtain ⟨m1,m2⟩:=h4 j q hq
   have jb:j<cs.length:=by have:=(List.getElem?_eq_some_iff.1 hq).1;omega
   have:=k2 j _ v (List.getElem?_eq_getElem jb) yG
   exact ⟨m1,m2.trans this.2.1⟩
  obtain ⟨Lp,r1,r2,r3⟩:=zKt S2.conf qs vs.toList (zAe+1) (by omega) gX
  have hG:∀ s,decide (zAe+1≤s∧s<zAe+1+cs.length)=true↔zAe+1≤s∧s<zAe+1+cs.length:=fun s=>decide_eq_true_iff
  have hc:=S2.conf.make (w':=w) (fun s=>decide (zAe+1≤s∧s<zAe+1+cs.length)) (fun s hs=>by have:=(hG s).1 hs;omega) (g:=zAe) (Nat.le_refl _) (p := .agg qs) (v := .agg vs) (Lp:=Lp)
   (fun A hA=>⟨vs,rfl,r1.mono zDb.refl hA (fun _ _=>rfl)⟩) r2 (fun b hb=>by
    obtain ⟨t,q1,q2,q3⟩:=r3 b hb
    exact .inl ⟨t,q3,(hG t).2 ⟨q1,by omega⟩⟩) (Nat.le_refl _) (fun _ _ _=>rfl) ⟨rfl,rfl,rfl⟩
  have yt:∀ s,s<zAe→decide (zAe+1≤s∧s<zAe+1+cs.length)=false:=fun s hs=>decide_eq_false (by omega)
  have S3:=S2.turn (e':=e2) hc (fun s hs=>by
   rw [zAg (by omega)]
   simp only [yt s hs,Bool.false_eq_true,if_false];exact S2.env s hs) (fun s hs=>zAg (by omega)) (fun d ps hd hp=>by
   rw [zAg (by omega)] at hp
   simp only [yt d (by omega),Bool.false_eq_true,if_false] at hp;exact ⟨ps,hp,rfl⟩)
  obtain ⟨e4,E4,L4,m1,S4,m2⟩:=zNb S3 hj (Nat.le_refl zAe) (fun s hs hI=>by
   rw [zAg hI]
   by_cases h7:s<zAe+1+cs.length
   ·simp only [(hG s).2 ⟨by omega,h7⟩,if_true]
   ·have:decide (zAe+1≤s∧s<zAe+1+cs.length)=false:=decide_eq_false (by omega)
    simp only [this,Bool.false_eq_true,if_false];exact vH s hs (by omega)) (by rw [zAj];exact h2)
  refine ⟨e4,Φ2,_,E4,L4,m1,S4,m2,?_,fun s hs hI=>?_⟩
  ·rw [zAj,zAj]
  ·rw [zAg hI,zAg (by omega),h5 s hs,(k1 s hs).2]
 ·exact single h
def zXt (nt:Nat):ResultVar→Bool
 | .tmp t=>Nat.blt t nt
 | .cell t _=>Nat.blt t nt
def zGU (a:Act):ResultVar→Sem Value
 | .tmp t=>pure (a.tmps.getD t undef)
 | .cell t ty=>do loadVar ty (← asAddr (a.tmps.getD t undef))
theorem zNi {frz:Bool}:∀ (rs:List ResultVar) (j:Nat) {e:Env} {Φ:Nat→Prop} {rv:Nat→Value} {E:Nat→PV} {L:Nat→List Nat},St w0 U Φ0 nt hv a w e Φ rv E L→zBh E→j+rs.length≤1000→(∀ x∈rs,zXt nt x=true)→(zCB P frz j rs).run o e=some e' →
  ∃ Φ1 rv1 E1 L1,St w0 U Φ0 nt hv a w e' Φ1 rv1 E1 L1∧zBh E1∧(∀ s,s<zAw+j→rv1 s=rv s)∧∀ (i:Nat) (x:ResultVar),rs[i]? = some x→(zGU a x).run P w = .ok (rv1 (zAw+j+i)) w
 | [],j,e,Φ,rv,E,L,S,hb,hj,hr,h=>by
  simp only [zCB,PM.run,Option.some.injEq] at h;subst h
  exact ⟨Φ,rv,E,L,S,hb,fun _ _=>rfl,by simp⟩
 | x :: rs,j,e,Φ,rv,E,L,S,hb,hj,hr,h=>by
  have ho:zAw=60000000:=rfl
  have wT:zAe=1000000000:=rfl
  simp only [List.length_cons] at hj
  have hx:=hr x (by simp)
  have fin:∀ {p:PV} {v:Value},Rep w Φ (zA0 w rv E) p v []→(zGU a x).run P w = .ok v w→(zGv frz p fun q=>lay (zAw+j) q (zCB P frz (j+1) rs)).run o e=some e' →
    ∃ Φ1 rv1 E1 L1,St w0 U Φ0 nt hv a w e' Φ1 rv1 E1 L1∧zBh E1∧(∀ s,s<zAw+j→rv1 s=rv s)∧∀ (i:Nat) (y:ResultVar),(x::rs)[i]? = some y→(zGU a y).run P w = .ok (rv1 (zAw+j+i)) w:=by
   intro p v hp yG h
   obtain ⟨e1,Φ1,rv1,E1,L1,h1,S1,y6,h2,h3⟩:=zWw S hb (by omega) hp h
   obtain ⟨Φ2,rv2,E2,L2,S2,j2,h4,h5⟩:=zNi rs (j+1) S1 y6 (by omega) (fun y hy=>hr y (by simp [hy])) h1
   refine ⟨Φ2,rv2,E2,L2,S2,j2,fun s hs=>(h4 s (by omega)).trans (h3 s (by omega) (by omega)),fun i y hy=>?_⟩
   cases i with
   | zero =>
    simp at hy;subst hy
    rw [Nat.add_zero,h4 _ (by omega),h2];exact yG
   | succ i =>
    rw [show zAw+j+(i+1)=zAw+(j+1)+i by omega]
    exact h5 i y (by simpa using hy)
  cases x with
  | tmp t =>
   have uP:t<nt:=zBX hx
   have yf:t<zAe:=Nat.lt_of_lt_of_le uP (Nat.le_trans S.small (by decide))
   simp only [zCB,PM.run] at h
   rw [← S.env t yf] at h
   exact fin (S.conf.view yf) (by simp only [zGU,Sem.run_pure];rw [S.tmps t uP]) h
  | cell t ty =>
   have uP:t<nt:=zBX hx
   have yf:t<zAe:=Nat.lt_of_lt_of_le uP (Nat.le_trans S.small (by decide))
   simp only [zCB] at h
   obtain ⟨sh,j3,h1⟩:=zBz h
   simp only [PM.run] at h1
   rw [← S.env t yf] at h1
   have yG:=S.conf.view yf
   split at h1
   ·rename_i r pre i c s' uc
    rw [uc] at yG
    obtain ⟨b,u,q,q1,q2,q3,q4⟩:=zLP (P:=P) S j3 yG h1
    exact fin q4 (by simp only [zGU,Sem.run_bind];rw [S.tmps t uP,q1];simp [asAddr,q2]) q3
   ·cases h1
end
end Go.Eng
namespace Go.Eng
open Go
def zVt (P:Program) (fn:Func):Bool :=
 match fn.body with
 | none=>true
 | some c=>zCy P fn.ntmps c&&fn.results.toList.all (zXt fn.ntmps)&&Nat.ble fn.ntmps 2000000&&Nat.ble fn.results.size 1000
section
variable {P:Program} {H:zBf} {w:World} {orc:zAA} {yo:zCF}
theorem zIQ {α β:Type} {f:α→Sem β}:∀ (l:List α) (vs:List β),l.length=vs.length→(∀ (i:Nat) (x:α) (v:β),l[i]? = some x→vs[i]? = some v→(f x).run P w = .ok v w)→(l.mapM f).run P w = .ok vs w
 | [],[],_,_=>rfl
 | [],_::_,h,_=>by cases h
 | _::_,[],h,_=>by cases h
 | x::l,v::vs,h,hf=>by
  simp only [List.mapM_cons,Sem.run_bind,hf 0 x v rfl rfl,Result.andThen_ok,zIQ l vs (by simpa using h) (fun i y u hy hu=>hf (i+1) y u (by simpa using hy) (by simpa using hu)),Sem.run_pure]
theorem zOa {fn:Func} {a:Act} {vs:List Value} (hl:fn.results.size=vs.length) (h:∀ (i:Nat) (x:ResultVar) (v:Value),fn.results.toList[i]? = some x→vs[i]? = some v→(zGU a x).run P w = .ok v w) :
  (results fn a.tmps).run P w = .ok (if h:vs.toArray.size=1 then vs.toArray[0] else .tuple vs.toArray) w:=by
 have h1:=zIQ (P:=P) (w:=w) (f:=zGU a) fn.results.toList vs (by simpa using hl) h
 have h2:(fn.results.mapM (zGU a)).run P w = .ok vs.toArray w:=by
  rw [Array.mapM_eq_mapM_toList]
  simp only [Sem.run_map,h1,Result.andThen_ok]
 have h3:(fun | .tmp t=>pure (a.tmps.getD t undef) | .cell t ty=>do loadVar ty (← asAddr (a.tmps.getD t undef)):ResultVar→Sem Value)=zGU a:=by
  funext x;cases x<;>rfl
 simp only [results,Sem.run_bind]
 have h4:(fn.results.mapM (fun | .tmp t=>pure (a.tmps.getD t undef) | .cell t ty=>do loadVar ty (← asAddr (a.tmps.getD t undef)):ResultVar→Sem Value)).run P w = .ok vs.toArray w:=by rw [h3];exact h2
 erw [h4]
 rfl
theorem zJR {fn:Func} {tmps:Array Value} {R:Ending→World→Prop}:∀ (ds:List Deferred) (w:World),(∀ d∈ds,∃ D,d.target = .collected D∧w.heap[D]? = some (.deferred (some [])))→ds.Pairwise (fun d d'=>∀ D D',d.target = .collected D→d'.target = .collected D'→D≠D') →
  (∀ w',w'.heap.size=w.heap.size→(∀ b,(∀ d∈ds,d.target ≠ .collected b)→w'.heap[b]? = w.heap[b]?)→(w'.os=w.os∧w'.tape=w.tape∧w'.output=w.output)→LeavesIn (FF none) 0 P fn tmps R [] .returning w')→LeavesInM (FF none) 0 P fn tmps R ds .returning w
 | [],w,_,_,h=>h w rfl (fun _ _=>rfl) ⟨rfl,rfl,rfl⟩
 | d :: ds,w,h1,h2,h=>by
  obtain ⟨D,q1,q2⟩:=h1 d (by simp)
  obtain ⟨p1,p2⟩:=List.pairwise_cons.1 h2
  refine ⟨by simp,.inl ⟨D,_,q1,run_takeDeferred q2,zJR ds _ (fun d' hd=>?_) p2 fun w' g1 g2 g3=>?_⟩⟩
  ·obtain ⟨D',r1,r2⟩:=h1 d' (by simp [hd])
   exact ⟨D',r1,(World.putObj_heap_other (Ne.symm (p1 d' hd D D' q1 r1))).trans r2⟩
  ·refine h w' (g1.trans (by simp)) (fun b hb=>(g2 b fun d' hd=>hb d' (by simp [hd])).trans (World.putObj_heap_other fun e=>hb d (by simp) (e▸q1))) g3
theorem zUX (zE7:P.follows .mixedOrders=true) (jG:zGf P orc) (hnm:zEF P) (qj:zM8 P yo) {f:FuncId} {fn:Func} {body:Code} {n:Nat} {args hid hZ:List PV} {v:PV} (hf:P.funcs[f]? = some fn) (yW:fn.body=some body) (hwf:zVt P fn=true) (h:zI5 P H orc yo zB7 n f fn body args hid=some (v,hZ)) :
    zFC P f args hid v hZ:=by
  have ho:zAw=60000000:=rfl
  have hh:zAm=50000000:=rfl
  have wT:zAe=1000000000:=rfl
  simp only [zVt,yW,Bool.and_eq_true] at hwf
  obtain ⟨⟨⟨jJ,y8⟩,ua⟩,jV⟩:=hwf
  have ua:=Nat.le_of_ble_eq_true ua
  have jV:=Nat.le_of_ble_eq_true jV
  simp only [zI5] at h
  cases hc:(Nat.ble args.length fn.ntmps&&Nat.ble hid.length 1000&&args.all fun p => !p.isTup) with
  | false=>rw [hc] at h;cases h
  | true =>
    rw [hc] at h;simp only [cond_true] at h
    simp only [Bool.and_eq_true] at hc
    obtain ⟨⟨yL,u9⟩,ud⟩:=hc
    have yL:=Nat.le_of_ble_eq_true yL
    have u9:=Nat.le_of_ble_eq_true u9
    have key : ∀ x e1,exec P H orc yo zB7 fn.ntmps (H f) n body (zA4 args hid) none=some (x,e1,none)→(x = .norm∨x = .ret)→∀ e',(zCB P (H f).frz 0 fn.results.toList).run orc e1=some e' →
        (bif Nat.beq fn.results.size 1&&(e'.get zAw).isTup then none else some (zVQ e' fn.results.size,(List.range hid.length).map fun j=>e'.get (zAm+j)))=some (v,hZ)→zFC P f args hid v hZ:=by
      intro x e1 hx gU e' wE ye w Φ rv E L vs hE kd C yI yp j9
      refine callsIn_wide.1 (callsIn_of_wp_marks (n:=0) hf yW trivial ?_)
      have hntm:vs.size+(fn.ntmps-vs.size)=fn.ntmps:=by omega
      have S:St w (fun b=>∃ s,b∈L s) Φ fn.ntmps ⟨rv,[]⟩ {tmps:=vs++Array.replicate (fn.ntmps-vs.size) undef,defers:=[]} w (zA4 args hid) Φ rv E L:=by
        refine ⟨C,hE,by simp;omega,ua,fun t ht=>?_,fun d ps i hd hp hi=>?_,fun _ _ _=>rfl,rfl⟩
        · simp only [Array.getD_eq_getD_getElem?,Array.getElem?_append]
          by_cases h1:t<vs.size
          · rw [if_pos h1,yp t (by omega)];rfl
          · rw [if_neg h1,Array.getElem?_replicate,if_pos (by omega),j9 t (by omega) (by omega)];rfl
        · rw [hE d (by omega),zC4 (by omega)] at hp
          split at hp
          · rename_i v4
            have:(args.getD d .bad)∈args:=by
              simp only [List.getD,List.getElem?_eq_getElem v4,Option.getD_some];exact List.getElem_mem v4
            have:=List.all_eq_true.1 ud _ this
            rw [hp] at this;cases this
          · split at hp
            · omega
            · cases hp
      have hw:=zHD (zXk jG hnm) zE7 n body (.inr (zXu zE7 jG hnm qj)) jJ (fun _ _=>trivial) rfl (⟨rfl,w,_,Φ,[],Rel.refl,⟨fun _ h=>(by cases h),.nil⟩,Φ,rv,E,L,S,kd⟩:GB w (fun b=>∃ s,b∈L s) Φ fn.ntmps rv _ w _ none) hx
      refine wpIn_mono hw fun ex a' w1 ⟨wB,_,wz,Uz,Φz,ds,wx,wU,Φ1,rv1,E1,L1,Sz,y6⟩=>?_
      have ue:LeavesInM (FF none) 0 P fn a'.tmps (fun e w'=>∃ u Φ' rv' E' L',e = .returned u∧Conf w (fun b=>∃ s,b∈L s) Φ w' Φ' rv' E' L'∧hZ.length=hid.length ∧
          (∀ j,j<hid.length→E' (zAm+j)=hZ.getD j .bad∧rv' (zAm+j)=rv (zAm+j))∧Gave v u rv' E') a'.defers .returning w1:=by
       rw [Sz.dfr]
       have gY:∀ d∈ds,∀ D,d.target = .collected D→(∀ s,D∉L1 s)∧¬ Φ1 D∧w.heap.size≤D:=by
         intro d hd D hD
         obtain ⟨D',q1,q0,q2,q3,q4,q5⟩:=wU.each d hd
         rw [q1] at hD;cases hD
         refine ⟨fun s hs=>?_,fun h=>?_,q0⟩
         · rcases (Sz.conf.own s D hs).2.2 with h | h
           · exact q4 h
           · omega
         · rcases (Sz.conf.frz D h).2 with h | h | h
           · exact q5 h
           · exact q4 h
           · omega
       refine zJR ds w1 (fun d hd=>?_) wU.apart fun w' m1 m2 m3=>?_
       · obtain ⟨D,q1,_,q2,q3,q4,_⟩:=wU.each d hd
         exact ⟨D,q1,(Sz.conf.kept D q2 q4).trans q3⟩
       have C1:Conf w (fun b=>∃ s,b∈L s) Φ w' Φ1 rv1 E1 L1:=(Sz.conf.rebase wx).moved (by omega) (fun s b hb=>m2 b fun d hd h=>(gY d hd b h).1 s hb) (fun b hb=>m2 b fun d hd h=>(gY d hd b h).2.1 hb) (fun b hb _=>m2 b fun d hd h=>by have:=(gY d hd b h).2.2;omega) m3
       have S1:St w (fun b=>∃ s,b∈L s) Φ fn.ntmps ⟨rv,ds⟩ a' w' e1 Φ1 rv1 E1 L1:=Sz.with C1
       obtain ⟨Φ2,rv2,E2,L2,S2,j2,_,h3⟩:=zNi fn.results.toList 0 S1 y6 (by simpa using jV) (fun y hy=>List.all_eq_true.1 y8 y hy) wE
       let us:List Value:=(List.range fn.results.size).map fun i=>rv2 (zAw+i)
       have yA:=zOa (P:=P) (w:=w') (fn:=fn) (a:=a') (vs:=us) (by simp [us]) (fun i y u hy hu=>by
         have:=h3 i y hy
         rw [Nat.add_zero] at this
         rw [this]
         have hi:i<fn.results.size:=by have:=(List.getElem?_eq_some_iff.1 hy).1;simpa using this
         simp only [us,List.getElem?_map,List.getElem?_range hi,Option.map_some,Option.some.injEq] at hu
         rw [hu])
       refine ⟨_,yA,_,Φ2,rv2,E2,L2,rfl,S2.conf,?_⟩
       have hv:v=zVQ e' fn.results.size∧hZ=(List.range hid.length).map fun j=>e'.get (zAm+j):=by
         revert ye
         cases (Nat.beq fn.results.size 1&&(e'.get zAw).isTup) with
         | true=>intro h;cases h
         | false=>intro h;simp only [cond_false,Option.some.injEq,Prod.mk.injEq] at h;exact ⟨h.1.symm,h.2.symm⟩
       obtain ⟨uq,ke⟩:=hv
       refine ⟨by rw [ke];simp,fun j hj=>⟨?_,S2.hid _ (by omega) (by omega)⟩,?_⟩
       · rw [S2.env _ (by omega),ke]
         simp [List.getD,hj]
       · by_cases h1:fn.results.size=1
         · have ua:(e'.get zAw).isTup=false:=by
             revert ye
             cases hb:(e'.get zAw).isTup with
             | true=>simp [h1]
             | false=>intro _;rfl
           have hv3:v=e'.get zAw:=by rw [uq,zVQ,if_pos h1]
           have wQ:us=[rv2 zAw]:=by simp only [us,h1];rfl
           refine ⟨fun _=>⟨by rw [S2.env _ (by omega),hv3],?_⟩,fun ps yc=>?_⟩
           · rw [wQ];rfl
           · rw [hv3] at yc;rw [yc] at ua;cases ua
         · have hv3:v = .tup ((List.range fn.results.size).map fun j=>e'.get (zAw+j)):=by rw [uq,zVQ,if_neg h1]
           refine ⟨fun h=>absurd hv3 (h _),fun ps yc=>?_⟩
           rw [hv3] at yc
           simp only [PV.tup.injEq] at yc
           subst yc
           refine ⟨us.toArray,?_,by simp [us],fun j p hj=>?_⟩
           · rw [dif_neg (by simpa [us] using h1)]
           · simp only [List.getElem?_map] at hj
             cases hr:(List.range fn.results.size)[j]? with
             | none=>rw [hr] at hj;cases hj
             | some k =>
               rw [hr] at hj;simp only [Option.map_some,Option.some.injEq] at hj
               obtain ⟨jD,kf⟩:=List.getElem?_eq_some_iff.1 hr
               simp only [List.getElem_range] at kf
               subst kf
               simp only [List.length_range] at jD
               exact ⟨by rw [S2.env _ (by omega)];exact hj,by simp [us,jD]⟩
      subst wB
      rcases gU with rfl | rfl<;>exact ue
    revert h
    cases hx:exec P H orc yo zB7 fn.ntmps (H f) n body (zA4 args hid) none with
    | none=>intro h;cases h
    | some r =>
      obtain ⟨x,e1,lg⟩:=r
      intro h
      cases x with
      | ex id=>cases lg<;>cases h
      | norm =>
        cases lg with
        | some g=>cases h
        | none =>
          cases wE:(zCB P (H f).frz 0 fn.results.toList).run orc e1 with
          | none=>simp only [wE] at h;cases h
          | some e'=>simp only [wE] at h;exact key .norm e1 hx (.inl rfl) e' wE h
      | ret =>
        cases lg with
        | some g=>cases h
        | none =>
          cases wE:(zCB P (H f).frz 0 fn.results.toList).run orc e1 with
          | none=>simp only [wE] at h;cases h
          | some e'=>simp only [wE] at h;exact key .ret e1 hx (.inr rfl) e' wE h
def zEU (P:Program) (H:zBf):Prop:=∀ (f:FuncId) (fn:Func) (args hid:List PV) (v:PV) (hZ:List PV),P.funcs[f]? = some fn→(H f).intr≠0→zDH P fn (H f).intr args hid=some (v,hZ)→zCt P f∧zFC P f args hid v hZ
def Fit (P:Program) (H:zBf):Prop:=∀ (f:FuncId) (fn:Func),P.funcs[f]? = some fn→(H f).intr=0→zVt P fn=true
def zUA (P:Program) (g:FuncId) (first:List PV) (i:Nat) (caps:List PV) (k:Int) (plan:List (List PV)):Prop :=
  ∀ (J:List (List PV)→World→(Nat→Prop)→Prop) (Jx:World→Prop) (Ψ:Nat→Prop),Client P i plan k Ψ J Jx→∀ (w:World) (Φ:Nat→Prop) (rv:Nat→Value) (E:Nat→PV) (L:Nat→List Nat) (vs:Array Value) (B:Nat→Prop),
   (∀ s,s<zAe→E s=(zA4 (first++PV.yld i::caps) []).get s)→(∀ s,zAe≤s→E s = .bad)→Conf w (fun b=>∃ s,b∈L s) Φ w Φ rv E L→vs.size=(first++PV.yld i::caps).length→(∀ j,j<(first++PV.yld i::caps).length→vs[j]? = some (rv j)) →
   (∀ s,(first++PV.yld i::caps).length≤s→s<zAm→rv s=undef)→J [] w B→(∀ b,B b→∀ s,b∉L s)→(∀ b,Φ b→Ψ b∨¬ B b) →
   CallsIn (FF none) 0 P g vs w fun en w'=>(∃ v,en = .returned v)∧((k-plan.length≠0∧∃ B',J plan w' B')∨(k-plan.length=0∧Jx w'))
theorem zPy (zE7:P.follows .mixedOrders=true) (jG:zGf P orc) (hnm:zEF P) (zMF:Fit P H) {n:Nat} {g:FuncId} {first caps:List PV} {i:Nat} {k:Int} {plan:List (List PV)} (h:zWS P H orc yo zB7 n g first i caps k=some plan):zCt P g∧(first++PV.yld i::caps).length≤zAm∧zUA P g first i caps k plan:=by
 have hh:zAm=50000000:=rfl
 simp only [zWS] at h
 split at h
 ·rename_i fn hf
  split at h
  ·rename_i body yW
   rcases zBc h with ⟨hc,h⟩ | ⟨_,h⟩
   ·simp only [Bool.and_eq_true] at hc
    obtain ⟨⟨⟨⟨h1,h2⟩,h3⟩,h4⟩,hint⟩:=hc
    have hint:=Nat.eq_of_beq_eq_true hint
    have h1:=Nat.le_of_ble_eq_true h1
    have hwf:=zMF g fn hf hint
    simp only [zVt,yW,Bool.and_eq_true] at hwf
    obtain ⟨⟨⟨jJ,y8⟩,ua⟩,jV⟩:=hwf
    have ua:=Nat.le_of_ble_eq_true ua
    have ud:(first++PV.yld i::caps).all (fun p => !p.isTup)=true:=by
     rw [List.all_append,List.all_cons,Bool.and_eq_true] 
     rw [List.all_append,Bool.and_eq_true] at h3
     exact ⟨h3.1,by rw [h3.2];rfl⟩
    have hk:k≠0:=by simpa using h4
    refine ⟨⟨fn,hf,by rw [yW];rfl⟩,by omega,?_⟩
    have key:∀ {x:X} {e1:Env} {l:Log},exec P H orc yo zB7 fn.ntmps (H g) n body (zA4 (first++PV.yld i::caps) []) (some ⟨[],k,i⟩)=some (x,e1,some l)→(x = .norm∨x = .ret)→l.xs=plan→zUA P g first i caps k plan:=fun hx gU hg J Jx Ψ hC w Φ rv E L vs B hE kd C yI yp j9 hJ hBL hBΦ =>
     zWf zE7 jG hnm hC hf yW jJ ua h1 ud h2 hx gU hg hk hE kd C yI yp j9 hJ hBL hBΦ
    split at h
    ·rename_i e1 l hx
     simp only [Option.some.injEq] at h
     exact key hx (.inl rfl) h
    ·rename_i e1 l hx
     simp only [Option.some.injEq] at h
     exact key hx (.inr rfl) h
    ·cases h
   ·cases h
  ·cases h
 ·cases h
theorem zE4 [Yo] (zE7:P.follows .mixedOrders=true) (hnm:zEF P) (zMF:Fit P H) (hin:zEU P H) (qj:zM8 P Yo.yo):∀ n,zGf P (zCP P H n)
 | 0=>by intro f args hid v hZ h;cases h
 | n + 1 => by
  have jG:=zE4 zE7 hnm zMF hin qj n
  intro f args hid v hZ h
  have h:zJI P H (zCP P H n) Yo.yo zB7 (n+1) f args hid=some (v,hZ):=h
  simp only [zJI] at h
  split at h
  ·rename_i fn hf
   split at h
   ·rename_i hi
    exact hin f fn args hid v hZ hf hi h
   ·rename_i hi
    split at h
    ·rename_i body yW
     exact ⟨⟨fn,hf,by rw [yW];rfl⟩,zUX zE7 jG hnm qj hf yW (zMF f fn hf (by simpa using hi)) h⟩
    ·cases h
  ·cases h
abbrev yo0:Yo:=⟨fun _ _ _ _ _=>none⟩
noncomputable def zS5 (P:Program) (H:zBf) (n:Nat):zCF:=fun g first i caps k=>zWS P H (@zCP P H yo0 n) yo0.yo zB7 (n+1) g first i caps k
open Classical in
noncomputable def zWH (P:Program) (H:zBf):zCF:=fun g first i caps k=>if h:∃ xs n0,∀ n,n0≤n→zS5 P H n g first i caps k=some xs then some (Classical.choose h) else none
noncomputable abbrev yo1 (P:Program) (H:zBf):Yo:=⟨zWH P H⟩
theorem zVg {g:FuncId} {first:List PV} {i:Nat} {caps:List PV} {k:Int} {xs:List (List PV)} {n0:Nat} (h:∀ n,n0≤n→zS5 P H n g first i caps k=some xs):zWH P H g first i caps k=some xs:=by
 have h':∃ xs n0,∀ n,n0≤n→zS5 P H n g first i caps k=some xs:=⟨xs,n0,h⟩
 simp only [zWH,dif_pos h']
 obtain ⟨n1,h1⟩:=Classical.choose_spec h'
 have h2:=h1 (max n0 n1) (by omega)
 rw [h (max n0 n1) (by omega)] at h2
 exact h2.symm
theorem zPS (zE7:P.follows .mixedOrders=true) (hnm:zEF P) (zMF:Fit P H) (hin:zEU P H):zM8 P (zWH P H):=by
 intro g first i caps k plan h
 simp only [zWH] at h
 split at h
 ·rename_i h'
  simp only [Option.some.injEq] at h;subst h
  obtain ⟨n1,h1⟩:=Classical.choose_spec h'
  exact zPy zE7 (@zE4 P H yo0 zE7 hnm zMF hin (fun g first i caps k plan h=>by cases h) n1) hnm zMF (h1 n1 (by omega))
 ·cases h
end
end Go.Eng
namespace Go.Eng
open Go
def zHt:zAA:=fun _ _ _=>none
def zWk:zCF:=fun _ _ _ _ _=>none
def zHq:All:=fun _=>none
theorem zFP {o:zAA}:∀ {p:PM} {e e1:Env},p.run zHt e=some e1→p.run o e=some e1:=by
 intro p
 induction p with
 | ok=>intro e e1 h;exact h
 | fail=>intro e e1 h;cases h
 | view s k ih=>intro e e1 h;exact ih _ h
 | get s k ih=>intro e e1 h;simp only [PM.run] at h ⊢;split at h<;>first | (cases h;done) | exact ih _ h
 | set s q k ih=>intro e e1 h;exact ih h
 | cells r pre i c n k ih=>intro e e1 h;simp only [PM.run] at h ⊢;split at h<;>first | (cases h;done) | exact ih _ _ h
 | deep r pre k ih=>intro e e1 h;simp only [PM.run] at h ⊢;split at h<;>first | (cases h;done) | exact ih _ h
 | wcells r pre i c qs k ih=>intro e e1 h;simp only [PM.run] at h ⊢;split at h<;>first | (cases h;done) | exact ih h
 | wnode r pre q k ih =>
  intro e e1 h
  simp only [PM.run] at h ⊢
  rcases zBc h with ⟨_,h⟩ | ⟨hl,h⟩
  ·cases h
  ·rw [hl];simp only [cond_false]
   split at h
   ·exact ih h
   ·cases h
 | kill r pre k ih=>intro e e1 h;exact ih h
 | frz r pre k ih=>intro e e1 h;simp only [PM.run] at h ⊢;split at h<;>first | (cases h;done) | exact ih h
 | killEx r pre k ih=>intro e e1 h;exact ih h
 | forget r k ih=>intro e e1 h;exact ih h
 | call f args hid k ih=>intro e e1 h;cases h
theorem zAn {α β:Type} {x y:Option α} {f:α→β} {r:β} (h:x.map f=some r) (g:∀ a,x=some a→y=some a):y.map f=some r:=by
 obtain ⟨a,h1,h2⟩:=Option.map_eq_some_iff.1 h
 rw [g a h1];simp [h2]
theorem zIt {o:zAA}:∀ {p:PM} {e:Env} {r:Env×Tok},p.runT zHt e=some r→p.runT o e=some r:=by
 intro p
 induction p with
 | ok=>intro e e1 h;exact h
 | fail=>intro e e1 h;cases h
 | view s k ih=>intro e e1 h;exact zAn h fun a h=>ih _ h
 | get s k ih=>intro e e1 h;simp only [PM.runT] at h ⊢;split at h<;>first | (cases h;done) | exact zAn h fun a h=>ih _ h
 | set s q k ih=>intro e e1 h;exact zAn h fun a h=>ih h
 | cells r pre i c n k ih=>intro e e1 h;simp only [PM.runT] at h ⊢;split at h<;>first | (cases h;done) | exact zAn h fun a h=>ih _ _ h
 | deep r pre k ih=>intro e e1 h;simp only [PM.runT] at h ⊢;split at h<;>first | (cases h;done) | exact zAn h fun a h=>ih _ h
 | wcells r pre i c qs k ih=>intro e e1 h;simp only [PM.runT] at h ⊢;split at h<;>first | (cases h;done) | exact zAn h fun a h=>ih h
 | wnode r pre q k ih =>
  intro e e1 h
  simp only [PM.runT] at h ⊢
  rcases zBc h with ⟨_,h⟩ | ⟨hl,h⟩
  ·cases h
  ·rw [hl];simp only [cond_false]
   split at h
   ·exact zAn h fun a h=>ih h
   ·cases h
 | kill r pre k ih=>intro e e1 h;exact zAn h fun a h=>ih h
 | frz r pre k ih=>intro e e1 h;simp only [PM.runT] at h ⊢;split at h<;>first | (cases h;done) | exact zAn h fun a h=>ih h
 | killEx r pre k ih=>intro e e1 h;exact zAn h fun a h=>ih h
 | forget r k ih=>intro e e1 h;exact zAn h fun a h=>ih h
 | call f args hid k ih=>intro e e1 h;cases h
section
variable {P:Program} {H:zBf} {o:zAA} {fz tk nl:Bool} {fzs tks:List Nat} {ops:Array Oper} {nt:Nat} {hh:FHint} {yo:zCF} {al:All}
theorem zH4 {x:Oper} {h0:Nat} {args:List PV} {l:Log} {e:Env} {r:Env×Option Log} (h:zBK zHt ops x h0 args l e=some r):zBK o ops x h0 args l e=some r:=by
 simp only [zBK] at h ⊢
 split at h
 ·rcases zBc h with ⟨hc,h⟩ | ⟨_,h⟩
  ·rw [hc];simp only [cond_true]
   refine zAn h fun a h=>?_
   rcases zBc h with ⟨hk,h⟩ | ⟨hk,h⟩<;>rw [hk]
   ·exact zFP h
   ·exact zFP h
  ·cases h
 ·exact zAn h fun a h=>zFP h
 ·cases h
theorem zRL {x:Oper} {e:Env} {lg:Option Log} {r:Env×Option Log} (h:zCI P H zHt fz tk nl ops x e lg=some r):zCI P H o fz tk nl ops x e lg=some r:=by
 simp only [zCI] at h ⊢
 split at h
 ·exact zAn h fun a h=>zFP h
 ·split at h
  ·exact zH4 h
  ·exact zAn h fun a h=>zFP h
theorem zLU {x:Oper} {e:Env} {lg:Option Log} {r:Env×Option Log×Tok} (h:zEj P H zHt fz tk nl ops x e lg=some r):zEj P H o fz tk nl ops x e lg=some r:=by
 simp only [zEj] at h ⊢
 split at h
 ·exact zAn h fun a h=>zIt h
 ·split at h
  ·exact zAn h fun a h=>zH4 h
  ·exact zAn h fun a h=>zIt h
theorem zG4:∀ {l:List Oper} {i:Nat} {e:Env} {lg:Option Log} {r:Env×Option Log},zA7 P H zHt fzs tks nl ops l i e lg=some r→zA7 P H o fzs tks nl ops l i e lg=some r
 | [],_,_,_,_,h=>h
 | x::l,i,e,lg,r,h=>by
  simp only [zA7] at h ⊢
  cases hs:zCI P H zHt (fzs.contains i) (tks.contains i) nl ops x e lg with
  | none=>rw [hs] at h;cases h
  | some q=>rw [hs] at h;rw [zRL hs];exact zG4 h
theorem zJA:∀ {l:List Oper} {i:Nat} {acc:List Nat} {ts:List Tok} {e:Env} {lg:Option Log} {r:Env×Option Log},zCm P H zHt fzs tks nl ops l i acc ts e lg=some r→zCm P H o fzs tks nl ops l i acc ts e lg=some r
 | [],_,_,_,_,_,_,h=>h
 | x :: l,i,acc,ts,e,lg,r,h=>by
  simp only [zCm] at h ⊢
  cases hs:zEj P H zHt (fzs.contains i) (tks.contains i) nl ops x e lg with
  | none=>rw [hs] at h;cases h
  | some q =>
   rw [hs] at h;rw [zLU hs]
   simp only at h ⊢
   rcases zBc h with ⟨hc,h⟩ | ⟨_,h⟩
   ·rw [hc];exact zJA h
   ·cases h
theorem zOm:∀ {m:Nat} {c:Code} {e:Env} {lg:Option Log} {r:X×Env×Option Log},exec P H zHt zWk zHq nt hh m c e lg=some r→∀ {m':Nat},m≤m'→exec P H o yo al nt hh m' c e lg=some r
 | 0,_,_,_,_,h,_,_=>by cases h
 | m + 1,c,e,lg,r,h,m',hm=>by
  obtain ⟨m',rfl⟩:∃ k,m'=k+1:=⟨m'-1,by omega⟩
  have ih:∀ {c:Code} {e:Env} {lg:Option Log} {r:X×Env×Option Log},exec P H zHt zWk zHq nt hh m c e lg=some r→exec P H o yo al nt hh m' c e lg=some r:=fun h=>zOm h (by omega)
  cases c with
  | region id ops draw =>
   simp only [exec] at h ⊢
   split at h
   ·rename_i e1 lg1 h1
    have:(if draw=true then zCm P H o (hh.frzs id) (hh.take id) hh.nils ops ops.toList 0 [] [] e lg else zA7 P H o (hh.frzs id) (hh.take id) hh.nils ops ops.toList 0 e lg)=some (e1,lg1):=by
     cases draw with
     | true=>exact zJA h1
     | false=>exact zG4 h1
    rw [this];exact h
   ·cases h
  | seq a b =>
   simp only [exec] at h ⊢
   cases h1:exec P H zHt zWk zHq nt hh m a e lg with
   | none=>rw [h1] at h;cases h
   | some q =>
    rw [h1] at h;rw [ih h1]
    obtain ⟨x,e1,lg1⟩:=q
    cases x with
    | norm=>exact ih h
    | ex id=>exact h
    | ret=>exact h
  | cond c a b =>
   cases c with
   | tmp t =>
    simp only [exec] at h ⊢
    revert h
    cases e.get t with
    | bool v=>intro h;cases v<;>exact ih h
    | _=>intro h;cases h
   | const v =>
    simp only [exec] at h ⊢
    revert h
    cases v with
    | bool v=>intro h;cases v<;>exact ih h
    | _=>intro h;cases h
   | _=>cases h
  | block id b =>
   simp only [exec] at h ⊢
   cases h1:exec P H zHt zWk zHq nt hh m b e lg with
   | none=>rw [h1] at h;cases h
   | some q =>
    rw [h1] at h;rw [ih h1];exact h
  | loop b =>
   simp only [exec] at h ⊢
   cases h1:exec P H zHt zWk zHq nt hh m b (e.drop (hh.loopDrop (zAN b))) lg with
   | none=>rw [h1] at h;cases h
   | some q =>
    rw [h1] at h;rw [ih h1]
    obtain ⟨x,e1,lg1⟩:=q
    cases x with
    | norm=>exact ih h
    | ex id=>exact h
    | ret=>exact h
  | scope b=>exact ih h
  | rangeFunc x ps ca cb =>
   cases x with
   | tmp t =>
    simp only [exec] at h
    cases lg with
    | none =>
     simp only at h
     obtain ⟨q,h1,_⟩:=Option.map_eq_some_iff.1 h
     simp only [zG0] at h1
     split at h1
     ·cases h1
     ·cases h1
    | some _=>cases h
   | _=>cases h
  | skip=>exact h
  | exit id=>exact h
  | ret=>exact h
  | label l=>exact h
  | _=>cases h
end
def cl:Code→Code
 | .seq a _=>a
 | .cond _ a _=>a
 | .block _ b=>b
 | .loop b=>b
 | .scope b=>b
 | c=>c
def cr:Code→Code
 | .seq _ b=>b
 | .cond _ _ b=>b
 | c=>c
def zW9:Code→Bool
 | .seq .. => true
 | _=>false
def zPe:Code→Bool
 | .loop _=>true
 | _=>false
def zRG:Code→Bool
 | .scope _=>true
 | _=>false
def zSi:Code→Option Nat
 | .block n _=>some n
 | _=>none
def zRn:Code→Option Nat
 | .cond (.tmp t) _ _=>some t
 | _=>none
def zUN:Code→Option Nat
 | .exit n=>some n
 | _=>none
def zWu:Code→Bool
 | .ret=>true
 | _=>false
def zUv:Code→Bool
 | .skip=>true
 | _=>false
def zXe:Code→Bool
 | .region .. => true
 | _=>false
def rid:Code→Nat
 | .region n _ _=>n
 | _=>0
def zFn:Code→Array Oper
 | .region _ o _=>o
 | _=>#[]
def zVC:Code→Bool
 | .region _ _ d=>d
 | _=>false
def zDS (c : Code) (i : Nat) : Oper := (zFn c)[i]?.getD { dst := none, op := .move (.const .nilIface), type := 0, pos := "", after := #[], guard := none }
theorem zTd {c:Code} (h:zW9 c=true):c = .seq (cl c) (cr c):=by cases c<;>first | rfl | cases h
theorem zMA {c:Code} (h:zPe c=true):c = .loop (cl c):=by cases c<;>first | rfl | cases h
theorem zPE {c:Code} (h:zRG c=true):c = .scope (cl c):=by cases c<;>first | rfl | cases h
theorem zTn {c:Code} (h:zWu c=true):c = .ret:=by cases c<;>first | rfl | cases h
theorem zQ4 {c:Code} (h:zUv c=true):c = .skip:=by cases c<;>first | rfl | cases h
theorem zUb {c:Code} (h:zXe c=true):c = .region (rid c) (zFn c) (zVC c):=by cases c<;>first | rfl | cases h
theorem zPC {c:Code} {n:Nat} (h:zSi c=some n):c = .block n (cl c):=by cases c<;>first | (cases h;rfl) | cases h
theorem zSd {c:Code} {n:Nat} (h:zUN c=some n):c = .exit n:=by cases c<;>first | (cases h;rfl) | cases h
theorem zPJ {c:Code} {t:Nat} (h:zRn c=some t):c = .cond (.tmp t) (cl c) (cr c):=by
 cases c<;>try (cases h;done)
 rename_i x a b
 cases x<;>first | (cases h;rfl) | cases h
section
variable [Yo] (P:Program) (H:zBf)
def zDi (f:FuncId) (args hid:List PV) (v:PV) (hZ:List PV):Prop:=∃ n0,∀ n,n0≤n→zCP P H n f args hid=some (v,hZ)
def W (f:FuncId) (nt:Nat) (c:Code) (e:Env) (lg:Option Log) (K:X→Env→Option Log→Prop):Prop :=
 ∃ n0 x e' lg',(∀ n m,n0≤n→n0≤m→exec P H (zCP P H n) Yo.yo zB7 nt (H f) m c e lg=some (x,e',lg'))∧K x e' lg'
def zFl (dr:Option (List Nat×List Tok)) (i:Nat) (o:Oper) (t:Tok):Option (Option (List Nat×List Tok)) :=
 match dr with
 | none=>some none
 | some (acc,ts)=>bif o.after.toList.all (fun e => !Region.binds .any e||Nat.blt e.on i)&&zGa (zHY acc o) t 0 ts then some (some (acc++[zHY acc o],ts++[t])) else none
def zV4 (orc:zAA) (fzs tks:List Nat) (nl:Bool) (ops:Array Oper) (dr:Option (List Nat×List Tok)) (l:List Oper) (i:Nat) (e:Env) (lg:Option Log):Option (Env×Option Log) :=
 match dr with
 | none=>zA7 P H orc fzs tks nl ops l i e lg
 | some (acc,ts)=>zCm P H orc fzs tks nl ops l i acc ts e lg
def WR (f:FuncId) (id:Nat) (ops:Array Oper) (dr:Option (List Nat×List Tok)) (i:Nat) (e:Env) (lg:Option Log) (K:Env→Option Log→Prop):Prop :=
 ∃ n0 eN lg',(∀ n,n0≤n→∃ e',zV4 P H (zCP P H n) ((H f).frzs id) ((H f).take id) (H f).nils ops dr (ops.toList.drop i) i e lg=some (e',lg')∧(e'.drop ((H f).drop id)).norm=eN)∧K eN lg'
end
section
variable [Yo] {P:Program} {H:zBf} {f:FuncId} {nt:Nat} {e e':Env} {lg:Option Log} {K:X→Env→Option Log→Prop}
def zZx (P:Program) (H:zBf) (f:FuncId) (nt:Nat) (b:Code) (K:X→Env→Option Log→Prop):X→Env→Option Log→Prop
 | .norm,e,lg=>W P H f nt b e lg K
 | x,e,lg=>K x e lg
theorem zX7 {a b:Code} (h:W P H f nt a e lg (zZx P H f nt b K)):W P H f nt (.seq a b) e lg K:=by
 obtain ⟨n0,x,e1,lg1,h1,h2⟩:=h
 cases x with
 | norm =>
  obtain ⟨n2,x,e2,lg2,h3,h4⟩:=h2
  refine ⟨max n0 n2+1,x,e2,lg2,fun n m hn hm=>?_,h4⟩
  obtain ⟨m,rfl⟩:∃ k,m=k+1:=⟨m-1,by omega⟩
  simp only [exec,h1 n m (by omega) (by omega),h3 n m (by omega) (by omega)]
 | ex id =>
  refine ⟨n0+1,_,e1,lg1,fun n m hn hm=>?_,h2⟩
  obtain ⟨m,rfl⟩:∃ k,m=k+1:=⟨m-1,by omega⟩
  simp only [exec,h1 n m (by omega) (by omega)]
 | ret =>
  refine ⟨n0+1,_,e1,lg1,fun n m hn hm=>?_,h2⟩
  obtain ⟨m,rfl⟩:∃ k,m=k+1:=⟨m-1,by omega⟩
  simp only [exec,h1 n m (by omega) (by omega)]
theorem zUe (m:Nat) {c:Code} {x:X} {e1:Env} {lg1:Option Log} (h:exec P H zHt zWk zHq nt (H f) m c e lg=some (x,e1,lg1)) (hk:K x e1 lg1):W P H f nt c e lg K :=
 ⟨m,x,e1,lg1,fun _ _ _ hm=>zOm h hm,hk⟩
theorem zUC {c:Code} {K':X→Env→Option Log→Prop} (h:W P H f nt c e lg K) (hk:∀ x e lg,K x e lg→K' x e lg):W P H f nt c e lg K':=by
 obtain ⟨n0,x,e1,lg1,h1,h2⟩:=h
 exact ⟨n0,x,e1,lg1,h1,hk _ _ _ h2⟩
theorem zXX (h:K .ret e lg):W P H f nt .ret e lg K:=zUe 1 rfl h
theorem zWE (h:K .norm e lg):W P H f nt .skip e lg K:=zUe 1 rfl h
theorem zXg {id:Nat} (h:K (.ex id) (zWq ((H f).ices id) e) lg):W P H f nt (.exit id) e lg K:=zUe 1 rfl h
theorem zVe {b:Code} (h:W P H f nt b e lg K):W P H f nt (.scope b) e lg K:=by
 obtain ⟨n0,x,e1,lg1,h1,h2⟩:=h
 refine ⟨n0+1,x,e1,lg1,fun n m hn hm=>?_,h2⟩
 obtain ⟨m,rfl⟩:∃ k,m=k+1:=⟨m-1,by omega⟩
 exact h1 n m (by omega) (by omega)
def Blk (id:Nat) (K:X→Env→Option Log→Prop):X→Env→Option Log→Prop
 | .ex id',e,lg=>bif Nat.beq id' id then K .norm e lg else K (.ex id') e lg
 | x,e,lg=>K x e lg
theorem zVN {id:Nat} {b:Code} (h:W P H f nt b e lg (Blk id K)):W P H f nt (.block id b) e lg K:=by
 obtain ⟨n0,x,e1,lg1,h1,h2⟩:=h
 cases x with
 | ex id' =>
  by_cases hid:id'=id
  ·subst hid
   simp only [Blk,Nat.beq_refl,cond_true] at h2
   refine ⟨n0+1,.norm,e1,lg1,fun n m hn hm=>?_,h2⟩
   obtain ⟨m,rfl⟩:∃ k,m=k+1:=⟨m-1,by omega⟩
   simp only [exec,h1 n m (by omega) (by omega),if_true]
  ·have hb:Nat.beq id' id=false:=by
    cases hc:Nat.beq id' id with
    | false=>rfl
    | true=>exact (hid (Nat.eq_of_beq_eq_true hc)).elim
   simp only [Blk,hb,cond_false] at h2
   refine ⟨n0+1,.ex id',e1,lg1,fun n m hn hm=>?_,h2⟩
   obtain ⟨m,rfl⟩:∃ k,m=k+1:=⟨m-1,by omega⟩
   simp only [exec,h1 n m (by omega) (by omega),if_neg hid]
 | norm =>
  refine ⟨n0+1,_,e1,lg1,fun n m hn hm=>?_,h2⟩
  obtain ⟨m,rfl⟩:∃ k,m=k+1:=⟨m-1,by omega⟩
  simp only [exec,h1 n m (by omega) (by omega)]
 | ret =>
  refine ⟨n0+1,_,e1,lg1,fun n m hn hm=>?_,h2⟩
  obtain ⟨m,rfl⟩:∃ k,m=k+1:=⟨m-1,by omega⟩
  simp only [exec,h1 n m (by omega) (by omega)]
theorem zXz {t:Nat} {a b:Code} {c:Bool} (ht:e.get t = .bool c) (h1:c=true→W P H f nt a e lg K) (h2:c=false→W P H f nt b e lg K):W P H f nt (.cond (.tmp t) a b) e lg K:=by
 cases c with
 | true =>
  obtain ⟨n0,x,e1,lg1,h3,h4⟩:=h1 rfl
  refine ⟨n0+1,_,_,lg1,fun n m hn hm=>?_,h4⟩
  obtain ⟨m,rfl⟩:∃ k,m=k+1:=⟨m-1,by omega⟩
  simp only [exec,ht];exact h3 n m (by omega) (by omega)
 | false =>
  obtain ⟨n0,x,e1,lg1,h3,h4⟩:=h2 rfl
  refine ⟨n0+1,_,_,lg1,fun n m hn hm=>?_,h4⟩
  obtain ⟨m,rfl⟩:∃ k,m=k+1:=⟨m-1,by omega⟩
  simp only [exec,ht];exact h3 n m (by omega) (by omega)
theorem zXb {σ:Type} (Inv:σ→Prop) (I:σ→Env) (μ:σ→Nat) {b:Code} (h:∀ s,Inv s→W P H f nt b (I s) lg fun x e lg'=>match x with
   | .norm=>∃ s',Inv s'∧μ s'<μ s∧e.drop ((H f).loopDrop (zAN b))=I s'∧lg'=lg
   | x=>K x e lg'):∀ (n:Nat) (s:σ) (e:Env),μ s≤n→Inv s→e.drop ((H f).loopDrop (zAN b))=I s→W P H f nt (.loop b) e lg K:=by
 intro n
 induction n with
 | zero =>
  intro s e hs hi he
  obtain ⟨n0,x,e1,lg1,h1,h2⟩:=h s hi
  cases x with
  | norm=>obtain ⟨s',_,h3,_⟩:=h2;omega
  | ex id =>
   refine ⟨n0+1,_,e1,lg1,fun n m hn hm=>?_,h2⟩
   obtain ⟨m,rfl⟩:∃ k,m=k+1:=⟨m-1,by omega⟩
   simp only [exec,he,h1 n m (by omega) (by omega)]
  | ret =>
   refine ⟨n0+1,_,e1,lg1,fun n m hn hm=>?_,h2⟩
   obtain ⟨m,rfl⟩:∃ k,m=k+1:=⟨m-1,by omega⟩
   simp only [exec,he,h1 n m (by omega) (by omega)]
 | succ n ih =>
  intro s e hs hi he
  obtain ⟨n0,x,e1,lg1,h1,h2⟩:=h s hi
  cases x with
  | norm =>
   obtain ⟨s',h3,h4,h7,rfl⟩:=h2
   obtain ⟨n2,x,e2,lg2,h5,h6⟩:=ih s' e1 (by omega) h3 h7
   refine ⟨max n0 n2+1,x,e2,lg2,fun n m hn hm=>?_,h6⟩
   obtain ⟨m,rfl⟩:∃ k,m=k+1:=⟨m-1,by omega⟩
   simp only [exec,he,h1 n m (by omega) (by omega),h5 n m (by omega) (by omega)]
  | ex id =>
   refine ⟨n0+1,_,e1,lg1,fun n m hn hm=>?_,h2⟩
   obtain ⟨m,rfl⟩:∃ k,m=k+1:=⟨m-1,by omega⟩
   simp only [exec,he,h1 n m (by omega) (by omega)]
  | ret =>
   refine ⟨n0+1,_,e1,lg1,fun n m hn hm=>?_,h2⟩
   obtain ⟨m,rfl⟩:∃ k,m=k+1:=⟨m-1,by omega⟩
   simp only [exec,he,h1 n m (by omega) (by omega)]
theorem zAb {c:Code} (h:W P H f nt (cl c) e lg (zZx P H f nt (cr c) K)) (hc:zW9 c=true:=by kernel_rfl):W P H f nt c e lg K:=by rw [zTd hc];exact zX7 h
theorem zAl {c:Code} (h:K .ret e lg) (hc:zWu c=true:=by kernel_rfl):W P H f nt c e lg K:=by rw [zTn hc];exact zXX h
theorem zAi {c:Code} (h:K .norm e lg) (hc:zUv c=true:=by kernel_rfl):W P H f nt c e lg K:=by rw [zQ4 hc];exact zWE h
theorem zAv {c:Code} (n:Nat) (h:K (.ex n) (zWq ((H f).ices n) e) lg) (hc:zUN c=some n:=by kernel_rfl):W P H f nt c e lg K:=by rw [zSd hc];exact zXg h
theorem zVS {c:Code} (h:W P H f nt (cl c) e lg K) (hc:zRG c=true:=by kernel_rfl):W P H f nt c e lg K:=by rw [zPE hc];exact zVe h
theorem zAh {c:Code} (n:Nat) (h:W P H f nt (cl c) e lg (Blk n K)) (hc:zSi c=some n:=by kernel_rfl):W P H f nt c e lg K:=by rw [zPC hc];exact zVN h
def zEy (c:Code) (e:Env):Option Bool :=
 match zRn c with
 | some t=>match e.get t with
  | .bool b=>some b
  | _=>none
 | none=>none
theorem zD4 (b:Bool) {c:Code} (h1:b=true→W P H f nt (cl c) e lg K) (h2:b=false→W P H f nt (cr c) e lg K) (hc:zEy c e=some b:=by kernel_rfl):W P H f nt c e lg K:=by
 simp only [zEy] at hc
 split at hc
 ·rename_i t ht
  rw [zPJ ht]
  split at hc
  ·rename_i b' hb
   simp only [Option.some.injEq] at hc;subst hc
   exact zXz hb h1 h2
  ·cases hc
 ·cases hc
theorem zBT {c:Code} (h:W P H f nt (cl c) e lg K) (hc:zEy c e=some true:=by kernel_rfl):W P H f nt c e lg K:=zD4 true (fun _=>h) (fun h=>by cases h) hc
theorem zAU {c:Code} (h:W P H f nt (cr c) e lg K) (hc:zEy c e=some false:=by kernel_rfl):W P H f nt c e lg K:=zD4 false (fun h=>by cases h) (fun _=>h) hc
theorem zXm {σ:Type} {c:Code} (Inv:σ→Prop) (I:σ→Env) (μ:σ→Nat) (s:σ) (hi:Inv s) (h:∀ s,Inv s→W P H f nt (cl c) (I s) lg fun x e lg'=>match x with
   | .norm=>∃ s',Inv s'∧μ s'<μ s∧e.drop ((H f).loopDrop (zAN (cl c)))=I s'∧lg'=lg
   | x=>K x e lg') (hs:e.drop ((H f).loopDrop (zAN (cl c)))=I s:=by kernel_rfl) (hc:zPe c=true:=by kernel_rfl):W P H f nt c e lg K:=by
 rw [zMA hc];exact zXb Inv I μ h (μ s) s e (Nat.le_refl _) hi hs
def zM4 (o:Option Env):Env :=
 match o with
 | some e=>e
 | none=>[]
structure RS where
 dr:Option (List Nat×List Tok)
 e:Env
 lg:Option Log
def noY (lg:Option Log) (e:Env) (o:Oper):Bool :=
 match lg with
 | none=>true
 | some _=>(zB6 e o).isNone
def WS (P:Program) (H:zBf) (f:FuncId) (c:Code) (i:Nat) (s:RS) (R:Env→Option Log→Prop):Prop:=WR P H f (rid c) (zFn c) s.dr i s.e s.lg R
def zVE (P:Program) (H:zBf) (f:FuncId) (c:Code) (i:Nat) (s:RS):Option RS :=
 match zEj P H zHt (((H f).frzs (rid c)).contains i) (((H f).take (rid c)).contains i) (H f).nils (zFn c) (zDS c i) s.e s.lg with
 | some (e',lg',t)=>(zFl s.dr i (zDS c i) t).map fun dr=>⟨dr,e',lg'⟩
 | none=>none
def zKf (P:Program) (H:zBf) (f:FuncId) (c:Code):Nat→Nat→RS→Option RS
 | 0,_,s=>some s
 | m+1,i,s=>match zVE P H f c i s with
  | some s'=>zKf P H f c m (i+1) s'
  | none=>none
variable {i:Nat} {c:Code} {s s':RS} {R:Env→Option Log→Prop}
abbrev zWv (P:Program) (H:zBf) (f:FuncId) (c:Code) (i:Nat):PM:=opM P H (((H f).frzs (rid c)).contains i) (((H f).take (rid c)).contains i) (H f).nils (zDS c i)
def zXj (o:Option RS):RS :=
 match o with
 | some s=>s
 | none=>⟨none,[],none⟩
theorem zMh {o:Option RS} (h:o.isSome=true):o=some (zXj o):=by cases o<;>first | rfl | cases h
theorem zAa (h:WS P H f c 0 ⟨bif zVC c then some ([],[]) else none,e,lg⟩ (K .norm)) (hc:zXe c=true:=by kernel_rfl):W P H f nt c e lg K:=by
 obtain ⟨n0,e1,lg1,h1,h2⟩:=h
 rw [zUb hc]
 refine ⟨n0+1,_,_,lg1,fun n m hn hm=>?_,h2⟩
 obtain ⟨m,rfl⟩:∃ k,m=k+1:=⟨m-1,by omega⟩
 obtain ⟨e2,this,h3⟩:=h1 n (by omega)
 cases hd:zVC c with
 | true=>simp only [hd,cond_true,zV4,List.drop_zero] at this;simp only [exec,this,if_true,h3]
 | false=>simp only [hd,cond_false,zV4,List.drop_zero] at this;simp only [exec,this,← h3];rfl
theorem zWy (e1:Env) (h:R e1 s.lg) (he:(s.e.drop ((H f).drop (rid c))).norm=e1:=by kernel_rfl) (hi:Nat.ble (zFn c).size i=true:=by kernel_rfl):WS P H f c i s R:=by
 have hi:=Nat.le_of_ble_eq_true hi
 refine ⟨0,e1,s.lg,fun n _=>⟨s.e,?_,he⟩,h⟩
 rw [List.drop_eq_nil_of_le (by simpa using hi)]
 cases s.dr<;>rfl
theorem zAc (h:R ((s.e.drop ((H f).drop (rid c))).norm) s.lg) (hi:Nat.ble (zFn c).size i=true:=by kernel_rfl):WS P H f c i s R:=zWy _ h rfl hi
theorem zVw (h:Nat.blt i (zFn c).size=true):(zFn c)[i]? = some (zDS c i):=by
 have:i<(zFn c).size:=by simpa using h
 simp [zDS,this]
theorem zRE (h:Nat.blt i (zFn c).size=true):(zFn c).toList.drop i=zDS c i::(zFn c).toList.drop (i+1):=by
 have h1:(zFn c).toList[i]? = some (zDS c i):=by rw [Array.getElem?_toList];exact zVw h
 obtain ⟨h2,h3⟩:=List.getElem?_eq_some_iff.1 h1
 rw [← h3];exact (List.drop_eq_getElem_cons h2)
theorem zKa {orc:zAA} {fz tk nl:Bool} {ops:Array Oper} {o:Oper} {lg':Option Log} {t:Tok} (h:zEj P H orc fz tk nl ops o e lg=some (e',lg',t)):zCI P H orc fz tk nl ops o e lg=some (e',lg'):=by
 simp only [zEj] at h
 simp only [zCI]
 split at h
 ·obtain ⟨a,h1,h2⟩:=Option.map_eq_some_iff.1 h
  cases h2
  rw [zEc h1];rfl
 ·split at h
  ·obtain ⟨a,h1,h2⟩:=Option.map_eq_some_iff.1 h
   cases h2
   rw [h1]
  ·obtain ⟨a,h1,h2⟩:=Option.map_eq_some_iff.1 h
   cases h2
   rw [zEc h1];rfl
theorem zK7 {t:Tok} {dr':Option (List Nat×List Tok)} {lg':Option Log} (hi:Nat.blt i (zFn c).size=true) (hT:∃ n0,∀ n,n0≤n→zEj P H (zCP P H n) (((H f).frzs (rid c)).contains i) (((H f).take (rid c)).contains i) (H f).nils (zFn c) (zDS c i) s.e s.lg=some (e',lg',t))
  (hd:zFl s.dr i (zDS c i) t=some dr') (h:WS P H f c (i+1) ⟨dr',e',lg'⟩ R):WS P H f c i s R:=by
 obtain ⟨n0,hT⟩:=hT
 obtain ⟨n2,e2,lg2,h1,h2⟩:=h
 obtain ⟨dr,e,lg⟩:=s
 refine ⟨max n0 n2,e2,lg2,fun n hn=>?_,h2⟩
 have hs:=hT n (by omega)
 obtain ⟨e3,h1,h3⟩:=h1 n (by omega)
 refine ⟨e3,?_,h3⟩
 rw [zRE hi]
 cases dr with
 | none =>
  simp only [zFl,Option.some.injEq] at hd;subst hd
  simp only [zV4] at h1 ⊢
  simp only [zA7,zKa hs];exact h1
 | some d =>
  obtain ⟨acc,ts⟩:=d
  simp only [zFl] at hd
  rcases zBc hd with ⟨hc,hd⟩ | ⟨_,hd⟩
  ·simp only [Option.some.injEq] at hd;subst hd
   simp only [zV4] at h1 ⊢
   simp only [zCm,hs,hc,cond_true];exact h1
  ·cases hd
theorem zSb {orc:zAA} {fz tk nl:Bool} {ops:Array Oper} {o:Oper} {t:Tok} (hy:noY lg e o=true) (h:(zFG P H ops fz tk nl o).runT orc e=some (e',t)):zEj P H orc fz tk nl ops o e lg=some (e',lg,t):=by
 cases lg with
 | none=>simp only [zEj,h];rfl
 | some l =>
  simp only [noY,Option.isNone_iff_eq_none] at hy
  simp only [zEj,hy,h];rfl
theorem zWA {t:Tok} {dr':Option (List Nat×List Tok)} (hi:Nat.blt i (zFn c).size=true) (hT:∃ n0,∀ n,n0≤n→(zFG P H (zFn c) (((H f).frzs (rid c)).contains i) (((H f).take (rid c)).contains i) (H f).nils (zDS c i)).runT (zCP P H n) s.e=some (e',t))
  (hd:zFl s.dr i (zDS c i) t=some dr') (h:WS P H f c (i+1) ⟨dr',e',s.lg⟩ R) (hy:noY s.lg s.e (zDS c i)=true):WS P H f c i s R:=by
 obtain ⟨n0,hT⟩:=hT
 exact zK7 hi ⟨n0,fun n hn=>zSb hy (hT n hn)⟩ hd h
theorem zT9 (hi:Nat.blt i (zFn c).size=true) (hs:zVE P H f c i s=some s') (h:WS P H f c (i+1) s' R):WS P H f c i s R:=by
 simp only [zVE] at hs
 split at hs
 ·rename_i e1 lg1 t ht
  obtain ⟨dr,hd,rfl⟩:=Option.map_eq_some_iff.1 hs
  exact zK7 hi ⟨0,fun n _=>zLU ht⟩ hd h
 ·cases hs
theorem zLW:∀ (m:Nat) {i:Nat} {s s':RS},Nat.ble (i+m) (zFn c).size=true→zKf P H f c m i s=some s'→WS P H f c (i+m) s' R→WS P H f c i s R
 | 0,i,s,s',_,hs,h=>by simp only [zKf,Option.some.injEq] at hs;subst hs;exact h
 | m + 1,i,s,s',hi,hs,h=>by
  have gC:=Nat.le_of_ble_eq_true hi
  simp only [zKf] at hs
  split at hs
  ·rename_i s1 h1
   refine zT9 (by simp;omega) h1 (zLW m ?_ hs ?_)
   ·rw [show i+1+m=i+(m+1) by omega];exact hi
   ·rw [show i+1+m=i+(m+1) by omega];exact h
  ·cases hs
theorem zAd (m:Nat) (h:WS P H f c (i+m) (zXj (zKf P H f c m i s)) R) (hs:(zKf P H f c m i s).isSome=true:=by kernel_rfl) (hi:Nat.ble (i+m) (zFn c).size=true:=by kernel_rfl):WS P H f c i s R :=
 zLW m hi (zMh hs) h
def zLn (c:Code) (i:Nat) (e:Env):Bool :=
 match (zDS c i).guard with
 | none=>true
 | some (j,want)=>match ((zFn c)[j]?).bind (·.dst) with
  | some t=>match e.get t with
   | .bool b=>b==want
   | _=>false
  | none=>false
theorem zXw {e':Env} (hm:∃ n0,∀ n,n0≤n→(zWv P H f c i).run (zCP P H n) s.e=some e') (h:WS P H f c (i+1) ⟨none,e',s.lg⟩ R) (ji:s.dr=none:=by kernel_rfl) (hy:noY s.lg s.e (zDS c i)=true:=by kernel_rfl) (hg:zLn c i s.e=true:=by kernel_rfl) (hi:Nat.blt i (zFn c).size=true:=by kernel_rfl):WS P H f c i s R:=by
 obtain ⟨n0,hm⟩:=hm
 obtain ⟨n2,e2,lg2,h1,h2⟩:=h
 obtain ⟨dr,e,lg⟩:=s
 simp only at ji hg hm hy;subst ji
 refine ⟨max n0 n2,e2,lg2,fun n hn=>?_,h2⟩
 obtain ⟨e3,h1,h3⟩:=h1 n (by omega)
 refine ⟨e3,?_,h3⟩
 have hr:(zFG P H (zFn c) (((H f).frzs (rid c)).contains i) (((H f).take (rid c)).contains i) (H f).nils (zDS c i)).run (zCP P H n) e=some e':=by
  have hm:=hm n (by omega)
  revert hg
  simp only [zLn]
  cases qb:(zDS c i).guard with
  | none=>intro _;simp only [zFG,qb];exact hm
  | some w =>
   obtain ⟨j,want⟩:=w
   intro hg
   simp only at hg
   cases hj:((zFn c)[j]?).bind (·.dst) with
   | none=>rw [hj] at hg;cases hg
   | some u =>
    rw [hj] at hg;simp only at hg
    cases hv:e.get u<;>rw [hv] at hg<;>try (cases hg;done)
    have hb:=eq_of_beq hg
    simp only [zFG,qb,hj,PM.run,hv,hb,if_true]
    exact hm
 rw [zRE hi]
 simp only [zV4] at h1 ⊢
 have hs:zCI P H (zCP P H n) (((H f).frzs (rid c)).contains i) (((H f).take (rid c)).contains i) (H f).nils (zFn c) (zDS c i) e lg=some (e',lg):=by
  cases lg with
  | none=>simp only [zCI,hr,Option.map_some]
  | some l =>
   simp only [noY,Option.isNone_iff_eq_none] at hy
   simp only [zCI,hy,hr,Option.map_some]
 simp only [zA7,hs];exact h1
end
end Go.Eng
namespace Go.Eng
open Go
section
variable {P:Program} {H:zBf} {f:FuncId} {e e':Env} {i:Nat} {c:Code} {fz tk nl:Bool} {orc:zAA}
def zXN (e:Env):Operand→PV
 | .tmp t=>view t (e.get t)
 | .const v=>zEu v
 | .func f => .func f [] []
 | .global _ => .bad
theorem zPZ {α β:Type} {f:β→α→β} {b:β} {l:List α} {i:Nat} (h:i<l.length):(l.take (i+1)).foldl f b=f ((l.take i).foldl f b) l[i]:=by
 rw [List.take_add_one,List.getElem?_eq_getElem h]
 simp only [Option.toList,List.foldl_append,List.foldl]
def two (o:Oper) (r:PV):PM :=
 match o.op with
 | .binOp _ _ x y _=>opd x fun _=>opd y fun _=>put o.dst r
 | .indexAddr _ x y=>opd x fun _=>opd y fun _=>put o.dst r
 | .index _ x y=>opd x fun _=>opd y fun _=>put o.dst r
 | _ => .fail
theorem zW4 {a:Int} (h : -9223372036854775808≤a∧a<9223372036854775808):IntKind.i64.wrap a=a:=by
 rw [IntKind.wrap_i64];omega
end
end Go.Eng
namespace Go.Eng
open Go
section
variable [Yo] {P:Program} {H:zBf} {f:FuncId} {e e':Env} {i:Nat} {c:Code} {s:RS} {R:Env→Option Log→Prop} {fz tk nl:Bool} {orc:zAA}
def zZJ (e:Env) (p q:PV) (l:List (Nat×zAP)):Prop:=∀ (orc:zAA) (k:PV→List (Nat×zAP)→PM),(zQp p k).run orc e=(k q l).run orc e
inductive SeenAll (e:Env):List Nat→List PV→List Arg→Prop where
 | nil {ms}:SeenAll e ms [] []
 | ref {ms ps as p}:Nat.beq (ms.headD 0) 1=true→SeenAll e ms.tail ps as→SeenAll e ms (p::ps) ({p:=p,byref:=true}::as)
 | one {ms ps as p q l}:Nat.beq (ms.headD 0) 1=false→zZJ e p q l→SeenAll e ms.tail ps as→SeenAll e ms (p::ps) ({p:=q,shared:=l}::as)
theorem zKK {o o':zAA} (ho:∀ g a h r,o g a h=some r→o' g a h=some r):∀ {p:PM} {e e1:Env},p.run o e=some e1→p.run o' e=some e1:=by
 intro p
 induction p with
 | ok=>intro e e1 h;exact h
 | fail=>intro e e1 h;cases h
 | view s k ih=>intro e e1 h;exact ih _ h
 | get s k ih=>intro e e1 h;simp only [PM.run] at h ⊢;split at h<;>first | (cases h;done) | exact ih _ h
 | set s q k ih=>intro e e1 h;exact ih h
 | cells r pre i c n k ih=>intro e e1 h;simp only [PM.run] at h ⊢;split at h<;>first | (cases h;done) | exact ih _ _ h
 | deep r pre k ih=>intro e e1 h;simp only [PM.run] at h ⊢;split at h<;>first | (cases h;done) | exact ih _ h
 | wcells r pre i c qs k ih=>intro e e1 h;simp only [PM.run] at h ⊢;split at h<;>first | (cases h;done) | exact ih h
 | wnode r pre q k ih =>
  intro e e1 h
  simp only [PM.run] at h ⊢
  rcases zBc h with ⟨_,h⟩ | ⟨hl,h⟩
  ·cases h
  ·rw [hl];simp only [cond_false]
   split at h
   ·exact ih h
   ·cases h
 | kill r pre k ih=>intro e e1 h;exact ih h
 | frz r pre k ih=>intro e e1 h;simp only [PM.run] at h ⊢;split at h<;>first | (cases h;done) | exact ih h
 | killEx r pre k ih=>intro e e1 h;exact ih h
 | forget r k ih=>intro e e1 h;exact ih h
 | call f args hid k ih =>
  intro e e1 h
  simp only [PM.run] at h ⊢
  split at h
  ·rename_i v hZ hq
   rw [ho _ _ _ _ hq];exact ih _ _ h
  ·cases h
end
end Go.Eng
namespace Go.Eng
open Go
section
variable [Yo] {P:Program} {H:zBf} {f:FuncId} {e e':Env} {i:Nat} {c:Code} {s:RS} {R:Env→Option Log→Prop} {fz tk nl:Bool} {orc:zAA}
def zRk (c:Code) (i:Nat) (s:RS) (e':Env) (t:Tok):Option RS :=
 bif noY s.lg s.e (zDS c i) then match (match (zDS c i).guard with
  | none=>some t
  | some (j,want)=>match ((zFn c)[j]?).bind (·.dst) with
   | some u=>match s.e.get u with
    | .bool b=>bif b==want then some (Tok.join {rd:=[u]} t) else none
    | _=>none
   | none=>none) with
 | some t=>(zFl s.dr i (zDS c i) t).map fun dr=>⟨dr,e',s.lg⟩
 | none=>none else none
theorem zYg {m:Option (Env×Tok)} (hm:∃ n0,∀ n,n0≤n→(zWv P H f c i).runT (zCP P H n) s.e=m) (h:WS P H f c (i+1) (zXj (m.bind fun r=>zRk c i s r.1 r.2)) R) (hs:(m.bind fun r=>zRk c i s r.1 r.2).isSome=true:=by kernel_rfl) (hi:Nat.blt i (zFn c).size=true:=by kernel_rfl):WS P H f c i s R:=by
 cases m with
 | none=>cases hs
 | some r =>
 obtain ⟨e',t⟩:=r
 have yy:=zMh hs
 revert h
 generalize zXj ((some (e',t)).bind fun r=>zRk c i s r.1 r.2)=s' at yy
 intro h
 obtain ⟨n0,hm⟩:=hm
 simp only [Option.bind_some,zRk] at yy
 rcases zBc yy with ⟨hy,yy⟩ | ⟨_,yy⟩
 case inr=>cases yy
 split at yy
 ·rename_i t' ht
  obtain ⟨dr,hd,rfl⟩:=Option.map_eq_some_iff.1 yy
  refine zWA hi ⟨n0,fun n hn=>?_⟩ hd h hy
  revert ht
  cases hg:(zDS c i).guard with
  | none=>intro ht;simp only [Option.some.injEq] at ht;subst ht;simp only [zFG,hg];exact hm n hn
  | some w =>
   obtain ⟨j,want⟩:=w
   intro ht
   simp only at ht
   cases hj:((zFn c)[j]?).bind (·.dst) with
   | none=>rw [hj] at ht;cases ht
   | some u =>
    rw [hj] at ht;simp only at ht
    cases hv:s.e.get u<;>rw [hv] at ht<;>try (cases ht;done)
    rcases zBc ht with ⟨hb,ht⟩ | ⟨_,ht⟩
    ·have hb:=eq_of_beq hb
     simp only [Option.some.injEq] at ht;subst ht
     simp only [zFG,hg,hj,PM.runT,hv,hb,if_true]
     rw [hm n hn];rfl
    ·cases ht
 ·cases yy
theorem zNC {x:Operand} {p:PV} {k:PV→PM} (hx:zXN e x=p) (hp:p ≠ .bad):(opd x k).run orc e=(k p).run orc e:=by
 subst hx
 cases x with
 | tmp t=>rfl
 | const v=>rfl
 | func g=>rfl
 | global g=>exact (hp rfl).elim
theorem zNX {v:PV} (hh:v.heavy=false):v.cells.all (fun q => !q.heavy)=true:=by
 cases v<;>simp only [PV.cells,List.all_cons,List.all_nil,Bool.and_true,hh,Bool.not_false]
 rename_i cs
 simp only [PV.heavy] at hh
 refine List.all_eq_true.2 fun q hq=>?_
 obtain ⟨i,hi⟩:=List.getElem?_of_mem hq
 rw [zEs hh hi];rfl
theorem zNg:∀ {ps:List PV},ps.all (fun q=>q.ways.isEmpty)=true→zBp ps=[]
 | [],_=>rfl
 | p::ps,h=>by
  simp only [List.all_cons,Bool.and_eq_true,List.isEmpty_iff] at h
  simp only [zBp,h.1,List.nil_append,zNg h.2]
end
end Go.Eng
namespace Go.Eng
open Go
section
variable [Yo] {P:Program} {H:zBf} {f:FuncId} {e e':Env} {i:Nat} {c:Code} {s:RS} {R:Env→Option Log→Prop} {fz tk nl:Bool} {orc:zAA}
theorem zHG {x:Option Env} (h:x.isSome=true):x=some (zM4 x):=by cases x<;>first | rfl | cases h
theorem zTr {α:Type} {xs ys:List α} {y:α} {j:Nat} (h:j+(ys.length+1)≤xs.length):(xs.set j y).take (j+1)++ys++(xs.set j y).drop (j+1+ys.length)=xs.take j++(y::ys)++xs.drop (j+(ys.length+1)):=by
 obtain ⟨A, x, B, rfl, rfl⟩ : ∃ A x B, xs = A ++ x :: B ∧ A.length = j := ⟨xs.take j, xs[j]'(by omega), xs.drop (j + 1), by rw [← List.drop_eq_getElem_cons (by omega), List.take_append_drop], by simp; omega⟩
 have h1:(A++x::B).set A.length y=A++y::B:=by simp
 have h2:(A++y::B).take (A.length+1)=A++[y]:=by rw [List.take_append,List.take_of_length_le (by omega)];simp
 have h3:(A++y::B).drop (A.length+1+ys.length)=B.drop ys.length:=by
  rw [List.drop_append,List.drop_eq_nil_of_le (by omega)]
  simp [show A.length+1+ys.length-A.length=ys.length+1 by omega]
 have h4:(A++x::B).drop (A.length+(ys.length+1))=B.drop ys.length:=by
  rw [List.drop_append,List.drop_eq_nil_of_le (by omega)]
  simp
 have h5:(A++x::B).take A.length=A:=by simp
 rw [h1,h2,h3,h4,h5];simp
end
end Go.Eng
namespace Go.Eng
open Go
def Srt (e:Env):Prop:=e.Pairwise (fun a b=>a.1<b.1)∧∀ x∈e,x.2 ≠ .bad
theorem zL4:∀ {e:Env} {k:Nat},(∀ x∈e,k<x.1)→e.get k = .bad
 | [],_,_=>rfl
 | (k',v)::e,k,h=>by
  have h1:k<k':=h (k',v) (by simp)
  have:Nat.beq k' k=false:=by
   cases hb:Nat.beq k' k with
   | false=>rfl
   | true=>have:=Nat.eq_of_beq_eq_true hb;omega
  simp only [Env.get,this,cond_false]
  exact zL4 fun x hx=>h x (by simp [hx])
theorem Srt.eq:∀ {e e':Env},Srt e→Srt e'→(∀ s,e.get s=e'.get s)→e=e'
 | [],[],_,_,_=>rfl
 | [],(k,v)::e',_,h2,h=>by
  have:=h k
  simp only [Env.get,Nat.beq_refl,cond_true] at this
  exact (h2.2 (k,v) (by simp) this.symm).elim
 | (k,v)::e,[],h1,_,h=>by
  have:=h k
  simp only [Env.get,Nat.beq_refl,cond_true] at this
  exact (h1.2 (k,v) (by simp) this).elim
 | (k, v)::e,(k',v')::e',h1,h2,h=>by
  obtain ⟨p1,q1⟩:=h1
  obtain ⟨p2,q2⟩:=h2
  obtain ⟨a1,b1⟩:=List.pairwise_cons.1 p1
  obtain ⟨a2,b2⟩:=List.pairwise_cons.1 p2
  have hk:k=k':=by
   rcases Nat.lt_trichotomy k k' with yJ | uc | yJ
   ·have:=h k
    rw [zL4 (e:=(k',v')::e') (k:=k) (fun x hx=>by
     rcases List.mem_cons.1 hx with rfl | hx
     ·exact yJ
     ·exact Nat.lt_trans yJ (a2 x hx))] at this
    simp only [Env.get,Nat.beq_refl,cond_true] at this
    exact (q1 (k,v) (by simp) this).elim
   ·exact uc
   ·have:=h k'
    rw [zL4 (e:=(k,v)::e) (k:=k') (fun x hx=>by
     rcases List.mem_cons.1 hx with rfl | hx
     ·exact yJ
     ·exact Nat.lt_trans yJ (a1 x hx))] at this
    simp only [Env.get,Nat.beq_refl,cond_true] at this
    exact (q2 (k',v') (by simp) this.symm).elim
  subst hk
  have hv:=h k
  simp only [Env.get,Nat.beq_refl,cond_true] at hv
  subst hv
  congr 1
  refine Srt.eq ⟨b1,fun x hx=>q1 x (by simp [hx])⟩ ⟨b2,fun x hx=>q2 x (by simp [hx])⟩ fun s=>?_
  have hs:=h s
  simp only [Env.get] at hs
  cases hb:Nat.beq k s with
  | false=>rw [hb] at hs;exact hs
  | true =>
   have:=Nat.eq_of_beq_eq_true hb;subst this
   rw [zL4 a1,zL4 a2]
theorem zLo:∀ {e:Env} {k:Nat} {v:PV} {x:Nat×PV},x∈e.set k v→x=(k,v)∨x∈e
 | [],k,v,x,h=>by simp only [Env.set,List.mem_singleton] at h;exact .inl h
 | (k',v')::e,k,v,x,h=>by
  simp only [Env.set] at h
  cases hb:Nat.beq k' k with
  | true=>rw [hb] at h;simp only [cond_true,List.mem_cons] at h;rcases h with h | h<;>simp [h]
  | false =>
   rw [hb] at h;simp only [cond_false] at h
   cases hl:Nat.ble k k' with
   | true=>rw [hl] at h;simp only [cond_true,List.mem_cons] at h;rcases h with h | h | h<;>simp [h]
   | false =>
    rw [hl] at h;simp only [cond_false,List.mem_cons] at h
    rcases h with h | h
    ·simp [h]
    ·rcases zLo h with h | h<;>simp [h]
theorem Srt.set:∀ {e:Env} {k:Nat} {v:PV},Srt e→v ≠ .bad→Srt (e.set k v)
 | [],k,v,_,hv=>⟨by simp [Env.set],by simp [Env.set,hv]⟩
 | (k',v')::e,k,v,h,hv=>by
  obtain ⟨p,q⟩:=h
  obtain ⟨a,b⟩:=List.pairwise_cons.1 p
  refine ⟨?_,fun x hx=>by
   rcases zLo hx with rfl | hx
   ·exact hv
   ·exact q x hx⟩
  simp only [Env.set]
  cases hb:Nat.beq k' k with
  | true =>
   have:=Nat.eq_of_beq_eq_true hb;subst this
   exact List.pairwise_cons.2 ⟨a,b⟩
  | false =>
   have hI:k'≠k:=by intro h;subst h;rw [Nat.beq_refl] at hb;cases hb
   cases hl:Nat.ble k k' with
   | true =>
    have:=Nat.le_of_ble_eq_true hl
    exact List.pairwise_cons.2 ⟨fun x hx=>by
     rcases List.mem_cons.1 hx with rfl | hx
     ·show k<k';omega
     ·have:k'<x.1:=a x hx
      show k<x.1;omega,p⟩
   | false =>
    have yJ:k'<k:=by
     have:¬ k≤k':=fun hh=>by rw [← Nat.ble_eq] at hh;rw [hh] at hl;cases hl
     omega
    refine List.pairwise_cons.2 ⟨fun x hx=>?_,(Srt.set ⟨b,fun x hx=>q x (by simp [hx])⟩ hv).1⟩
    rcases zLo hx with rfl | hx
    ·exact yJ
    ·exact a x hx
theorem Srt.norm:∀ (e:Env),Srt e.norm
 | []=>⟨by simp [Env.norm],by simp [Env.norm]⟩
 | (k,v)::e=>by
  have ih:=Srt.norm e
  simp only [Env.norm,Env.put]
  split
  ·exact ⟨ih.1.filter _,fun x hx=>ih.2 x (List.mem_filter.1 hx).1⟩
  ·rename_i hv;exact ih.set (fun h=>hv h)
theorem zWc {e e':Env} (h:∀ s,e.get s=e'.get s):e.norm=e'.norm:=(Srt.norm e).eq (Srt.norm e') fun s=>by rw [zId,zId];exact h s
section
variable [Yo] {P:Program} {H:zBf} {f:FuncId} {i:Nat} {c:Code} {R:Env→Option Log→Prop}
theorem zFR {o:zAA} {fzs tks:List Nat} {nl:Bool} {ops:Array Oper}:∀ {l:List Oper} {i:Nat} {e g:Env} {r:Env×Option Log},g.get=e.get→zA7 P H o fzs tks nl ops l i e none=some r→∃ g1,zA7 P H o fzs tks nl ops l i g none=some (g1,r.2)∧g1.get=r.1.get
 | [],_,e,g,r,he,h=>by simp only [zA7,Option.some.injEq] at h;subst h;exact ⟨g,rfl,he⟩
 | x :: l,i,e,g,r,he,h=>by
  simp only [zA7,zCI] at h ⊢
  cases hs:(zFG P H ops (fzs.contains i) (tks.contains i) nl x).run o e with
  | none=>rw [hs] at h;cases h
  | some e1 =>
   rw [hs] at h
   obtain ⟨g1,h1,h2⟩:=zFq he hs
   rw [h1]
   exact zFR h2 h
theorem zUL {e e':Env} (h:WS P H f c i ⟨none,e',none⟩ R) (he:∀ s,e.get s=e'.get s):WS P H f c i ⟨none,e,none⟩ R:=by
 obtain ⟨n0,eN,lg',h1,h2⟩:=h
 refine ⟨n0,eN,lg',fun n hn=>?_,h2⟩
 obtain ⟨e1,h3,h4⟩:=h1 n hn
 simp only [zV4] at h3
 obtain ⟨g1,h5,h6⟩:=zFR (funext he) h3
 refine ⟨g1,h5,?_⟩
 rw [← h4]
 refine zWc fun s=>?_
 rw [Env.get_drop,Env.get_drop,h6]
def zUH (P:Program) (e:Env) (o:Oper):Option (Nat×PV×PV) :=
 match o.op with
 | .call c=>match c.callee,c.args.toList,c.argTypes.toList with
  | .builtin .copy,[x,y],t::_=>match (zBL P t).bind (szT P) with
   | some s=>some (s,zXN e x,zXN e y)
   | none=>none
  | _,_,_=>none
 | _=>none
def zWQ (s:Nat) (x y:PV):Prop:=y.plain=true∧y.cells.length=s∧y.heavy=false∧y.cells.all (fun q=>q.ways.isEmpty)=true∧y.cells.length≤x.cells.length∧zAy x 0 y.cells=y
end
end Go.Eng
namespace Go.Eng
open Go
def Le (o o':zAA):Prop:=∀ g a h r,o g a h=some r→o' g a h=some r
theorem zR0 {o0 o:zAA} (ho:Le o0 o):∀ {p:PM} {e:Env} {r:Env×Tok},p.runT o0 e=some r→p.runT o e=some r:=by
 intro p
 induction p with
 | ok=>intro e e1 h;exact h
 | fail=>intro e e1 h;cases h
 | view s k ih=>intro e e1 h;exact zAn h fun a h=>ih _ h
 | get s k ih=>intro e e1 h;simp only [PM.runT] at h ⊢;split at h<;>first | (cases h;done) | exact zAn h fun a h=>ih _ h
 | set s q k ih=>intro e e1 h;exact zAn h fun a h=>ih h
 | cells r pre i c n k ih=>intro e e1 h;simp only [PM.runT] at h ⊢;split at h<;>first | (cases h;done) | exact zAn h fun a h=>ih _ _ h
 | deep r pre k ih=>intro e e1 h;simp only [PM.runT] at h ⊢;split at h<;>first | (cases h;done) | exact zAn h fun a h=>ih _ h
 | wcells r pre i c qs k ih=>intro e e1 h;simp only [PM.runT] at h ⊢;split at h<;>first | (cases h;done) | exact zAn h fun a h=>ih h
 | wnode r pre q k ih =>
  intro e e1 h
  simp only [PM.runT] at h ⊢
  rcases zBc h with ⟨_,h⟩ | ⟨hl,h⟩
  ·cases h
  ·rw [hl];simp only [cond_false]
   split at h
   ·exact zAn h fun a h=>ih h
   ·cases h
 | kill r pre k ih=>intro e e1 h;exact zAn h fun a h=>ih h
 | frz r pre k ih=>intro e e1 h;simp only [PM.runT] at h ⊢;split at h<;>first | (cases h;done) | exact zAn h fun a h=>ih h
 | killEx r pre k ih=>intro e e1 h;exact zAn h fun a h=>ih h
 | forget r k ih=>intro e e1 h;exact zAn h fun a h=>ih h
 | call f args hid k ih =>
  intro e e1 h
  simp only [PM.runT] at h ⊢
  split at h
  ·rename_i v hZ hq
   rw [ho _ _ _ _ hq];exact ih _ _ h
  ·cases h
section
variable [Yo] {P:Program} {H:zBf} {o0 o:zAA} (ho:Le o0 o) {fz tk nl:Bool} {fzs tks:List Nat} {ops:Array Oper} {nt:Nat} {hh:FHint} {yo0 yo:zCF} {al:All}
include ho in
theorem zIO {x:Oper} {h0:Nat} {args:List PV} {l:Log} {e:Env} {r:Env×Option Log} (h:zBK o0 ops x h0 args l e=some r):zBK o ops x h0 args l e=some r:=by
 simp only [zBK] at h ⊢
 split at h
 ·rcases zBc h with ⟨hc,h⟩ | ⟨_,h⟩
  ·rw [hc];simp only [cond_true]
   refine zAn h fun a h=>?_
   rcases zBc h with ⟨hk,h⟩ | ⟨hk,h⟩<;>rw [hk]
   ·exact zKK ho h
   ·exact zKK ho h
  ·cases h
 ·exact zAn h fun a h=>zKK ho h
 ·cases h
include ho in
theorem zUi {x:Oper} {e:Env} {lg:Option Log} {r:Env×Option Log} (h:zCI P H o0 fz tk nl ops x e lg=some r):zCI P H o fz tk nl ops x e lg=some r:=by
 simp only [zCI] at h ⊢
 split at h
 ·exact zAn h fun a h=>zKK ho h
 ·split at h
  ·exact zIO ho h
  ·exact zAn h fun a h=>zKK ho h
include ho in
theorem zS1 {x:Oper} {e:Env} {lg:Option Log} {r:Env×Option Log×Tok} (h:zEj P H o0 fz tk nl ops x e lg=some r):zEj P H o fz tk nl ops x e lg=some r:=by
 simp only [zEj] at h ⊢
 split at h
 ·exact zAn h fun a h=>zR0 ho h
 ·split at h
  ·exact zAn h fun a h=>zIO ho h
  ·exact zAn h fun a h=>zR0 ho h
include ho in
theorem zH1:∀ {l:List Oper} {i:Nat} {e:Env} {lg:Option Log} {r:Env×Option Log},zA7 P H o0 fzs tks nl ops l i e lg=some r→zA7 P H o fzs tks nl ops l i e lg=some r
 | [],_,_,_,_,h=>h
 | x::l,i,e,lg,r,h=>by
  simp only [zA7] at h ⊢
  cases hs:zCI P H o0 (fzs.contains i) (tks.contains i) nl ops x e lg with
  | none=>rw [hs] at h;cases h
  | some q=>rw [hs] at h;rw [zUi ho hs];exact zH1 h
include ho in
theorem zKz:∀ {l:List Oper} {i:Nat} {acc:List Nat} {ts:List Tok} {e:Env} {lg:Option Log} {r:Env×Option Log},zCm P H o0 fzs tks nl ops l i acc ts e lg=some r→zCm P H o fzs tks nl ops l i acc ts e lg=some r
 | [],_,_,_,_,_,_,h=>h
 | x :: l,i,acc,ts,e,lg,r,h=>by
  simp only [zCm] at h ⊢
  cases hs:zEj P H o0 (fzs.contains i) (tks.contains i) nl ops x e lg with
  | none=>rw [hs] at h;cases h
  | some q =>
   rw [hs] at h;rw [zS1 ho hs]
   simp only at h ⊢
   rcases zBc h with ⟨hc,h⟩ | ⟨_,h⟩
   ·rw [hc];exact zKz h
   ·cases h
include ho in
theorem zRC:∀ {m:Nat} {c:Code} {e:Env} {lg:Option Log} {r:X×Env×Option Log},exec P H o0 yo0 zHq nt hh m c e lg=some r→∀ {m':Nat},m≤m'→exec P H o yo al nt hh m' c e lg=some r
 | 0,_,_,_,_,h,_,_=>by cases h
 | m + 1,c,e,lg,r,h,m',hm=>by
  obtain ⟨m',rfl⟩:∃ k,m'=k+1:=⟨m'-1,by omega⟩
  have ih:∀ {c:Code} {e:Env} {lg:Option Log} {r:X×Env×Option Log},exec P H o0 yo0 zHq nt hh m c e lg=some r→exec P H o yo al nt hh m' c e lg=some r:=fun h=>zRC h (by omega)
  cases c with
  | region id ops draw =>
   simp only [exec] at h ⊢
   split at h
   ·rename_i e1 lg1 h1
    have:(if draw=true then zCm P H o (hh.frzs id) (hh.take id) hh.nils ops ops.toList 0 [] [] e lg else zA7 P H o (hh.frzs id) (hh.take id) hh.nils ops ops.toList 0 e lg)=some (e1,lg1):=by
     cases draw with
     | true=>exact zKz ho h1
     | false=>exact zH1 ho h1
    rw [this];exact h
   ·cases h
  | seq a b =>
   simp only [exec] at h ⊢
   cases h1:exec P H o0 yo0 zHq nt hh m a e lg with
   | none=>rw [h1] at h;cases h
   | some q =>
    rw [h1] at h;rw [ih h1]
    obtain ⟨x,e1,lg1⟩:=q
    cases x with
    | norm=>exact ih h
    | ex id=>exact h
    | ret=>exact h
  | cond c a b =>
   cases c with
   | tmp t =>
    simp only [exec] at h ⊢
    revert h
    cases e.get t with
    | bool v=>intro h;cases v<;>exact ih h
    | _=>intro h;cases h
   | const v =>
    simp only [exec] at h ⊢
    revert h
    cases v with
    | bool v=>intro h;cases v<;>exact ih h
    | _=>intro h;cases h
   | _=>cases h
  | block id b =>
   simp only [exec] at h ⊢
   cases h1:exec P H o0 yo0 zHq nt hh m b e lg with
   | none=>rw [h1] at h;cases h
   | some q =>
    rw [h1] at h;rw [ih h1];exact h
  | loop b =>
   simp only [exec] at h ⊢
   cases h1:exec P H o0 yo0 zHq nt hh m b (e.drop (hh.loopDrop (zAN b))) lg with
   | none=>rw [h1] at h;cases h
   | some q =>
    rw [h1] at h;rw [ih h1]
    obtain ⟨x,e1,lg1⟩:=q
    cases x with
    | norm=>exact ih h
    | ex id=>exact h
    | ret=>exact h
  | scope b=>exact ih h
  | rangeFunc x ps ca cb =>
   cases x with
   | tmp t =>
    simp only [exec] at h
    cases lg with
    | none =>
     simp only at h
     obtain ⟨q,h1,_⟩:=Option.map_eq_some_iff.1 h
     simp only [zG0] at h1
     split at h1
     ·cases h1
     ·cases h1
    | some _=>cases h
   | _=>cases h
  | skip=>exact h
  | exit id=>exact h
  | ret=>exact h
  | label l=>exact h
  | _=>cases h
end
section
variable [Yo] {P:Program} {H:zBf}
theorem zT7 {o0 o:zAA} (ho:Le o0 o) {yo0 yo:zCF} {al:All} {n n':Nat} (hn:n≤n') {f:FuncId} {args hid:List PV} {r:PV×List PV} (h:zJI P H o0 yo0 zHq n f args hid=some r):zJI P H o yo al n' f args hid=some r:=by
 simp only [zJI] at h ⊢
 cases hf:P.funcs[f]? with
 | none=>rw [hf] at h;cases h
 | some fn =>
  rw [hf] at h
  simp only at h ⊢
  by_cases hi:(H f).intr≠0
  ·rw [if_pos hi] at h ⊢;exact h
  ·rw [if_neg hi] at h ⊢
   cases hb:fn.body with
   | none=>rw [hb] at h;cases h
   | some body =>
    rw [hb] at h
    simp only [zI5] at h ⊢
    rcases zBc h with ⟨hc,h⟩ | ⟨_,h⟩
    ·rw [hc];simp only [cond_true]
     cases hx:exec P H o0 yo0 zHq fn.ntmps (H f) n body (zA4 args hid) none with
     | none=>rw [hx] at h;cases h
     | some q =>
      rw [hx] at h;rw [zRC ho hx hn]
      obtain ⟨x,e1,lg⟩:=q
      cases x<;>cases lg<;>simp only at h ⊢ <;> try (cases h;done)
      all_goals
       cases hr:(zCB P (H f).frz 0 fn.results.toList).run o0 e1 with
       | none=>rw [hr] at h;cases h
       | some e2=>rw [hr] at h;rw [zKK ho hr];exact h
    ·cases h
abbrev zWK (P:Program) (H:zBf) (n:Nat):zAA:=(zRg P H zHq n).1
theorem zOq:∀ (n n':Nat),n≤n'→Le (zWK P H n) (zCP P H n')
 | 0,_,_=>fun g a h r hh=>by cases hh
 | n+1,n',hn=>by
  obtain ⟨k,rfl⟩:∃ k,n'=k+1:=⟨n'-1,by omega⟩
  intro g a h r hh
  exact zT7 (zOq n k (by omega)) (by omega) hh
theorem zDi.closed {f:FuncId} {args hid hZ:List PV} {v:PV} (n:Nat) (h:zWK P H n f args hid=some (v,hZ):=by kernel_rfl):zDi P H f args hid v hZ:=⟨n,fun n' hn=>zOq n n' hn _ _ _ _ h⟩
end
end Go.Eng
namespace Go.Eng
open Go
section
variable {P:Program} {H:zBf}
theorem zRr (zE7:P.follows .mixedOrders=true) (hnm:zEF P) (zMF:Fit P H) (hin:zEU P H) {f:FuncId} {args:List PV} (hg:@zDi (yo1 P H) P H f args [] (.bool true) []) {w:World} {Φ:Nat→Prop} {vs:Array Value} (hΦ:∀ b,Φ b→b<w.heap.size) (hr:zAX w Φ zB3 args vs.toList []) (uY:args.length≤zAm) :
  Calls P f vs w fun e w'=>e = .returned (.bool true)∧w.heap.size≤w'.heap.size∧(∀ b,b<w.heap.size→w'.heap[b]? = w.heap[b]?)∧w'.os=w.os∧w'.tape=w.tape∧w'.output=w.output:=by
 have wT:zAe=1000000000:=rfl
 have hhh:zAm=50000000:=rfl
 obtain ⟨n0,hg⟩:=hg
 obtain ⟨_,hm⟩:=@zE4 P H (yo1 P H) zE7 hnm zMF hin (zPS zE7 hnm zMF hin) n0 f args [] (.bool true) [] (hg n0 (Nat.le_refl _))
 obtain ⟨hX,jl⟩:=zKW hr
 have hvz:vs.size=args.length:=by rw [← hX];simp
 have p2:Conf w (fun b=>∃ s,b∈((fun _=>[]):Nat→List Nat) s) Φ w Φ (fun s=>(vs[s]?).getD undef) (fun s=>(zA4 args []).get s) (fun _=>[]):=by
  refine ⟨fun s=>?_,fun _=>List.nodup_nil,fun _ _ _ _ h=>(by cases h),fun _ _ h=>(by cases h),fun b hb=>⟨hΦ b hb,.inl hb⟩,fun _ h=>h,Nat.le_refl _,fun _ _ _=>rfl,rfl,rfl,rfl⟩
  show Rep _ _ _ ((zA4 args []).get s) _ _
  rw [zC4 (by omega)]
  by_cases h1:s<args.length
  ·rw [if_pos h1]
   obtain ⟨v,uq,ke⟩:=jl s args[s] (List.getElem?_eq_getElem h1)
   have:vs[s]? = some v:=by rw [← Array.getElem?_toList];exact uq
   rw [this]
   simp only [List.getD,List.getElem?_eq_getElem h1,Option.getD_some]
   exact ke.mono (fun b hb=>⟨hb,rfl⟩) (fun _ _ _ h=>h.elim) (by simp)
  ·rw [if_neg h1,if_neg (by simp only [List.length_nil];omega)]
   rfl
 have hc:=hm w Φ (fun s=>(vs[s]?).getD undef) (fun s=>(zA4 args []).get s) (fun _=>[]) vs (fun _ _=>rfl) (fun s hs=>by
   rw [zC4 (by omega),if_neg (by omega),if_neg (by simp only [List.length_nil];omega)]) p2 hvz (fun j hj=>by rw [Array.getElem?_eq_getElem (by omega)];rfl) (fun s hs _=>by rw [Array.getElem?_eq_none (by omega)];rfl)
 refine hc.mono fun e w' ⟨u,Φ',rv',E',L',he,C,_,_,uw⟩=>?_
 obtain ⟨h1,h2⟩:=uw.one (fun ps h=>by cases h)
 have hO:=C.rep zAw
 rw [h1] at hO
 have hu:u = .bool true:=by rw [← h2];exact hO.1
 refine ⟨by rw [he,hu],C.size,fun b hb=>C.kept b hb (fun ⟨s,hs⟩=>by cases hs),C.os,C.tape,C.output⟩
end
end Go.Eng
namespace Go.Eng
open Go
section
variable [Yo] {P:Program} {H:zBf} {f:FuncId} {nt:Nat} {e e':Env} {lg:Option Log} {K:X→Env→Option Log→Prop} {i:Nat} {c:Code} {s:RS} {R:Env→Option Log→Prop} {fz tk nl:Bool} {orc:zAA}
theorem zBZ (p:Prop) [Decidable p] (h1:p→W P H f nt (cl c) e lg K) (h2:¬p→W P H f nt (cr c) e lg K) (hc:zEy c e=some (decide p):=by kernel_rfl):W P H f nt c e lg K :=
 zD4 (decide p) (fun h=>h1 (of_decide_eq_true h)) (fun h=>h2 (of_decide_eq_false h)) hc
theorem zAL (p:Prop) [Decidable p] (hp:p) (h1:W P H f nt (cl c) e lg K) (hc:zEy c e=some (decide p):=by kernel_rfl):W P H f nt c e lg K :=
 zD4 (decide p) (fun _=>h1) (fun h=>absurd hp (of_decide_eq_false h)) hc
theorem zAO (p:Prop) [Decidable p] (hp:¬p) (h2:W P H f nt (cr c) e lg K) (hc:zEy c e=some (decide p):=by kernel_rfl):W P H f nt c e lg K :=
 zD4 (decide p) (fun h=>absurd (of_decide_eq_true h) hp) (fun _=>h2) hc
theorem zDg (p:Prop) [Decidable p] (h1:¬p→W P H f nt (cl c) e lg K) (h2:p→W P H f nt (cr c) e lg K) (hc:zEy c e=some (!decide p):=by kernel_rfl):W P H f nt c e lg K :=
 zD4 (!decide p) (fun h=>h1 (by simpa using h)) (fun h=>h2 (by simpa using h)) hc
theorem zCj (p:Prop) [Decidable p] (hp:¬p) (h1:W P H f nt (cl c) e lg K) (hc:zEy c e=some (!decide p):=by kernel_rfl):W P H f nt c e lg K :=
 zDg p (fun _=>h1) (fun h=>absurd h hp) hc
theorem zEe (p:Prop) [Decidable p] (hp:p) (h1:W P H f nt (cr c) e lg K) (hc:zEy c e=some (!decide p):=by kernel_rfl):W P H f nt c e lg K :=
 zDg p (fun h=>absurd hp h) (fun _=>h1) hc
theorem zDV (t:Nat) (b:Bool) (h1:b=true→WS P H f c i ⟨s.dr,s.e.set t (.bool true),s.lg⟩ R) (h2:b=false→WS P H f c i ⟨s.dr,s.e.set t (.bool false),s.lg⟩ R) (hb:s.e.set t (.bool b)=s.e:=by kernel_rfl):WS P H f c i s R:=by
 obtain ⟨dr,e,lg⟩:=s
 simp only at h1 h2 hb
 rw [← hb]
 cases b with
 | true=>exact h1 rfl
 | false=>exact h2 rfl
theorem zEw (t:Nat) (p:Prop) [Decidable p] (h1:p→WS P H f c i ⟨s.dr,s.e.set t (.bool true),s.lg⟩ R) (h2:¬p→WS P H f c i ⟨s.dr,s.e.set t (.bool false),s.lg⟩ R) (hb:s.e.set t (.bool (decide p))=s.e:=by kernel_rfl):WS P H f c i s R :=
 zDV t (decide p) (fun h=>h1 (of_decide_eq_true h)) (fun h=>h2 (of_decide_eq_false h)) hb
theorem zI7 (t:Nat) (p:Prop) [Decidable p] (hp:p) (h1:WS P H f c i ⟨s.dr,s.e.set t (.bool true),s.lg⟩ R) (hb:s.e.set t (.bool (decide p))=s.e:=by kernel_rfl):WS P H f c i s R :=
 zEw t p (fun _=>h1) (fun h=>absurd hp h) hb
theorem zUK (t:Nat) (p:Prop) [Decidable p] (hp:¬p) (h1:WS P H f c i ⟨s.dr,s.e.set t (.bool false),s.lg⟩ R) (hb:s.e.set t (.bool (decide p))=s.e:=by kernel_rfl):WS P H f c i s R :=
 zEw t p (fun h=>absurd h hp) (fun _=>h1) hb
theorem zUq (t:Nat) (p:Prop) [Decidable p] (h1:¬p→WS P H f c i ⟨s.dr,s.e.set t (.bool true),s.lg⟩ R) (h2:p→WS P H f c i ⟨s.dr,s.e.set t (.bool false),s.lg⟩ R) (hb:s.e.set t (.bool (!decide p))=s.e:=by kernel_rfl):WS P H f c i s R :=
 zDV t (!decide p) (fun h=>h1 (by simpa using h)) (fun h=>h2 (by simpa using h)) hb
theorem zNA (t:Nat) (p:Prop) [Decidable p] (hp:p) (h1:WS P H f c i ⟨s.dr,s.e.set t (.bool false),s.lg⟩ R) (hb:s.e.set t (.bool (!decide p))=s.e:=by kernel_rfl):WS P H f c i s R :=
 zUq t p (fun h=>absurd hp h) (fun _=>h1) hb
theorem get_map {α β:Type} {g:α→β} {l:List α} {i:Nat} {d:α} (h:i<l.length):(l.map g)[i]? = some (g (l.getD i d)):=by
 simp [List.getD,List.getElem?_eq_getElem h]
def zY0 (e:Env) (p q:PV) (l:List (Nat×zAP)) (t:Tok):Prop:=∀ (orc:zAA) (k:PV→List (Nat×zAP)→PM),(zQp p k).runT orc e=((k q l).runT orc e).map fun y=>(y.1,Tok.join t y.2)
inductive SeenAllT (e:Env):List Nat→List PV→List Arg→List Tok→Prop where
 | nil {ms}:SeenAllT e ms [] [] []
 | ref {ms ps as ts p}:SeenAllT e ms.tail ps as ts→(hb:Nat.beq (ms.headD 0) 1=true:=by kernel_rfl)→SeenAllT e ms (p::ps) ({p:=p,byref:=true}::as) ts
 | one {ms ps as ts p q l t}:zY0 e p q l t→SeenAllT e ms.tail ps as ts→(hb:Nat.beq (ms.headD 0) 1=false:=by kernel_rfl)→SeenAllT e ms (p::ps) ({p:=q,shared:=l}::as) (t::ts)
def zNj:List (Nat×PV)→Env→Env
 | [],e=>e
 | (k,v)::l,e=>zNj l (e.set k v)
theorem zAo {σ:Type} {c:Code} (Inv:σ→Prop) (upd:σ→List (Nat×PV)) (μ:σ→Nat) (s:σ) (hi:Inv s) (h:∀ s,Inv s→W P H f nt (cl c) (zNj (upd s) (e.drop ((H f).loopDrop (zAN (cl c))))) lg fun x e' lg'=>match x with
   | .norm=>∃ s',Inv s'∧μ s'<μ s∧e'.drop ((H f).loopDrop (zAN (cl c)))=zNj (upd s') (e.drop ((H f).loopDrop (zAN (cl c))))∧lg'=lg
   | x=>K x e' lg') (hs:e.drop ((H f).loopDrop (zAN (cl c)))=zNj (upd s) (e.drop ((H f).loopDrop (zAN (cl c)))):=by kernel_rfl) (hc:zPe c=true:=by kernel_rfl):W P H f nt c e lg K :=
 zXm Inv (fun s=>zNj (upd s) (e.drop ((H f).loopDrop (zAN (cl c))))) μ s hi h hs hc
end
end Go.Eng
namespace Go.Eng
open Go
theorem zIV {x:Nat→Option (List (List PV))} {r:List (List PV)} (h:∀ i,x i=some r):zB7 x=some r:=by
 have h':∃ r,∀ i,x i=some r:=⟨r,h⟩
 simp only [zB7,dif_pos h']
 have:=(Classical.choose_spec h') 0
 rw [h 0] at this
 exact this.symm
section
def zSP [Yo] (g:FuncId) (first caps:List PV) (k:Int) (xs:List (List PV)):Prop:=∀ i,Yo.yo g first i caps k=some xs
def zF6 [Yo] (g:FuncId) (first caps:List PV) (xs:List (List PV)):Prop:=zSP g first caps (-1) xs∧∀ j:Nat,1≤j→j≤xs.length→zSP g first caps j (xs.take j)
variable [Yo] (P:Program) (H:zBf)
def zLC (f:FuncId) (nt:Nat) (ps:List Tmp) (assign body:Code) (x:List PV) (e:Env) (K:X→Env→Prop):Prop :=
 ∃ e1,zCh ps x e=some e1∧W P H f nt assign e1 none fun y e2 lg=>y = .norm∧lg=none∧W P H f nt body e2 none fun y e3 lg=>lg=none∧K y e3
def Rg (f:FuncId) (nt:Nat) (ps:List Tmp) (assign body:Code) (R ds:List Nat) (K:X→Env→Option Log→Prop):List (List PV)→Env→Prop
 | [],e=>K .norm e none
 | x :: xs,e=>zLC P H f nt ps assign body x e fun y e3=>match y with
  | .norm=>match R with
   | []=>Rg f nt ps assign body R ds K xs (after nt [] ds e e3)
   | r::R'=>zGc e (zCK e (r::R'))=true∧∃ e1,zEq (zCK e (r::R')) e=some e1∧zLC P H f nt ps assign body x e1 fun y e3=>y = .norm∧Rg f nt ps assign body R ds K xs (after nt (zCK e (r::R')) ds e e3)
  | y=>K y (after nt [] ds e e3) none
end
section
variable [Yo] {P:Program} {H:zBf} {f:FuncId} {nt:Nat} {e e':Env} {lg:Option Log} {K:X→Env→Option Log→Prop}
noncomputable abbrev zOh (P:Program) (H:zBf) (f:FuncId) (nt n m:Nat):Code→Env→Option (X×Env):=fun c e=>match exec P H (zCP P H n) Yo.yo zB7 nt (H f) m c e none with | some (x,e',none)=>some (x,e') | _=>none
def zPc (run:Code→Env→Option (X×Env)) (ps:List Tmp) (assign body:Code) (x:List PV) (e:Env):Option (X×Env):=match zCh ps x e with
 | some e1=>match run assign e1 with
  | some (.norm,e2)=>run body e2
  | _=>none
 | none=>none
theorem zBF {run:Code→Env→Option (X×Env)} {ps:List Tmp} {assign body:Code} {R ds:List Nat} {x:List PV} {xs:List (List PV)} {j:Nat}:zCX nt run ps assign body R ds (x::xs) e j=(match zPc run ps assign body x e with
  | some (.norm,e3)=>match R with
   | []=>zCX nt run ps assign body R ds xs (after nt [] ds e e3) (j+1)
   | r :: R=>match (bif zGc e (zCK e (r::R)) then zEq (zCK e (r::R)) e else none) with
    | some e1=>match zPc run ps assign body x e1 with
     | some (.norm,e3)=>zCX nt run ps assign body (r::R) ds xs (after nt (zCK e (r::R)) ds e e3) (j+1)
     | _=>none
    | none=>none
  | some (r,e3)=>some (some (j+1,r),after nt [] ds e e3)
  | none=>none):=by
 cases R<;>rfl
theorem zLC.run {ps:List Tmp} {assign body:Code} {x:List PV} {K:X→Env→Prop} (h:zLC P H f nt ps assign body x e K):∃ n0 y e3,(∀ n m,n0≤n→n0≤m→zPc (zOh P H f nt n m) ps assign body x e=some (y,e3))∧K y e3:=by
 obtain ⟨e1,h1,n1,y,e2,lg,h2,rfl,rfl,n2,z,e3,lg,h3,rfl,h4⟩:=h
 refine ⟨max n1 n2,z,e3,fun n m hn hm=>?_,h4⟩
 simp only [zPc,h1,zOh,h2 n m (by omega) (by omega),h3 n m (by omega) (by omega)]
theorem Rg.run {ps:List Tmp} {assign body:Code} {R ds:List Nat}:∀ {xs:List (List PV)} {e:Env},Rg P H f nt ps assign body R ds K xs e→∃ n0,
  (∃ e',(∀ n m j,n0≤n→n0≤m→zCX nt (zOh P H f nt n m) ps assign body R ds xs e j=some (none,e'))∧K .norm e' none) ∨
  (∃ i y e',i<xs.length∧y ≠ .norm∧(∀ n m j,n0≤n→n0≤m→zCX nt (zOh P H f nt n m) ps assign body R ds xs e j=some (some (j+i+1,y),e')) ∧
   (∀ n m j,n0≤n→n0≤m→zCX nt (zOh P H f nt n m) ps assign body R ds (xs.take (i+1)) e j=some (some (j+i+1,y),e'))∧K y e' none)
 | [],e,h=>⟨0,.inl ⟨e,fun _ _ _ _ _=>rfl,h⟩⟩
 | x :: xs,e,h=>by
  obtain ⟨n1,y,e3,h1,h2⟩:=zLC.run h
  cases y with
  | norm =>
   cases R with
   | nil =>
    simp only at h2
    obtain ⟨n2,h3⟩:=Rg.run h2
    refine ⟨max n1 n2,?_⟩
    rcases h3 with ⟨e',h3,h4⟩ | ⟨i,y,e',hi,hy,h3,h4,h5⟩
    ·exact .inl ⟨e',fun n m j hn hm=>by rw [zBF,h1 n m (by omega) (by omega)];exact h3 n m _ (by omega) (by omega),h4⟩
    ·refine .inr ⟨i+1,y,e',by simp;omega,hy,fun n m j hn hm=>?_,fun n m j hn hm=>?_,h5⟩
     ·rw [zBF,h1 n m (by omega) (by omega)];simp only;rw [h3 n m _ (by omega) (by omega)];simp only [Option.some.injEq,Prod.mk.injEq,and_true];omega
     ·rw [List.take_succ_cons,zBF,h1 n m (by omega) (by omega)];simp only;rw [h4 n m _ (by omega) (by omega)];simp only [Option.some.injEq,Prod.mk.injEq,and_true];omega
   | cons r R' =>
    simp only at h2
    obtain ⟨hc,e1,hf,hr⟩:=h2
    obtain ⟨n3,z,e4,h6,rfl,h7⟩:=zLC.run hr
    obtain ⟨n2,h3⟩:=Rg.run h7
    refine ⟨max n1 (max n2 n3),?_⟩
    rcases h3 with ⟨e',h3,h4⟩ | ⟨i,y,e',hi,hy,h3,h4,h5⟩
    ·exact .inl ⟨e',fun n m j hn hm=>by rw [zBF,h1 n m (by omega) (by omega)];simp only [hc,cond_true,hf,h6 n m (by omega) (by omega)];exact h3 n m _ (by omega) (by omega),h4⟩
    ·refine .inr ⟨i+1,y,e',by simp;omega,hy,fun n m j hn hm=>?_,fun n m j hn hm=>?_,h5⟩
     ·rw [zBF,h1 n m (by omega) (by omega)];simp only [hc,cond_true,hf,h6 n m (by omega) (by omega)];rw [h3 n m _ (by omega) (by omega)];simp only [Option.some.injEq,Prod.mk.injEq,and_true];omega
     ·rw [List.take_succ_cons,zBF,h1 n m (by omega) (by omega)];simp only [hc,cond_true,hf,h6 n m (by omega) (by omega)];rw [h4 n m _ (by omega) (by omega)];simp only [Option.some.injEq,Prod.mk.injEq,and_true];omega
  | ex id =>
   refine ⟨n1,.inr ⟨0,.ex id,_,by simp,by simp,fun n m j hn hm=>?_,fun n m j hn hm=>?_,h2⟩⟩
   ·rw [zBF,h1 n m (by omega) (by omega)]
   ·rw [List.take_succ_cons,zBF,h1 n m (by omega) (by omega)]
  | ret =>
   refine ⟨n1,.inr ⟨0,.ret,_,by simp,by simp,fun n m j hn hm=>?_,fun n m j hn hm=>?_,h2⟩⟩
   ·rw [zBF,h1 n m (by omega) (by omega)]
   ·rw [List.take_succ_cons,zBF,h1 n m (by omega) (by omega)]
def rgT:Code→Option Nat
 | .rangeFunc (.tmp t) _ _ _=>some t
 | _=>none
def zWV:Code→List Tmp
 | .rangeFunc _ ps _ _=>ps.toList
 | _=>[]
def rgA:Code→Code
 | .rangeFunc _ _ a _=>a
 | c=>c
def rgB:Code→Code
 | .rangeFunc _ _ _ b=>b
 | c=>c
def zWt (c:Code):List Nat:=zWV c++zBJ (rgA c)++zBJ (rgB c)
theorem zV8 {t:Tmp} {ps:Array Tmp} {assign body:Code} {g:FuncId} {first caps:List PV} {R:List Nat} {xs:List (List PV)} (yN:zDy e t=some (g,first,caps,R)) (hY:zF6 g first caps xs)
  (h:Rg P H f nt ps.toList assign body R (ps.toList++zBJ assign++zBJ body) K xs e):W P H f nt (.rangeFunc (.tmp t) ps assign body) e none K:=by
 obtain ⟨hY1,hY2⟩:=hY
 obtain ⟨n2,hr⟩:=Rg.run h
 rcases hr with ⟨e',h3,h4⟩ | ⟨i,y,e',hi,hy,h3,h4,h5⟩
 ·refine ⟨n2+1,.norm,e',none,fun n m hn hm=>?_,h4⟩
  obtain ⟨m,rfl⟩:∃ k,m=k+1:=⟨m-1,by omega⟩
  show (zG0 nt Yo.yo zB7 (zOh P H f nt n m) t ps.toList assign body e).map (fun x=>(x.1,x.2,none))=_
  simp only [zG0,yN,zIV (fun i=>hY1 i),h3 n m 0 (by omega) (by omega),Option.map_some]
 ·have hY2:=hY2 (i+1) (by omega) (by omega)
  refine ⟨n2+1,y,e',none,fun n m hn hm=>?_,h5⟩
  obtain ⟨m,rfl⟩:∃ k,m=k+1:=⟨m-1,by omega⟩
  show (zG0 nt Yo.yo zB7 (zOh P H f nt n m) t ps.toList assign body e).map (fun x=>(x.1,x.2,none))=_
  simp only [zG0,yN,zIV (fun i=>hY1 i),h3 n m 0 (by omega) (by omega)]
  have hcast:((0+i+1:Nat):Int)=((i+1:Nat):Int):=by omega
  rw [hcast,zIV (fun i=>hY2 i)]
  simp only [h4 n m 0 (by omega) (by omega),List.length_take]
  rw [if_pos ⟨trivial,by omega⟩]
  rfl
theorem zSB {c:Code} {t g:Nat} {first caps:List PV} {R:List Nat} {xs:List (List PV)} (hY:zF6 g first caps xs) (h:Rg P H f nt (zWV c) (rgA c) (rgB c) R (zWt c) K xs e) (yN:zDy e t=some (g,first,caps,R):=by kernel_rfl) (hc:rgT c=some t:=by kernel_rfl) (hl:lg=none:=by kernel_rfl):W P H f nt c e lg K:=by
 subst hl
 cases c<;>try (cases hc;done)
 rename_i x ps a b
 cases x<;>try (cases hc;done)
 rename_i u
 simp only [rgT,Option.some.injEq] at hc;subst hc
 exact zV8 yN hY h
theorem zWb {σ:Type} {c:Code} {t g:Nat} {first caps:List PV} {xs:List (List PV)} (hY:zF6 g first caps xs) (Inv:Nat→σ→Prop) (I:σ→Env) (s:σ) (hi:Inv 0 s)
  (h:∀ j x s,xs[j]? = some x→Inv j s→zLC P H f nt (zWV c) (rgA c) (rgB c) x (I s) fun y e3=>match y with
   | .norm=>∃ s',Inv (j+1) s'∧after nt [] (zWt c) (I s) e3=I s'
   | y=>K y (after nt [] (zWt c) (I s) e3) none) (hK:∀ s,Inv xs.length s→K .norm (I s) none) (hs:e=I s:=by kernel_rfl) (yN:zDy e t=some (g,first,caps,[]):=by kernel_rfl) (hc:rgT c=some t:=by kernel_rfl) (hl:lg=none:=by kernel_rfl):W P H f nt c e lg K:=by
 refine zSB hY ?_ yN hc hl
 clear yN hY
 subst hs
 have key:∀ (ys:List (List PV)) (j:Nat) (s:σ),xs.drop j=ys→j≤xs.length→Inv j s→Rg P H f nt (zWV c) (rgA c) (rgB c) [] (zWt c) K ys (I s):=by
  intro ys
  induction ys with
  | nil =>
   intro j s hd hj hi
   have:j=xs.length:=by
    have:=congrArg List.length hd;simp at this;omega
   subst this
   exact hK s hi
  | cons x ys ih =>
   intro j s hd hj hi
   have hx:xs[j]? = some x:=by
    have:=congrArg (fun l=>l[0]?) hd
    simpa using this
   have yJ:=(List.getElem?_eq_some_iff.1 hx).1
   obtain ⟨e1,h1,h2⟩:=h j x s hx hi
   refine ⟨e1,h1,zUC h2 fun y e2 lg ⟨a1,a2,a3⟩=>⟨a1,a2,zUC a3 fun y e3 lg ⟨b1,b2⟩=>⟨b1,?_⟩⟩⟩
   cases y with
   | norm =>
    obtain ⟨s',yy,he⟩:=b2
    simp only
    rw [he]
    refine ih (j+1) s' ?_ (by omega) yy
    rw [← List.drop_drop,hd];rfl
   | ex id=>exact b2
   | ret=>exact b2
 exact key xs 0 s rfl (by omega) hi
theorem zOZ {ps:List Tmp} {a b:Code} {x:List PV} {K:X→Env→Prop} (h:W P H f nt a ((zCh ps x e).getD []) none fun y e2 lg=>y = .norm∧lg=none∧W P H f nt b e2 none fun y e3 lg=>lg=none∧K y e3) (hp:(zCh ps x e).isSome=true:=by kernel_rfl):zLC P H f nt ps a b x e K:=by
 obtain ⟨e1,h1⟩:=Option.isSome_iff_exists.1 hp
 rw [h1] at h
 exact ⟨e1,h1,h⟩
omit [Yo] in
theorem zTx (fn:Func) {g:FuncId} {first caps:List PV} {k:Int} {xs:List (List PV)} (h:∀ i,@W yo0 P H g fn.ntmps (fn.body.getD .ret) (zA4 (first++PV.yld i::caps) []) (some ⟨[],k,i⟩) fun x _ lg=>(x = .norm∨x = .ret)∧lg.map (·.xs)=some xs) (hk:k≠0)
  (hf:P.funcs[g]? = some fn:=by kernel_rfl) (hb:fn.body.isSome=true:=by kernel_rfl) (hc:∀ i,(Nat.ble (first++PV.yld i::caps).length fn.ntmps&&fn.results.isEmpty&&(first++caps).all (fun p => !p.isTup))=true:=by intro i;kernel_rfl) (hin:Nat.beq (H g).intr 0=true:=by kernel_rfl):@zSP (yo1 P H) g first caps k xs:=by
 intro i
 obtain ⟨body,hb⟩:∃ body,fn.body=some body:=by cases hx:fn.body<;>first | exact ⟨_,rfl⟩ | (rw [hx] at hb;cases hb)
 have h:=h i
 simp only [hb,Option.getD_some] at h
 obtain ⟨n0,x,e1,lg1,h1,hx,hl⟩:=h
 refine zVg (n0:=n0) fun n hn=>?_
 have j4:=h1 n (n+1) (by omega) (by omega)
 cases lg1 with
 | none=>cases hl
 | some l =>
  simp only [Option.map_some,Option.some.injEq] at hl
  simp only [zS5,zWS,hf,hb]
  have wL:(k != 0)=true:=by simpa using hk
  have hc':=hc i
  rw [hc',wL,hin]
  simp only [Bool.and_self,cond_true,j4]
  rcases hx with rfl | rfl<;>simp [hl]
end
end Go.Eng
namespace Go.Eng
open Go
inductive PX where
 | ok | fail | emb (p:PM)
 | view (s:Nat) (k:PV→PX) | get (s:Nat) (k:PV→PX) | set (s:Nat) (p:PV) (k:PX)
 | cells (r:Nat) (pre:zAP) (i c n:Nat) (k:Bool→List PV→PX) | deep (r:Nat) (pre:zAP) (k:PV→PX)
 | wcells (r:Nat) (pre:zAP) (i c:Nat) (qs:List PV) (k:PX) | wnode (r:Nat) (pre:zAP) (q:PV) (k:PX)
 | kill (r:Nat) (pre:zAP) (k:PX) | frz (r:Nat) (pre:zAP) (k:PX) | frzp (r:Nat) (pre:zAP) (p:PV) (k:PV→PX) | killEx (r:Nat) (keep:List zAP) (k:PX)
 | call (f:FuncId) (args hid:List PV) (k:PV→List PV→PX)
 | test (b:Bool) (k:PX) | pick (x:Option PV) (k:PV→PX) | num (x:Option Nat) (k:Nat→PX) | idx (x:Option (Option Nat)) (k:Option Nat→PX)
 | choose (b:Bool) (k1 k2:PX) | same (p:PV) (k:PV→PX) | sames (ps:List PV) (k:List PV→PX)
 | nats (x:List Nat) (k:List Nat→PX) | pure (d:Option Nat) (f:FuncId) (args:List PV) (k:PX)
def PX.toPM:PX→PM
 | .ok => .ok
 | .fail => .fail
 | .emb p=>p
 | .view s k => .view s fun p=>(k p).toPM
 | .get s k => .get s fun p=>(k p).toPM
 | .set s p k => .set s p k.toPM
 | .cells r pre i c n k => .cells r pre i c n fun a qs=>(k a qs).toPM
 | .deep r pre k => .deep r pre fun q=>(k q).toPM
 | .wcells r pre i c qs k => .wcells r pre i c qs k.toPM
 | .wnode r pre q k => .wnode r pre q k.toPM
 | .kill r pre k => .kill r pre k.toPM
 | .frz r pre k => .frz r pre k.toPM
 | .frzp r pre p k => .frz r pre (k p).toPM
 | .killEx r keep k => .killEx r keep k.toPM
 | .call f args hid k => .call f args hid fun v h=>(k v h).toPM
 | .test b k=>bif b then k.toPM else .fail
 | .pick x k=>match x with
  | some v=>(k v).toPM
  | none => .fail
 | .num x k=>match x with
  | some v=>(k v).toPM
  | none => .fail
 | .idx x k=>match x with
  | some v=>(k v).toPM
  | none => .fail
 | .choose b k1 k2=>bif b then k1.toPM else k2.toPM
 | .same p k=>(k p).toPM
 | .sames ps k=>(k ps).toPM
 | .nats x k=>(k x).toPM
 | .pure _ _ _ k=>k.toPM
inductive An where
 | ob | v (p:PV) | vs (ps:List PV) | n (k:Nat) | ix (k:Option Nat) | yes | no | cs (a:Bool) (qs:List PV) | root (r:PV) (kept:Bool) | ret (v:PV) (hid:List PV) | ns (l:List Nat) | env (e:Env) | envv (e:Env) (q:PV)
abbrev Ans:=List (Nat×An)
def zGh:Ans→Option An×Ans
 | []=>(none,[])
 | (0,a)::l=>(some a,l)
 | (n+1,a)::l=>(none,(n,a)::l)
section
variable [Yo] (P:Program) (H:zBf)
def zUd (f:FuncId) (args:List PV) (v:PV):Prop:=∀ (d:Option Nat) (e:Env),∃ n0,∀ n,n0≤n→(zN3 H d f args).runT (zCP P H n) e=(put d v).runT (zCP P H n) e
abbrev XR:=Option (Env×Tok×List Prop)
def XR.tok (t:Tok) (x:XR):XR:=x.map fun y=>(y.1,Tok.join t y.2.1,y.2.2)
def XR.ob (q:Prop) (x:XR):XR:=x.map fun y=>(y.1,y.2.1,q::y.2.2)
def PX.run:PX→Ans→Env→XR
 | .ok,_,e=>some (e,{},[])
 | .fail,_,_=>none
 | .emb p,_,e=>(p.runT zHt e).map fun y=>(y.1,y.2,[])
 | .view s k,as,e=>((k (Eng.view s (e.get s))).run as e).tok {look:=[s]}
 | .get s k,as,e=>match e.get s with
  | .lock _=>none
  | p=>((k p).run as e).tok {rd:=[s]}
 | .set s p k,as,e=>(k.run as (e.set s p)).tok (zFk s (e.get s) p)
 | .cells r pre i c n k,as,e=>match zGh as with
  | (none,as)=>match zAt r (e.get r) pre i c n with
   | some (a,qs)=>((k a qs).run as e).tok {cel:=[(r,pre)]}
   | none=>none
  | (some (.cs a qs),as)=>(((k a qs).run as e).tok {cel:=[(r,pre)]}).ob (zAt r (e.get r) pre i c n=some (a,qs))
  | _=>none
 | .deep r pre k,as,e=>match zGh as with
  | (none,as)=>match zAx (e.get r).unlock pre with
   | some q=>((k q).run as e).tok {rd:=[r]}
   | none=>none
  | (some (.v q),as)=>(((k q).run as e).tok {rd:=[r]}).ob (zAx (e.get r).unlock pre=some q)
  | _=>none
 | .wcells r pre i c qs k,as,e=>match zGh as with
  | (none,as)=>match zBx (e.get r) pre i c qs with
   | some root=>(k.run as (e.set r root)).tok (zA9 r [] (zAD (e.get r) root pre) (e.get r) root)
   | none=>none
  | (some (.root root kp),as)=>((k.run as (e.set r root)).tok (zA9 r [] kp (e.get r) root)).ob (zBx (e.get r) pre i c qs=some root∧zAD (e.get r) root pre=kp)
  | _=>none
 | .wnode r pre q k,as,e=>match zGh as with
  | (none,as)=>bif (e.get r).isLock then none else match zAs (fun _=>some q) (e.get r) pre with
   | some root=>(k.run as (e.set r root)).tok (zA9 r pre.dropLast (zAD (e.get r) root pre&&(pre.isEmpty || !q.isAgg)) (e.get r) root)
   | none=>none
  | (some (.root root kp),as)=>bif (e.get r).isLock then none else ((k.run as (e.set r root)).tok (zA9 r pre.dropLast (kp&&(pre.isEmpty || !q.isAgg)) (e.get r) root)).ob (zAs (fun _=>some q) (e.get r) pre=some root∧zAD (e.get r) root pre=kp)
  | _=>none
 | .kill r pre k,as,e=>(k.run as (e.kill r pre)).tok (zAG (zDc e fun z=>zAF r pre z.1 z.2) e.get (e.kill r pre).get [r] [])
 | .frz r pre k,as,e=>match zGh as with
  | (none,as)=>match e.frz r pre with
   | some e'=>(k.run as e').tok (zAG (r::zDc e fun z=>zAF r pre z.1 z.2) e.get e'.get [r] [])
   | none=>none
  | (some (.env e'),as)=>((k.run as e').tok (zAG (r::zDc e fun z=>zAF r pre z.1 z.2) e.get e'.get [r] [])).ob (e.frz r pre=some e')
  | _=>none
 | .frzp r pre p k,as,e=>match zGh as with
  | (none,as)=>match e.frz r pre with
   | some e'=>((k p).run as e').tok (zAG (r::zDc e fun z=>zAF r pre z.1 z.2) e.get e'.get [r] [])
   | none=>none
  | (some (.env e'),as)=>(((k p).run as e').tok (zAG (r::zDc e fun z=>zAF r pre z.1 z.2) e.get e'.get [r] [])).ob (e.frz r pre=some e')
  | (some (.envv e' q),as)=>(((k q).run as e').tok (zAG (r::zDc e fun z=>zAF r pre z.1 z.2) e.get e'.get [r] [])).ob (e.frz r pre=some e'∧p=q)
  | _=>none
 | .killEx r keep k,as,e=>(k.run as (e.killEx r keep)).tok (zAG (zDc e fun z=>Nat.beq z.1 r && !z.2.isEmpty) e.get (e.killEx r keep).get [] [r])
 | .call f args hid k,as,e=>match zGh as with
  | (some (.ret v hZ),as)=>((k v hZ).run as e).ob (zDi P H f args hid v hZ)
  | _=>none
 | .test b k,as,e=>match zGh as with
  | (none,as)=>bif b then k.run as e else none
  | (some .ob,as)=>(k.run as e).ob (b=true)
  | _=>none
 | .pick x k,as,e=>match zGh as with
  | (none,as)=>match x with
   | some v=>(k v).run as e
   | none=>none
  | (some (.v v),as)=>((k v).run as e).ob (x=some v)
  | _=>none
 | .num x k,as,e=>match zGh as with
  | (none,as)=>match x with
   | some v=>(k v).run as e
   | none=>none
  | (some (.n v),as)=>((k v).run as e).ob (x=some v)
  | _=>none
 | .idx x k,as,e=>match zGh as with
  | (none,as)=>match x with
   | some v=>(k v).run as e
   | none=>none
  | (some (.ix v),as)=>((k v).run as e).ob (x=some v)
  | _=>none
 | .choose b k1 k2,as,e=>match zGh as with
  | (none,as)=>bif b then k1.run as e else k2.run as e
  | (some .yes,as)=>(k1.run as e).ob (b=true)
  | (some .no,as)=>(k2.run as e).ob (b=false)
  | _=>none
 | .same p k,as,e=>match zGh as with
  | (none,as)=>(k p).run as e
  | (some (.v q),as)=>((k q).run as e).ob (p=q)
  | _=>none
 | .sames ps k,as,e=>match zGh as with
  | (none,as)=>(k ps).run as e
  | (some (.vs qs),as)=>((k qs).run as e).ob (ps=qs)
  | _=>none
 | .nats x k,as,e=>match zGh as with
  | (none,as)=>(k x).run as e
  | (some (.ns l),as)=>((k l).run as e).ob (x=l)
  | _=>none
 | .pure d f args k,as,e=>match zGh as with
  | (none,as)=>k.run as e
  | (some (.v v),_)=>XR.ob (zUd P H f args v∧k.toPM=zN3 H d f args) (((put d v).runT zHt e).map fun y=>(y.1,y.2,[]))
  | _=>none
def zS2:List Prop→Prop
 | []=>True
 | p::ps=>p∧zS2 ps
end
section
variable [Yo] {P:Program} {H:zBf}
theorem XR.tok_some {t u:Tok} {x:XR} {e':Env} {obs:List Prop} (h:x.tok t=some (e',u,obs)):∃ u',x=some (e',u',obs)∧u=Tok.join t u':=by
 obtain ⟨⟨a,b,c⟩,h1,h2⟩:=Option.map_eq_some_iff.1 h
 simp only [Prod.mk.injEq] at h2
 obtain ⟨rfl,rfl,rfl⟩:=h2
 exact ⟨_,h1,rfl⟩
theorem XR.ob_some {q:Prop} {u:Tok} {x:XR} {e':Env} {obs:List Prop} (h:x.ob q=some (e',u,obs)):∃ o',x=some (e',u,o')∧obs=q::o':=by
 obtain ⟨⟨a,b,c⟩,h1,h2⟩:=Option.map_eq_some_iff.1 h
 simp only [Prod.mk.injEq] at h2
 obtain ⟨rfl,rfl,rfl⟩:=h2
 exact ⟨_,h1,rfl⟩
theorem PX.run_ok:∀ {p:PX} {as:Ans} {e e':Env} {t:Tok} {obs:List Prop},p.run P H as e=some (e',t,obs)→zS2 obs→∃ n0,∀ n,n0≤n→p.toPM.runT (zCP P H n) e=some (e',t):=by
 intro p
 induction p with
 | ok=>intro as e e' t obs h _;simp only [PX.run,Option.some.injEq,Prod.mk.injEq] at h;obtain ⟨rfl,rfl,_⟩:=h;exact ⟨0,fun _ _=>rfl⟩
 | fail=>intro as e e' t obs h _;cases h
 | emb p =>
  intro as e e' t obs h _
  obtain ⟨⟨a,b⟩,h1,h2⟩:=Option.map_eq_some_iff.1 h
  simp only [Prod.mk.injEq] at h2
  obtain ⟨rfl,rfl,_⟩:=h2
  exact ⟨0,fun _ _=>zIt h1⟩
 | view s k ih =>
  intro as e e' t obs h ha
  obtain ⟨u,h1,rfl⟩:=XR.tok_some h
  obtain ⟨n0,h2⟩:=ih _ h1 ha
  exact ⟨n0,fun n hn=>by simp only [PX.toPM,PM.runT,h2 n hn];rfl⟩
 | get s k ih =>
  intro as e e' t obs h ha
  simp only [PX.run] at h
  cases hg:e.get s<;>rw [hg] at h<;>simp only at h<;>try (cases h;done)
  all_goals
   obtain ⟨u,h1,rfl⟩:=XR.tok_some h
   obtain ⟨n0,h2⟩:=ih _ h1 ha
   exact ⟨n0,fun n hn=>by simp only [PX.toPM,PM.runT,hg,h2 n hn];rfl⟩
 | set s q k ih =>
  intro as e e' t obs h ha
  obtain ⟨u,h1,rfl⟩:=XR.tok_some h
  obtain ⟨n0,h2⟩:=ih h1 ha
  exact ⟨n0,fun n hn=>by simp only [PX.toPM,PM.runT,h2 n hn];rfl⟩
 | cells r pre i c n k ih =>
  intro as e e' t obs h ha
  simp only [PX.run] at h
  split at h
  ·split at h
   ·rename_i hr
    obtain ⟨u,h1,rfl⟩:=XR.tok_some h
    obtain ⟨n0,h2⟩:=ih _ _ h1 ha
    exact ⟨n0,fun n hn=>by simp only [PX.toPM,PM.runT,hr,h2 n hn];rfl⟩
   ·cases h
  ·obtain ⟨o,h0,rfl⟩:=XR.ob_some h
   obtain ⟨u,h1,rfl⟩:=XR.tok_some h0
   obtain ⟨n0,h2⟩:=ih _ _ h1 ha.2
   exact ⟨n0,fun n hn=>by simp only [PX.toPM,PM.runT,ha.1,h2 n hn];rfl⟩
  ·cases h
 | deep r pre k ih =>
  intro as e e' t obs h ha
  simp only [PX.run] at h
  split at h
  ·split at h
   ·rename_i hr
    obtain ⟨u,h1,rfl⟩:=XR.tok_some h
    obtain ⟨n0,h2⟩:=ih _ h1 ha
    exact ⟨n0,fun n hn=>by simp only [PX.toPM,PM.runT,hr,h2 n hn];rfl⟩
   ·cases h
  ·obtain ⟨o,h0,rfl⟩:=XR.ob_some h
   obtain ⟨u,h1,rfl⟩:=XR.tok_some h0
   obtain ⟨n0,h2⟩:=ih _ h1 ha.2
   exact ⟨n0,fun n hn=>by simp only [PX.toPM,PM.runT,ha.1,h2 n hn];rfl⟩
  ·cases h
 | wcells r pre i c qs k ih =>
  intro as e e' t obs h ha
  simp only [PX.run] at h
  split at h
  ·split at h
   ·rename_i hr
    obtain ⟨u,h1,rfl⟩:=XR.tok_some h
    obtain ⟨n0,h2⟩:=ih h1 ha
    exact ⟨n0,fun n hn=>by simp only [PX.toPM,PM.runT,hr,h2 n hn];rfl⟩
   ·cases h
  ·obtain ⟨o,h0,rfl⟩:=XR.ob_some h
   obtain ⟨u,h1,rfl⟩:=XR.tok_some h0
   obtain ⟨n0,h2⟩:=ih h1 ha.2
   exact ⟨n0,fun n hn=>by simp only [PX.toPM,PM.runT,ha.1.1,ha.1.2,h2 n hn];rfl⟩
  ·cases h
 | wnode r pre q k ih =>
  intro as e e' t obs h ha
  simp only [PX.run] at h
  split at h
  ·rcases zBc h with ⟨_,h⟩ | ⟨hl,h⟩
   ·cases h
   ·split at h
    ·rename_i hr
     obtain ⟨u,h1,rfl⟩:=XR.tok_some h
     obtain ⟨n0,h2⟩:=ih h1 ha
     exact ⟨n0,fun n hn=>by simp only [PX.toPM,PM.runT,hl,cond_false,hr,h2 n hn];rfl⟩
    ·cases h
  ·rcases zBc h with ⟨_,h⟩ | ⟨hl,h⟩
   ·cases h
   ·obtain ⟨o,h0,rfl⟩:=XR.ob_some h
    obtain ⟨u,h1,rfl⟩:=XR.tok_some h0
    obtain ⟨n0,h2⟩:=ih h1 ha.2
    exact ⟨n0,fun n hn=>by simp only [PX.toPM,PM.runT,hl,cond_false,ha.1.1,ha.1.2,h2 n hn];rfl⟩
  ·cases h
 | kill r pre k ih =>
  intro as e e' t obs h ha
  obtain ⟨u,h1,rfl⟩:=XR.tok_some h
  obtain ⟨n0,h2⟩:=ih h1 ha
  exact ⟨n0,fun n hn=>by simp only [PX.toPM,PM.runT,h2 n hn];rfl⟩
 | frz r pre k ih =>
  intro as e e' t obs h ha
  simp only [PX.run] at h
  split at h
  ·split at h
   ·rename_i hr
    obtain ⟨u,h1,rfl⟩:=XR.tok_some h
    obtain ⟨n0,h2⟩:=ih h1 ha
    exact ⟨n0,fun n hn=>by simp only [PX.toPM,PM.runT,hr,h2 n hn];rfl⟩
   ·cases h
  ·obtain ⟨o,h0,rfl⟩:=XR.ob_some h
   obtain ⟨u,h1,rfl⟩:=XR.tok_some h0
   obtain ⟨n0,h2⟩:=ih h1 ha.2
   exact ⟨n0,fun n hn=>by simp only [PX.toPM,PM.runT,ha.1,h2 n hn];rfl⟩
  ·cases h
 | frzp r pre p k ih =>
  intro as e e' t obs h ha
  simp only [PX.run] at h
  split at h
  ·split at h
   ·rename_i hr
    obtain ⟨u,h1,rfl⟩:=XR.tok_some h
    obtain ⟨n0,h2⟩:=ih _ h1 ha
    exact ⟨n0,fun n hn=>by simp only [PX.toPM,PM.runT,hr,h2 n hn];rfl⟩
   ·cases h
  ·obtain ⟨o,h0,rfl⟩:=XR.ob_some h
   obtain ⟨u,h1,rfl⟩:=XR.tok_some h0
   obtain ⟨n0,h2⟩:=ih _ h1 ha.2
   exact ⟨n0,fun n hn=>by simp only [PX.toPM,PM.runT,ha.1,h2 n hn];rfl⟩
  ·obtain ⟨o,h0,rfl⟩:=XR.ob_some h
   obtain ⟨u,h1,rfl⟩:=XR.tok_some h0
   obtain ⟨⟨hf,rfl⟩,ha⟩:=ha
   obtain ⟨n0,h2⟩:=ih _ h1 ha
   exact ⟨n0,fun n hn=>by simp only [PX.toPM,PM.runT,hf,h2 n hn];rfl⟩
  ·cases h
 | killEx r keep k ih =>
  intro as e e' t obs h ha
  obtain ⟨u,h1,rfl⟩:=XR.tok_some h
  obtain ⟨n0,h2⟩:=ih h1 ha
  exact ⟨n0,fun n hn=>by simp only [PX.toPM,PM.runT,h2 n hn];rfl⟩
 | call f args hid k ih =>
  intro as e e' t obs h ha
  simp only [PX.run] at h
  split at h
  ·obtain ⟨o,h1,rfl⟩:=XR.ob_some h
   obtain ⟨n0,h2⟩:=ih _ _ h1 ha.2
   obtain ⟨n1,h3⟩:=ha.1
   exact ⟨max n0 n1,fun n hn=>by simp only [PX.toPM,PM.runT,h3 n (by omega),h2 n (by omega)]⟩
  ·cases h
 | test b k ih =>
  intro as e e' t obs h ha
  simp only [PX.run] at h
  split at h
  ·rcases zBc h with ⟨hb,h⟩ | ⟨_,h⟩
   ·obtain ⟨n0,h2⟩:=ih h ha
    exact ⟨n0,fun n hn=>by simp only [PX.toPM,hb,cond_true,h2 n hn]⟩
   ·cases h
  ·obtain ⟨o,h1,rfl⟩:=XR.ob_some h
   obtain ⟨n0,h2⟩:=ih h1 ha.2
   exact ⟨n0,fun n hn=>by simp only [PX.toPM,ha.1,cond_true,h2 n hn]⟩
  ·cases h
 | pick x k ih =>
  intro as e e' t obs h ha
  simp only [PX.run] at h
  split at h
  ·split at h
   ·obtain ⟨n0,h2⟩:=ih _ h ha
    exact ⟨n0,fun n hn=>by simp only [PX.toPM,h2 n hn]⟩
   ·cases h
  ·obtain ⟨o,h1,rfl⟩:=XR.ob_some h
   obtain ⟨n0,h2⟩:=ih _ h1 ha.2
   exact ⟨n0,fun n hn=>by simp only [PX.toPM,ha.1,h2 n hn]⟩
  ·cases h
 | num x k ih =>
  intro as e e' t obs h ha
  simp only [PX.run] at h
  split at h
  ·split at h
   ·obtain ⟨n0,h2⟩:=ih _ h ha
    exact ⟨n0,fun n hn=>by simp only [PX.toPM,h2 n hn]⟩
   ·cases h
  ·obtain ⟨o,h1,rfl⟩:=XR.ob_some h
   obtain ⟨n0,h2⟩:=ih _ h1 ha.2
   exact ⟨n0,fun n hn=>by simp only [PX.toPM,ha.1,h2 n hn]⟩
  ·cases h
 | idx x k ih =>
  intro as e e' t obs h ha
  simp only [PX.run] at h
  split at h
  ·split at h
   ·obtain ⟨n0,h2⟩:=ih _ h ha
    exact ⟨n0,fun n hn=>by simp only [PX.toPM,h2 n hn]⟩
   ·cases h
  ·obtain ⟨o,h1,rfl⟩:=XR.ob_some h
   obtain ⟨n0,h2⟩:=ih _ h1 ha.2
   exact ⟨n0,fun n hn=>by simp only [PX.toPM,ha.1,h2 n hn]⟩
  ·cases h
 | choose b k1 k2 ih1 ih2 =>
  intro as e e' t obs h ha
  simp only [PX.run] at h
  split at h
  ·rcases zBc h with ⟨hb,h⟩ | ⟨hb,h⟩
   ·obtain ⟨n0,h2⟩:=ih1 h ha
    exact ⟨n0,fun n hn=>by simp only [PX.toPM,hb,cond_true,h2 n hn]⟩
   ·obtain ⟨n0,h2⟩:=ih2 h ha
    exact ⟨n0,fun n hn=>by simp only [PX.toPM,hb,cond_false,h2 n hn]⟩
  ·obtain ⟨o,h1,rfl⟩:=XR.ob_some h
   obtain ⟨n0,h2⟩:=ih1 h1 ha.2
   exact ⟨n0,fun n hn=>by simp only [PX.toPM,ha.1,cond_true,h2 n hn]⟩
  ·obtain ⟨o,h1,rfl⟩:=XR.ob_some h
   obtain ⟨n0,h2⟩:=ih2 h1 ha.2
   exact ⟨n0,fun n hn=>by simp only [PX.toPM,ha.1,cond_false,h2 n hn]⟩
  ·cases h
 | same p k ih =>
  intro as e e' t obs h ha
  simp only [PX.run] at h
  split at h
  ·exact ih _ h ha
  ·obtain ⟨o,h1,rfl⟩:=XR.ob_some h
   obtain ⟨n0,h2⟩:=ih _ h1 ha.2
   exact ⟨n0,fun n hn=>by simp only [PX.toPM,ha.1,h2 n hn]⟩
  ·cases h
 | sames ps k ih =>
  intro as e e' t obs h ha
  simp only [PX.run] at h
  split at h
  ·exact ih _ h ha
  ·obtain ⟨o,h1,rfl⟩:=XR.ob_some h
   obtain ⟨n0,h2⟩:=ih _ h1 ha.2
   exact ⟨n0,fun n hn=>by simp only [PX.toPM,ha.1,h2 n hn]⟩
  ·cases h
 | nats x k ih =>
  intro as e e' t obs h ha
  simp only [PX.run] at h
  split at h
  ·exact ih _ h ha
  ·obtain ⟨o,h1,rfl⟩:=XR.ob_some h
   obtain ⟨n0,h2⟩:=ih _ h1 ha.2
   exact ⟨n0,fun n hn=>by simp only [PX.toPM,ha.1,h2 n hn]⟩
  ·cases h
 | pure d f args k ih =>
  intro as e e' t obs h ha
  simp only [PX.run] at h
  split at h
  ·exact ih h ha
  ·obtain ⟨o,h1,rfl⟩:=XR.ob_some h
   obtain ⟨⟨a,b⟩,h2,h3⟩:=Option.map_eq_some_iff.1 h1
   simp only [Prod.mk.injEq] at h3
   obtain ⟨rfl,rfl,_⟩:=h3
   obtain ⟨⟨hp,hk⟩,_⟩:=ha
   obtain ⟨n0,hp⟩:=hp d e
   exact ⟨n0,fun n hn=>by simp only [PX.toPM];rw [hk,hp n hn];exact zIt h2⟩
  ·cases h
end
end Go.Eng
namespace Go.Eng
open Go
def zGM (x:Operand) (k:PV→PX):PX :=
 match x with
 | .tmp t => .view t k
 | .const v=>k (zEu v)
 | .func f=>k (.func f [] [])
 | .global _ => .fail
def zLw (x:Operand) (k:PV→PX):PX :=
 match x with
 | .tmp t => .get t fun p => .choose p.heavy (.set t .bad (k p)) (k p)
 | .const v=>k (zEu v)
 | .func f=>k (.func f [] [])
 | .global _ => .fail
def zP5:List Operand→(List PV→PX)→PX
 | [],k=>k []
 | x::xs,k=>zGM x fun p=>zP5 xs fun ps=>k (p::ps)
def zWo (d:Nat) (p:PV) (k:PX):PX := .choose p.heavy (.kill d [] (.set d (p.mapW (lose d [])) k)) (.set d p k)
def zGg (d:Option Nat) (p:PV):PX :=
 match d with
 | none => .ok
 | some d => .same p fun p=>bif p.isTup then .fail else zWo d p .ok
def zHe (d:Nat):Nat→List PV→PX→PX
 | n,[],k => .set d (.tup (List.replicate n .bad)) k
 | i,p::ps,k => .same p fun p=>zWo (zBm d i) p (zHe d (i+1) ps k)
def zFb (d:Option Nat) (v:PV):PX :=
 match d,v with
 | some d,.tup vs => .test (Nat.ble vs.length 16) (.test ((zBp vs).all (fun w => !zJX d w.1)) (.set d .bad (zHe d 0 vs .ok)))
 | d,v=>zGg d v
def zFQ:PV→(Nat→PX)→PX
 | .int _ n,k => .test (decide (0≤n)) (.num (some n.toNat) k)
 | _,_ => .fail
def zSz (r:Nat) (pre:zAP) (i c:Nat) (sh:Option Nat) (k:PV→PX):PX :=
 match sh with
 | some n => .cells r pre i c n fun a qs=>bif a then k (.agg qs) else .fail
 | none => .cells r pre i c 1 fun _ qs=>k (qs.headD .bad)
def zHm (r:Nat) (pre:zAP) (i:Nat):Nat→List PV→PX→PX
 | _,[],k=>k
 | c,q::qs,k=>bif q.heavy then .kill r (pre++[(i,c)]) (zHm r pre i (c+1) qs k) else zHm r pre i (c+1) qs k
def zRD (r:Nat) (pre:zAP) (i c:Nat) (qs:List PV) (k:PX):PX := .choose (qs.all fun q => !q.heavy) k (zHm r pre i c qs k)
section
variable {k:PX} {kp:PV→PX}
theorem zB1 {x:Operand} {k:PV→PX}:(zGM x k).toPM=opd x fun p=>(k p).toPM:=by cases x<;>rfl
theorem zBn {α:Type} {b:Bool} {x y:α}:(bif b then x else y)=if b=true then x else y:=by cases b<;>rfl
theorem zGd {x:Operand} {k:PV→PX}:(zLw x k).toPM=zOs x fun p=>(k p).toPM:=by
 cases x<;>first | rfl | simp only [zLw,zOs,PX.toPM,zBn]
theorem zIw:∀ {xs:List Operand} {k:List PV→PX},(zP5 xs k).toPM=zTT xs fun p=>(k p).toPM
 | [],_=>rfl
 | x::xs,k=>by simp only [zP5,zTT,zB1,zIw]
theorem zLN {d:Nat} {p:PV} {k:PX}:(zWo d p k).toPM=lay d p k.toPM:=by simp only [zWo,lay,PX.toPM]
theorem zDf {b:Bool} {x y:PX}:(bif b then x else y).toPM=bif b then x.toPM else y.toPM:=by cases b<;>rfl
theorem zOv {c:Prop} [Decidable c] {x y:PX}:(if c then x else y).toPM=if c then x.toPM else y.toPM:=by split<;>rfl
theorem zBq {d:Option Nat} {p:PV}:(zGg d p).toPM=put d p:=by
 cases d with
 | none=>rfl
 | some d=>simp only [zGg,put,PX.toPM,zDf,zLN]
theorem zHQ {d:Nat}:∀ {ps:List PV} {i:Nat} {k:PX},(zHe d i ps k).toPM=zFc d i ps k.toPM
 | [],_,_=>rfl
 | p::ps,i,k=>by simp only [zHe,zFc,PX.toPM,zLN,zHQ]
theorem zC6 {α:Type} {a b:Bool} {x y:α}:(bif a&&b then x else y)=bif a then (bif b then x else y) else y:=by cases a<;>rfl
theorem zEJ {d:Option Nat} {v:PV}:(zFb d v).toPM=zDj d v:=by
 cases d with
 | none=>cases v<;>simp only [zFb,zDj,zBq]
 | some d=>cases v<;>simp only [zFb,zDj,PX.toPM,zHQ,zC6,zBq]
theorem zEQ {p:PV} {k:Nat→PX}:(zFQ p k).toPM=zGr p fun n=>(k n).toPM:=by
 cases p<;>first | rfl | skip
 simp only [zFQ,zGr,PX.toPM,zBn,decide_eq_true_eq]
theorem zLO {r:Nat} {pre:zAP} {i c:Nat} {sh:Option Nat} {k:PV→PX}:(zSz r pre i c sh k).toPM=zMf r pre i c sh fun p=>(k p).toPM:=by
 cases sh<;>simp only [zSz,zMf,PX.toPM,zDf]
theorem zJd {r:Nat} {pre:zAP} {i:Nat}:∀ {qs:List PV} {c:Nat} {k:PX},(zHm r pre i c qs k).toPM=zDQ r pre i c qs k.toPM
 | [],_,_=>rfl
 | q::qs,c,k=>by simp only [zHm,zDQ,zDf,PX.toPM,zJd]
theorem zE1 {r:Nat} {pre:zAP} {i:Nat}:∀ {qs:List PV} {c:Nat} {k:PM},(qs.all fun q => !q.heavy)=true→zDQ r pre i c qs k=k
 | [],_,_,_=>rfl
 | q::qs,c,k,h=>by
  simp only [List.all_cons,Bool.and_eq_true,Bool.not_eq_true'] at h
  simp only [zDQ,h.1,cond_false];exact zE1 h.2
theorem zQ1 {r:Nat} {pre:zAP} {i c:Nat} {qs:List PV} {k:PX}:(zRD r pre i c qs k).toPM=zDQ r pre i c qs k.toPM:=by
 simp only [zRD,PX.toPM,zJd]
 cases h:qs.all fun q => !q.heavy with
 | false=>rfl
 | true=>exact (zE1 h).symm
end
def zEI (res:PV→(PV→List (Nat×zAP)→PX)→PX):List PV→(List PV→List (Nat×zAP)→PX)→PX
 | [],k=>k [] []
 | p::ps,k=>res p fun q l=>zEI res ps fun qs m=>k (q::qs) (l++m)
def zDx (hb:Nat):Nat→PV→(PV→List (Nat×zAP)→PX)→PX
 | 0,_,_ => .fail
 | n + 1,p,k =>
  match p with
  | .addr r pre i c sh=>bif Nat.ble hb r then k p [] else .deep r pre fun q=>match zA6 q with
   | some xs => .pick xs[i]? fun x=>match sh with
     | some m => .test (Nat.ble (c+m) x.cells.length) (.test x.isAgg (zDx hb n (.agg ((x.cells.drop c).take m)) fun q l=>k (.ref q) ((r,pre)::l)))
     | none => .pick x.cells[c]? fun q => .test q.oneCell (zDx hb n q fun q l=>k (.ref q) ((r,pre)::l))
   | none => .fail
  | .bor r pre _ lo m=>bif Nat.ble hb r then k p [] else .deep r pre fun q=>match q with
   | .own _ xs => .test (Nat.ble (lo+m) xs.length) (.same (.sl (zAE ((xs.drop lo).take m))) fun p=>k p [(r,pre)])
   | _ => .fail
  | .bsl r pre i c sz ag m=>bif Nat.ble hb r then k p [] else .deep r pre fun q=>match zA6 q with
   | some xs => .pick xs[i]? fun x => .test (zCf ag sz m ((x.cells.drop c).take (m*sz))) (.test (zBp x.cells).isEmpty (.same (.sl (zCb ag sz m (zAE ((x.cells.drop c).take (m*sz))))) fun p=>k p [(r,pre)]))
   | none => .fail
  | .bmap r pre=>bif Nat.ble hb r then k p [] else .deep r pre fun q=>match q with
   | .omap es=>k (.map es) [(r,pre)]
   | _ => .fail
  | .agg cs => .choose (p.ways).isEmpty (.same (zAR p) fun q=>k q []) (zEI (zDx hb n) cs fun qs l=>k (.agg qs) l)
  | .func f a b => .choose (p.ways).isEmpty (k p []) (zEI (zDx hb n) a fun as l=>zEI (zDx hb n) b fun bs m=>k (.func f as bs) (l++m))
  | .ref q => .choose (q.ways).isEmpty (k p []) (zDx hb n q fun q l=>k (.ref q) l)
  | .bad=>k .bad []
  | p => .test (p.ways.all (fun w=>Nat.ble hb w.1)) (.same (zAR p) fun q=>k q [])
def zUp (p:PV) (k:PV→List (Nat×zAP)→PX):PX:=zDx zAe depth p k
theorem zH8 {res:PV→(PV→List (Nat×zAP)→PX)→PX} {res':PV→(PV→List (Nat×zAP)→PM)→PM} (h:∀ p k,(res p k).toPM=res' p fun q l=>(k q l).toPM):∀ {ps:List PV} {k:List PV→List (Nat×zAP)→PX},(zEI res ps k).toPM=zEr res' ps fun q l=>(k q l).toPM
 | [],_=>rfl
 | p::ps,k=>by simp only [zEI,zEr,h,zH8 h]
theorem zJu {hb:Nat}:∀ {n:Nat} {p:PV} {k:PV→List (Nat×zAP)→PX},(zDx hb n p k).toPM=resolve hb n p fun q l=>(k q l).toPM
 | 0,_,_=>rfl
 | n + 1,p,k=>by
  have ih:∀ (p:PV) (k:PV→List (Nat×zAP)→PX),(zDx hb n p k).toPM=resolve hb n p fun q l=>(k q l).toPM:=fun p k=>zJu
  cases p<;>simp only [zDx,resolve,zDf,PX.toPM,zC6,ih,zH8 ih]
  ·congr 1;congr 1;funext q
   cases zA6 q with
   | none=>rfl
   | some xs =>
    simp only [PX.toPM]
    rename_i r pre i c sh
    cases xs[i]? with
    | none=>rfl
    | some x =>
     cases sh with
     | some m=>simp only [PX.toPM,zC6,ih]
     | none =>
      simp only [PX.toPM,ih]
      cases x.cells[c]? with
      | none=>rfl
      | some q=>simp only [PX.toPM,zBn,ih]
  ·congr 1;congr 1;funext q
   cases q<;>rfl
  ·congr 1;congr 1;funext q
   cases zA6 q with
   | none=>rfl
   | some xs =>
    simp only [PX.toPM]
    rename_i r pre i c sz ag m
    cases xs[i]? with
    | none=>rfl
    | some x=>simp only [PX.toPM,zC6]
  ·congr 1;congr 1;funext q
   cases q<;>rfl
theorem zSk {p:PV} {k:PV→List (Nat×zAP)→PX}:(zUp p k).toPM=zQp p fun q l=>(k q l).toPM:=zJu
def zQm (hb:Nat):Nat→PV→(PV→PX)→PX
 | 0,_,_ => .fail
 | n+1,p,k=>match p.ways.find? (fun w=>Nat.blt w.1 hb) with
  | none => .same p k
  | some (r,pre) => .deep r pre fun q => .frzp r pre (p.mapW (inl r pre q)) fun p=>zQm hb n p k
theorem zFF {hb:Nat}:∀ {n:Nat} {p:PV} {k:PV→PX},(zQm hb n p k).toPM=zLT hb n p fun q=>(k q).toPM
 | 0,_,_=>rfl
 | n+1,p,k=>by
  simp only [zQm,zLT]
  cases p.ways.find? (fun w=>Nat.blt w.1 hb) with
  | none=>rfl
  | some w=>simp only [PX.toPM,zFF]
def zLd (p:PV) (k:List PV→PX):PX :=
 match p with
 | .nils _=>k []
 | .nn=>k []
 | .sl xs=>k xs
 | .bor r pre z lo n => .deep r pre fun q=>match q with
  | .own _ xs => .test (Nat.ble (lo+n) xs.length) (.sames ((xs.drop lo).take n) k)
  | _ => .fail
 | .bsl r pre i c sz ag n => .cells r pre i c (n*sz) fun _ cs => .test (zCf ag sz n cs) (.test (cs.all (fun q=>q.plain0)) (.sames (zCb ag sz n cs) k))
 | _ => .fail
theorem zKJ {p:PV} {k:List PV→PX}:(zLd p k).toPM=zHd p fun l=>(k l).toPM:=by
 cases p<;>simp only [zLd,zHd,PX.toPM,zC6]
 congr 1;funext q
 cases q<;>rfl
section
variable (P:Program) (H:zBf)
def zFw:List Nat→List PV→(List (Bool×PV)→PX)→PX
 | _,[],k=>k []
 | ms,p::ps,k =>
  match ms.headD 0,p with
  | 2,.bor r pre _ 0 n => .deep r pre fun q=>match q with
   | .own sz xs => .test (Nat.ble n xs.length) (.wnode r pre .bad (.same (.own sz ((xs.drop 0).take n)) fun o=>zFw ms.tail ps fun as=>k ((true,o)::as)))
   | _ => .fail
  | _,p=>zFw ms.tail ps fun as=>k ((false,p)::as)
def zDm:List Nat→List (Bool×PV)→(List Arg→PX)→PX
 | _,[],k=>k []
 | ms,(true,p)::ps,k=>zDm ms.tail ps fun as=>k ({p:=p}::as)
 | ms,(false,p)::ps,k =>
  bif Nat.beq (ms.headD 0) 1 then zDm ms.tail ps fun as=>k ({p:=p,byref:=true}::as)
  else zUp p fun q l=>zDm ms.tail ps fun as=>k ({p:=q,shared:=l}::as)
def zE2:List Nat→List (Bool×PV)→(List Arg→PX)→PX
 | _,[],k=>k []
 | ms,(true,p)::ps,k=>zE2 ms.tail ps fun as=>k ({p:=p}::as)
 | ms,(false,p)::ps,k =>
  bif Nat.beq (ms.headD 0) 1 then zE2 ms.tail ps fun as=>k ({p:=p,byref:=true}::as)
  else zQm zAe zDp p fun q=>zE2 ms.tail ps fun as=>k ({p:=q}::as)
def zQF:List Nat→(List PV→PX)→PX
 | [],k=>k []
 | r::rs,k => .get r fun p=>zQF rs fun ps=>k (p::ps)
def zTc:List Nat→List PV→List PV→PX→PX
 | r::rs,o::os,p::ps,k => .test (zGl o p) (.same p fun p => .wnode r [] p (zTc rs os ps k))
 | [],[],[],k=>k
 | _,_,_,_ => .fail
def zOF:Nat→List Nat→(List Nat→PX)→PX
 | 0,R,k=>k R
 | n+1,R,k=>zQF R fun ts=>let R':=(R++ts.flatMap zNQ).eraseDups;bif Nat.beq R'.length R.length then k R else zOF n R' k
def zHc:List Nat→PX→PX
 | [],k=>k
 | r::rs,k => .killEx r [] (zHc rs k)
def zMU:List Bool→PX→PX→PX
 | [a,b,c],x,y => .choose a x (.choose b (.choose c x y) y)
 | _,_,y=>y
theorem zL1 {a b c:Bool} {x y:PX}:(zMU [a,b,c] x y).toPM=bif a||b&&c then x.toPM else y.toPM:=by
 cases a<;>cases b<;>cases c<;>rfl
def zOX (d:Option Nat) (f:FuncId) (as:List Arg) (again:PX):PX :=
 .nats (zPn as) fun R0=>zOF 3 R0 fun R =>
 bif zGZ R&&R.all (fun r=>Nat.blt r zAe)&&Nat.ble R.length 1000&&Nat.ble as.length 1000&&(as.flatMap (·.shared)).all (fun x => !R.contains x.1) then
  zQF R fun hid => .sames (as.map fun a=>if a.byref then zGK (zDr R) a.p else a.p) fun args => .call f args (hid.map (zGK (zDr R))) fun v hZ =>
   zMU [(as.flatMap (·.shared)).isEmpty,v.free,zEH hZ]
    (zHc R<|zTc R hid (hZ.map (zGK (zB5 R))) (zFb d (zGK (zB5 R) v)))
    again
 else .fail
def zSH (d:Option Nat) (f:FuncId) (args:List PV):PX :=
 .nats (H f).mode fun ms=>zFw ms args fun bs=>zDm ms bs fun as=>zOX d f as (zE2 ms bs fun as=>zOX d f as .fail)
theorem zFv:∀ {ps:List PV} {ms:List Nat} {k:List (Bool×PV)→PX},(zFw ms ps k).toPM=zDX ms ps fun as=>(k as).toPM
 | [],_,_=>rfl
 | p :: ps,ms,k=>by
  unfold zFw zDX
  generalize ms.headD 0=m
  split
  ·simp only [PX.toPM]
   congr 1;funext q
   cases q<;>first | rfl | skip
   simp only [PX.toPM,zFv]
  ·simp only [zFv]
theorem zFe:∀ {ps:List (Bool×PV)} {ms:List Nat} {k:List Arg→PX},(zDm ms ps k).toPM=zCi ms ps fun as=>(k as).toPM
 | [],_,_=>rfl
 | (true,p)::ps,ms,k=>by simp only [zDm,zCi,zFe]
 | (false,p)::ps,ms,k=>by simp only [zDm,zCi,zDf,zSk,zFe]
theorem zGG:∀ {ps:List (Bool×PV)} {ms:List Nat} {k:List Arg→PX},(zE2 ms ps k).toPM=zEi ms ps fun as=>(k as).toPM
 | [],_,_=>rfl
 | (true,p)::ps,ms,k=>by simp only [zE2,zEi,zGG]
 | (false,p)::ps,ms,k=>by simp only [zE2,zEi,zDf,zFF,zGG]
theorem zLf:∀ {rs:List Nat} {k:List PV→PX},(zQF rs k).toPM=zNL rs fun ps=>(k ps).toPM
 | [],_=>rfl
 | r::rs,k=>by simp only [zQF,zNL,PX.toPM,zLf]
theorem zOn:∀ {rs:List Nat} {os ps:List PV} {k:PX},(zTc rs os ps k).toPM=zND rs os ps k.toPM
 | [],[],[],_=>rfl
 | r::rs,o::os,p::ps,k=>by simp only [zTc,zND,PX.toPM,zOn]
 | [],[],_::_,_=>rfl
 | [],_::_,_,_=>rfl
 | _::_,[],_,_=>rfl
 | _::_,_::_,[],_=>rfl
theorem zL9:∀ {n:Nat} {R:List Nat} {k:List Nat→PX},(zOF n R k).toPM=zKn n R fun R=>(k R).toPM
 | 0,_,_=>rfl
 | n+1,R,k=>by simp only [zOF,zKn,zLf,zDf,zL9]
theorem zH3:∀ {rs:List Nat} {k:PX},(zHc rs k).toPM=zKI rs k.toPM
 | [],_=>rfl
 | r::rs,k=>by simp only [zHc,zKI,PX.toPM,zH3]
theorem zQR {d:Option Nat} {f:FuncId} {as:List Arg} {again:PX}:(zOX d f as again).toPM=zR4 d f as again.toPM:=by
 simp only [zOX,zR4,zL9,zDf,zLf,PX.toPM,zL1,zH3,zOn,zEJ]
theorem zQB {d:Option Nat} {f:FuncId} {args:List PV}:(zSH H d f args).toPM=zN3 H d f args:=by
 simp only [zSH,zN3,zFv,zFe,zQR,zGG,PX.toPM]
def zRh (d:Option Nat) (args:List Operand) (g:PV):PX :=
 match g with
 | .func g first caps=>zP5 args fun as => .pure d g (first++as++caps) (zSH H d g (first++as++caps))
 | _ => .fail
theorem zSC {d:Option Nat} {args:List Operand} {g:PV}:(zRh H d args g).toPM=zSW H d args g:=by
 cases g<;>first | rfl | skip
 simp only [zRh,zSW,zIw,PX.toPM,zQB]
def zOb (d:Option Nat) (sz:Nat) (base:PV) (ys:List PV):PX :=
 .test (ys.all (fun y=>Nat.beq y.cells.length sz&&y.cells.all fun q=>q.oneCell)) (.test (zBp ys).isEmpty (
 match base with
 | .bor r pre z lo n => .deep r pre fun q=>match q with
  | .own s xs =>
   .test (Nat.beq s sz) (.test (Nat.ble (lo+n) xs.length) (.test (Nat.ble (xs.length+ys.length) zA2) (
    .choose (Nat.beq (lo+n) xs.length) (.test (Nat.beq lo 0) (.wnode r pre .bad (zGg d (.own sz (xs++ys))))) (.emb (zLa d r pre z lo n s xs ys)))))
  | _ => .fail
 | .nils _ => .test (Nat.ble ys.length zA2) (zGg d (.own sz ys))
 | _ => .fail))
theorem zP8 {d:Option Nat} {sz:Nat} {base:PV} {ys:List PV}:(zOb d sz base ys).toPM=zKY d sz base ys:=by
 cases base<;>simp only [zOb,zKY,PX.toPM,zC6,zBq]
 congr 1;congr 1;congr 1;funext q
 cases q<;>first | rfl | skip
 simp only [PX.toPM,zBq]
def zVd (x:Operand) (k:List PV→PX):PX :=
 match x with
 | .tmp t => .get t fun p=>match p with
  | .own _ xs => .set t .bad (k xs)
  | _ => .view t fun p=>zLd p fun xs => .test (xs.all (fun x=>x.plain)) (k xs)
 | x=>zGM x fun p=>zLd p fun xs => .test (xs.all (fun x=>x.plain)) (k xs)
theorem zTz {x:Operand} {k:List PV→PX}:(zVd x k).toPM=zNM x fun l=>(k l).toPM:=by
 cases x<;>simp only [zVd,zNM,PX.toPM,zB1,zKJ,zBn]
 congr 1;funext p
 cases p<;>first | rfl | simp only [PX.toPM,zKJ,zBn]
def zK8 (d:Option Nat) (b:Builtin) (ts:List TypeId) (args:List Operand):PX :=
 match b,args,ts with
 | .len,[x],t::_=>zGM x fun p=>match P.underlying t with
  | some (.array n _)=>zGg d (.int .i64 n)
  | some (.slice _) => .num (lenOf p) fun n=>zGg d (.int .i64 n)
  | _ => .fail
 | .append,[x,y],[t,t2]=>bif (zBL P t2).isNone then .fail else match (zBL P t).bind (szT P),(zBL P t).bind (zH9 P),(zBL P t).bind (zCz P) with
  | some sz,some by_,some z=>if by_≤16384∧z.cells.length=sz then zGM x fun base=>zVd y fun ys=>zOb d sz base ys else .fail
  | _,_,_ => .fail
 | .max,xs,_=>zP5 xs fun ps => .pick (zW2 ps) fun v=>zGg d v
 | .min,xs,_=>zP5 xs fun ps => .pick (zXq ps) fun v=>zGg d v
 | b,args,ts => .emb (zBj P d b ts args)
theorem zNp {d:Option Nat} {b:Builtin} {ts:List TypeId} {args:List Operand}:(zK8 P d b ts args).toPM=zBj P d b ts args:=by
 unfold zK8
 split
 ·simp only [zB1,zBj]
  congr 1;funext p
  generalize P.underlying _=u
  cases u with
  | none=>rfl
  | some u =>
   cases u<;>first | rfl | exact zBq | skip
   simp only [PX.toPM,zBq]
   cases lenOf p<;>simp only [PX.toPM,zBq]
 ·simp only [zBj,zDf]
  congr 1
  generalize (zBL P _).bind (szT P)=a1
  generalize (zBL P _).bind (zH9 P)=a2
  generalize (zBL P _).bind (zCz P)=a3
  cases a1<;>cases a2<;>cases a3<;>first | rfl | simp only [zOv,zB1,zTz,zP8,PX.toPM]
 ·simp only [zBj,zIw,PX.toPM,zBq]
  congr 1;funext ps
  cases zW2 ps<;>simp only [PX.toPM,zBq]
 ·simp only [zBj,zIw,PX.toPM,zBq]
  congr 1;funext ps
  cases zXq ps<;>simp only [PX.toPM,zBq]
 ·rfl
end
end Go.Eng
namespace Go.Eng
open Go
section
variable (P:Program) (H:zBf)
def zWs {α:Type} (x:Option α) (k:α→PX):PX :=
 match x with
 | some a=>k a
 | none => .fail
theorem zIX {α:Type} {x:Option α} {k:α→PX}:(zWs x k).toPM=zIo x fun a=>(k a).toPM:=by cases x<;>rfl
theorem zIM {x:Option PV} {k:PV→PX}:(PX.pick x k).toPM=zIo x fun a=>(k a).toPM:=by cases x<;>rfl
def zPp (p:PV) (k:PV→PX) (k2:PX):PX :=
 match p with
 | .bor r pre _ lo n => .deep r pre fun q=>match q with
  | .own sz xs => .choose (Nat.beq lo 0&&Nat.beq n xs.length) (.wnode r pre .bad (k (.own sz xs))) k2
  | _=>k2
 | .bmap r pre => .deep r pre fun q=>match q with
  | .omap es => .wnode r pre .bad (k (.omap es))
  | _=>k2
 | p=>k p
theorem zM2 {p:PV} {k:PV→PX} {k2:PX}:(zPp p k k2).toPM=zNW p (fun q=>(k q).toPM) k2.toPM:=by
 cases p<;>simp only [zPp,zNW,PX.toPM]
 all_goals
  congr 1;funext q
  cases q<;>rfl
def zTq (p:PV) (k:PV→PX):PX:=zPp p k (zQm zAe zDp p k)
theorem zOy {p:PV} {k:PV→PX}:(zTq p k).toPM=zMQ p fun q=>(k q).toPM:=by simp only [zTq,zMQ,zM2,zFF]
def zOw:List PV→(List PV→PX)→PX
 | [],k=>k []
 | p::ps,k=>zPp p (fun q=>zOw ps fun qs=>k (q::qs)) .fail
theorem zMH:∀ {ps:List PV} {k:List PV→PX},(zOw ps k).toPM=zJa ps fun qs=>(k qs).toPM
 | [],_=>rfl
 | p::ps,k=>by simp only [zOw,zJa,zM2,zMH,PX.toPM]
def zQx:PV→Bool
 | .bor .. | .bmap .. | .bsl .. => true
 | _=>false
def zJS (tk:Bool) (p:PV) (k:PV→PX):PX :=
 match p with
 | .agg cs=>bif tk then zOw cs fun cs=>k (.agg cs) else .choose (cs.any zQx) (zQm zAe zDp p k) (k p)
 | .bsl .. => zQm zAe zDp p k
 | .bor .. | .bmap .. => bif tk then zTq p k else zQm zAe zDp p k
 | p=>k p
theorem zHv {tk:Bool} {p:PV} {k:PV→PX}:(zJS tk p k).toPM=zFs tk p fun q=>(k q).toPM:=by
 cases p<;>simp only [zJS,zFs,zDf,zMH,zOy,zFF,PX.toPM]
 rfl
def zIq (tk:Bool):List PV→(List PV→PX)→PX
 | [],k=>k []
 | p::ps,k=>zJS tk p fun q=>zIq tk ps fun qs=>k (q::qs)
theorem zJH {tk:Bool}:∀ {ps:List PV} {k:List PV→PX},(zIq tk ps k).toPM=zGb tk ps fun qs=>(k qs).toPM
 | [],_=>rfl
 | p::ps,k=>by simp only [zIq,zGb,zHv,zJH]
def zOA (r:Nat) (pre:zAP) (i c:Nat) (v:PV):PX :=
 .test (!v.heavy||v.ways.all (fun w => !(zAF r pre w.1 w.2&&Nat.blt pre.length w.2.length))) (.test (v.cells.all (fun q=>q.oneCell)) (.test (!v.cells.isEmpty) (zRD r pre i c v.cells (.wcells r pre i c v.cells .ok))))
theorem zMx {r:Nat} {pre:zAP} {i c:Nat} {v:PV}:(zOA r pre i c v).toPM=zHW r pre i c v:=by
 simp only [zOA,zHW,PX.toPM,zQ1,zC6]
def zJv (tk:Bool) (r:Nat) (pre:zAP) (v:PV) (k:PV→PX):PX :=
 bif pre.isEmpty && !tk then .view r fun q=>(match q with | .addr .. => k v | _=>zJS tk v k) else zJS tk v k
theorem zML {tk:Bool} {r:Nat} {pre:zAP} {v:PV} {k:PV→PX}:(zJv tk r pre v k).toPM=zIl tk r pre v fun q=>(k q).toPM:=by
 simp only [zJv,zIl,zDf,PX.toPM,zHv]
 congr 1;congr 1;funext q
 cases q<;>first | rfl | exact zHv
def zJm (tk:Bool) (r:Nat) (pre:zAP) (i c:Nat) (v:PV):PX :=
 match zQV r pre i c v with
 | some m => .deep r (pre++[(i,c)]) fun q=>match q with
  | .own s xs => .test (Nat.ble m xs.length) (.wnode r (pre++[(i,c)]) .bad (.same (.own s ((xs.drop 0).take m)) fun v=>zOA r pre i c v))
  | _ => .fail
 | none=>zJv tk r pre v fun v => .same v fun v=>zOA r pre i c v
theorem zKj {tk:Bool} {r:Nat} {pre:zAP} {i c:Nat} {v:PV}:(zJm tk r pre i c v).toPM=zH7 tk r pre i c v:=by
 simp only [zJm,zH7]
 cases zQV r pre i c v with
 | none=>simp only [zML,PX.toPM,zMx]
 | some m =>
  simp only [PX.toPM]
  congr 1;funext q
  cases q<;>first | rfl | simp only [PX.toPM,zMx]
def zQY (fz tk:Bool) (t:TypeId) (a x:Operand):PX :=
 zGM a fun pa=>match pa,x with
 | .addr r pre i c _,.const (.slice none 0 0)=>zWs ((zBL P t).bind (szT P)) fun s=>if szT P t=some 1 then zJm tk r pre i c (.own s []) else .fail
 | pa,x=>match pa,shT P t,szT P t with
 | .addr r pre i c _,some sh,some n=>(bif fz&&tk then zGM x else zLw x) fun v =>
  .test (Nat.beq v.cells.length n) (.test (v.isAgg==sh.isSome) (zJm (tk && !fz) r pre i c (bif fz && !tk then zAR v else v)))
 | _,_,_ => .fail
theorem zR2 {fz tk:Bool} {t:TypeId} {a x:Operand}:(zQY P fz tk t a x).toPM=zOx P fz tk t a x:=by
 simp only [zQY,zOx,zB1]
 congr 1;funext pa
 have key:∀ (sh:Option (Option Nat)) (n:Option Nat),(match pa,sh,n with
   | .addr r pre i c _,some sh,some n=>(bif fz&&tk then zGM x else zLw x) fun v=>PX.test (Nat.beq v.cells.length n) (.test (v.isAgg==sh.isSome) (zJm (tk && !fz) r pre i c (bif fz && !tk then zAR v else v)))
   | _,_,_=>PX.fail).toPM=(match pa,sh,n with
   | .addr r pre i c _,some sh,some n=>(bif fz&&tk then opd x else zOs x) fun v=>bif Nat.beq v.cells.length n&&v.isAgg==sh.isSome then zH7 (tk && !fz) r pre i c (bif fz && !tk then zAR v else v) else .fail
   | _,_,_=>PM.fail):=by
  intro sh n
  cases pa<;>first | rfl | skip
  cases sh<;>cases n<;>first | rfl | skip
  cases hc:(fz&&tk)<;>simp only [cond_true,cond_false,zB1,zGd,PX.toPM,zKj,zC6]
 split
 ·simp only [zIX,zOv,zKj,PX.toPM]
 ·rename_i h
  rw [key]
  cases pa<;>first | rfl | skip
  cases x<;>first | rfl | skip
  rename_i v
  cases v<;>first | rfl | skip
  rename_i a n m
  cases a<;>cases n<;>cases m<;>first | rfl | exact (h _ _ _ _ _ rfl rfl).elim
def zIA (d:Option Nat) (p:PV):PX :=
 match d,p with
 | some d',.bor r [] z lo n=>if r=d' then .get r fun root=>match root with
   | .own sz xs => .test (Nat.ble (lo+n) xs.length) (.kill r [] (.same (.own sz ((xs.drop lo).take n)) fun o => .set r o .ok))
   | _ => .fail
  else zGg d p
 | _,_=>zGg d p
theorem zN0 {d:Option Nat} {p:PV}:(zIA d p).toPM=zFo d p:=by
 unfold zIA zFo
 split
 ·simp only [zOv,zBq,PX.toPM]
  congr 1;congr 1;funext q
  cases q<;>rfl
 ·rename_i h
  split
  ·exact (h _ _ _ _ _ rfl rfl).elim
  ·exact zBq
def zIS (tk nl:Bool) (d:Option Nat) (t:TypeId) (x:Operand):PX :=
 match x with
 | .const (.slice none 0 0) => .emb (zF8 P tk nl d t x)
 | x=>zLw x fun p=>bif tk then zTq p (zIA d) else zIA d p
theorem zMe {tk nl:Bool} {d:Option Nat} {t:TypeId} {x:Operand}:(zIS P tk nl d t x).toPM=zF8 P tk nl d t x:=by
 unfold zIS
 split
 ·rfl
 ·rename_i h
  unfold zF8
  split
  ·exact (h rfl).elim
  ·simp only [zGd,zDf,zOy,zN0]
def zSw (d:Option Nat) (t:TypeId) (x:Operand):PX:=zLw x fun p=>match shT P t,szT P t with
 | some sh,some n => .test (decide (p.cells.length=n)) (.test (decide (p.isAgg=sh.isSome)) (.test p.whole (zGg d (.box p))))
 | _,_ => .fail
theorem zRA {d:Option Nat} {t:TypeId} {x:Operand}:(zSw P d t x).toPM=zSX P d t x:=by
 simp only [zSw,zSX,zGd]
 congr 1;funext p
 cases shT P t<;>cases szT P t<;>first | rfl | skip
 simp only [PX.toPM,zBq,zBn,Bool.and_eq_true,decide_eq_true_eq]
 split<;>split<;>(try split)<;>simp_all
def zVG (nz:Option Nat) (x:Operand) (k:PV→PX):PX :=
 match nz,x with
 | some s,.const (.slice none 0 0)=>k (.own s [])
 | _,x=>zLw x k
def zPu (nz:Option Nat):List Operand→(List PV→PX)→PX
 | [],k=>k []
 | x::xs,k=>zVG nz x fun p=>zPu nz xs fun ps=>k (p::ps)
theorem zTi {nz:Option Nat} {x:Operand} {k:PV→PX}:(zVG nz x k).toPM=zXa nz x fun p=>(k p).toPM:=by
 unfold zVG zXa
 split
 ·rfl
 ·rename_i h
  rw [zGd]
  split
  ·exact (h _ rfl rfl).elim
  ·rfl
theorem zM0 {nz:Option Nat}:∀ {xs:List Operand} {k:List PV→PX},(zPu nz xs k).toPM=zPB nz xs fun p=>(k p).toPM
 | [],_=>rfl
 | x::xs,k=>by simp only [zPu,zPB,zTi,zM0]
def zE9 (tk:Bool) (d:Option Nat) (t:TypeId) (n:Nat) (ps:List (Nat×Operand)):PX :=
 match zBL P t with
 | some e=>match szT P e,zCz P e with
  | some s,some z=>if n*s≤65536&&Nat.beq z.cells.length s&&ps.all (fun x=>x.1<n) then zPu (zWX (zCz P e)) (ps.map (·.2)) fun vs=>zIq tk vs fun vs =>
    .sames vs fun vs => .test (zBp vs).isEmpty (.test (vs.all (fun v=>v.cells.length=s&&v.isAgg=z.isAgg&&v.whole)) (zGg d (.own s (zMP n z ((ps.map (·.1)).zip vs)))))
   else .fail
  | _,_ => .fail
 | none => .fail
theorem zIb {tk:Bool} {d:Option Nat} {t:TypeId} {n:Nat} {ps:List (Nat×Operand)}:(zE9 P tk d t n ps).toPM=zDz P tk d t n ps:=by
 simp only [zE9,zDz]
 cases zBL P t with
 | none=>rfl
 | some e =>
  simp only
  generalize szT P e=a1
  generalize zCz P e=a2
  cases a1<;>cases a2<;>first | rfl | skip
  simp only [zOv,zM0,zJH,PX.toPM,zBq]
  congr 1;congr 1;funext vs;congr 1;funext vs
  cases (zBp vs).isEmpty with
  | false=>rfl
  | true=>simp only [cond_true,Bool.true_and,zBn,if_true]
def zPt (d:Option Nat) (sh:Option Nat) (p:PV):PX :=
 match p with
 | .ref q => .test (decide (q.isAgg=sh.isSome)) (.test (decide (q.cells.length=sh.getD 1)) (zGg d q))
 | .addr r pre i c _=>zSz r pre i c sh (zGg d)
 | _ => .fail
theorem zMt {d:Option Nat} {sh:Option Nat} {p:PV}:(zPt d sh p).toPM=zPH d sh p:=by
 cases p<;>simp only [zPt,zPH,PX.toPM,zLO,zBq]
 simp only [zBn,Bool.and_eq_true,decide_eq_true_eq]
 split<;>split<;>simp_all
def zOj (tk:Bool) (d:Option Nat) (t:TypeId) (a:Operand):PX:=zWs (shT P t) fun sh=>zGM a fun p =>
 bif tk then (match p with
  | .addr r pre i c _=>zSz r pre i c sh fun v=>zQm zAe zDp v (zGg d)
  | p=>zPt d sh p) else zPt d sh p
theorem zPN {tk:Bool} {d:Option Nat} {t:TypeId} {a:Operand}:(zOj P tk d t a).toPM=zPv P tk d t a:=by
 simp only [zOj,zPv,zIX,zB1,zDf,zMt]
 congr 1;funext sh;congr 1;funext p;congr 1
 cases p<;>simp only [zMt,zLO,zFF,zBq]
def zQM (d:Option Nat) (op:BinOp) (t:TypeId) (x y:Operand):PX:=zGM x fun p=>zGM y fun q => .pick (zJ0 P op t p q) (zGg d)
theorem zSs {d:Option Nat} {op:BinOp} {t:TypeId} {x y:Operand}:(zQM P d op t x y).toPM=zTB P d op t x y:=by
 simp only [zQM,zTB,zB1,zIM,zBq]
def zZy (d:Option Nat) (op:UnOp) (p:PV):PX :=
 match op,p with
 | .not,.bool b=>zGg d (.bool !b)
 | .neg,.int k n=>zGg d (.int k (k.wrap (0-n)))
 | _,_ => .fail
theorem zWj {d:Option Nat} {op:UnOp} {p:PV}:(zZy d op p).toPM=unV d op p:=by
 cases op<;>cases p<;>first | rfl | exact zBq
def zRO (d:Option Nat) (t:TypeId) (p:PV):PX :=
 match P.underlying t,p with
 | some (.int k),.int _ n=>zGg d (.int k (k.wrap n))
 | _,_ => .fail
theorem zQE {d:Option Nat} {t:TypeId} {p:PV}:(zRO P d t p).toPM=zQw P d t p:=by
 simp only [zRO,zQw]
 cases P.underlying t with
 | none=>rfl
 | some u=>cases u<;>cases p<;>first | rfl | exact zBq
def zFy (d:Option Nat) (t:TypeId) (l c:Operand):PX :=
 zGM l fun l=>zFQ l fun l=>zGM c fun c=>zFQ c fun c=>match zBL P t with
 | some e=>match zCz P e,szT P e,zH9 P e with
  | some z,some s,some b => .test (decide (l≤c)) (.test (decide (c≤zA2)) (.test (decide (b≤16384∧z.cells.length=s)) (zGg d (.own s (List.replicate l z)))))
  | _,_,_ => .fail
 | none => .fail
theorem zJN {d:Option Nat} {t:TypeId} {l c:Operand}:(zFy P d t l c).toPM=zE6 P d t l c:=by
 simp only [zFy,zE6,zB1,zEQ]
 congr 1;funext p;congr 1;funext l;congr 1;funext q;congr 1;funext c
 cases zBL P t with
 | none=>rfl
 | some e =>
  simp only
  generalize zCz P e=a1
  generalize szT P e=a2
  generalize zH9 P e=a3
  cases a1<;>cases a2<;>cases a3<;>first | rfl | skip
  simp only [PX.toPM,zBq,zBn,decide_eq_true_eq]
  by_cases h1:l≤c<;>by_cases h2:c≤zA2<;>simp [h1,h2]
def zOd (d:Option Nat) (n:Nat) (e:TypeId) (p:PV) (i:Nat):PX :=
 match szT P e,shT P e with
 | some s,some sh => .test (decide (i<n)) (.pick (zCd p (i*s) sh) (zGg d))
 | _,_ => .fail
def zRU (d:Option Nat) (e:TypeId) (p:PV) (i:Nat):PX :=
 match p with
 | .sl xs => .pick (xs[i]?) fun x => .test (decide (szT P e=some x.cells.length)) (zGg d (.ref x))
 | .bor r pre z lo n=>match shT P e with
  | some sh => .test (decide (i<n)) (.test (decide (szT P e=some z)) (.num (some (lo+i)) fun j=>zGg d (.addr r pre j 0 sh)))
  | none => .fail
 | .bsl r pre j c s ag n => .test (decide (i<n)) (.test (decide (szT P e=some s)) (.num (some (c+i*s)) fun c=>zGg d (.addr r pre j c (if ag then some s else none))))
 | _ => .fail
theorem zPD {d:Option Nat} {n:Nat} {e:TypeId} {p:PV} {i:Nat}:(zOd P d n e p i).toPM=zO2 P d n e p i:=by
 simp only [zOd,zO2]
 generalize szT P e=a1
 generalize shT P e=a2
 cases a1<;>cases a2<;>first | rfl | skip
 simp only [PX.toPM,zIM,zBq,zBn,decide_eq_true_eq]
theorem zR1 {d:Option Nat} {e:TypeId} {p:PV} {i:Nat}:(zRU P d e p i).toPM=zRH P d e p i:=by
 cases p<;>simp only [zRU,zRH,PX.toPM,zIM,zBq]
 ·congr 1;funext x;simp only [zBn,decide_eq_true_eq]
 ·cases shT P e with
  | none=>rfl
  | some sh =>
   simp only [PX.toPM,zBq,zBn,decide_eq_true_eq]
   split<;>split<;>simp_all
 ·simp only [zBn,decide_eq_true_eq]
  split<;>split<;>simp_all
def zFB (d:Option Nat) (t:TypeId) (x i:Operand):PX :=
 zGM x fun p=>zGM i fun i=>zFQ i fun i=>match P.underlying t with
 | some (.array n e)=>zOd P d n e p i
 | some (.slice e)=>zRU P d e p i
 | _ => .fail
theorem zIJ {d:Option Nat} {t:TypeId} {x i:Operand}:(zFB P d t x i).toPM=zEZ P d t x i:=by
 simp only [zFB,zEZ,zB1,zEQ]
 congr 1;funext p;congr 1;funext q;congr 1;funext i
 cases P.underlying t with
 | none=>rfl
 | some u=>cases u<;>first | rfl | exact zPD P | exact zR1 P
def zKT (d:Option Nat) (t:TypeId) (x i:Operand):PX :=
 zGM x fun p=>zGM i fun i=>zFQ i fun i=>match P.underlying t with
 | some (.array n e)=>match szT P e,shT P e with
  | some s,some sh => .test (decide (i<n)) (.pick (sub p (i*s) sh) (zGg d))
  | _,_ => .fail
 | _ => .fail
theorem zN5 {d:Option Nat} {t:TypeId} {x i:Operand}:(zKT P d t x i).toPM=zKU P d t x i:=by
 simp only [zKT,zKU,zB1,zEQ]
 congr 1;funext p;congr 1;funext q;congr 1;funext i
 cases P.underlying t with
 | none=>rfl
 | some u =>
  cases u<;>first | rfl | skip
  rename_i n e
  simp only
  generalize szT P e=a1
  generalize shT P e=a2
  cases a1<;>cases a2<;>first | rfl | skip
  simp only [PX.toPM,zIM,zBq,zBn,decide_eq_true_eq]
def zWm (x:Option Operand) (n:Nat) (k:Nat→PX):PX :=
 match x with
 | some x=>zGM x fun p=>zFQ p k
 | none=>k n
theorem zSp {x:Option Operand} {n:Nat} {k:Nat→PX}:(zWm x n k).toPM=zSM x n fun m=>(k m).toPM:=by
 cases x with
 | none=>rfl
 | some x=>simp only [zWm,zSM,zB1,zEQ]
def zOi (d:Option Nat) (s:Nat) (p:PV) (l h:Nat):PX :=
 match p with
 | .sl xs => .test (Nat.ble l h) (.test (Nat.ble h xs.length) (.test (xs.all (fun x=>Nat.beq x.cells.length s)) (zGg d (.sl ((xs.drop l).take (h-l))))))
 | .bor r pre z a n =>
  .test (Nat.beq z s) (.test (Nat.ble l h) (
   .choose (Nat.ble h n) (.choose (Nat.beq l 0||Nat.blt l h) (zGg d (.bor r pre z (a+l) (h-l))) (zGg d (.sl [])))
   (.deep r pre fun q=>match q with
    | .own _ xs => .test (Nat.ble (a+h) xs.length) (.choose (Nat.beq l 0||Nat.blt l h) (zGg d (.bor r pre z (a+l) (h-l))) (zGg d (.sl [])))
    | _ => .fail)))
 | _ => .fail
theorem zTF {d:Option Nat} {b:Bool} {p q:PV}:put d (bif b then p else q)=bif b then put d p else put d q:=by cases b<;>rfl
theorem zP0 {d:Option Nat} {s:Nat} {p:PV} {l h:Nat}:(zOi d s p l h).toPM=zOD d s p l h:=by
 cases p<;>simp only [zOi,zOD,PX.toPM,zBq,zC6,zTF]
 congr 1;congr 1;congr 1;congr 1;funext q
 cases q<;>first | rfl | simp only [PX.toPM,zBq]
def zN7 (d:Option Nat) (n s:Nat) (sh:Option Nat) (p:PV) (l h:Nat):PX :=
 .test (Nat.ble l h) (.test (Nat.ble h n) (.test (Nat.beq l 0||Nat.blt l n) (
  match p with
  | .addr r pre i c _ => .num (some (h-l)) fun m=>zGg d (.bsl r pre i (c+l*s) s sh.isSome m)
  | .ref (.agg cs) => .test (Nat.ble (n*s) cs.length) (.test (zCf sh.isSome s (h-l) ((cs.drop (l*s)).take ((h-l)*s))) (.test (zBp cs).isEmpty (zGg d (.sl (zCb sh.isSome s (h-l) ((cs.drop (l*s)).take ((h-l)*s)))))))
  | _ => .fail)))
theorem zPX {d:Option Nat} {n s:Nat} {sh:Option Nat} {p:PV} {l h:Nat}:(zN7 d n s sh p l h).toPM=zRX d n s sh p l h:=by
 cases p<;>simp only [zN7,zRX,PX.toPM,zBq,zC6]
 rename_i q
 cases q<;>simp only [PX.toPM,zBq,zC6]
def zQ6 (d:Option Nat) (t:TypeId) (x:Operand) (lo hi mx:Option Operand):PX :=
 match mx with
 | some m => .emb (zJr P d t x lo hi (some m))
 | none=>zGM x fun p=>match P.underlying t with
  | some (.array n e)=>match szT P e,shT P e with
   | some s,some sh=>zWm hi n fun h=>zWm lo 0 fun l=>zN7 d n s sh p l h
   | _,_ => .fail
  | some (.slice e)=>match szT P e,lenOf p with
   | some s,some n=>zWm hi n fun h=>zWm lo 0 fun l=>zOi d s p l h
   | _,_ => .fail
  | _ => .fail
theorem zSg {d:Option Nat} {t:TypeId} {x:Operand} {lo hi mx:Option Operand}:(zQ6 P d t x lo hi mx).toPM=zJr P d t x lo hi mx:=by
 cases mx with
 | some _=>rfl
 | none =>
  simp only [zQ6,zJr,zB1]
  congr 1;funext p
  cases P.underlying t with
  | none=>rfl
  | some u =>
   cases u<;>first | rfl | skip
   ·rename_i e
    simp only
    generalize szT P e=a1
    generalize lenOf p=a2
    cases a1<;>cases a2<;>first | rfl | simp only [zSp,zP0]
   ·rename_i n e
    simp only
    generalize szT P e=a1
    generalize shT P e=a2
    cases a1<;>cases a2<;>first | rfl | simp only [zSp,zPX]
def zI3 (es:List (PV×PV)) (i:Nat):Option PV:=(es[i]?).map (·.2)
def zJZ (d:Option Nat) (kt:TypeId) (z key:PV) (ok:Bool) (es:List (PV×PV)):PX :=
 .idx (zC3 P kt key es 0) fun x=>match x with
 | some i => .pick (zI3 es i) fun v => .test v.lone (zFb d (if ok then .tup [v,.bool true] else v))
 | none=>zFb d (if ok then .tup [z,.bool false] else z)
theorem zKO {d:Option Nat} {kt:TypeId} {z key:PV} {ok:Bool} {es:List (PV×PV)}:(zJZ P d kt z key ok es).toPM=zJc P d kt z key ok es:=by
 simp only [zJZ,zJc,PX.toPM]
 cases zC3 P kt key es 0 with
 | none=>rfl
 | some x =>
  cases x with
  | none=>exact zEJ
  | some i =>
   show (PX.pick (zI3 es i) fun v => .test v.lone (zFb d (if ok then .tup [v,.bool true] else v))).toPM=_
   rw [zIM]
   simp only [zI3,PX.toPM,zEJ]
   cases es[i]?<;>rfl
def zQD (d:Option Nat) (kt:TypeId) (z key:PV) (ok:Bool) (m:PV):PX :=
 match m with
 | .nilm=>zJZ P d kt z key ok []
 | .map es=>zJZ P d kt z key ok es
 | .bmap r pre => .deep r pre fun q=>match q with
  | .omap es=>zJZ P d kt z key ok es
  | _ => .fail
 | _ => .fail
theorem zRi {d:Option Nat} {kt:TypeId} {z key:PV} {ok:Bool} {m:PV}:(zQD P d kt z key ok m).toPM=zTg P d kt z key ok m:=by
 cases m<;>first | rfl | exact zKO P | skip
 simp only [zQD,zTg,PX.toPM]
 congr 1;funext q
 cases q<;>first | rfl | exact zKO P
def zJy (d:Option Nat) (t:TypeId) (m x:Operand) (ok:Bool):PX :=
 zGM m fun m=>zGM x fun key=>match P.underlying t with
 | some (.map kt e) => .test (zON P 20 kt key) (zWs (zCz P e) fun z => .test (zJf z).lone (zQD P d kt (zJf z) key ok m))
 | _ => .fail
theorem zMl {d:Option Nat} {t:TypeId} {m x:Operand} {ok:Bool}:(zJy P d t m x ok).toPM=zIf P d t m x ok:=by
 simp only [zJy,zIf,zB1]
 congr 1;funext p;congr 1;funext q
 cases P.underlying t with
 | none=>rfl
 | some u=>cases u<;>first | rfl | simp only [PX.toPM,zIX,zRi]
def zUz (es:List (PV×PV)) (k:List (PV×PV)→PX):PX := .same (.omap es) fun q=>match q with
 | .omap es=>k es
 | _ => .fail
def zOf (kt:TypeId) (key v m:PV):PX :=
 match m with
 | .bmap r pre => .test v.lone (.deep r pre fun q=>match q with
  | .omap es => .idx (zC3 P kt key es 0) fun x=>match x with
   | some i=>zUz (es.modify i fun _=>(key,v)) fun es => .wnode r pre (.omap es) .ok
   | none=>zUz (es++[(key,v)]) fun es => .wnode r pre (.omap es) .ok
  | _ => .fail)
 | _ => .fail
theorem zQe {kt:TypeId} {key v m:PV}:(zOf P kt key v m).toPM=zMy P kt key v m:=by
 cases m<;>first | rfl | skip
 simp only [zOf,zMy,PX.toPM]
 congr 1;congr 1;funext q
 cases q<;>first | rfl | skip
 rename_i es
 simp only [PX.toPM]
 cases zC3 P kt key es 0 with
 | none=>rfl
 | some x=>cases x<;>rfl
def zFS (t:TypeId) (m x y:Operand):PX:=zGM m fun m=>zGM x fun key=>match P.underlying t with
 | some (.map kt _) => .test (zON P 20 kt key&&key.flat) (zLw y fun v=>zQm zAe zDp v fun v=>zOf P kt key (zAR v) m)
 | _ => .fail
theorem zII {t:TypeId} {m x y:Operand}:(zFS P t m x y).toPM=zFa P t m x y:=by
 simp only [zFS,zFa,zB1]
 congr 1;funext p;congr 1;funext q
 cases P.underlying t with
 | none=>rfl
 | some u=>cases u<;>first | rfl | simp only [PX.toPM,zGd,zFF,zQe]
def zUP (es:List (PV×PV)) (i:Nat):Option PV:=(es[i]?).map (·.1)
def zNy (d:Option Nat) (kt:TypeId) (z key m:PV):PX :=
 match m with
 | .bmap r pre => .deep r pre fun q=>match q with
  | .omap es => .idx (zC3 P kt key es 0) fun x=>match x with
   | some i => .pick (zI3 es i) fun v => .test v.lone (.wnode r pre (.omap (es.modify i fun _=>(key,v))) (zFb d (.tup [v,.int .i64 i])))
   | none => .wnode r pre (.omap (es++[(key,z)])) (zFb d (.tup [z,.int .i64 es.length]))
  | _ => .fail
 | _ => .fail
theorem zPL {d:Option Nat} {kt:TypeId} {z key m:PV}:(zNy P d kt z key m).toPM=zPm P d kt z key m:=by
 cases m<;>first | rfl | skip
 simp only [zNy,zPm,PX.toPM]
 congr 1;funext q
 cases q<;>first | rfl | skip
 rename_i es
 simp only [PX.toPM]
 cases zC3 P kt key es 0 with
 | none=>rfl
 | some x =>
  cases x with
  | none=>simp only [PX.toPM,zEJ]
  | some i =>
   simp only [PX.toPM,zI3]
   cases es[i]? with
   | none=>rfl
   | some kv=>obtain ⟨k,v⟩:=kv;simp only [Option.map_some,PX.toPM,zEJ]
def zGz (d:Option Nat) (t:TypeId) (m x:Operand):PX:=zGM m fun m=>zGM x fun key=>match P.underlying t with
 | some (.map kt el) => .test (zON P 20 kt key&&key.flat) (zWs (zCz P el) fun z => .test (zJf z).lone (zNy P d kt (zJf z) key m))
 | _ => .fail
theorem zJ5 {d:Option Nat} {t:TypeId} {m x:Operand}:(zGz P d t m x).toPM=zF9 P d t m x:=by
 simp only [zGz,zF9,zB1]
 congr 1;funext p;congr 1;funext q
 cases P.underlying t with
 | none=>rfl
 | some u=>cases u<;>first | rfl | simp only [PX.toPM,zIX,zPL]
def zIY (i:Nat) (v m:PV):PX :=
 match m with
 | .bmap r pre => .test v.lone (.deep r pre fun q=>match q with
  | .omap es => .pick (zUP es i) fun k => .wnode r pre (.omap (es.modify i fun _=>(k,v))) .ok
  | _ => .fail)
 | _ => .fail
theorem zLV {i:Nat} {v m:PV}:(zIY i v m).toPM=zIh i v m:=by
 cases m<;>first | rfl | skip
 simp only [zIY,zIh,PX.toPM]
 congr 1;congr 1;funext q
 cases q<;>first | rfl | skip
 rename_i es
 simp only [PX.toPM,zUP]
 cases es[i]? with
 | none=>rfl
 | some kv=>obtain ⟨k,x⟩:=kv;rfl
def zE0 (m s y:Operand):PX:=zGM m fun m=>zGM s fun s=>zFQ s fun i=>zLw y fun v=>zQm zAe zDp v fun v=>zIY i (zAR v) m
theorem zIc {m s y:Operand}:(zE0 m s y).toPM=zEm m s y:=by
 simp only [zE0,zEm,zB1,zEQ,zGd,zFF,zLV]
def zNq (d:Option Nat) (c:Call):PX :=
 match c.callee with
 | .builtin b=>zK8 P d b c.argTypes.toList c.args.toList
 | .value f=>zGM f (zRh H d c.args.toList)
 | _ => .fail
theorem zQo {d:Option Nat} {c:Call}:(zNq P H d c).toPM=zIP P H d c:=by
 simp only [zNq,zIP]
 cases c.callee<;>simp only [PX.toPM,zNp,zB1,zSC]
def opX (fz tk nl:Bool) (o:Oper):PX :=
 match o.op with
 | .assign x=>zIS P tk nl o.dst o.type x
 | .box t x=>zSw P o.dst t x
 | .buildSlice t n ps=>zE9 P tk o.dst t n ps.toList
 | .load t a=>zOj P tk o.dst t a
 | .store t a x=>zQY P fz tk t a x
 | .binOp op t x y _=>zQM P o.dst op t x y
 | .unOp op _ x=>zGM x (zZy o.dst op)
 | .convert _ t x=>zGM x (zRO P o.dst t)
 | .makeSlice t l c=>zFy P o.dst t l c
 | .slice t x lo hi mx=>zQ6 P o.dst t x lo hi mx
 | .indexAddr t x i=>zFB P o.dst t x i
 | .index t x i=>zKT P o.dst t x i
 | .lookup t m x ok=>zJy P o.dst t m x ok
 | .mapUpdate t m x y=>zFS P t m x y
 | .mapEntry t m x=>zGz P o.dst t m x
 | .entryStore _ m s x=>zE0 m s x
 | .call c=>zNq P H o.dst c
 | _ => .emb (opM P H fz tk nl o)
theorem zWJ {fz tk nl:Bool} {o:Oper}:(opX P H fz tk nl o).toPM=opM P H fz tk nl o:=by
 obtain ⟨dst,op,type,pos,after,guard⟩:=o
 cases op<;>simp only [opX,opM,PX.toPM,zMe,zRA,zIb,zPN,zR2,zSs,zB1,zWj,zQE,zJN,zSg,zIJ,zN5,zMl,zII,zJ5,zIc,zQo]
end
end Go.Eng
namespace Go.Eng
open Go
section
variable [Yo] {P:Program} {H:zBf} {f:FuncId} {nt:Nat} {e e':Env} {lg:Option Log} {K:X→Env→Option Log→Prop} {i:Nat} {c:Code} {s:RS} {R:Env→Option Log→Prop}
abbrev zY4 (P:Program) (H:zBf) (f:FuncId) (c:Code) (i:Nat):PX:=opX P H (((H f).frzs (rid c)).contains i) (((H f).take (rid c)).contains i) (H f).nils (zDS c i)
def zWp [Yo] (P:Program) (H:zBf) (f:FuncId) (c:Code) (i:Nat) (as:Ans) (s:RS):Option (RS×List Prop) :=
 match (zY4 P H f c i).run P H as s.e with
 | some (e',t,obs)=>(zRk c i s e' t).map fun s'=>(s',obs)
 | none=>none
def rsX (o:Option (RS×List Prop)):RS:=zXj (o.map (·.1))
theorem S_x (as:Ans) (obs:List Prop) (ho:zS2 obs) (h:WS P H f c (i+1) (rsX (zWp P H f c i as s)) R) (hq:(zWp P H f c i as s).map (·.2)=some obs:=by kernel_rfl) (hi:Nat.blt i (zFn c).size=true:=by kernel_rfl):WS P H f c i s R:=by
 obtain ⟨⟨s',obs'⟩,hs,hq⟩:=Option.map_eq_some_iff.1 hq
 simp only at hq;subst hq
 simp only [zWp] at hs
 split at hs
 ·rename_i e1 t obs hr
  obtain ⟨s1,h1,h2⟩:=Option.map_eq_some_iff.1 hs
  simp only [Prod.mk.injEq] at h2
  obtain ⟨rfl,rfl⟩:=h2
  obtain ⟨n0,hn⟩:=PX.run_ok hr ho
  refine zYg (m:=some (e1,t)) ⟨n0,fun n vi=>?_⟩ ?_ ?_ hi
  ·have:=hn n vi
   rw [zWJ] at this
   exact this
  ·simpa [rsX,zWp,hr,h1] using h
  ·simp [h1]
 ·cases hs
def zWg (p:PV) (k:PV→PX) (k2:PX):PX :=
 match p with
 | .bor r pre _ lo n => .deep r pre fun q=>match q with
  | .own sz xs => .choose (Nat.ble (lo+n) xs.length) (.wnode r pre .bad (.same (.own sz ((xs.drop lo).take n)) k)) k2
  | _=>k2
 | .addr r pre 0 0 _ => .deep r pre fun q=>match q with
  | .box q => .wnode r pre .bad (k (.box q))
  | _=>k2
 | .bmap r pre => .deep r pre fun q=>match q with
  | .omap es => .wnode r pre .bad (k (.omap es))
  | _=>k2
 | _=>k2
omit [Yo] in
theorem zT3 {p:PV} {k:PV→PX} {k2:PX}:(zWg p k k2).toPM=zQ9 p (fun q=>(k q).toPM) k2.toPM:=by
 unfold zWg zQ9
 split
 ·simp only [PX.toPM]
  congr 1;funext q
  cases q<;>rfl
 ·simp only [PX.toPM]
  congr 1;funext q
  cases q<;>rfl
 ·simp only [PX.toPM]
  congr 1;funext q
  cases q<;>rfl
 ·rename_i h1 h2 h3
  split
  ·exact (h1 _ _ _ _ _ rfl).elim
  ·exact (h2 _ _ _ rfl).elim
  ·exact (h3 _ _ rfl).elim
  ·rfl
def zK4 (frz:Bool) (p:PV) (k:PV→PX):PX :=
 bif frz||p.ways.any (fun w=>Nat.ble zAm w.1) then zQm zAm zDp p k else zWg p k (zQm zAm zDp p k)
def zEn (frz:Bool):List PV→(List PV→PX)→PX
 | [],k=>k []
 | p::ps,k=>zK4 frz p fun q=>zEn frz ps fun qs=>k (q::qs)
def zIi (frz:Bool) (p:PV) (k:PV→PX):PX :=
 match p with
 | .agg cs => .choose (cs.all fun q=>q.num) (k (.agg cs)) (zEn frz cs fun qs=>k (.agg qs))
 | p=>zK4 frz p k
omit [Yo] in
theorem zKp {frz:Bool} {p:PV} {k:PV→PX}:(zK4 frz p k).toPM=zFU frz p fun q=>(k q).toPM:=by
 simp only [zK4,zFU,zDf,zFF,zT3]
omit [Yo] in
theorem zFA {frz:Bool}:∀ {ps:List PV} {k:List PV→PX},(zEn frz ps k).toPM=zCl frz ps fun qs=>(k qs).toPM
 | [],_=>rfl
 | p::ps,k=>by simp only [zEn,zCl,zKp,zFA]
omit [Yo] in
theorem zNu {frz:Bool} {p:PV} {k:PV→PM} (h:p.num=true):zFU frz p k=k p:=by
 cases p<;>first | (cases h;done) | skip
 all_goals cases frz<;>rfl
omit [Yo] in
theorem zFp {frz:Bool}:∀ {ps:List PV} {k:List PV→PM},ps.all (fun q=>q.num)=true→zCl frz ps k=k ps
 | [],_,_=>rfl
 | p::ps,k,h=>by
  simp only [List.all_cons,Bool.and_eq_true] at h
  simp only [zCl,zNu h.1,zFp h.2]
omit [Yo] in
theorem zJz {frz:Bool} {p:PV} {k:PV→PX}:(zIi frz p k).toPM=zGv frz p fun q=>(k q).toPM:=by
 cases p<;>first | exact zKp | skip
 rename_i cs
 simp only [zIi,zGv,PX.toPM,zFA]
 cases h:cs.all fun q=>q.num with
 | false=>rfl
 | true=>simp only [cond_true];exact (zFp (k:=fun qs=>(k (.agg qs)).toPM) h).symm
def zHN (P:Program) (frz:Bool):Nat→List ResultVar→PX
 | _,[] => .ok
 | j,.tmp t::rs => .view t fun p=>zIi frz p fun q => .same q fun q=>zWo (zAw+j) q (zHN P frz (j+1) rs)
 | j,.cell a t::rs=>zWs (shT P t) fun sh => .view a fun p=>match p with
  | .addr r pre i c _=>zSz r pre i c sh fun v=>zIi frz v fun q => .same q fun q=>zWo (zAw+j) q (zHN P frz (j+1) rs)
  | _ => .fail
omit [Yo] in
theorem zHH {frz:Bool}:∀ {rs:List ResultVar} {j:Nat},(zHN P frz j rs).toPM=zCB P frz j rs
 | [],_=>rfl
 | .tmp t::rs,j=>by simp only [zHN,zCB,PX.toPM,zJz,zLN,zHH]
 | .cell a t::rs,j=>by
  simp only [zHN,zCB,zIX,PX.toPM]
  congr 1;funext sh;congr 1;funext p
  cases p<;>first | rfl | simp only [zLO,zJz,PX.toPM,zLN,zHH]
def zNG [Yo] (P:Program) (H:zBf) (f:FuncId) (fn:Func) (as:Ans) (e:Env) (nh:Nat):Option ((PV×List PV)×List Prop) :=
 match (zHN P (H f).frz 0 fn.results.toList).run P H as e with
 | some (e',_,obs)=>bif Nat.beq fn.results.size 1&&(e'.get zAw).isTup then none else some ((zVQ e' fn.results.size,(List.range nh).map fun j=>e'.get (zAm+j)),obs)
 | none=>none
def zWi [Yo] (P:Program) (H:zBf) (f:FuncId) (fn:Func) (nh:Nat) (v:PV) (hZ:List PV) (x:X) (e:Env) (lg:Option Log):Prop :=
 (x = .norm∨x = .ret)∧lg=none∧∃ n0,∀ n,n0≤n→∃ e',(zCB P (H f).frz 0 fn.results.toList).run (zCP P H n) e=some e'∧(bif Nat.beq fn.results.size 1&&(e'.get zAw).isTup then none else some (zVQ e' fn.results.size,(List.range nh).map fun j=>e'.get (zAm+j)))=some (v,hZ)
theorem E_x {fn:Func} {nh:Nat} {v:PV} {h:List PV} {x:X} (as:Ans) (obs:List Prop) (v':PV) (h':List PV) (ho:zS2 obs) (hv:v'=v) (hh:h'=h) (hf:zNG P H f fn as e nh=some ((v',h'),obs):=by kernel_rfl) (hl:lg=none:=by kernel_rfl) (hx:x = .norm∨x = .ret:=by first | exact .inr rfl | exact .inl rfl):zWi P H f fn nh v h x e lg:=by
 subst hv;subst hh
 simp only [zNG] at hf
 split at hf
 ·rename_i e1 t obs' hr
  rcases zBc hf with ⟨_,hf⟩ | ⟨hb,hf⟩
  ·cases hf
  ·simp only [Option.some.injEq,Prod.mk.injEq] at hf
   obtain ⟨⟨h1,h2⟩,rfl⟩:=hf
   obtain ⟨n0,hn⟩:=PX.run_ok hr ho
   refine ⟨hx,hl,n0,fun n vi=>⟨e1,?_,?_⟩⟩
   ·have:=hn n vi
    rw [zHH] at this
    exact zEc this
   ·rw [hb];simp only [cond_false,h1,h2]
 ·cases hf
theorem zAf (fn:Func) {args hid:List PV} {v:PV} {hZ:List PV} (h:W P H f fn.ntmps (fn.body.getD .ret) (zA4 args hid) none (zWi P H f fn hid.length v hZ)) (hf:P.funcs[f]? = some fn:=by kernel_rfl) (hi:(H f).intr=0:=by kernel_rfl) (hb:fn.body.isSome=true:=by kernel_rfl)
  (hc:(Nat.ble args.length fn.ntmps&&Nat.ble hid.length 1000&&args.all (fun p => !p.isTup))=true:=by kernel_rfl):zDi P H f args hid v hZ:=by
 obtain ⟨body,hb⟩:∃ body,fn.body=some body:=by cases hx:fn.body<;>first | exact ⟨_,rfl⟩ | (rw [hx] at hb;cases hb)
 simp only [hb,Option.getD_some] at h
 obtain ⟨n0,x,e1,lg1,h1,hx,rfl,n1,hr⟩:=h
 refine ⟨max n0 n1+1,fun n hn=>?_⟩
 obtain ⟨n,rfl⟩:∃ k,n=k+1:=⟨n-1,by omega⟩
 have j4:=h1 n (n+1) (by omega) (by omega)
 obtain ⟨e2,h2,hr⟩:=hr n (by omega)
 show zJI P H (zCP P H n) Yo.yo zB7 (n+1) f args hid=_
 simp only [zJI,hf,hi,hb,zI5,hc,cond_true,j4,ne_eq,not_true,if_false]
 rcases hx with rfl | rfl<;>simp only [h2,hr]
theorem zVo (k:Int) (xss:List (List PV)) (args:List PV) (a:Nat) (h1:k=1→WS P H f c (i+1) ⟨(zFl s.dr i (zDS c i) {all:=true}).getD none,zM4 ((put (zDS c i).dst (.bool false)).run zHt (s.e.forget zAe)),some ⟨xss++[args],k-1,a⟩⟩ R)
  (h2:k≠1→WS P H f c (i+1) ⟨(zFl s.dr i (zDS c i) {all:=true}).getD none,zM4 ((put (zDS c i).dst (.bool true)).run zHt s.e),some ⟨xss++[args],k-1,a⟩⟩ R) (hk:k≠0)
  (hy:zB6 s.e (zDS c i)=some (a,args):=by kernel_rfl) (hl:s.lg=some ⟨xss,k,a⟩:=by kernel_rfl) (hw:zKZ (zFn c) s.e (zDS c i)=some true:=by kernel_rfl) (hf:args.all PV.flat=true:=by kernel_rfl)
  (hd:(zFl s.dr i (zDS c i) {all:=true}).isSome=true:=by kernel_rfl) (uL:((put (zDS c i).dst (.bool false)).run zHt (s.e.forget zAe)).isSome=true:=by kernel_rfl) (ui:((put (zDS c i).dst (.bool true)).run zHt s.e).isSome=true:=by kernel_rfl)
  (hi:Nat.blt i (zFn c).size=true:=by kernel_rfl):WS P H f c i s R:=by
 have wO:zFl s.dr i (zDS c i) {all:=true}=some ((zFl s.dr i (zDS c i) {all:=true}).getD none):=by
  cases hx:zFl s.dr i (zDS c i) {all:=true} with
  | none=>rw [hx] at hd;cases hd
  | some d=>rfl
 have vN:(k != 0)=true:=by simpa using hk
 by_cases jD:k=1
 ·refine zK7 hi ⟨0,fun n _=>?_⟩ wO (h1 jD)
  have hr:(put (zDS c i).dst (.bool false)).run (zCP P H n) (s.e.forget zAe)=some (zM4 ((put (zDS c i).dst (.bool false)).run zHt (s.e.forget zAe))):=zFP (zHG uL)
  have wL:(k==1)=true:=by simpa using jD
  have hyr:zBK (zCP P H n) (zFn c) (zDS c i) a args ⟨xss,k,a⟩ s.e=some (zM4 ((put (zDS c i).dst (.bool false)).run zHt (s.e.forget zAe)),some ⟨xss++[args],k-1,a⟩):=by
   unfold zBK
   rw [hw]
   simp only
   rw [hf,vN,Nat.beq_refl,wL]
   simp only [Bool.and_self,cond_true]
   rw [hr];rfl
  rw [hl]
  unfold zEj
  simp only
  rw [hy]
  simp only
  rw [hyr];rfl
 ·refine zK7 hi ⟨0,fun n _=>?_⟩ wO (h2 jD)
  have hr:(put (zDS c i).dst (.bool true)).run (zCP P H n) s.e=some (zM4 ((put (zDS c i).dst (.bool true)).run zHt s.e)):=zFP (zHG ui)
  have wL:(k==1)=false:=by simpa using jD
  have hyr:zBK (zCP P H n) (zFn c) (zDS c i) a args ⟨xss,k,a⟩ s.e=some (zM4 ((put (zDS c i).dst (.bool true)).run zHt s.e),some ⟨xss++[args],k-1,a⟩):=by
   unfold zBK
   rw [hw]
   simp only
   rw [hf,vN,Nat.beq_refl,wL]
   simp only [Bool.and_self,cond_true,cond_false]
   rw [hr];rfl
  rw [hl]
  unfold zEj
  simp only
  rw [hy]
  simp only
  rw [hyr];rfl
theorem zU3 {σ:Type} {c:Code} (Inv:σ→Prop) (upd:σ→List (Nat×PV)) (L:σ→Option Log) (μ:σ→Nat) (s:σ) (hi:Inv s) (h:∀ s,Inv s→W P H f nt (cl c) (zNj (upd s) (e.drop ((H f).loopDrop (zAN (cl c))))) (L s) fun x e' lg'=>match x with
   | .norm=>∃ s',Inv s'∧μ s'<μ s∧e'.drop ((H f).loopDrop (zAN (cl c)))=zNj (upd s') (e.drop ((H f).loopDrop (zAN (cl c))))∧lg'=L s'
   | x=>K x e' lg') (hs:e.drop ((H f).loopDrop (zAN (cl c)))=zNj (upd s) (e.drop ((H f).loopDrop (zAN (cl c)))):=by kernel_rfl) (hl:lg=L s:=by kernel_rfl) (hc:zPe c=true:=by kernel_rfl):W P H f nt c e lg K:=by
 rw [zMA hc]
 generalize hE:e.drop ((H f).loopDrop (zAN (cl c)))=e0 at h hs
 have key:∀ (n:Nat) (s:σ) (e:Env) (lg:Option Log),μ s≤n→Inv s→e.drop ((H f).loopDrop (zAN (cl c)))=zNj (upd s) e0→lg=L s→W P H f nt (.loop (cl c)) e lg K:=by
  intro n
  induction n with
  | zero =>
   intro s e lg hs hi he vQ
   subst vQ
   obtain ⟨n0,x,e1,lg1,h1,h2⟩:=h s hi
   cases x with
   | norm=>obtain ⟨s',_,h3,_⟩:=h2;omega
   | ex id =>
    refine ⟨n0+1,_,e1,lg1,fun n m hn hm=>?_,h2⟩
    obtain ⟨m,rfl⟩:∃ k,m=k+1:=⟨m-1,by omega⟩
    simp only [exec,he,h1 n m (by omega) (by omega)]
   | ret =>
    refine ⟨n0+1,_,e1,lg1,fun n m hn hm=>?_,h2⟩
    obtain ⟨m,rfl⟩:∃ k,m=k+1:=⟨m-1,by omega⟩
    simp only [exec,he,h1 n m (by omega) (by omega)]
  | succ n ih =>
   intro s e lg hs hi he vQ
   subst vQ
   obtain ⟨n0,x,e1,lg1,h1,h2⟩:=h s hi
   cases x with
   | norm =>
    obtain ⟨s',h3,h4,h7,h8⟩:=h2
    obtain ⟨n2,x,e2,lg2,h5,h6⟩:=ih s' e1 lg1 (by omega) h3 h7 h8
    refine ⟨max n0 n2+1,x,e2,lg2,fun n m hn hm=>?_,h6⟩
    obtain ⟨m,rfl⟩:∃ k,m=k+1:=⟨m-1,by omega⟩
    simp only [exec,he,h1 n m (by omega) (by omega),h5 n m (by omega) (by omega)]
   | ex id =>
    refine ⟨n0+1,_,e1,lg1,fun n m hn hm=>?_,h2⟩
    obtain ⟨m,rfl⟩:∃ k,m=k+1:=⟨m-1,by omega⟩
    simp only [exec,he,h1 n m (by omega) (by omega)]
   | ret =>
    refine ⟨n0+1,_,e1,lg1,fun n m hn hm=>?_,h2⟩
    obtain ⟨m,rfl⟩:∃ k,m=k+1:=⟨m-1,by omega⟩
    simp only [exec,he,h1 n m (by omega) (by omega)]
 exact key (μ s) s e lg (Nat.le_refl _) hi (hE.trans hs) hl
end
end Go.Eng
namespace Go.Eng
open Go
abbrev I (n:Int):PV := .int .i64 n
abbrev zAY (l:List Int):PV := .sl (l.map I)
section
theorem zOY {a b:Bool} (ha:a=true) (hb:b=true):(a&&b)=true:=by rw [ha,hb];rfl
theorem zBs {a b:Nat} (h:a≤b):Nat.ble a b=true:=by rw [Nat.ble_eq];exact h
theorem zBr {a b:Nat} (h:a=b):Nat.beq a b=true:=by rw [h];exact Nat.beq_refl _
theorem zAp {p:Prop} [Decidable p] (h:p):decide p=true:=decide_eq_true h
variable {α:Type} {g:α→PV} {l:List α} {i:Nat} {d:α} {x q root root':PV} {xs:List PV} {r z c n:Nat} {pre rest:zAP}
theorem zBA (d:α) (h:i<l.length):(l.map g)[i]? = some (g (l.getD i d)):=by simp [List.getD,List.getElem?_eq_getElem h]
theorem zF0 {u:α}:(l.map g).set i (g u)=(l.set i u).map g:=(List.map_set).symm
theorem zMR (hx:xs[i]? = some x) {y:PV} (hn:zAx y rest=some q) (hh:zAW root=some xs:=by kernel_rfl) (hc:x.cells[c]? = some y:=by kernel_rfl):zAx root ((i,c)::rest)=some q:=by
 simp only [zAx,hh,hx,hc,hn]
def zMa (r:Nat) (pre:zAP) (i c n:Nat) (x:PV):Option (Bool×List PV):=bif Nat.ble (c+n) x.cells.length then some (x.isAgg,zBw r pre i c ((x.cells.drop c).take n)) else none
theorem zDh {a:Bool} {qs:List PV} (hn:zAx root.unlock pre=some q) (hx:xs[i]? = some x) (hr:zMa r pre i c n x=some (a,qs):=by kernel_rfl) (hh:zA6 q=some xs:=by kernel_rfl):zAt r root pre i c n=some (a,qs):=by
 simp only [zAt,hn,hh,hx];exact hr
theorem zQl {qs:List PV} {xs':List PV} (hx:xs[i]? = some x) (hs:xs.set i (zAy x c qs)=xs') (hb:Nat.ble (c+qs.length) x.cells.length=true:=by kernel_rfl) (hw:(zBp qs).isEmpty=true:=by kernel_rfl):zBx (.own z xs) [] i c qs=some (.own z xs')∧zAD (.own z xs) (.own z xs') []=true:=by
 subst hs
 constructor
 ·simp only [zBx,hw,Bool.not_true,Bool.and_false,cond_false,zAs,zA6,hx,hb,cond_true,zAz]
 ·simp [zAD,zCp]
theorem zBY {x m:Nat} (h:Nat.beq m 1=true):0+x*m=x:=by rw [Nat.eq_of_beq_eq_true h,Nat.mul_one,Nat.zero_add]
theorem zBV {a x m:Nat} (h:Nat.beq m 1=true):a+x*m=a+x:=by rw [Nat.eq_of_beq_eq_true h,Nat.mul_one]
def wf (i c:Nat) (qs:List PV) (q:PV):Option PV:=match zA6 q with
 | some xs=>match xs[i]? with
  | some x=>bif Nat.ble (c+qs.length) x.cells.length then zAz q (xs.set i (zAy x c qs)) else none
  | none=>none
 | none=>none
theorem zKE {qs:List PV} {q' y:PV} (hx:xs[i]? = some x) (hs:zAy x c qs=y) (hq:zAz q (xs.set i y)=some q') (hh:zA6 q=some xs:=by kernel_rfl) (hb:Nat.ble (c+qs.length) x.cells.length=true:=by kernel_rfl):zAs (wf i c qs) q []=some q':=by
 subst hs
 simp only [zAs,wf,hh,hx,hb,cond_true,hq]
theorem zPP {qs:List PV} {b:Bool} (h:zAs (wf i c qs) root pre=some root') (hk:zAD root root' pre=b) (hw:(zBp qs).isEmpty=true:=by kernel_rfl):zBx root pre i c qs=some root'∧zAD root root' pre=b:=by
 refine ⟨?_,hk⟩
 simp only [zBx,hw,Bool.not_true,Bool.and_false,cond_false]
 exact h
theorem zBO (l:List α) (h:∀ x,zAR (g x)=g x:=by intro;rfl):zAE (l.map g)=l.map g:=by
 induction l with
 | nil=>rfl
 | cons x l ih=>simp only [List.map_cons,zAE,h,ih]
theorem zKi {ys:List PV} (hy:xs=ys) (h2:zAE ys=ys):zAE xs=ys:=by rw [hy];exact h2
theorem zDM (l:List α) (h:∀ x,(g x).free=true:=by intro;rfl):zEH (l.map g)=true:=by
 induction l with
 | nil=>rfl
 | cons x l ih=>simp only [List.map_cons,zEH,h,ih,Bool.and_self]
theorem zMM (l:List α) (h:∀ x,(g x).ways=[]:=by intro;rfl):zBp (l.map g)=[]:=by
 induction l with
 | nil=>rfl
 | cons x l ih=>simp only [List.map_cons,zBp,h,ih,List.append_nil]
theorem all_map {p:PV→Bool} (l:List α) (h:∀ x,p (g x)=true:=by intro;rfl):(l.map g).all p=true:=by
 rw [List.all_map];exact List.all_eq_true.2 fun x _=>h x
theorem zEG (l:List α):List.take l.length (l.map g)=l.map g:=List.take_of_length_le (by simp)
theorem zAQ {xs ys:List PV} (h:xs=ys):PV.own z xs=PV.own z ys:=by rw [h]
theorem zXh {xs ys:List PV} (h:xs=ys):PV.sl xs=PV.sl ys:=by rw [h]
theorem zFD {a x m:Nat} {sh:Option Nat} (h:Nat.beq m 1=true):PV.addr r pre i (a+x*m) sh=PV.addr r pre i (a+x) sh:=by rw [Nat.eq_of_beq_eq_true h,Nat.mul_one]
end
end Go.Eng
namespace Go.Eng
open Go
section
def zU1:Code→Bool
 | .label _=>true
 | _=>false
theorem ap {p:Prop} {ps:List Prop} (h:p) (hs:zS2 ps):zS2 (p::ps):=⟨h,hs⟩
theorem an:zS2 []:=trivial
theorem zDI {a b:Int} (h:a=b) (hr : -9223372036854775808≤b∧b<9223372036854775808):PV.int .i64 (IntKind.i64.wrap a)=PV.int .i64 b:=by rw [h,zW4 hr]
variable [Yo] {P:Program} {H:zBf} {f:FuncId} {nt:Nat} {e e':Env} {lg:Option Log} {K:X→Env→Option Log→Prop} {i:Nat} {c:Code} {s:RS} {R:Env→Option Log→Prop}
theorem S_a (as:Ans) {obs:List Prop} (ho:zS2 obs) (h:WS P H f c (i+1) (rsX (zWp P H f c i as s)) R) (hq:(zWp P H f c i as s).map (·.2)=some obs:=by kernel_rfl) (hi:Nat.blt i (zFn c).size=true:=by kernel_rfl):WS P H f c i s R:=S_x as obs ho h hq hi
theorem E_a {fn:Func} {nh:Nat} {v:PV} {h:List PV} {x:X} (as:Ans) {obs:List Prop} (ho:zS2 obs) (v':PV) (h':List PV) (hv:v'=v) (hh:h'=h) (hf:zNG P H f fn as e nh=some ((v',h'),obs):=by kernel_rfl) (hl:lg=none:=by kernel_rfl) (hx:x = .norm∨x = .ret:=by first | exact .inr rfl | exact .inl rfl):zWi P H f fn nh v h x e lg:=E_x as obs v' h' ho hv hh hf hl hx
theorem zVn {c:Code} (h:K .norm e lg) (hc:zU1 c=true:=by kernel_rfl):W P H f nt c e lg K:=by
 cases c<;>first | (cases hc;done) | exact zUe 1 rfl h
end
end Go.Eng
namespace Go.Eng
open Go
section
variable [Yo] {P:Program} {H:zBf} {f:FuncId}
end
end Go.Eng
namespace Go.Eng
open Go
def zN8 (pre:zAP) (put:PV→PV):Prop:=∀ f z xs,zAs f (put (.own z xs)) pre=(f (.own z xs)).map put
theorem zN8.nil:zN8 [] (fun q=>q):=fun f z xs=>by simp [zAs]
theorem zN8.box:zN8 [(0,0)] (fun q => .box q):=fun f z xs=>by
 simp only [zAs,zAW,List.getElem?_cons_zero,PV.cells]
 cases f (.own z xs)<;>rfl
theorem zGt [Yo] {r z:Nat} {pre:zAP} {put:PV→PV} (L:zN8 pre put):∀ {ys:List PV} {j:Nat} {xs:List PV} {e:Env},e.get r=put (.own z xs)→j+ys.length≤xs.length→(∀ (a:Nat) (x y:PV),xs[j+a]? = some x→ys[a]? = some y→y.heavy=false∧y.cells.all (fun q=>q.ways.isEmpty)=true∧y.cells.length≤x.cells.length∧zAy x 0 y.cells=y) →
  ∃ e',e'.get r=put (.own z (xs.take j++ys++xs.drop (j+ys.length)))∧(∀ t,t≠r→e'.get t=e.get t)∧∀ (o:zAA) (k:PM),(zGj r pre j ys k).run o e=k.run o e'
 | [],j,xs,e,he,hj,hy=>⟨e,by simp [he],fun _ _=>rfl,fun _ _=>rfl⟩
 | y :: ys,j,xs,e,he,hj,hy=>by
  simp only [List.length_cons] at hj
  have hjx:j<xs.length:=by omega
  obtain ⟨h1,h2,h3,h4⟩:=hy 0 xs[j] y (by simp [hjx]) rfl
  have hws:zBp y.cells=[]:=zNg h2
  have hb:Nat.ble (0+y.cells.length) xs[j].cells.length=true:=by rw [Nat.ble_eq];omega
  have yU:(e.set r (put (.own z (xs.set j y)))).get r=put (.own z (xs.set j y)):=by rw [Env.get_set,if_pos rfl]
  obtain ⟨e',g1,g2,g3⟩:=zGt L (ys:=ys) (j:=j+1) yU (by simp;omega) fun a x' y' js uM=>by
   rw [List.getElem?_set] at js
   rw [if_neg (by omega)] at js
   exact hy (a+1) x' y' (by rw [← js];congr 1;omega) (by simpa using uM)
  refine ⟨e',?_,fun t ht=>?_,?_⟩
  ·rw [g1,zTr hj]
   simp only [List.length_cons]
  ·rw [g2 t ht,Env.get_set,if_neg ht]
  ·intro o k
   simp only [zGj]
   rw [zE1 (by simpa using zNX h1)]
   simp only [PM.run,he,zBx,hws,List.isEmpty_nil,Bool.not_true,Bool.and_false,cond_false,L _ z xs,zA6,List.getElem?_eq_getElem hjx,hb,cond_true,zAz,h4,Option.map_some]
   exact g3 o k
section
variable [Yo] {P:Program} {H:zBf} {f:FuncId} {i:Nat} {c:Code} {R:Env→Option Log→Prop}
theorem zLA {pre:zAP} (put':PV→PV) (r s:Nat) (xs ys zs:List PV) {st:RS} (hy:∀ (a:Nat) (x y:PV),xs[a]? = some x→ys[a]? = some y→zWQ s x y) (hX:ys.length≤xs.length) (hz:ys++xs.drop ys.length=zs) (L:zN8 pre put')
  (h:WS P H f c (i+1) ⟨none,zM4 ((put (zDS c i).dst (.int .i64 ys.length)).run zHt (st.e.set r (put' (.own s zs)))),none⟩ R) (he:st.e.get r=put' (.own s xs):=by kernel_rfl) (ho:zUH P st.e (zDS c i)=some (s,.bor r pre s 0 xs.length,.sl ys):=by kernel_rfl) (hs:Nat.blt 0 s=true:=by kernel_rfl)
  (hq:((put (zDS c i).dst (.int .i64 ys.length)).run zHt (st.e.set r (put' (.own s zs)))).isSome=true:=by kernel_rfl) (ji:st.dr=none:=by kernel_rfl) (vQ:st.lg=none:=by kernel_rfl) (hg:zLn c i st.e=true:=by kernel_rfl) (hi:Nat.blt i (zFn c).size=true:=by kernel_rfl):WS P H f c i st R:=by
 subst hz
 obtain ⟨dr,e,lg⟩:=st
 simp only at ji h he ho hq hg vQ
 subst ji;subst vQ
 have km:∀ y∈ys,y.plain=true∧y.cells.length=s:=fun y uM=>by
  obtain ⟨a,ha⟩:=List.getElem?_of_mem uM
  have yJ:=(List.getElem?_eq_some_iff.1 ha).1
  have:=hy a _ y (List.getElem?_eq_getElem (by omega)) ha
  exact ⟨this.1,this.2.1⟩
 obtain ⟨e',g1,g2,g3⟩:=zGt L he (j:=0) (ys:=ys) (by omega) fun a x y hx uM=>by
  rw [Nat.zero_add] at hx
  obtain ⟨_,_,h3,h4,h5,h6⟩:=hy a x y hx uM
  exact ⟨h3,h4,h5,h6⟩
 simp only [List.take_zero,List.nil_append,Nat.zero_add] at g1
 have yU:∀ t,e'.get t=(e.set r (put' (.own s (ys++xs.drop ys.length)))).get t:=fun t=>by
  rw [Env.get_set]
  split
  ·rename_i h;subst h;exact g1
  ·rename_i h;exact g2 t h
 have jy:=zHG hq
 obtain ⟨e1,h1,h2⟩:=zFq (funext yU) jy
 refine zXw (s:=⟨none,e,none⟩) (e':=e1) ⟨0,fun n _=>?_⟩ (zUL h fun t=>congrFun h2 t) rfl rfl hg hi
 have yA:=zFP (o:=zCP P H n) h1
 show (opM P H _ _ _ (zDS c i)).run _ e=_
 generalize zDS c i=o at ho yA
 cases hop:o.op<;>simp only [zUH,hop] at ho<;>try (cases ho;done)
 rename_i cc
 split at ho
 ·rename_i x y t ts hc ha hT
  split at ho
  ·rename_i s' yy
   simp only [Option.some.injEq,Prod.mk.injEq] at ho
   obtain ⟨rfl,hx,hyv⟩:=ho
   have hb:Nat.ble ys.length xs.length=true:=by rw [Nat.ble_eq];exact hX
   have jp:(ys.all fun y=>y.plain&&Nat.beq y.cells.length s')=true:=List.all_eq_true.2 fun y uM=>by
    obtain ⟨q1,q2⟩:=km y uM
    rw [q1,q2,Nat.beq_refl];rfl
   simp only [opM,hop,zIP,hc,ha,hT,zBj,yy,zIo]
   rw [zNC hx (by simp),zNC hyv (by simp)]
   simp only [zHd,Nat.beq_refl,hs,hb,jp,Bool.and_self,cond_true]
   rw [g3];exact yA
  ·cases ho
 ·cases ho
theorem zIg {α β:Type} {g:α→PV} {g':β→PV} {s:Nat} {l:List α} {m:List β} (h:∀ (x:α) (y:β),zWQ s (g x) (g' y)):∀ (a:Nat) (x y:PV),(l.map g)[a]? = some x→(m.map g')[a]? = some y→zWQ s x y:=by
 intro a x y hx hy
 rw [List.getElem?_map] at hx hy
 obtain ⟨x',_,rfl⟩:=Option.map_eq_some_iff.1 hx
 obtain ⟨y',_,rfl⟩:=Option.map_eq_some_iff.1 hy
 exact h x' y'
theorem zFV {k:IntKind} {a b:Int}:zWQ 1 (.int k a) (.int k b):=⟨rfl,rfl,rfl,rfl,Nat.le_refl _,rfl⟩
theorem zLt {α β:Type} {g:α→PV} {g':β→PV} {l:List α} {m:List β} (h:l.length=m.length):l.map g++(m.map g').drop (l.map g).length=l.map g:=by simp [h]
end
end Go.Eng
namespace Go.Eng
open Go
abbrev zPU (sh:Option Nat) (a:List Int):PV:=match sh with | none=>I (a.getD 0 0) | some _ => .agg (a.map I)
theorem zPr {l:List Int} {i k:Nat} {sh:Option Nat} (j3:sh=some k∨(sh=none∧k=1)) (h:i+k≤l.length):sub (.agg (l.map I)) i sh=some (zPU sh ((l.drop i).take k)):=by
 rcases j3 with rfl | ⟨rfl,rfl⟩
 ·simp only [sub,List.length_map,h,if_true,zPU,List.map_take,List.map_drop]
 ·have h2:i<l.length:=by omega
  simp only [sub,zPU]
  rw [List.drop_eq_getElem_cons h2]
  simp [h2]
theorem zM9 {eq:PV→PV→Option Bool} {sh:Option Nat} {k:Nat} {l m:List Int} (uc:∀ a b:List Int,a.length=k→b.length=k→eq (zPU sh a) (zPU sh b)=some (decide (a=b))) (j3:sh=some k∨(sh=none∧k=1)):∀ n i,(i+n)*k=l.length→(i+n)*k=m.length→zUM eq sh k (.agg (l.map I)) (.agg (m.map I)) i n=some (decide (l.drop (i*k)=m.drop (i*k)))
 | 0,i,h1,h2=>by
  simp only [zUM]
  rw [List.drop_eq_nil_of_le (by simpa using Nat.le_of_eq h1.symm),List.drop_eq_nil_of_le (by simpa using Nat.le_of_eq h2.symm)];simp
 | n + 1,i,h1,h2=>by
  have e:(i+(n+1))*k=i*k+k+n*k:=by rw [Nat.add_mul,Nat.succ_mul];omega
  have e1:(i+1)*k=i*k+k:=by rw [Nat.succ_mul]
  have hl:i*k+k≤l.length:=by omega
  have hm:i*k+k≤m.length:=by omega
  have ih:=zM9 uc j3 n (i+1) (by rw [← h1];congr 1;omega) (by rw [← h2];congr 1;omega)
  simp only [zUM,zPr j3 hl,zPr j3 hm]
  rw [uc _ _ (by rw [List.length_take,List.length_drop];omega) (by rw [List.length_take,List.length_drop];omega)]
  have d1:l.drop (i*k)=(l.drop (i*k)).take k++l.drop ((i+1)*k):=by rw [e1,← List.drop_drop,List.take_append_drop]
  have d2:m.drop (i*k)=(m.drop (i*k)).take k++m.drop ((i+1)*k):=by rw [e1,← List.drop_drop,List.take_append_drop]
  by_cases hc:(l.drop (i*k)).take k=(m.drop (i*k)).take k
  ·simp only [hc,decide_true,ih]
   congr 1
   rw [d1,d2,hc]
   simp
  ·simp only [hc,decide_false]
   rw [Eq.comm,decide_eq_false]
   intro hx
   exact hc (by rw [hx])
def zPa:Option TypeDesc→Bool
 | some (.array ..)=>true
 | _=>false
def zVa:Option TypeDesc→Bool
 | some (.int .i64)=>true
 | _=>false
theorem zTA {x:Option TypeDesc} (h:zVa x=true):x=some (.int .i64):=by
 unfold zVa at h;split at h
 ·rfl
 ·cases h
theorem zMz {x:Option TypeDesc} (h:zPa x=true):∃ c e,x=some (.array c e):=by
 unfold zPa at h;split at h
 ·exact ⟨_,_,rfl⟩
 ·cases h
def zT4 (P:Program):Nat→TypeId→Option Nat
 | 0,_=>none
 | n + 1,t=>match P.underlying t with
  | some (.int k)=>if k = .i64 then some 1 else none
  | some (.array m e)=>match szT P e,shT P e,zT4 P n e with
   | some sz,some sh,some k=>if sz=k∧(sh=some k∧zPa (P.underlying e)=true∨sh=none∧k=1∧zVa (P.underlying e)=true) then some (m*k) else none
   | _,_,_=>none
  | _=>none
theorem zVP {P:Program} {n:Nat} {t:TypeId} {a b:Int} (h:P.underlying t=some (.int .i64)):eqT P (n+1) t (I a) (I b)=some (decide (a=b)):=by
 simp only [eqT,h,if_true];rfl
theorem zPw {P:Program}:∀ (n:Nat) (t:TypeId) (k:Nat) (l m:List Int),zT4 P n t=some k→(∃ c e,P.underlying t=some (.array c e))→l.length=k→m.length=k→eqT P n t (.agg (l.map I)) (.agg (m.map I))=some (decide (l=m))
 | 0,_,_,_,_,h,_,_,_=>by cases h
 | n + 1, t, k,l,m,h,⟨c,e,hu⟩,hl,hm=>by
  simp only [zT4,hu] at h
  split at h
  ·rename_i sz sh k1 h1 h2 h3
   split at h
   ·rename_i hx
    obtain ⟨rfl,hx⟩:=hx
    cases h
    simp only [eqT,hu,h1,h2]
    have:=zM9 (eq:=eqT P n e) (sh:=sh) (k:=sz) (l:=l) (m:=m) (fun a b ha hb=>by
     rcases hx with ⟨rfl,hx⟩ | ⟨rfl,rfl,hx⟩
     ·exact zPw n e sz a b h3 (zMz hx) ha hb
     ·cases n with
      | zero=>cases h3
      | succ n =>
       simp only [zPU,zVP (zTA hx)]
       match a,b,ha,hb with
       | [x],[y],_,_=>simp) (by
     rcases hx with ⟨rfl,_⟩ | ⟨rfl,rfl,_⟩
     ·exact .inl rfl
     ·exact .inr ⟨rfl,rfl⟩) c 0 (by rw [hl];simp) (by rw [hm];simp)
    simpa using this
   ·cases h
  ·cases h
def zNc (P:Program) (t:TypeId) (k:Nat):Bool := !P.eqGuardType P.depth t&&decide (zT4 P 20 t=some k)&&zPa (P.underlying t)
theorem zSn {P:Program} {t:TypeId} {k:Nat} {l m:List Int} (h:zNc P t k=true) (hl:l.length=k) (hm:m.length=k):eqT P 20 t (.agg (l.map I)) (.agg (m.map I))=some (decide (l=m)):=by
 unfold zNc at h
 simp only [Bool.and_eq_true,decide_eq_true_eq,Bool.not_eq_true'] at h
 obtain ⟨⟨h1,h2⟩,h3⟩:=h
 exact zPw 20 t k l m h2 (zMz h3) hl hm
theorem zWT {P:Program} {t:TypeId} {k:Nat} {l m:List Int} (h:zNc P t k=true) (hl:l.length=k) (hm:m.length=k):eqV P t (.agg (l.map I)) (.agg (m.map I))=some (decide (l=m)):=by
 have hg:P.eqGuardType P.depth t=false:=by
  unfold zNc at h
  simp only [Bool.and_eq_true,Bool.not_eq_true'] at h
  exact h.1.1
 simp only [eqV,hg,cond_false,zSn h hl hm]
theorem zQu {P:Program} {t:TypeId} {l m:List Int} (k:Nat) (hl:l.length=k) (hm:m.length=k) (h:zNc P t k=true:=by kernel_rfl):zJ0 P .neq t (.agg (l.map I)) (.agg (m.map I))=some (.bool (!decide (l=m))):=by
 simp only [zJ0,zWT h hl hm,Option.map_some]
theorem zSG {a b c d:Int}:decide ([a,b]=[c,d])=(decide (a=c)&&decide (b=d)):=by simp
theorem zVZ {P:Program} {t:TypeId} {a b c d:Int} (h:zNc P t 2=true:=by kernel_rfl):zJ0 P .neq t (.agg [I a,I b]) (.agg [I c,I d])=some (.bool (!(decide (a=c)&&decide (b=d)))):=by
 rw [← zSG];exact zQu (l:=[a,b]) (m:=[c,d]) 2 rfl rfl h
def zJs (P:Program) (t:TypeId):Bool := !P.eqGuardType P.depth t && !P.stoodInHeld t&&match P.underlying t with
  | some (.struct fs)=>match fs.toList with
    | [f1, f2] => !decide (f1.name = "_") && !decide (f2.name = "_") && decide (shT P f1.type = some none) && decide (shT P f2.type = some none) && decide (f1.offset = 0) && decide (f2.offset = 1) &&
      (match P.underlying f1.type with | some (.int k)=>decide (k = .i64) | _=>false)&&(match P.underlying f2.type with | some .bool=>true | _=>false)
    | _=>false
  | _=>false
theorem zPW {P:Program} {t:TypeId} {a c:Int} {b d:Bool} (h:zJs P t=true):eqV P t (.agg [I a,.bool b]) (.agg [I c,.bool d])=some (decide (a=c)&&decide (b=d)):=by
 unfold zJs at h
 rw [Bool.and_eq_true,Bool.and_eq_true] at h
 obtain ⟨⟨h1,h2⟩,h3⟩:=h
 split at h3
 ·rename_i fs hu
  split at h3
  ·rename_i f1 f2 hl
   simp only [Bool.and_eq_true,decide_eq_true_eq,Bool.not_eq_true',decide_eq_false_iff_not] at h1 h2 h3
   obtain ⟨⟨⟨⟨⟨⟨⟨n1,n2⟩,s1⟩,s2⟩,o1⟩,o2⟩,u1⟩,u2⟩:=h3
   split at u1
   ·rename_i k1' jD
    split at u2
    ·rename_i kf
     simp only [decide_eq_true_eq] at u1
     subst u1
     simp only [eqV,h1,cond_false,eqT,hu,h2,hl,zUG,n1,n2,s1,s2,o1,o2,sub,jD,kf,if_true,if_false,List.getElem?_cons_zero,List.getElem?_cons_succ]
     by_cases e1:a=c
     ·subst e1
      cases b<;>cases d<;>simp
     ·simp [e1]
    ·cases u2
   ·cases u1
  ·cases h3
 ·cases h3
theorem zUf {P:Program} {t:TypeId} {a c:Int} {b d:Bool} (h:zJs P t=true:=by kernel_rfl):zJ0 P .neq t (.agg [I a,.bool b]) (.agg [I c,.bool d])=some (.bool (!(decide (a=c)&&decide (b=d)))):=by
 simp only [zJ0,zPW h,Option.map_some]
theorem zMc {P:Program} {kt:TypeId} {α:Type} {g:α→PV×PV} {kx ky:α→Int} (hk:∀ x,(g x).1 = .agg [I (kx x),I (ky x)]) (uc:∀ a b c d:Int,eqT P 20 kt (.agg [I a,I b]) (.agg [I c,I d])=some (decide (a=c)&&decide (b=d))) (a b:Int):∀ (M:List α) (i:Nat),zC3 P kt (.agg [I a,I b]) (M.map g) i=some ((M.findIdx? fun x=>decide (a=kx x)&&decide (b=ky x)).map (· + i))
 | [],i=>rfl
 | x :: M,i=>by
  have h1:=uc a b (kx x) (ky x)
  rw [← hk x] at h1
  have h2:zFH (PV.agg [I a,I b]).cells (g x).1.cells=some (a==kx x&&(b==ky x&&true)):=by rw [hk x];rfl
  rw [List.map_cons,List.findIdx?_cons]
  have e:g x=((g x).1,(g x).2):=rfl
  rw [e]
  simp only [zC3,h1,h2]
  cases hc:(decide (a=kx x)&&decide (b=ky x)) with
  | true =>
   simp only [Bool.and_eq_true,decide_eq_true_eq] at hc
   simp [hc.1,hc.2]
  | false =>
   simp only
   rw [zMc hk uc a b M (i+1)]
   simp only [Bool.false_eq_true,if_false,Option.map_map]
   congr 2
   funext y
   simp only [Function.comp];omega
theorem zQK {P:Program} {t:TypeId} (h:zNc P t 2=true:=by kernel_rfl) (a b c d:Int):eqT P 20 t (.agg [I a,I b]) (.agg [I c,I d])=some (decide (a=c)&&decide (b=d)):=by
 rw [← zSG];exact zSn (l:=[a,b]) (m:=[c,d]) h rfl rfl
def zXL (F:List Int) (n:Nat):Nat→List PV
 | 0=>[]
 | m+1=>I (F.getD (n-(m+1)) 0)::zXL F n m
abbrev zAS (F:List Int) (m:Nat):List PV:=zXL F m m
theorem zQP {F:List Int} {n:Nat}:∀ (m:Nat),m≤n→zXL F n m=(List.range' (n-m) m).map fun k=>I (F.getD k 0)
 | 0,_=>rfl
 | m+1,h=>by
  rw [zXL,zQP m (by omega),List.range'_succ,List.map_cons,show n-(m+1)+1=n-m by omega]
theorem zNK {F:List Int} {m:Nat}:zAS F m=(List.range m).map fun k=>I (F.getD k 0):=by
 rw [List.range_eq_range',zAS,zQP m (Nat.le_refl m),Nat.sub_self]
theorem zF2 {F:List Int} {m:Nat} (h:F.length=m):zAS F m=F.map I:=by
 rw [zNK]
 apply List.ext_getElem?
 intro k
 by_cases hk:k<m
 ·simp [hk,show k<F.length by omega]
 ·rw [List.getElem?_eq_none (by simp;omega),List.getElem?_eq_none (by simp;omega)]
section
variable {A B:List PV} {F:List Int} {m j:Nat} {r i c':Nat} {pre:zAP}
theorem zIF:(zAS F m).length=m:=by rw [zNK];simp
theorem zRj (hj:j<m):(zAS F m)[j]? = some (I (F.getD j 0)):=by rw [zNK];simp [hj]
theorem zVr (hj:j<m):(A++zAS F m++B)[A.length+j]? = some (I (F.getD j 0)):=by
 rw [List.append_assoc,List.getElem?_append_right (by omega),Nat.add_sub_cancel_left,List.getElem?_append_left (by rw [zIF];exact hj)]
 exact zRj hj
theorem zWO (hj:j<m):zCd (.ref (.agg (zAS F m))) j none=some (.ref (I (F.getD j 0))):=by
 have h1:(I (F.getD j 0)).oneCell=true:=rfl
 simp only [zCd,zOO,sub,zRj hj,Option.isSome,Bool.false_or,h1,cond_true]
theorem zGH {n:Nat} (hj:j<m) (hn:Nat.beq n 1=true:=by kernel_rfl):zCd (.ref (.agg (zAS F m))) (j*n) none=some (.ref (I (F.getD j 0))):=by
 rw [Nat.eq_of_beq_eq_true hn,Nat.mul_one];exact zWO hj
theorem zKP (hc:c'=A.length+j) (hj:j<m):zMa r pre i c' 1 (.agg (A++zAS F m++B))=some (true,[I (F.getD j 0)]):=by
 subst hc
 have hX:A.length+j<(A++zAS F m++B).length:=by rw [List.length_append,List.length_append,zIF];omega
 have hb:Nat.ble (A.length+j+1) (PV.agg (A++zAS F m++B)).cells.length=true:=by rw [Nat.ble_eq];exact hX
 have h2:((A++zAS F m++B).drop (A.length+j)).take 1=[I (F.getD j 0)]:=by
  rw [List.drop_eq_getElem_cons hX]
  have:=zVr (A:=A) (B:=B) (F:=F) hj
  rw [List.getElem?_eq_getElem hX] at this
  simp only [Option.some.injEq] at this
  rw [this];simp
 simp only [zMa,hb,cond_true,PV.isAgg]
 show some (true,zBw r pre i (A.length+j) (((A++zAS F m++B).drop (A.length+j)).take 1))=_
 rw [h2];rfl
theorem zVz {u:Int} (hj:j<m) (hF:F.length=m):(zAS F m).set j (I u)=zAS (F.set j u) m:=by
 rw [zF2 hF,zF2 (F:=F.set j u) (by simpa using hF),List.map_set]
theorem zPd {u:Int} (hc:c'=A.length+j) (hj:j<m) (hF:F.length=m):zAy (.agg (A++zAS F m++B)) c' [I u] = .agg (A++zAS (F.set j u) m++B):=by
 subst hc
 have hX:A.length+j<(A++zAS F m++B).length:=by rw [List.length_append,List.length_append,zIF];omega
 have e:(A++zAS F m++B).take (A.length+j)++[I u]++(A++zAS F m++B).drop (A.length+j+1)=(A++zAS F m++B).set (A.length+j) (I u):=by
  rw [List.set_eq_take_append_cons_drop,if_pos hX];simp
 simp only [zAy,List.length_singleton,e]
 rw [List.append_assoc,List.set_append_right _ _ (by omega),Nat.add_sub_cancel_left,List.set_append_left _ _ (by rw [zIF];exact hj),zVz hj hF,List.append_assoc]
theorem zOC (hc:c'=A.length+j) (hj:j<m) {q:PV}:Nat.ble (c' + [q].length) (PV.agg (A++zAS F m++B)).cells.length=true:=by
 subst hc;rw [Nat.ble_eq];show _≤(A++zAS F m++B).length;rw [List.length_append,List.length_append,zIF];simp;omega
theorem zVO (hj:j<m):sub (.agg (zAS F m)) j none=some (I (F.getD j 0)):=by
 simp only [sub,zRj hj]
theorem zEY (hc:c'=j) (hj:j<m):zMa r pre i c' 1 (.agg (zAS F m))=some (true,[I (F.getD j 0)]):=by
 have:=zKP (A:=[]) (B:=[]) (F:=F) (r:=r) (pre:=pre) (i:=i) (c':=c') (by simpa using hc) hj
 simpa using this
theorem zNz {u:Int} (hc:c'=j) (hj:j<m) (hF:F.length=m):zAy (.agg (zAS F m)) c' [I u] = .agg (zAS (F.set j u) m):=by
 have:=zPd (A:=[]) (B:=[]) (F:=F) (u:=u) (c':=c') (by simpa using hc) hj hF
 simpa using this
theorem zN6 (hc:c'=j) (hj:j<m) {q:PV}:Nat.ble (c' + [q].length) (PV.agg (zAS F m)).cells.length=true:=by
 have:=zOC (A:=[]) (B:=[]) (F:=F) (q:=q) (c':=c') (by simpa using hc) hj
 simpa using this
theorem zUc {n:Nat} (hj:j<m) (hn:Nat.beq n 1=true:=by kernel_rfl):sub (.agg (zAS F m)) (j*n) none=some (I (F.getD j 0)):=by
 rw [Nat.eq_of_beq_eq_true hn,Nat.mul_one];exact zVO hj
end
section
variable {l:List Int} {r i c c' k:Nat} {pre:zAP}
theorem zJo:∀ (l:List Int) (c:Nat),zBw r pre i c (l.map I)=l.map I
 | [],_=>rfl
 | x::l,c=>by simp only [List.map_cons,zBw,zJo l (c+1)];rfl
theorem zWF (hc:c'=c) (h:c+k≤l.length):zMa r pre i c' k (.agg (l.map I))=some (true,((l.drop c).take k).map I):=by
 subst hc
 have hb:Nat.ble (c'+k) (PV.agg (l.map I)).cells.length=true:=by rw [Nat.ble_eq];simpa [PV.cells] using h
 simp only [zMa,hb,cond_true,PV.isAgg]
 show some (true,zBw r pre i c' (((l.map I).drop c').take k))=_
 rw [← List.map_drop,← List.map_take,zJo]
theorem zVx {K:Nat} (hc:c'=c) (h:c+K≤l.length) (hk:Nat.beq k K=true):zMa r pre i c' k (.agg (l.map I))=some (true,((l.drop c).take K).map I):=by rw [Nat.eq_of_beq_eq_true hk];exact zWF hc h
theorem zVX {K m:Nat} (hl:l.length=m) (hc:c'=c) (h:c+K≤m) (hk:Nat.beq k K=true):zMa r pre i c' k (.agg (zAS l m))=some (true,zAS ((l.drop c).take K) K):=by
 rw [zF2 hl,zVx (K:=K) hc (by omega) hk,zF2 (F:=(l.drop c).take K) (by rw [List.length_take,List.length_drop];omega)]
theorem zQ2 {P:Program} {t:TypeId} {l m:List Int} (k:Nat) (hl:l.length=k) (hm:m.length=k) (h:zNc P t k=true:=by kernel_rfl):zJ0 P .neq t (.agg (zAS l k)) (.agg (zAS m k))=some (.bool (!decide (l=m))):=by
 rw [zF2 hl,zF2 hm];exact zQu k hl hm h
end
end Go.Eng
namespace Go.Eng
open Go
theorem zDD {a b m k M:Nat} (h:Nat.beq m M=true) (h2:Nat.beq k 1=true):a*m+b*k=a*M+b:=by rw [Nat.eq_of_beq_eq_true h,Nat.eq_of_beq_eq_true h2,Nat.mul_one]
theorem zDC {a m M:Nat} (h:Nat.beq m M=true):a*m=a*M:=by rw [Nat.eq_of_beq_eq_true h]
theorem zDT {a b m k M:Nat} (h:Nat.beq m M=true) (h2:Nat.beq k 1=true):0+a*m+b*k=a*M+b:=by rw [Nat.zero_add];exact zDD h h2
theorem zDB {a m M:Nat} (h:Nat.beq m M=true):0+a*m=a*M:=by rw [Nat.zero_add];exact zDC h
theorem zCr {α:Type} {g:α→PV} {l:List α} {u:α} {y:PV} (h:g u=y):l.map g++[y]=(l++[u]).map g:=by rw [← h,List.map_append];rfl
def zUw (P:Program) (e:Env) (o:Oper):Option (Nat×PV×PV) :=
 match o.op,o.dst with
 | .call c,none=>match c.callee,c.args.toList,c.argTypes.toList with
  | .builtin .clear,[x],t::_=>match (zBL P t).bind (zCz P),(zBL P t).bind (szT P) with
   | some q,some s=>some (s,q,zXN e x)
   | _,_=>none
  | _,_,_=>none
 | _,_=>none
section
variable [Yo] {P:Program} {H:zBf} {f:FuncId} {i:Nat} {c:Code} {R:Env→Option Log→Prop}
theorem zRQ {α:Type} {g:α→PV} {pre:zAP} (put':PV→PV) (r s lo n:Nat) (l:List α) (u:α) {st:RS} (ko:lo+n≤l.length) (hu:(g u).plain=true∧(g u).cells.length=s) (hy:∀ x,zWQ s (g x) (g u)) (L:zN8 pre put')
  (h:WS P H f c (i+1) ⟨none,st.e.set r (put' (.own s ((l.take lo++List.replicate n u++l.drop (lo+n)).map g))),none⟩ R) (he:st.e.get r=put' (.own s (l.map g)):=by kernel_rfl) (ho:zUw P st.e (zDS c i)=some (s,g u,.bor r pre s lo n):=by kernel_rfl) (hs:Nat.blt 0 s=true:=by kernel_rfl)
  (ji:st.dr=none:=by kernel_rfl) (vQ:st.lg=none:=by kernel_rfl) (hg:zLn c i st.e=true:=by kernel_rfl) (hi:Nat.blt i (zFn c).size=true:=by kernel_rfl):WS P H f c i st R:=by
 obtain ⟨dr,e,lg⟩:=st
 simp only at ji h he ho hg vQ
 subst ji;subst vQ
 obtain ⟨e',g1,g2,g3⟩:=zGt L he (j:=lo) (ys:=List.replicate n (g u)) (by simpa using ko) fun a x y hx uM=>by
  rw [List.getElem?_map] at hx
  obtain ⟨x',_,rfl⟩:=Option.map_eq_some_iff.1 hx
  obtain ⟨hn,hy2⟩:=List.getElem?_eq_some_iff.1 uM
  rw [List.getElem_replicate] at hy2
  subst hy2
  obtain ⟨_,_,h3,h4,h5,h6⟩:=hy x'
  exact ⟨h3,h4,h5,h6⟩
 have yU:∀ t,e'.get t=(e.set r (put' (.own s ((l.take lo++List.replicate n u++l.drop (lo+n)).map g)))).get t:=fun t=>by
  rw [Env.get_set]
  split
  ·rename_i h;subst h;rw [g1];simp
  ·rename_i h;exact g2 t h
 refine zXw (s:=⟨none,e,none⟩) (e':=e') ⟨0,fun m _=>?_⟩ (zUL h fun t=>yU t) rfl rfl hg hi
 show (opM P H _ _ _ (zDS c i)).run _ e=_
 generalize zDS c i=o at ho
 cases hop:o.op<;>simp only [zUw,hop] at ho<;>try (cases ho;done)
 rename_i cc
 cases kC:o.dst<;>rw [kC] at ho<;>simp only at ho<;>try (cases ho;done)
 split at ho
 ·rename_i x t ts hc ha hT
  split at ho
  ·rename_i q s' hq yy
   simp only [Option.some.injEq,Prod.mk.injEq] at ho
   obtain ⟨rfl,rfl,hx⟩:=ho
   simp only [opM,hop,zIP,hc,ha,hT,zBj,kC]
   rw [zNC hx (by simp)]
   simp only [zSy,hs,Nat.beq_refl,hu.1,hu.2,Bool.and_self,cond_true,hq,yy]
   rw [g3];rfl
  ·cases ho
 ·cases ho
end
end Go.Eng
namespace Go.Eng
open Go
section
variable [Yo] {P:Program} {H:zBf} {f:FuncId} {nt:Nat} {c:Code} {e:Env} {lg:Option Log} {K:X→Env→Option Log→Prop}
end
end Go.Eng
namespace Go.Eng
open Go
theorem zOG [Yo] {P:Program} {H:zBf} {f:FuncId} {nt:Nat} {e:Env} {lg:Option Log} {K:X→Env→Option Log→Prop} {σ:Type} {c:Code} {t g:Nat} {first caps:List PV} {xs:List (List PV)} (hY:zF6 g first caps xs) (Inv:Nat→σ→Prop) (upd:σ→List (Nat×PV)) (s:σ) (hi:Inv 0 s)
  (h:∀ j x s,xs[j]? = some x→Inv j s→zLC P H f nt (zWV c) (rgA c) (rgB c) x (zNj (upd s) e) fun y e3=>match y with
   | .norm=>∃ s',Inv (j+1) s'∧after nt [] (zWt c) (zNj (upd s) e) e3=zNj (upd s') e
   | y=>K y (after nt [] (zWt c) (zNj (upd s) e) e3) none) (hK:∀ s,Inv xs.length s→K .norm (zNj (upd s) e) none) (hs:e=zNj (upd s) e:=by kernel_rfl) (yN:zDy e t=some (g,first,caps,[]):=by kernel_rfl) (hc:rgT c=some t:=by kernel_rfl) (hl:lg=none:=by kernel_rfl):W P H f nt c e lg K :=
 zWb (t:=t) hY Inv (fun s=>zNj (upd s) e) s hi h hK hs yN hc hl
end Go.Eng
namespace Go.Eng
open Go
theorem zN8.field (A B:List PV):zN8 [(0,A.length)] (fun q => .box (.agg (A++q::B))):=fun f z xs=>by
 have h1:(A++PV.own z xs::B)[A.length]? = some (.own z xs):=by simp
 simp only [zAs,zAW,List.getElem?_cons_zero,PV.cells,h1]
 cases f (.own z xs) with
 | none=>rfl
 | some q=>simp [zAz,zAy]
end Go.Eng
namespace Go.Eng
open Go
theorem zH2 (l:List Int):zAE (l.map I)=l.map I:=zBO l
theorem zL3 (k:IntKind) (l:List Int):zAE (l.map (PV.int k))=l.map (PV.int k):=zBO l
theorem zG8 (l:List Bool):zAE (l.map PV.bool)=l.map PV.bool:=zBO l
theorem zCZ {α:Type} {g g':α→PV} (l:List α) (h:∀ x,zAR (g x)=g' x:=by intro x;simp only [zAR,zAE,zH2,zG8,zL3]):zAE (l.map g)=l.map g':=by
 induction l with
 | nil=>rfl
 | cons x l ih=>simp only [List.map_cons,zAE,h,ih]
theorem zEf {xs ys:List PV} (h:zAE xs=ys):zAE ((xs.drop 0).take xs.length)=ys:=by rw [List.drop_zero,List.take_length];exact h
theorem zVF {r z:Nat} {xs ys:List PV} (h:zAE xs=ys):PV.mapW (inl r [] (.own z xs)) (.bor r [] z 0 xs.length) = .sl ys:=by
 have e:zAF r [] r []=true:=by simp [zAF]
 have e2:Nat.ble (0+xs.length) xs.length=true:=by simp
 simp only [PV.mapW,inl,e,cond_true]
 show zGn (zAx (.own z xs) []) (zCv 0 xs.length)=_
 simp only [zAx,zGn,zCv,e2,cond_true]
 rw [zEf h]
def zSf (P:Program) (t:TypeId) (k1 k2:IntKind):Bool := !P.eqGuardType P.depth t && !P.stoodInHeld t&&match P.underlying t with
  | some (.struct fs)=>match fs.toList with
    | [f1, f2] => !decide (f1.name = "_") && !decide (f2.name = "_") && decide (shT P f1.type = some none) && decide (shT P f2.type = some none) && decide (f1.offset = 0) && decide (f2.offset = 1) &&
      (match P.underlying f1.type with | some (.int k)=>decide (k=k1) | _=>false)&&(match P.underlying f2.type with | some (.int k)=>decide (k=k2) | _=>false)
    | _=>false
  | _=>false
theorem zWe {P:Program} {t:TypeId} {k1 k2:IntKind} {a b c d:Int} (h:zSf P t k1 k2=true):eqV P t (.agg [.int k1 a,.int k2 b]) (.agg [.int k1 c,.int k2 d])=some (decide (a=c)&&decide (b=d)):=by
 unfold zSf at h
 rw [Bool.and_eq_true,Bool.and_eq_true] at h
 obtain ⟨⟨h1,h2⟩,h3⟩:=h
 split at h3
 ·rename_i fs hu
  split at h3
  ·rename_i f1 f2 hl
   simp only [Bool.and_eq_true,decide_eq_true_eq,Bool.not_eq_true',decide_eq_false_iff_not] at h1 h2 h3
   obtain ⟨⟨⟨⟨⟨⟨⟨n1,n2⟩,s1⟩,s2⟩,o1⟩,o2⟩,u1⟩,u2⟩:=h3
   split at u1
   ·rename_i k1' jD
    split at u2
    ·rename_i k2' kf
     simp only [decide_eq_true_eq] at u1 u2
     subst u1;subst u2
     simp only [eqV,h1,cond_false,eqT,hu,h2,hl,zUG,n1,n2,s1,s2,o1,o2,sub,jD,kf,if_true,if_false,List.getElem?_cons_zero,List.getElem?_cons_succ]
     by_cases e1:a=c
     ·subst e1
      by_cases e2:b=d
      ·subst e2;simp
      ·simp [e2]
     ·simp [e1]
    ·cases u2
   ·cases u1
  ·cases h3
 ·cases h3
theorem zNw {P:Program} {t:TypeId} {k1 k2:IntKind} {a b c d:Int} (h:zSf P t k1 k2=true:=by kernel_rfl):zJ0 P .neq t (.agg [.int k1 a,.int k2 b]) (.agg [.int k1 c,.int k2 d])=some (.bool (!(decide (a=c)&&decide (b=d)))):=by
 simp only [zJ0,zWe h,Option.map_some]
section
variable {α:Type} {g:α→PV} {l:List α} {i z:Nat} {b:PV}
end
def zIv (P:Program) (t:TypeId):Bool:=match P.underlying t with | some (.slice _)=>true | _=>false
theorem zVb {P:Program} {t:TypeId} {p:PV} {z:Nat} (he:zEV p=true) (hp:(match p with | .nils _=>false | .agg _=>false | _=>true)=true:=by rfl) (h:zIv P t=true:=by kernel_rfl):eqV P t p (.nils z)=some false:=by
 unfold zIv at h
 split at h
 ·rename_i e hu
  unfold eqV
  rw [hu]
  cases p<;>first | (cases hp;done) | simp only [he,cond_true]
 ·cases h
theorem zTX {P:Program} {t:TypeId} {p:PV} {z:Nat} (he:zEV p=true) (hp:(match p with | .nils _=>false | .agg _=>false | _=>true)=true:=by rfl) (h:zIv P t=true:=by kernel_rfl):(eqV P t p (.nils z)).map PV.bool=some (.bool false):=by rw [zVb he hp h];rfl
theorem zAJ {xs:List PV}:List.take xs.length (List.drop 0 xs)=xs:=by rw [List.drop_zero,List.take_length]
section
variable [Yo] {P:Program} {H:zBf} {f:FuncId} {e:Env} {lg:Option Log}
end
theorem zSU {α:Type} {g:α→PV} {l:List α} (h:0<l.length):zEV (.sl (l.map g))=true:=by
 cases l with
 | nil=>exact absurd h (Nat.lt_irrefl _)
 | cons x l=>rfl
theorem zNT {P:Program} {t:TypeId} {z:Nat} {α:Type} {g:α→PV} {l:List α} (hp:0<l.length) (h:zIv P t=true:=by kernel_rfl):zJ0 P .eql t (.sl (l.map g)) (.nils z)=some (.bool false):=by
 have:=zTX (P:=P) (t:=t) (z:=z) (zSU (g:=g) hp) rfl h
 simpa [zJ0] using this
class FrzOf {α:Type} (g:α→PV) (g':outParam (α→PV)):Prop where
 frz:∀ x,zAR (g x)=g' x
theorem zDE {α:Type} {g g':α→PV} [h:FrzOf g g'] (l:List α):zAE (l.map g)=l.map g':=zCZ l h.frz
section
variable {α:Type} {g:α→PV} {l:List α} {i z:Nat} {b:PV} {u0:α}
end
end Go.Eng
namespace Go.Eng
open Go
end Go.Eng
