/- For all numbers, cries, which and when the law NewsAlone ends in true: chains do not matter to each other; without conditions. -/
import Derived.Test.YtppbomajegnkeaaGreatPc
import Derived.Test.YtppbomajegnkeaaGreatPa
import Derived.KernelRfl
import Derived.IntWalk
set_option linter.unusedVariables false
set_option linter.unusedSimpArgs false
set_option linter.unusedSectionVars false
namespace Go.Eng
open Go
section
variable {P:Program} {H:zBb} {w0 w:World} {U Φ0 Φ:Nat→Prop} {nt:Nat} {hv:Hid} {a:Act} {e e':Env} {rv:Nat→Value} {E:Nat→PV} {L:Nat→List Nat} {o:zAD}
theorem zVK (S:St w0 U Φ0 nt hv a w e Φ rv E L) {g:Nat} (hg:zAb≤g) {k:PV→PM} {k2:PM} (h:(zQi (E g) k k2).run o e=some e') :
  k2.run o e=some e'∨∃ e1 rv1 E1,(k (E1 g)).run o e1=some e'∧Worked w0 U Φ0 nt hv a w rv E g e1 rv1 E1:=by
 have hX:=S.conf.rep g
 have fin:∀ {r:Nat} {pre:zAR} {q root p':PV} (hr:r<zAb) (yD:(E r).unlock=E r) (hq:zAx (E r) pre=some q) (h1:q.oneCell=true) (hm:zAt (fun _=>some .bad) (E r) pre=some root),
   (E g).oneCell=true→p'.oneCell=true→(∀ nv Li,zAP w (rv r) (E r) pre=some (nv,q)→Rep w Φ (zA2 w rv E) q nv Li→Li.Nodup→∃ Lg,Rep w Φ (zA2 w rv E) p' (rv g) Lg∧Lg.Nodup∧∀ b∈Lg,b∈Li) →
   (k p').run o (e.set r root)=some e'→∃ e1 rv1 E1,(k (E1 g)).run o e1=some e'∧Worked w0 U Φ0 nt hv a w rv E g e1 rv1 E1:=by
  intro r pre q root p' hr yD hq h1 hm uS jf y8 hk
  obtain ⟨kk1,kk2⟩:=zBM (q' := .bad) rfl rfl hm
  obtain ⟨nv,Li,g1,g2,g3,g4,g5⟩:=S.taken hg hr yD hq h1 hm kk1 kk2
  obtain ⟨Lg,p1,p2,p3⟩:=y8 nv Li g1 g2 g3
  obtain ⟨L',S1,vf⟩:=g5 p' (rv g) Lg p1 p2 (fun b hb => .inl (p3 b hb))
  have jZ:∀ s,upd rv g (rv g) s=rv s:=fun s=>by
   by_cases hs:s=g
   ·subst hs;rw [zAj]
   ·rw [zAf hs]
  refine ⟨_,_,_,by rw [zAj];exact hk,⟨⟨_,_,S1⟩,jZ g,fun s _=>jZ s,fun s hs hI=>⟨by rw [zAf hI,zAf (by omega)],jZ s⟩,?_,?_⟩⟩
  ·rw [zAj,(zBh jf).2,(zBh uS).2]
  ·rw [zAj,(zBh jf).1,(zBh uS).1];rfl
 generalize hE:E g=p at h
 rw [hE] at hX
 simp only [zQi] at h
 split at h
 ·rename_i r pre z lo n
  obtain ⟨q,hq,h1⟩:=zBI h
  obtain ⟨_,hr,⟨b,cap,yE,_⟩,hn⟩:=hX
  split at h1
  ·rename_i sz xs
   cases hc:Nat.ble (lo+n) xs.length with
   | false=>rw [hc] at h1;exact .inl h1
   | true =>
    rw [hc] at h1;simp only [cond_true] at h1
    obtain ⟨root,hl,hm,h2⟩:=zBX h1
    have yD:=zBy hl
    rw [yD,← S.env r hr] at hq
    rw [← S.env r hr] at yD hm
    refine .inr (fin hr yD hq rfl hm (by rw [hE];rfl) rfl (fun nv Li hf uU yU=>?_) h2)
    obtain ⟨s2,xs2,q1,q2,q3⟩:=hn nv _ (by rw [yD];exact hf) rfl
    cases q1;subst q2
    obtain ⟨Lg,p1,p2,p3⟩:=zIm uU (Nat.le_of_ble_eq_true hc) q3
    exact ⟨Lg,p1,p3 yU,p2⟩
  ·exact .inl h1
 ·rename_i r pre sh
  obtain ⟨q,hq,h1⟩:=zBI h
  obtain ⟨_,hr,b,yE,y4,hn⟩:=hX
  split at h1
  ·rename_i q
   obtain ⟨root,hl,hm,h2⟩:=zBX h1
   have yD:=zBy hl
   rw [yD,← S.env r hr] at hq
   rw [← S.env r hr] at yD hm
   refine .inr (fin hr yD hq rfl hm (by rw [hE];rfl) rfl (fun nv Li hf uU yU=>?_) h2)
   refine ⟨Li,?_,yU,fun b hb=>hb⟩
   have hrp':=uU
   obtain ⟨x,c,u,L',h3,h4,h5,_⟩:=hrp'
   have h6:nv=rv g:=by
    rw [yE,h4]
    have:=hn nv _ (by rw [yD];exact hf) x (by rw [h4];cases x;simp_all [zA4,zAq])
    rw [this]
   rw [← h6];exact uU
  ·exact .inl h1
 ·rename_i r pre
  obtain ⟨q,hq,h1⟩:=zBI h
  obtain ⟨_,hr,⟨b,yE⟩,hn⟩:=hX
  split at h1
  ·rename_i es
   obtain ⟨root,hl,hm,h2⟩:=zBX h1
   have yD:=zBy hl
   rw [yD,← S.env r hr] at hq
   rw [← S.env r hr] at yD hm
   refine .inr (fin hr yD hq rfl hm (by rw [hE];rfl) rfl (fun nv Li hf uU yU=>⟨Li,?_,yU,fun b hb=>hb⟩) h2)
   rw [hn nv _ (by rw [yD];exact hf) _ rfl];exact uU
  ·exact .inl h1
 ·exact .inl h
theorem zL1 (S:St w0 U Φ0 nt hv a w e Φ rv E L) {g:Nat} (hg:zAb≤g) {frz:Bool} {k:PV→PM} (h:(zFO frz (E g) k).run o e=some e'):∃ e1 rv1 E1,(k (E1 g)).run o e1=some e'∧Worked w0 U Φ0 nt hv a w rv E g e1 rv1 E1:=by
 have iced:(zLN zAm zDw (E g) k).run o e=some e'→∃ e1 rv1 E1,(k (E1 g)).run o e1=some e'∧Worked w0 U Φ0 nt hv a w rv E g e1 rv1 E1:=by
  intro h
  obtain ⟨e1,Φ1,E1,L1,h1,S1,h2,h3,h4,h5,h6,h7⟩:=zJq (hb:=zAm) hg (by decide) zDw S h
  exact ⟨e1,rv,E1,h1,⟨⟨_,_,S1⟩,rfl,fun _ _=>rfl,fun s hs hI=>⟨h3 s hs hI,rfl⟩,h6,h7⟩⟩
 simp only [zFO] at h
 cases hc:(frz||(E g).ways.any fun w=>Nat.ble zAm w.1) with
 | true=>rw [hc] at h;exact iced h
 | false =>
  rw [hc] at h;simp only [cond_false] at h
  rcases zVK S hg h with h | h
  ·exact iced h
  ·exact h
theorem zKu {frz:Bool}:∀ (ps:List PV) (i:Nat) {k:List PV→PM} {e:Env} {Φ:Nat→Prop} {rv:Nat→Value} {E:Nat→PV} {L:Nat→List Nat},St w0 U Φ0 nt hv a w e Φ rv E L→(∀ (j:Nat) (p:PV),ps[j]? = some p→E (zAb+i+j)=p)→(zCn frz ps k).run o e=some e' →
  ∃ e1 Φ1 rv1 E1 L1 qs,(k qs).run o e1=some e'∧St w0 U Φ0 nt hv a w e1 Φ1 rv1 E1 L1∧qs.length=ps.length∧(∀ (j:Nat) (q:PV),qs[j]? = some q→E1 (zAb+i+j)=q∧rv1 (zAb+i+j)=rv (zAb+i+j)) ∧
   (∀ s,s<zAb→rv1 s=rv s)∧∀ s,zAb≤s→(s<zAb+i∨zAb+i+ps.length≤s)→E1 s=E s∧rv1 s=rv s
 | [],i,k,e,Φ,rv,E,L,S,hp,h=>⟨e,Φ,rv,E,L,[],h,S,rfl,by simp,fun _ _=>rfl,fun _ _ _=>⟨rfl,rfl⟩⟩
 | p :: ps,i,k,e,Φ,rv,E,L,S,hp,h=>by
  simp only [zCn] at h
  have hE:=hp 0 p rfl
  simp only [Nat.add_zero] at hE
  rw [← hE] at h
  obtain ⟨e1,rv1,E1,h1,W⟩:=zL1 S (g:=zAb+i) (by omega) h
  obtain ⟨Φ1,L1,S1⟩:=W.st
  obtain ⟨e2,Φ2,rv2,E2,L2,qs,h2,S2,h3,h4,h5,h6⟩:=zKu ps (i+1) S1 (fun j q hq=>by
   rw [(W.rest _ (by omega) (by omega)).1,show zAb+(i+1)+j=zAb+i+(j+1) by omega];exact hp (j+1) q (by simpa using hq)) h1
  refine ⟨e2,Φ2,rv2,E2,L2,E1 (zAb+i)::qs,h2,S2,by simp [h3],fun j q hq=>?_,fun s hs=>(h5 s hs).trans (W.low s hs),fun s hs jn=>?_⟩
  ·cases j with
   | zero =>
    simp at hq;subst hq
    obtain ⟨k1,k2⟩:=h6 (zAb+i) (by omega) (.inl (by omega))
    simp only [Nat.add_zero]
    exact ⟨k1,k2.trans W.val⟩
   | succ j =>
    obtain ⟨k1,k2⟩:=h4 j q (by simpa using hq)
    rw [show zAb+(i+1)+j=zAb+i+(j+1) by omega] at k1 k2
    exact ⟨k1,k2.trans (W.rest _ (by omega) (by omega)).2⟩
  ·obtain ⟨k1,k2⟩:=h6 s hs (by simp at jn;omega)
   obtain ⟨k3,k4⟩:=W.rest s hs (by simp at jn;omega)
   exact ⟨k1.trans k3,k2.trans k4⟩
theorem zKC (C:Conf w0 U Φ0 w Φ rv E L):∀ (qs:List PV) (vs:List Value) (i:Nat),vs.length=qs.length→(∀ (j:Nat) (q:PV) (v:Value),qs[j]? = some q→vs[j]? = some v→E (i+j)=q∧rv (i+j)=v) →
  ∃ Lp,zAX w Φ (zA2 w rv E) qs vs Lp∧Lp.Nodup∧∀ b∈Lp,∃ t,i≤t∧t<i+qs.length∧b∈L t
 | [],vs,i,hl,h=>by
  have:vs=[]:=List.eq_nil_of_length_eq_zero (by simpa using hl)
  subst this;exact ⟨[],⟨rfl,rfl⟩,List.nodup_nil,by simp⟩
 | q :: qs,vs,i,hl,h=>by
  match vs,hl,h with
  | v :: vs,hl,h =>
   obtain ⟨h1,h2⟩:=h 0 q v rfl rfl
   simp only [Nat.add_zero] at h1 h2
   obtain ⟨Lp,k1,k2,k3⟩:=zKC C qs vs (i+1) (by simpa using hl) fun j q' v' hq hv=>by
    rw [show i+1+j=i+(j+1) by omega];exact h (j+1) q' v' (by simpa using hq) (by simpa using hv)
   have hr:=C.rep i
   rw [h1,h2] at hr
   refine ⟨L i++Lp,⟨v,vs,_,_,rfl,rfl,hr,k1⟩,?_,fun b hb=>?_⟩
   ·rw [List.nodup_append]
    refine ⟨C.nodup i,k2,fun x hx y hy e=>?_⟩
    obtain ⟨t,k4,k5,k6⟩:=k3 y hy
    exact C.disj i t (by omega) x hx (e▸k6)
   ·rcases List.mem_append.1 hb with hb | hb
    ·exact ⟨i,Nat.le_refl _,by simp,hb⟩
    ·obtain ⟨t,k4,k5,k6⟩:=k3 b hb
     exact ⟨t,by omega,by simp;omega,k6⟩
theorem zMz (S:St w0 U Φ0 nt hv a w e Φ rv E L) {j g:Nat} (hj:j<1000) (hg:zAb≤g) (hb:∀ s,zAb≤s→s≠g→E s = .bad) {k:PM} (h:(lay (zAv+j) (E g) k).run o e=some e') :
  ∃ e1 E1 L1,k.run o e1=some e'∧St w0 U Φ0 nt hv a w e1 Φ (upd rv (zAv+j) (rv g)) E1 L1∧zBo E1:=by
 have hh:zAm=50000000:=rfl
 have ho:zAv=60000000:=rfl
 have w5:zAb=1000000000:=rfl
 have jv:=S.small
 obtain ⟨e1,E1,L1,h1,C,h2,h3,h4,h5,h6⟩:=zRd S (d:=zAv+j) (by omega) hg h
 have u7:∀ d ps,d≠zAv+j→d<zAb→E1 d = .tup ps→∃ ps',E d = .tup ps'∧ps'.length=ps.length:=by
  intro d ps hd uc hp
  rcases h3 d hd uc with h7 | h7
  ·exact ⟨ps,by rw [← h7,hp],rfl⟩
  ·rw [h7] at hp;exact zDY (zIi _ _) hp
 refine ⟨e1,E1,L1,h1,⟨C,h2,S.size,S.small,fun t ht=>?_,fun d ps i hd hp hi=>?_,fun s h7 h8=>?_,S.dfr⟩,fun s hs=>?_⟩
 ·rw [zAf (by omega)];exact S.tmps t ht
 ·obtain ⟨ps',h7,h8⟩:=u7 d ps (by omega) (by omega) hp
  obtain ⟨h9,vs,jQ,vC⟩:=S.parts d ps' i hd h7 (by omega)
  refine ⟨h9,vs,by rw [zAf (by omega)];exact jQ,?_⟩
  rw [zAf (by simp only [zBr];omega)];exact vC
 ·rw [zAf (by omega)];exact S.hid s h7 h8
 ·by_cases yc:s=g
  ·subst yc;exact h5
  ·rcases h6 s hs yc with h7 | h7
   ·rw [h7];exact hb s hs yc
   ·rw [h7,hb s hs yc];rfl
theorem zWW (S:St w0 U Φ0 nt hv a w e Φ rv E L) (hb:zBo E) {frz:Bool} {j:Nat} (hj:j<1000) {p:PV} {v:Value} (hp:Rep w Φ (zA2 w rv E) p v []) {k:PM} (h:(zGC frz p fun q=>lay (zAv+j) q k).run o e=some e') :
  ∃ e1 Φ1 rv1 E1 L1,k.run o e1=some e'∧St w0 U Φ0 nt hv a w e1 Φ1 rv1 E1 L1∧zBo E1∧rv1 (zAv+j)=v∧∀ s,s<zAb→s≠zAv+j→rv1 s=rv s:=by
 have ho:zAv=60000000:=rfl
 have w5:zAb=1000000000:=rfl
 have single:(zFO frz p fun q=>lay (zAv+j) q k).run o e=some e'→∃ e1 Φ1 rv1 E1 L1,k.run o e1=some e'∧St w0 U Φ0 nt hv a w e1 Φ1 rv1 E1 L1∧zBo E1∧rv1 (zAv+j)=v∧∀ s,s<zAb→s≠zAv+j→rv1 s=rv s:=by
  intro h
  have S1:=S.hold (g:=zAb) (Nat.le_refl _) hp
  obtain ⟨e1,rv1,E1,h1,W⟩:=zL1 S1 (g:=zAb) (Nat.le_refl _) (by rw [zAj];exact h)
  obtain ⟨Φ1,L1,S2⟩:=W.st
  obtain ⟨e2,E2,L2,h2,S3,qb⟩:=zMz S2 hj (Nat.le_refl zAb) (fun s hs hI=>by rw [(W.rest s hs hI).1,zAf hI];exact hb s hs) h1
  refine ⟨e2,Φ1,_,E2,L2,h2,S3,qb,?_,fun s hs hI=>?_⟩
  ·rw [zAj,W.val,zAj]
  ·rw [zAf hI,W.low s hs,zAf (by omega)]
 simp only [zGC] at h
 split at h
 ·rename_i cs
  obtain ⟨vs,rfl,hr⟩:=hp
  obtain ⟨rv1,E1,L1,S1,k1,k2,k3⟩:=zLm cs vs.toList 1 S hr
  have yO:=hr.length
  have yY:∀ (j:Nat) (p:PV),cs[j]? = some p→∃ v,vs.toList[j]? = some v:=fun j p hj=>⟨_,List.getElem?_eq_getElem (by have:=(List.getElem?_eq_some_iff.1 hj).1;omega)⟩
  obtain ⟨e2,Φ2,rv2,E2,L2,qs,h2,S2,h3,h4,h5,h6⟩:=zKu cs 1 S1 (fun j p hjp=>by
   obtain ⟨v,yE⟩:=yY j p hjp
   exact (k2 j p v hjp yE).1) h
  have vF:∀ s,zAb≤s→(s<zAb+1∨zAb+1+cs.length≤s)→E2 s = .bad:=fun s hs jn=>by
   rw [(h6 s hs jn).1,(k3 s hs jn).1];exact hb s hs
  have gd:∀ (j:Nat) (q:PV) (v:Value),qs[j]? = some q→vs.toList[j]? = some v→E2 (zAb+1+j)=q∧rv2 (zAb+1+j)=v:=fun j q v hq yE=>by
   obtain ⟨m1,m2⟩:=h4 j q hq
   have jL:j<cs.length:=by have:=(List.getElem?_eq_some_iff.1 hq).1;omega
   have:=k2 j _ v (List.getElem?_eq_getElem jL) yE
   exact ⟨m1,m2.trans this.2.1⟩
  obtain ⟨Lp,r1,r2,r3⟩:=zKC S2.conf qs vs.toList (zAb+1) (by omega) gd
  have hG:∀ s,decide (zAb+1≤s∧s<zAb+1+cs.length)=true↔zAb+1≤s∧s<zAb+1+cs.length:=fun s=>decide_eq_true_iff
  have hc:=S2.conf.make (w':=w) (fun s=>decide (zAb+1≤s∧s<zAb+1+cs.length)) (fun s hs=>by have:=(hG s).1 hs;omega) (g:=zAb) (Nat.le_refl _) (p := .agg qs) (v := .agg vs) (Lp:=Lp)
   (fun A hA=>⟨vs,rfl,r1.mono zDm.refl hA (fun _ _=>rfl)⟩) r2 (fun b hb=>by
    obtain ⟨t,q1,q2,q3⟩:=r3 b hb
    exact .inl ⟨t,q3,(hG t).2 ⟨q1,by omega⟩⟩) (Nat.le_refl _) (fun _ _ _=>rfl) ⟨rfl,rfl,rfl⟩
  have yr:∀ s,s<zAb→decide (zAb+1≤s∧s<zAb+1+cs.length)=false:=fun s hs=>decide_eq_false (by omega)
  have S3:=S2.turn (e':=e2) hc (fun s hs=>by
   rw [zAf (by omega)]
   simp only [yr s hs,Bool.false_eq_true,if_false];exact S2.env s hs) (fun s hs=>zAf (by omega)) (fun d ps hd hp=>by
   rw [zAf (by omega)] at hp
   simp only [yr d (by omega),Bool.false_eq_true,if_false] at hp;exact ⟨ps,hp,rfl⟩)
  obtain ⟨e4,E4,L4,m1,S4,m2⟩:=zMz S3 hj (Nat.le_refl zAb) (fun s hs hI=>by
   rw [zAf hI]
   by_cases h7:s<zAb+1+cs.length
   ·simp only [(hG s).2 ⟨by omega,h7⟩,if_true]
   ·have:decide (zAb+1≤s∧s<zAb+1+cs.length)=false:=decide_eq_false (by omega)
    simp only [this,Bool.false_eq_true,if_false];exact vF s hs (by omega)) (by rw [zAj];exact h2)
  refine ⟨e4,Φ2,_,E4,L4,m1,S4,m2,?_,fun s hs hI=>?_⟩
  ·rw [zAj,zAj]
  ·rw [zAf hI,zAf (by omega),h5 s hs,(k1 s hs).2]
 ·exact single h
def zWh (nt:Nat):ResultVar→Bool
 | .tmp t=>Nat.blt t nt
 | .cell t _=>Nat.blt t nt
def zHa (a:Act):ResultVar→Sem Value
 | .tmp t=>pure (a.tmps.getD t undef)
 | .cell t ty=>do loadVar ty (← asAddr (a.tmps.getD t undef))
theorem zMW {frz:Bool}:∀ (rs:List ResultVar) (j:Nat) {e:Env} {Φ:Nat→Prop} {rv:Nat→Value} {E:Nat→PV} {L:Nat→List Nat},St w0 U Φ0 nt hv a w e Φ rv E L→zBo E→j+rs.length≤1000→(∀ x∈rs,zWh nt x=true)→(zCG P frz j rs).run o e=some e' →
  ∃ Φ1 rv1 E1 L1,St w0 U Φ0 nt hv a w e' Φ1 rv1 E1 L1∧zBo E1∧(∀ s,s<zAv+j→rv1 s=rv s)∧∀ (i:Nat) (x:ResultVar),rs[i]? = some x→(zHa a x).run P w = .ok (rv1 (zAv+j+i)) w
 | [],j,e,Φ,rv,E,L,S,hb,hj,hr,h=>by
  simp only [zCG,PM.run,Option.some.injEq] at h;subst h
  exact ⟨Φ,rv,E,L,S,hb,fun _ _=>rfl,by simp⟩
 | x :: rs,j,e,Φ,rv,E,L,S,hb,hj,hr,h=>by
  have ho:zAv=60000000:=rfl
  have w5:zAb=1000000000:=rfl
  simp only [List.length_cons] at hj
  have hx:=hr x (by simp)
  have fin:∀ {p:PV} {v:Value},Rep w Φ (zA2 w rv E) p v []→(zHa a x).run P w = .ok v w→(zGC frz p fun q=>lay (zAv+j) q (zCG P frz (j+1) rs)).run o e=some e' →
    ∃ Φ1 rv1 E1 L1,St w0 U Φ0 nt hv a w e' Φ1 rv1 E1 L1∧zBo E1∧(∀ s,s<zAv+j→rv1 s=rv s)∧∀ (i:Nat) (y:ResultVar),(x::rs)[i]? = some y→(zHa a y).run P w = .ok (rv1 (zAv+j+i)) w:=by
   intro p v hp yE h
   obtain ⟨e1,Φ1,rv1,E1,L1,h1,S1,y5,h2,h3⟩:=zWW S hb (by omega) hp h
   obtain ⟨Φ2,rv2,E2,L2,S2,jX,h4,h5⟩:=zMW rs (j+1) S1 y5 (by omega) (fun y hy=>hr y (by simp [hy])) h1
   refine ⟨Φ2,rv2,E2,L2,S2,jX,fun s hs=>(h4 s (by omega)).trans (h3 s (by omega) (by omega)),fun i y hy=>?_⟩
   cases i with
   | zero =>
    simp at hy;subst hy
    rw [Nat.add_zero,h4 _ (by omega),h2];exact yE
   | succ i =>
    rw [show zAv+j+(i+1)=zAv+(j+1)+i by omega]
    exact h5 i y (by simpa using hy)
  cases x with
  | tmp t =>
   have uK:t<nt:=zB1 hx
   have yf:t<zAb:=Nat.lt_of_lt_of_le uK (Nat.le_trans S.small (by decide))
   simp only [zCG,PM.run] at h
   rw [← S.env t yf] at h
   exact fin (S.conf.view yf) (by simp only [zHa,Sem.run_pure];rw [S.tmps t uK]) h
  | cell t ty =>
   have uK:t<nt:=zB1 hx
   have yf:t<zAb:=Nat.lt_of_lt_of_le uK (Nat.le_trans S.small (by decide))
   simp only [zCG] at h
   obtain ⟨sh,j6,h1⟩:=zBF h
   simp only [PM.run] at h1
   rw [← S.env t yf] at h1
   have yE:=S.conf.view yf
   split at h1
   ·rename_i r pre i c s' u6
    rw [u6] at yE
    obtain ⟨b,u,q,q1,q2,q3,q4⟩:=zLl (P:=P) S j6 yE h1
    exact fin q4 (by simp only [zHa,Sem.run_bind];rw [S.tmps t uK,q1];simp [asAddr,q2]) q3
   ·cases h1
end
end Go.Eng
namespace Go.Eng
open Go
def zVf (P:Program) (fn:Func):Bool :=
 match fn.body with
 | none=>true
 | some c=>zCC P fn.ntmps c&&fn.results.toList.all (zWh fn.ntmps)&&Nat.ble fn.ntmps 2000000&&Nat.ble fn.results.size 1000
section
variable {P:Program} {H:zBb} {w:World} {orc:zAD} {yo:zCL}
theorem zI6 {α β:Type} {f:α→Sem β}:∀ (l:List α) (vs:List β),l.length=vs.length→(∀ (i:Nat) (x:α) (v:β),l[i]? = some x→vs[i]? = some v→(f x).run P w = .ok v w)→(l.mapM f).run P w = .ok vs w
 | [],[],_,_=>rfl
 | [],_::_,h,_=>by cases h
 | _::_,[],h,_=>by cases h
 | x::l,v::vs,h,hf=>by
  simp only [List.mapM_cons,Sem.run_bind,hf 0 x v rfl rfl,Result.andThen_ok,zI6 l vs (by simpa using h) (fun i y u hy hu=>hf (i+1) y u (by simpa using hy) (by simpa using hu)),Sem.run_pure]
theorem zN0 {fn:Func} {a:Act} {vs:List Value} (hl:fn.results.size=vs.length) (h:∀ (i:Nat) (x:ResultVar) (v:Value),fn.results.toList[i]? = some x→vs[i]? = some v→(zHa a x).run P w = .ok v w) :
  (results fn a.tmps).run P w = .ok (if h:vs.toArray.size=1 then vs.toArray[0] else .tuple vs.toArray) w:=by
 have h1:=zI6 (P:=P) (w:=w) (f:=zHa a) fn.results.toList vs (by simpa using hl) h
 have h2:(fn.results.mapM (zHa a)).run P w = .ok vs.toArray w:=by
  rw [Array.mapM_eq_mapM_toList]
  simp only [Sem.run_map,h1,Result.andThen_ok]
 have h3:(fun | .tmp t=>pure (a.tmps.getD t undef) | .cell t ty=>do loadVar ty (← asAddr (a.tmps.getD t undef)):ResultVar→Sem Value)=zHa a:=by
  funext x;cases x<;>rfl
 simp only [results,Sem.run_bind]
 have h4:(fn.results.mapM (fun | .tmp t=>pure (a.tmps.getD t undef) | .cell t ty=>do loadVar ty (← asAddr (a.tmps.getD t undef)):ResultVar→Sem Value)).run P w = .ok vs.toArray w:=by rw [h3];exact h2
 erw [h4]
 rfl
theorem zJV {fn:Func} {tmps:Array Value} {R:Ending→World→Prop}:∀ (ds:List Deferred) (w:World),(∀ d∈ds,∃ D,d.target = .collected D∧w.heap[D]? = some (.deferred (some [])))→ds.Pairwise (fun d d'=>∀ D D',d.target = .collected D→d'.target = .collected D'→D≠D') →
  (∀ w',w'.heap.size=w.heap.size→(∀ b,(∀ d∈ds,d.target ≠ .collected b)→w'.heap[b]? = w.heap[b]?)→(w'.os=w.os∧w'.tape=w.tape∧w'.output=w.output)→LeavesIn (FF none) 0 P fn tmps R [] .returning w')→LeavesInM (FF none) 0 P fn tmps R ds .returning w
 | [],w,_,_,h=>h w rfl (fun _ _=>rfl) ⟨rfl,rfl,rfl⟩
 | d :: ds,w,h1,h2,h=>by
  obtain ⟨D,q1,q2⟩:=h1 d (by simp)
  obtain ⟨p1,p2⟩:=List.pairwise_cons.1 h2
  refine ⟨by simp,.inl ⟨D,_,q1,run_takeDeferred q2,zJV ds _ (fun d' hd=>?_) p2 fun w' g1 g2 g3=>?_⟩⟩
  ·obtain ⟨D',r1,r2⟩:=h1 d' (by simp [hd])
   exact ⟨D',r1,(World.putObj_heap_other (Ne.symm (p1 d' hd D D' q1 r1))).trans r2⟩
  ·refine h w' (g1.trans (by simp)) (fun b hb=>(g2 b fun d' hd=>hb d' (by simp [hd])).trans (World.putObj_heap_other fun e=>hb d (by simp) (e▸q1))) g3
theorem zVB (zE1:P.follows .mixedOrders=true) (jE:zGb P orc) (hnm:zEJ P) (qj:zMB P yo) {f:FuncId} {fn:Func} {body:Code} {n:Nat} {args hid hO:List PV} {v:PV} (hf:P.funcs[f]? = some fn) (yT:fn.body=some body) (hwf:zVf P fn=true) (h:zJl P H orc yo zB5 n f fn body args hid=some (v,hO)) :
    Means P f args hid v hO:=by
  have ho:zAv=60000000:=rfl
  have hh:zAm=50000000:=rfl
  have w5:zAb=1000000000:=rfl
  simp only [zVf,yT,Bool.and_eq_true] at hwf
  obtain ⟨⟨⟨jH,y9⟩,u3⟩,jO⟩:=hwf
  have u3:=Nat.le_of_ble_eq_true u3
  have jO:=Nat.le_of_ble_eq_true jO
  simp only [zJl] at h
  cases hc:(Nat.ble args.length fn.ntmps&&Nat.ble hid.length 1000&&args.all fun p => !p.isTup) with
  | false=>rw [hc] at h;cases h
  | true =>
    rw [hc] at h;simp only [cond_true] at h
    simp only [Bool.and_eq_true] at hc
    obtain ⟨⟨yL,uZ⟩,u7⟩:=hc
    have yL:=Nat.le_of_ble_eq_true yL
    have uZ:=Nat.le_of_ble_eq_true uZ
    have key : ∀ x e1,exec P H orc yo zB5 fn.ntmps (H f) n body (zA5 args hid) none=some (x,e1,none)→(x = .norm∨x = .ret)→∀ e',(zCG P (H f).frz 0 fn.results.toList).run orc e1=some e' →
        (bif Nat.beq fn.results.size 1&&(e'.get zAv).isTup then none else some (zVl e' fn.results.size,(List.range hid.length).map fun j=>e'.get (zAm+j)))=some (v,hO)→Means P f args hid v hO:=by
      intro x e1 hx gY e' wM ye w Φ rv E L vs hE kO C yF yg j0
      refine callsIn_wide.1 (callsIn_of_wp_marks (n:=0) hf yT trivial ?_)
      have hntm:vs.size+(fn.ntmps-vs.size)=fn.ntmps:=by omega
      have S:St w (fun b=>∃ s,b∈L s) Φ fn.ntmps ⟨rv,[]⟩ {tmps:=vs++Array.replicate (fn.ntmps-vs.size) undef,defers:=[]} w (zA5 args hid) Φ rv E L:=by
        refine ⟨C,hE,by simp;omega,u3,fun t ht=>?_,fun d ps i hd hp hi=>?_,fun _ _ _=>rfl,rfl⟩
        · simp only [Array.getD_eq_getD_getElem?,Array.getElem?_append]
          by_cases h1:t<vs.size
          · rw [if_pos h1,yg t (by omega)];rfl
          · rw [if_neg h1,Array.getElem?_replicate,if_pos (by omega),j0 t (by omega) (by omega)];rfl
        · rw [hE d (by omega),zDg (by omega)] at hp
          split at hp
          · rename_i v8
            have:(args.getD d .bad)∈args:=by
              simp only [List.getD,List.getElem?_eq_getElem v8,Option.getD_some];exact List.getElem_mem v8
            have:=List.all_eq_true.1 u7 _ this
            rw [hp] at this;cases this
          · split at hp
            · omega
            · cases hp
      have hw:=zHC (zW6 jE hnm) zE1 n body (.inr (zWS zE1 jE hnm qj)) jH (fun _ _=>trivial) rfl (⟨rfl,w,_,Φ,[],Rel.refl,⟨fun _ h=>(by cases h),.nil⟩,Φ,rv,E,L,S,kO⟩:GB w (fun b=>∃ s,b∈L s) Φ fn.ntmps rv _ w _ none) hx
      refine wpIn_mono hw fun ex a' w1 ⟨gZ,_,wz,Uz,Φz,ds,qD,vX,Φ1,rv1,E1,L1,Sz,y5⟩=>?_
      have u9:LeavesInM (FF none) 0 P fn a'.tmps (fun e w'=>∃ u Φ' rv' E' L',e = .returned u∧Conf w (fun b=>∃ s,b∈L s) Φ w' Φ' rv' E' L'∧hO.length=hid.length ∧
          (∀ j,j<hid.length→E' (zAm+j)=hO.getD j .bad∧rv' (zAm+j)=rv (zAm+j))∧Gave v u rv' E') a'.defers .returning w1:=by
       rw [Sz.dfr]
       have gg:∀ d∈ds,∀ D,d.target = .collected D→(∀ s,D∉L1 s)∧¬ Φ1 D∧w.heap.size≤D:=by
         intro d hd D hD
         obtain ⟨D',q1,q0,q2,q3,q4,q5⟩:=vX.each d hd
         rw [q1] at hD;cases hD
         refine ⟨fun s hs=>?_,fun h=>?_,q0⟩
         · rcases (Sz.conf.own s D hs).2.2 with h | h
           · exact q4 h
           · omega
         · rcases (Sz.conf.frz D h).2 with h | h | h
           · exact q5 h
           · exact q4 h
           · omega
       refine zJV ds w1 (fun d hd=>?_) vX.apart fun w' m1 m2 m3=>?_
       · obtain ⟨D,q1,_,q2,q3,q4,_⟩:=vX.each d hd
         exact ⟨D,q1,(Sz.conf.kept D q2 q4).trans q3⟩
       have C1:Conf w (fun b=>∃ s,b∈L s) Φ w' Φ1 rv1 E1 L1:=(Sz.conf.rebase qD).moved (by omega) (fun s b hb=>m2 b fun d hd h=>(gg d hd b h).1 s hb) (fun b hb=>m2 b fun d hd h=>(gg d hd b h).2.1 hb) (fun b hb _=>m2 b fun d hd h=>by have:=(gg d hd b h).2.2;omega) m3
       have S1:St w (fun b=>∃ s,b∈L s) Φ fn.ntmps ⟨rv,ds⟩ a' w' e1 Φ1 rv1 E1 L1:=Sz.with C1
       obtain ⟨Φ2,rv2,E2,L2,S2,jX,_,h3⟩:=zMW fn.results.toList 0 S1 y5 (by simpa using jO) (fun y hy=>List.all_eq_true.1 y9 y hy) wM
       let us:List Value:=(List.range fn.results.size).map fun i=>rv2 (zAv+i)
       have yA:=zN0 (P:=P) (w:=w') (fn:=fn) (a:=a') (vs:=us) (by simp [us]) (fun i y u hy hu=>by
         have:=h3 i y hy
         rw [Nat.add_zero] at this
         rw [this]
         have hi:i<fn.results.size:=by have:=(List.getElem?_eq_some_iff.1 hy).1;simpa using this
         simp only [us,List.getElem?_map,List.getElem?_range hi,Option.map_some,Option.some.injEq] at hu
         rw [hu])
       refine ⟨_,yA,_,Φ2,rv2,E2,L2,rfl,S2.conf,?_⟩
       have hv:v=zVl e' fn.results.size∧hO=(List.range hid.length).map fun j=>e'.get (zAm+j):=by
         revert ye
         cases (Nat.beq fn.results.size 1&&(e'.get zAv).isTup) with
         | true=>intro h;cases h
         | false=>intro h;simp only [cond_false,Option.some.injEq,Prod.mk.injEq] at h;exact ⟨h.1.symm,h.2.symm⟩
       obtain ⟨uI,ka⟩:=hv
       refine ⟨by rw [ka];simp,fun j hj=>⟨?_,S2.hid _ (by omega) (by omega)⟩,?_⟩
       · rw [S2.env _ (by omega),ka]
         simp [List.getD,hj]
       · by_cases h1:fn.results.size=1
         · have u3:(e'.get zAv).isTup=false:=by
             revert ye
             cases hb:(e'.get zAv).isTup with
             | true=>simp [h1]
             | false=>intro _;rfl
           have hv3:v=e'.get zAv:=by rw [uI,zVl,if_pos h1]
           have vt:us=[rv2 zAv]:=by simp only [us,h1];rfl
           refine ⟨fun _=>⟨by rw [S2.env _ (by omega),hv3],?_⟩,fun ps y7=>?_⟩
           · rw [vt];rfl
           · rw [hv3] at y7;rw [y7] at u3;cases u3
         · have hv3:v = .tup ((List.range fn.results.size).map fun j=>e'.get (zAv+j)):=by rw [uI,zVl,if_neg h1]
           refine ⟨fun h=>absurd hv3 (h _),fun ps y7=>?_⟩
           rw [hv3] at y7
           simp only [PV.tup.injEq] at y7
           subst y7
           refine ⟨us.toArray,?_,by simp [us],fun j p hj=>?_⟩
           · rw [dif_neg (by simpa [us] using h1)]
           · simp only [List.getElem?_map] at hj
             cases hr:(List.range fn.results.size)[j]? with
             | none=>rw [hr] at hj;cases hj
             | some k =>
               rw [hr] at hj;simp only [Option.map_some,Option.some.injEq] at hj
               obtain ⟨jP,wh⟩:=List.getElem?_eq_some_iff.1 hr
               simp only [List.getElem_range] at wh
               subst wh
               simp only [List.length_range] at jP
               exact ⟨by rw [S2.env _ (by omega)];exact hj,by simp [us,jP]⟩
      subst gZ
      rcases gY with rfl | rfl<;>exact u9
    revert h
    cases hx:exec P H orc yo zB5 fn.ntmps (H f) n body (zA5 args hid) none with
    | none=>intro h;cases h
    | some r =>
      obtain ⟨x,e1,lg⟩:=r
      intro h
      cases x with
      | ex id=>cases lg<;>cases h
      | norm =>
        cases lg with
        | some g=>cases h
        | none =>
          cases wM:(zCG P (H f).frz 0 fn.results.toList).run orc e1 with
          | none=>simp only [wM] at h;cases h
          | some e'=>simp only [wM] at h;exact key .norm e1 hx (.inl rfl) e' wM h
      | ret =>
        cases lg with
        | some g=>cases h
        | none =>
          cases wM:(zCG P (H f).frz 0 fn.results.toList).run orc e1 with
          | none=>simp only [wM] at h;cases h
          | some e'=>simp only [wM] at h;exact key .ret e1 hx (.inr rfl) e' wM h
def zEM (P:Program) (H:zBb):Prop:=∀ (f:FuncId) (fn:Func) (args hid:List PV) (v:PV) (hO:List PV),P.funcs[f]? = some fn→(H f).intr≠0→intrin P fn (H f).intr args hid=some (v,hO)→Callable P f∧Means P f args hid v hO
def Fit (P:Program) (H:zBb):Prop:=∀ (f:FuncId) (fn:Func),P.funcs[f]? = some fn→(H f).intr=0→zVf P fn=true
def zUk (P:Program) (g:FuncId) (first:List PV) (i:Nat) (caps:List PV) (k:Int) (plan:List (List PV)):Prop :=
  ∀ (J:List (List PV)→World→(Nat→Prop)→Prop) (Jx:World→Prop) (Ψ:Nat→Prop),Client P i plan k Ψ J Jx→∀ (w:World) (Φ:Nat→Prop) (rv:Nat→Value) (E:Nat→PV) (L:Nat→List Nat) (vs:Array Value) (B:Nat→Prop),
   (∀ s,s<zAb→E s=(zA5 (first++PV.yld i::caps) []).get s)→(∀ s,zAb≤s→E s = .bad)→Conf w (fun b=>∃ s,b∈L s) Φ w Φ rv E L→vs.size=(first++PV.yld i::caps).length→(∀ j,j<(first++PV.yld i::caps).length→vs[j]? = some (rv j)) →
   (∀ s,(first++PV.yld i::caps).length≤s→s<zAm→rv s=undef)→J [] w B→(∀ b,B b→∀ s,b∉L s)→(∀ b,Φ b→Ψ b∨¬ B b) →
   CallsIn (FF none) 0 P g vs w fun en w'=>(∃ v,en = .returned v)∧((k-plan.length≠0∧∃ B',J plan w' B')∨(k-plan.length=0∧Jx w'))
theorem zPz (zE1:P.follows .mixedOrders=true) (jE:zGb P orc) (hnm:zEJ P) (zMd:Fit P H) {n:Nat} {g:FuncId} {first caps:List PV} {i:Nat} {k:Int} {plan:List (List PV)} (h:zWc P H orc yo zB5 n g first i caps k=some plan):Callable P g∧(first++PV.yld i::caps).length≤zAm∧zUk P g first i caps k plan:=by
 have hh:zAm=50000000:=rfl
 simp only [zWc] at h
 split at h
 ·rename_i fn hf
  split at h
  ·rename_i body yT
   rcases zBg h with ⟨hc,h⟩ | ⟨_,h⟩
   ·simp only [Bool.and_eq_true] at hc
    obtain ⟨⟨⟨⟨h1,h2⟩,h3⟩,h4⟩,hint⟩:=hc
    have hint:=Nat.eq_of_beq_eq_true hint
    have h1:=Nat.le_of_ble_eq_true h1
    have hwf:=zMd g fn hf hint
    simp only [zVf,yT,Bool.and_eq_true] at hwf
    obtain ⟨⟨⟨jH,y9⟩,u3⟩,jO⟩:=hwf
    have u3:=Nat.le_of_ble_eq_true u3
    have u7:(first++PV.yld i::caps).all (fun p => !p.isTup)=true:=by
     rw [List.all_append,List.all_cons,Bool.and_eq_true] 
     rw [List.all_append,Bool.and_eq_true] at h3
     exact ⟨h3.1,by rw [h3.2];rfl⟩
    have hk:k≠0:=by simpa using h4
    refine ⟨⟨fn,hf,by rw [yT];rfl⟩,by omega,?_⟩
    have key:∀ {x:X} {e1:Env} {l:Log},exec P H orc yo zB5 fn.ntmps (H g) n body (zA5 (first++PV.yld i::caps) []) (some ⟨[],k,i⟩)=some (x,e1,some l)→(x = .norm∨x = .ret)→l.xs=plan→zUk P g first i caps k plan:=fun hx gY hg J Jx Ψ hC w Φ rv E L vs B hE kO C yF yg j0 hJ hBL hBΦ =>
     zVc zE1 jE hnm hC hf yT jH u3 h1 u7 h2 hx gY hg hk hE kO C yF yg j0 hJ hBL hBΦ
    split at h
    ·rename_i e1 l hx
     simp only [Option.some.injEq] at h
     exact key hx (.inl rfl) h
    ·rename_i e1 l hx
     simp only [Option.some.injEq] at h
     exact key hx (.inr rfl) h
    ·cases h
   ·cases h
  ·cases h
 ·cases h
theorem zE3 [Yo] (zE1:P.follows .mixedOrders=true) (hnm:zEJ P) (zMd:Fit P H) (hin:zEM P H) (qj:zMB P Yo.yo):∀ n,zGb P (zCV P H n)
 | 0=>by intro f args hid v hO h;cases h
 | n + 1 => by
  have jE:=zE3 zE1 hnm zMd hin qj n
  intro f args hid v hO h
  have h:zHG P H (zCV P H n) Yo.yo zB5 (n+1) f args hid=some (v,hO):=h
  simp only [zHG] at h
  split at h
  ·rename_i fn hf
   split at h
   ·rename_i hi
    exact hin f fn args hid v hO hf hi h
   ·rename_i hi
    split at h
    ·rename_i body yT
     exact ⟨⟨fn,hf,by rw [yT];rfl⟩,zVB zE1 jE hnm qj hf yT (zMd f fn hf (by simpa using hi)) h⟩
    ·cases h
  ·cases h
abbrev yo0:Yo:=⟨fun _ _ _ _ _=>none⟩
noncomputable def zTS (P:Program) (H:zBb) (n:Nat):zCL:=fun g first i caps k=>zWc P H (@zCV P H yo0 n) yo0.yo zB5 (n+1) g first i caps k
open Classical in
noncomputable def zWt (P:Program) (H:zBb):zCL:=fun g first i caps k=>if h:∃ xs n0,∀ n,n0≤n→zTS P H n g first i caps k=some xs then some (Classical.choose h) else none
noncomputable abbrev yo1 (P:Program) (H:zBb):Yo:=⟨zWt P H⟩
theorem zVm {g:FuncId} {first:List PV} {i:Nat} {caps:List PV} {k:Int} {xs:List (List PV)} {n0:Nat} (h:∀ n,n0≤n→zTS P H n g first i caps k=some xs):zWt P H g first i caps k=some xs:=by
 have h':∃ xs n0,∀ n,n0≤n→zTS P H n g first i caps k=some xs:=⟨xs,n0,h⟩
 simp only [zWt,dif_pos h']
 obtain ⟨n1,h1⟩:=Classical.choose_spec h'
 have h2:=h1 (max n0 n1) (by omega)
 rw [h (max n0 n1) (by omega)] at h2
 exact h2.symm
theorem zPu (zE1:P.follows .mixedOrders=true) (hnm:zEJ P) (zMd:Fit P H) (hin:zEM P H):zMB P (zWt P H):=by
 intro g first i caps k plan h
 simp only [zWt] at h
 split at h
 ·rename_i h'
  simp only [Option.some.injEq] at h;subst h
  obtain ⟨n1,h1⟩:=Classical.choose_spec h'
  exact zPz zE1 (@zE3 P H yo0 zE1 hnm zMd hin (fun g first i caps k plan h=>by cases h) n1) hnm zMd (h1 n1 (by omega))
 ·cases h
end
end Go.Eng
namespace Go.Eng
open Go
def zHO:zAD:=fun _ _ _=>none
def zVZ:zCL:=fun _ _ _ _ _=>none
def zGY:All:=fun _=>none
theorem zGD {o:zAD}:∀ {p:PM} {e e1:Env},p.run zHO e=some e1→p.run o e=some e1:=by
 intro p
 induction p with
 | ok=>intro e e1 h;exact h
 | fail=>intro e e1 h;cases h
 | view s k ih=>intro e e1 h;exact ih _ h
 | get s k ih=>intro e e1 h;simp only [PM.run] at h ⊢;split at h<;>first | (cases h;done) | exact ih _ h
 | set s q k ih=>intro e e1 h;exact ih h
 | cells r pre i c n k ih=>intro e e1 h;simp only [PM.run] at h ⊢;split at h<;>first | (cases h;done) | exact ih _ _ h
 | deep r pre k ih=>intro e e1 h;simp only [PM.run] at h ⊢;split at h<;>first | (cases h;done) | exact ih _ h
 | wcells r pre i c qs k ih=>intro e e1 h;simp only [PM.run] at h ⊢;split at h<;>first | (cases h;done) | exact ih h
 | wnode r pre q k ih =>
  intro e e1 h
  simp only [PM.run] at h ⊢
  rcases zBg h with ⟨_,h⟩ | ⟨hl,h⟩
  ·cases h
  ·rw [hl];simp only [cond_false]
   split at h
   ·exact ih h
   ·cases h
 | kill r pre k ih=>intro e e1 h;exact ih h
 | frz r pre k ih=>intro e e1 h;simp only [PM.run] at h ⊢;split at h<;>first | (cases h;done) | exact ih h
 | killEx r pre k ih=>intro e e1 h;exact ih h
 | forget r k ih=>intro e e1 h;exact ih h
 | call f args hid k ih=>intro e e1 h;cases h
theorem zAo {α β:Type} {x y:Option α} {f:α→β} {r:β} (h:x.map f=some r) (g:∀ a,x=some a→y=some a):y.map f=some r:=by
 obtain ⟨a,h1,h2⟩:=Option.map_eq_some_iff.1 h
 rw [g a h1];simp [h2]
theorem zIl {o:zAD}:∀ {p:PM} {e:Env} {r:Env×Tok},p.runT zHO e=some r→p.runT o e=some r:=by
 intro p
 induction p with
 | ok=>intro e e1 h;exact h
 | fail=>intro e e1 h;cases h
 | view s k ih=>intro e e1 h;exact zAo h fun a h=>ih _ h
 | get s k ih=>intro e e1 h;simp only [PM.runT] at h ⊢;split at h<;>first | (cases h;done) | exact zAo h fun a h=>ih _ h
 | set s q k ih=>intro e e1 h;exact zAo h fun a h=>ih h
 | cells r pre i c n k ih=>intro e e1 h;simp only [PM.runT] at h ⊢;split at h<;>first | (cases h;done) | exact zAo h fun a h=>ih _ _ h
 | deep r pre k ih=>intro e e1 h;simp only [PM.runT] at h ⊢;split at h<;>first | (cases h;done) | exact zAo h fun a h=>ih _ h
 | wcells r pre i c qs k ih=>intro e e1 h;simp only [PM.runT] at h ⊢;split at h<;>first | (cases h;done) | exact zAo h fun a h=>ih h
 | wnode r pre q k ih =>
  intro e e1 h
  simp only [PM.runT] at h ⊢
  rcases zBg h with ⟨_,h⟩ | ⟨hl,h⟩
  ·cases h
  ·rw [hl];simp only [cond_false]
   split at h
   ·exact zAo h fun a h=>ih h
   ·cases h
 | kill r pre k ih=>intro e e1 h;exact zAo h fun a h=>ih h
 | frz r pre k ih=>intro e e1 h;simp only [PM.runT] at h ⊢;split at h<;>first | (cases h;done) | exact zAo h fun a h=>ih h
 | killEx r pre k ih=>intro e e1 h;exact zAo h fun a h=>ih h
 | forget r k ih=>intro e e1 h;exact zAo h fun a h=>ih h
 | call f args hid k ih=>intro e e1 h;cases h
section
variable {P:Program} {H:zBb} {o:zAD} {fz tk nl:Bool} {fzs tks:List Nat} {ops:Array Oper} {nt:Nat} {hh:FHint} {yo:zCL} {al:All}
theorem zH5 {x:Oper} {h0:Nat} {args:List PV} {l:Log} {e:Env} {r:Env×Option Log} (h:zBQ zHO ops x h0 args l e=some r):zBQ o ops x h0 args l e=some r:=by
 simp only [zBQ] at h ⊢
 split at h
 ·rcases zBg h with ⟨hc,h⟩ | ⟨_,h⟩
  ·rw [hc];simp only [cond_true]
   refine zAo h fun a h=>?_
   rcases zBg h with ⟨hk,h⟩ | ⟨hk,h⟩<;>rw [hk]
   ·exact zGD h
   ·exact zGD h
  ·cases h
 ·exact zAo h fun a h=>zGD h
 ·cases h
theorem zSa {x:Oper} {e:Env} {lg:Option Log} {r:Env×Option Log} (h:zCK P H zHO fz tk nl ops x e lg=some r):zCK P H o fz tk nl ops x e lg=some r:=by
 simp only [zCK] at h ⊢
 split at h
 ·exact zAo h fun a h=>zGD h
 ·split at h
  ·exact zH5 h
  ·exact zAo h fun a h=>zGD h
theorem zL4 {x:Oper} {e:Env} {lg:Option Log} {r:Env×Option Log×Tok} (h:zEh P H zHO fz tk nl ops x e lg=some r):zEh P H o fz tk nl ops x e lg=some r:=by
 simp only [zEh] at h ⊢
 split at h
 ·exact zAo h fun a h=>zIl h
 ·split at h
  ·exact zAo h fun a h=>zH5 h
  ·exact zAo h fun a h=>zIl h
theorem zGZ:∀ {l:List Oper} {i:Nat} {e:Env} {lg:Option Log} {r:Env×Option Log},zA7 P H zHO fzs tks nl ops l i e lg=some r→zA7 P H o fzs tks nl ops l i e lg=some r
 | [],_,_,_,_,h=>h
 | x::l,i,e,lg,r,h=>by
  simp only [zA7] at h ⊢
  cases hs:zCK P H zHO (fzs.contains i) (tks.contains i) nl ops x e lg with
  | none=>rw [hs] at h;cases h
  | some q=>rw [hs] at h;rw [zSa hs];exact zGZ h
theorem zJs:∀ {l:List Oper} {i:Nat} {acc:List Nat} {ts:List Tok} {e:Env} {lg:Option Log} {r:Env×Option Log},zCm P H zHO fzs tks nl ops l i acc ts e lg=some r→zCm P H o fzs tks nl ops l i acc ts e lg=some r
 | [],_,_,_,_,_,_,h=>h
 | x :: l,i,acc,ts,e,lg,r,h=>by
  simp only [zCm] at h ⊢
  cases hs:zEh P H zHO (fzs.contains i) (tks.contains i) nl ops x e lg with
  | none=>rw [hs] at h;cases h
  | some q =>
   rw [hs] at h;rw [zL4 hs]
   simp only at h ⊢
   rcases zBg h with ⟨hc,h⟩ | ⟨_,h⟩
   ·rw [hc];exact zJs h
   ·cases h
theorem zOP:∀ {m:Nat} {c:Code} {e:Env} {lg:Option Log} {r:X×Env×Option Log},exec P H zHO zVZ zGY nt hh m c e lg=some r→∀ {m':Nat},m≤m'→exec P H o yo al nt hh m' c e lg=some r
 | 0,_,_,_,_,h,_,_=>by cases h
 | m + 1,c,e,lg,r,h,m',hm=>by
  obtain ⟨m',rfl⟩:∃ k,m'=k+1:=⟨m'-1,by omega⟩
  have ih:∀ {c:Code} {e:Env} {lg:Option Log} {r:X×Env×Option Log},exec P H zHO zVZ zGY nt hh m c e lg=some r→exec P H o yo al nt hh m' c e lg=some r:=fun h=>zOP h (by omega)
  cases c with
  | region id ops draw =>
   simp only [exec] at h ⊢
   split at h
   ·rename_i e1 lg1 h1
    have:(if draw=true then zCm P H o (hh.frzs id) (hh.take id) hh.nils ops ops.toList 0 [] [] e lg else zA7 P H o (hh.frzs id) (hh.take id) hh.nils ops ops.toList 0 e lg)=some (e1,lg1):=by
     cases draw with
     | true=>exact zJs h1
     | false=>exact zGZ h1
    rw [this];exact h
   ·cases h
  | seq a b =>
   simp only [exec] at h ⊢
   cases h1:exec P H zHO zVZ zGY nt hh m a e lg with
   | none=>rw [h1] at h;cases h
   | some q =>
    rw [h1] at h;rw [ih h1]
    obtain ⟨x,e1,lg1⟩:=q
    cases x with
    | norm=>exact ih h
    | ex id=>exact h
    | ret=>exact h
  | cond c a b =>
   cases c with
   | tmp t =>
    simp only [exec] at h ⊢
    revert h
    cases e.get t with
    | bool v=>intro h;cases v<;>exact ih h
    | _=>intro h;cases h
   | const v =>
    simp only [exec] at h ⊢
    revert h
    cases v with
    | bool v=>intro h;cases v<;>exact ih h
    | _=>intro h;cases h
   | _=>cases h
  | block id b =>
   simp only [exec] at h ⊢
   cases h1:exec P H zHO zVZ zGY nt hh m b e lg with
   | none=>rw [h1] at h;cases h
   | some q =>
    rw [h1] at h;rw [ih h1];exact h
  | loop b =>
   simp only [exec] at h ⊢
   cases h1:exec P H zHO zVZ zGY nt hh m b (e.drop (hh.loopDrop (zAQ b))) lg with
   | none=>rw [h1] at h;cases h
   | some q =>
    rw [h1] at h;rw [ih h1]
    obtain ⟨x,e1,lg1⟩:=q
    cases x with
    | norm=>exact ih h
    | ex id=>exact h
    | ret=>exact h
  | scope b=>exact ih h
  | rangeFunc x ps ca cb =>
   cases x with
   | tmp t =>
    simp only [exec] at h
    cases lg with
    | none =>
     simp only at h
     obtain ⟨q,h1,_⟩:=Option.map_eq_some_iff.1 h
     simp only [zGN] at h1
     split at h1
     ·cases h1
     ·cases h1
    | some _=>cases h
   | _=>cases h
  | skip=>exact h
  | exit id=>exact h
  | ret=>exact h
  | label l=>exact h
  | _=>cases h
end
def cl:Code→Code
 | .seq a _=>a
 | .cond _ a _=>a
 | .block _ b=>b
 | .loop b=>b
 | .scope b=>b
 | c=>c
def cr:Code→Code
 | .seq _ b=>b
 | .cond _ _ b=>b
 | c=>c
def zTH:Code→Bool
 | .seq .. => true
 | _=>false
def zO6:Code→Bool
 | .loop _=>true
 | _=>false
def zQ3:Code→Bool
 | .scope _=>true
 | _=>false
def zQn:Code→Option Nat
 | .block n _=>some n
 | _=>none
def zQv:Code→Option Nat
 | .cond (.tmp t) _ _=>some t
 | _=>none
def zUx:Code→Option Nat
 | .exit n=>some n
 | _=>none
def zWx:Code→Bool
 | .ret=>true
 | _=>false
def zUd:Code→Bool
 | .skip=>true
 | _=>false
def zUM:Code→Bool
 | .region .. => true
 | _=>false
def rid:Code→Nat
 | .region n _ _=>n
 | _=>0
def zFh:Code→Array Oper
 | .region _ o _=>o
 | _=>#[]
def zQS:Code→Bool
 | .region _ _ d=>d
 | _=>false
def zEg (c : Code) (i : Nat) : Oper := (zFh c)[i]?.getD { dst := none, op := .move (.const .nilIface), type := 0, pos := "", after := #[], guard := none }
theorem zS7 {c:Code} (h:zTH c=true):c = .seq (cl c) (cr c):=by cases c<;>first | rfl | cases h
theorem zMn {c:Code} (h:zO6 c=true):c = .loop (cl c):=by cases c<;>first | rfl | cases h
theorem zPZ {c:Code} (h:zQ3 c=true):c = .scope (cl c):=by cases c<;>first | rfl | cases h
theorem zTG {c:Code} (h:zWx c=true):c = .ret:=by cases c<;>first | rfl | cases h
theorem zRk {c:Code} (h:zUd c=true):c = .skip:=by cases c<;>first | rfl | cases h
theorem zTD {c:Code} (h:zUM c=true):c = .region (rid c) (zFh c) (zQS c):=by cases c<;>first | rfl | cases h
theorem zPQ {c:Code} {n:Nat} (h:zQn c=some n):c = .block n (cl c):=by cases c<;>first | (cases h;rfl) | cases h
theorem zQP {c:Code} {n:Nat} (h:zUx c=some n):c = .exit n:=by cases c<;>first | (cases h;rfl) | cases h
theorem zPE {c:Code} {t:Nat} (h:zQv c=some t):c = .cond (.tmp t) (cl c) (cr c):=by
 cases c<;>try (cases h;done)
 rename_i x a b
 cases x<;>first | (cases h;rfl) | cases h
section
variable [Yo] (P:Program) (H:zBb)
def zBD (f:FuncId) (args hid:List PV) (v:PV) (hO:List PV):Prop:=∃ n0,∀ n,n0≤n→zCV P H n f args hid=some (v,hO)
def W (f:FuncId) (nt:Nat) (c:Code) (e:Env) (lg:Option Log) (K:X→Env→Option Log→Prop):Prop :=
 ∃ n0 x e' lg',(∀ n m,n0≤n→n0≤m→exec P H (zCV P H n) Yo.yo zB5 nt (H f) m c e lg=some (x,e',lg'))∧K x e' lg'
def zFf (dr:Option (List Nat×List Tok)) (i:Nat) (o:Oper) (t:Tok):Option (Option (List Nat×List Tok)) :=
 match dr with
 | none=>some none
 | some (acc,ts)=>bif o.after.toList.all (fun e => !Region.binds .any e||Nat.blt e.on i)&&zF2 (zHZ acc o) t 0 ts then some (some (acc++[zHZ acc o],ts++[t])) else none
def zUT (orc:zAD) (fzs tks:List Nat) (nl:Bool) (ops:Array Oper) (dr:Option (List Nat×List Tok)) (l:List Oper) (i:Nat) (e:Env) (lg:Option Log):Option (Env×Option Log) :=
 match dr with
 | none=>zA7 P H orc fzs tks nl ops l i e lg
 | some (acc,ts)=>zCm P H orc fzs tks nl ops l i acc ts e lg
def WR (f:FuncId) (id:Nat) (ops:Array Oper) (dr:Option (List Nat×List Tok)) (i:Nat) (e:Env) (lg:Option Log) (K:Env→Option Log→Prop):Prop :=
 ∃ n0 eN lg',(∀ n,n0≤n→∃ e',zUT P H (zCV P H n) ((H f).frzs id) ((H f).take id) (H f).nils ops dr (ops.toList.drop i) i e lg=some (e',lg')∧(e'.drop ((H f).drop id)).norm=eN)∧K eN lg'
end
section
variable [Yo] {P:Program} {H:zBb} {f:FuncId} {nt:Nat} {e e':Env} {lg:Option Log} {K:X→Env→Option Log→Prop}
def zXS (P:Program) (H:zBb) (f:FuncId) (nt:Nat) (b:Code) (K:X→Env→Option Log→Prop):X→Env→Option Log→Prop
 | .norm,e,lg=>W P H f nt b e lg K
 | x,e,lg=>K x e lg
theorem zXq {a b:Code} (h:W P H f nt a e lg (zXS P H f nt b K)):W P H f nt (.seq a b) e lg K:=by
 obtain ⟨n0,x,e1,lg1,h1,h2⟩:=h
 cases x with
 | norm =>
  obtain ⟨n2,x,e2,lg2,h3,h4⟩:=h2
  refine ⟨max n0 n2+1,x,e2,lg2,fun n m hn hm=>?_,h4⟩
  obtain ⟨m,rfl⟩:∃ k,m=k+1:=⟨m-1,by omega⟩
  simp only [exec,h1 n m (by omega) (by omega),h3 n m (by omega) (by omega)]
 | ex id =>
  refine ⟨n0+1,_,e1,lg1,fun n m hn hm=>?_,h2⟩
  obtain ⟨m,rfl⟩:∃ k,m=k+1:=⟨m-1,by omega⟩
  simp only [exec,h1 n m (by omega) (by omega)]
 | ret =>
  refine ⟨n0+1,_,e1,lg1,fun n m hn hm=>?_,h2⟩
  obtain ⟨m,rfl⟩:∃ k,m=k+1:=⟨m-1,by omega⟩
  simp only [exec,h1 n m (by omega) (by omega)]
theorem zSM (m:Nat) {c:Code} {x:X} {e1:Env} {lg1:Option Log} (h:exec P H zHO zVZ zGY nt (H f) m c e lg=some (x,e1,lg1)) (hk:K x e1 lg1):W P H f nt c e lg K :=
 ⟨m,x,e1,lg1,fun _ _ _ hm=>zOP h hm,hk⟩
theorem zRT {c:Code} {K':X→Env→Option Log→Prop} (h:W P H f nt c e lg K) (hk:∀ x e lg,K x e lg→K' x e lg):W P H f nt c e lg K':=by
 obtain ⟨n0,x,e1,lg1,h1,h2⟩:=h
 exact ⟨n0,x,e1,lg1,h1,hk _ _ _ h2⟩
theorem zX6 (h:K .ret e lg):W P H f nt .ret e lg K:=zSM 1 rfl h
theorem zWf (h:K .norm e lg):W P H f nt .skip e lg K:=zSM 1 rfl h
theorem zXb {id:Nat} (h:K (.ex id) (zV2 ((H f).ices id) e) lg):W P H f nt (.exit id) e lg K:=zSM 1 rfl h
theorem zVL {b:Code} (h:W P H f nt b e lg K):W P H f nt (.scope b) e lg K:=by
 obtain ⟨n0,x,e1,lg1,h1,h2⟩:=h
 refine ⟨n0+1,x,e1,lg1,fun n m hn hm=>?_,h2⟩
 obtain ⟨m,rfl⟩:∃ k,m=k+1:=⟨m-1,by omega⟩
 exact h1 n m (by omega) (by omega)
def Blk (id:Nat) (K:X→Env→Option Log→Prop):X→Env→Option Log→Prop
 | .ex id',e,lg=>bif Nat.beq id' id then K .norm e lg else K (.ex id') e lg
 | x,e,lg=>K x e lg
theorem zUU {id:Nat} {b:Code} (h:W P H f nt b e lg (Blk id K)):W P H f nt (.block id b) e lg K:=by
 obtain ⟨n0,x,e1,lg1,h1,h2⟩:=h
 cases x with
 | ex id' =>
  by_cases hid:id'=id
  ·subst hid
   simp only [Blk,Nat.beq_refl,cond_true] at h2
   refine ⟨n0+1,.norm,e1,lg1,fun n m hn hm=>?_,h2⟩
   obtain ⟨m,rfl⟩:∃ k,m=k+1:=⟨m-1,by omega⟩
   simp only [exec,h1 n m (by omega) (by omega),if_true]
  ·have hb:Nat.beq id' id=false:=by
    cases hc:Nat.beq id' id with
    | false=>rfl
    | true=>exact (hid (Nat.eq_of_beq_eq_true hc)).elim
   simp only [Blk,hb,cond_false] at h2
   refine ⟨n0+1,.ex id',e1,lg1,fun n m hn hm=>?_,h2⟩
   obtain ⟨m,rfl⟩:∃ k,m=k+1:=⟨m-1,by omega⟩
   simp only [exec,h1 n m (by omega) (by omega),if_neg hid]
 | norm =>
  refine ⟨n0+1,_,e1,lg1,fun n m hn hm=>?_,h2⟩
  obtain ⟨m,rfl⟩:∃ k,m=k+1:=⟨m-1,by omega⟩
  simp only [exec,h1 n m (by omega) (by omega)]
 | ret =>
  refine ⟨n0+1,_,e1,lg1,fun n m hn hm=>?_,h2⟩
  obtain ⟨m,rfl⟩:∃ k,m=k+1:=⟨m-1,by omega⟩
  simp only [exec,h1 n m (by omega) (by omega)]
theorem zWk {t:Nat} {a b:Code} {c:Bool} (ht:e.get t = .bool c) (h1:c=true→W P H f nt a e lg K) (h2:c=false→W P H f nt b e lg K):W P H f nt (.cond (.tmp t) a b) e lg K:=by
 cases c with
 | true =>
  obtain ⟨n0,x,e1,lg1,h3,h4⟩:=h1 rfl
  refine ⟨n0+1,_,_,lg1,fun n m hn hm=>?_,h4⟩
  obtain ⟨m,rfl⟩:∃ k,m=k+1:=⟨m-1,by omega⟩
  simp only [exec,ht];exact h3 n m (by omega) (by omega)
 | false =>
  obtain ⟨n0,x,e1,lg1,h3,h4⟩:=h2 rfl
  refine ⟨n0+1,_,_,lg1,fun n m hn hm=>?_,h4⟩
  obtain ⟨m,rfl⟩:∃ k,m=k+1:=⟨m-1,by omega⟩
  simp only [exec,ht];exact h3 n m (by omega) (by omega)
theorem zV9 {σ:Type} (Inv:σ→Prop) (I:σ→Env) (μ:σ→Nat) {b:Code} (h:∀ s,Inv s→W P H f nt b (I s) lg fun x e lg'=>match x with
   | .norm=>∃ s',Inv s'∧μ s'<μ s∧e.drop ((H f).loopDrop (zAQ b))=I s'∧lg'=lg
   | x=>K x e lg'):∀ (n:Nat) (s:σ) (e:Env),μ s≤n→Inv s→e.drop ((H f).loopDrop (zAQ b))=I s→W P H f nt (.loop b) e lg K:=by
 intro n
 induction n with
 | zero =>
  intro s e hs hi he
  obtain ⟨n0,x,e1,lg1,h1,h2⟩:=h s hi
  cases x with
  | norm=>obtain ⟨s',_,h3,_⟩:=h2;omega
  | ex id =>
   refine ⟨n0+1,_,e1,lg1,fun n m hn hm=>?_,h2⟩
   obtain ⟨m,rfl⟩:∃ k,m=k+1:=⟨m-1,by omega⟩
   simp only [exec,he,h1 n m (by omega) (by omega)]
  | ret =>
   refine ⟨n0+1,_,e1,lg1,fun n m hn hm=>?_,h2⟩
   obtain ⟨m,rfl⟩:∃ k,m=k+1:=⟨m-1,by omega⟩
   simp only [exec,he,h1 n m (by omega) (by omega)]
 | succ n ih =>
  intro s e hs hi he
  obtain ⟨n0,x,e1,lg1,h1,h2⟩:=h s hi
  cases x with
  | norm =>
   obtain ⟨s',h3,h4,h7,rfl⟩:=h2
   obtain ⟨n2,x,e2,lg2,h5,h6⟩:=ih s' e1 (by omega) h3 h7
   refine ⟨max n0 n2+1,x,e2,lg2,fun n m hn hm=>?_,h6⟩
   obtain ⟨m,rfl⟩:∃ k,m=k+1:=⟨m-1,by omega⟩
   simp only [exec,he,h1 n m (by omega) (by omega),h5 n m (by omega) (by omega)]
  | ex id =>
   refine ⟨n0+1,_,e1,lg1,fun n m hn hm=>?_,h2⟩
   obtain ⟨m,rfl⟩:∃ k,m=k+1:=⟨m-1,by omega⟩
   simp only [exec,he,h1 n m (by omega) (by omega)]
  | ret =>
   refine ⟨n0+1,_,e1,lg1,fun n m hn hm=>?_,h2⟩
   obtain ⟨m,rfl⟩:∃ k,m=k+1:=⟨m-1,by omega⟩
   simp only [exec,he,h1 n m (by omega) (by omega)]
theorem zAi {c:Code} (h:W P H f nt (cl c) e lg (zXS P H f nt (cr c) K)) (hc:zTH c=true:=by kernel_rfl):W P H f nt c e lg K:=by rw [zS7 hc];exact zXq h
theorem zAn {c:Code} (h:K .ret e lg) (hc:zWx c=true:=by kernel_rfl):W P H f nt c e lg K:=by rw [zTG hc];exact zX6 h
theorem zAl {c:Code} (h:K .norm e lg) (hc:zUd c=true:=by kernel_rfl):W P H f nt c e lg K:=by rw [zRk hc];exact zWf h
theorem zAS {c:Code} (n:Nat) (h:K (.ex n) (zV2 ((H f).ices n) e) lg) (hc:zUx c=some n:=by kernel_rfl):W P H f nt c e lg K:=by rw [zQP hc];exact zXb h
theorem zVS {c:Code} (h:W P H f nt (cl c) e lg K) (hc:zQ3 c=true:=by kernel_rfl):W P H f nt c e lg K:=by rw [zPZ hc];exact zVL h
theorem zAk {c:Code} (n:Nat) (h:W P H f nt (cl c) e lg (Blk n K)) (hc:zQn c=some n:=by kernel_rfl):W P H f nt c e lg K:=by rw [zPQ hc];exact zUU h
def zEu (c:Code) (e:Env):Option Bool :=
 match zQv c with
 | some t=>match e.get t with
  | .bool b=>some b
  | _=>none
 | none=>none
theorem zFe (b:Bool) {c:Code} (h1:b=true→W P H f nt (cl c) e lg K) (h2:b=false→W P H f nt (cr c) e lg K) (hc:zEu c e=some b:=by kernel_rfl):W P H f nt c e lg K:=by
 simp only [zEu] at hc
 split at hc
 ·rename_i t ht
  rw [zPE ht]
  split at hc
  ·rename_i b' hb
   simp only [Option.some.injEq] at hc;subst hc
   exact zWk hb h1 h2
  ·cases hc
 ·cases hc
theorem zDR {c:Code} (h:W P H f nt (cl c) e lg K) (hc:zEu c e=some true:=by kernel_rfl):W P H f nt c e lg K:=zFe true (fun _=>h) (fun h=>by cases h) hc
theorem zAG {c:Code} (h:W P H f nt (cr c) e lg K) (hc:zEu c e=some false:=by kernel_rfl):W P H f nt c e lg K:=zFe false (fun h=>by cases h) (fun _=>h) hc
theorem zW5 {σ:Type} {c:Code} (Inv:σ→Prop) (I:σ→Env) (μ:σ→Nat) (s:σ) (hi:Inv s) (h:∀ s,Inv s→W P H f nt (cl c) (I s) lg fun x e lg'=>match x with
   | .norm=>∃ s',Inv s'∧μ s'<μ s∧e.drop ((H f).loopDrop (zAQ (cl c)))=I s'∧lg'=lg
   | x=>K x e lg') (hs:e.drop ((H f).loopDrop (zAQ (cl c)))=I s:=by kernel_rfl) (hc:zO6 c=true:=by kernel_rfl):W P H f nt c e lg K:=by
 rw [zMn hc];exact zV9 Inv I μ h (μ s) s e (Nat.le_refl _) hi hs
def zNy (o:Option Env):Env :=
 match o with
 | some e=>e
 | none=>[]
structure RS where
 dr:Option (List Nat×List Tok)
 e:Env
 lg:Option Log
def noY (lg:Option Log) (e:Env) (o:Oper):Bool :=
 match lg with
 | none=>true
 | some _=>(zB9 e o).isNone
def WS (P:Program) (H:zBb) (f:FuncId) (c:Code) (i:Nat) (s:RS) (R:Env→Option Log→Prop):Prop:=WR P H f (rid c) (zFh c) s.dr i s.e s.lg R
def zUX (P:Program) (H:zBb) (f:FuncId) (c:Code) (i:Nat) (s:RS):Option RS :=
 match zEh P H zHO (((H f).frzs (rid c)).contains i) (((H f).take (rid c)).contains i) (H f).nils (zFh c) (zEg c i) s.e s.lg with
 | some (e',lg',t)=>(zFf s.dr i (zEg c i) t).map fun dr=>⟨dr,e',lg'⟩
 | none=>none
def zHP (P:Program) (H:zBb) (f:FuncId) (c:Code):Nat→Nat→RS→Option RS
 | 0,_,s=>some s
 | m+1,i,s=>match zUX P H f c i s with
  | some s'=>zHP P H f c m (i+1) s'
  | none=>none
variable {i:Nat} {c:Code} {s s':RS} {R:Env→Option Log→Prop}
abbrev zWa (P:Program) (H:zBb) (f:FuncId) (c:Code) (i:Nat):PM:=opM P H (((H f).frzs (rid c)).contains i) (((H f).take (rid c)).contains i) (H f).nils (zEg c i)
def zV0 (o:Option RS):RS :=
 match o with
 | some s=>s
 | none=>⟨none,[],none⟩
theorem zMN {o:Option RS} (h:o.isSome=true):o=some (zV0 o):=by cases o<;>first | rfl | cases h
theorem zAg (h:WS P H f c 0 ⟨bif zQS c then some ([],[]) else none,e,lg⟩ (K .norm)) (hc:zUM c=true:=by kernel_rfl):W P H f nt c e lg K:=by
 obtain ⟨n0,e1,lg1,h1,h2⟩:=h
 rw [zTD hc]
 refine ⟨n0+1,_,_,lg1,fun n m hn hm=>?_,h2⟩
 obtain ⟨m,rfl⟩:∃ k,m=k+1:=⟨m-1,by omega⟩
 obtain ⟨e2,this,h3⟩:=h1 n (by omega)
 cases hd:zQS c with
 | true=>simp only [hd,cond_true,zUT,List.drop_zero] at this;simp only [exec,this,if_true,h3]
 | false=>simp only [hd,cond_false,zUT,List.drop_zero] at this;simp only [exec,this,← h3];rfl
theorem zWo (e1:Env) (h:R e1 s.lg) (he:(s.e.drop ((H f).drop (rid c))).norm=e1:=by kernel_rfl) (hi:Nat.ble (zFh c).size i=true:=by kernel_rfl):WS P H f c i s R:=by
 have hi:=Nat.le_of_ble_eq_true hi
 refine ⟨0,e1,s.lg,fun n _=>⟨s.e,?_,he⟩,h⟩
 rw [List.drop_eq_nil_of_le (by simpa using hi)]
 cases s.dr<;>rfl
theorem zAa (h:R ((s.e.drop ((H f).drop (rid c))).norm) s.lg) (hi:Nat.ble (zFh c).size i=true:=by kernel_rfl):WS P H f c i s R:=zWo _ h rfl hi
theorem zVx (h:Nat.blt i (zFh c).size=true):(zFh c)[i]? = some (zEg c i):=by
 have:i<(zFh c).size:=by simpa using h
 simp [zEg,this]
theorem zR1 (h:Nat.blt i (zFh c).size=true):(zFh c).toList.drop i=zEg c i::(zFh c).toList.drop (i+1):=by
 have h1:(zFh c).toList[i]? = some (zEg c i):=by rw [Array.getElem?_toList];exact zVx h
 obtain ⟨h2,h3⟩:=List.getElem?_eq_some_iff.1 h1
 rw [← h3];exact (List.drop_eq_getElem_cons h2)
theorem zJ6 {orc:zAD} {fz tk nl:Bool} {ops:Array Oper} {o:Oper} {lg':Option Log} {t:Tok} (h:zEh P H orc fz tk nl ops o e lg=some (e',lg',t)):zCK P H orc fz tk nl ops o e lg=some (e',lg'):=by
 simp only [zEh] at h
 simp only [zCK]
 split at h
 ·obtain ⟨a,h1,h2⟩:=Option.map_eq_some_iff.1 h
  cases h2
  rw [zD7 h1];rfl
 ·split at h
  ·obtain ⟨a,h1,h2⟩:=Option.map_eq_some_iff.1 h
   cases h2
   rw [h1]
  ·obtain ⟨a,h1,h2⟩:=Option.map_eq_some_iff.1 h
   cases h2
   rw [zD7 h1];rfl
theorem zLb {t:Tok} {dr':Option (List Nat×List Tok)} {lg':Option Log} (hi:Nat.blt i (zFh c).size=true) (hT:∃ n0,∀ n,n0≤n→zEh P H (zCV P H n) (((H f).frzs (rid c)).contains i) (((H f).take (rid c)).contains i) (H f).nils (zFh c) (zEg c i) s.e s.lg=some (e',lg',t))
  (hd:zFf s.dr i (zEg c i) t=some dr') (h:WS P H f c (i+1) ⟨dr',e',lg'⟩ R):WS P H f c i s R:=by
 obtain ⟨n0,hT⟩:=hT
 obtain ⟨n2,e2,lg2,h1,h2⟩:=h
 obtain ⟨dr,e,lg⟩:=s
 refine ⟨max n0 n2,e2,lg2,fun n hn=>?_,h2⟩
 have hs:=hT n (by omega)
 obtain ⟨e3,h1,h3⟩:=h1 n (by omega)
 refine ⟨e3,?_,h3⟩
 rw [zR1 hi]
 cases dr with
 | none =>
  simp only [zFf,Option.some.injEq] at hd;subst hd
  simp only [zUT] at h1 ⊢
  simp only [zA7,zJ6 hs];exact h1
 | some d =>
  obtain ⟨acc,ts⟩:=d
  simp only [zFf] at hd
  rcases zBg hd with ⟨hc,hd⟩ | ⟨_,hd⟩
  ·simp only [Option.some.injEq] at hd;subst hd
   simp only [zUT] at h1 ⊢
   simp only [zCm,hs,hc,cond_true];exact h1
  ·cases hd
theorem zQ8 {orc:zAD} {fz tk nl:Bool} {ops:Array Oper} {o:Oper} {t:Tok} (hy:noY lg e o=true) (h:(zFL P H ops fz tk nl o).runT orc e=some (e',t)):zEh P H orc fz tk nl ops o e lg=some (e',lg,t):=by
 cases lg with
 | none=>simp only [zEh,h];rfl
 | some l =>
  simp only [noY,Option.isNone_iff_eq_none] at hy
  simp only [zEh,hy,h];rfl
theorem zWw {t:Tok} {dr':Option (List Nat×List Tok)} (hi:Nat.blt i (zFh c).size=true) (hT:∃ n0,∀ n,n0≤n→(zFL P H (zFh c) (((H f).frzs (rid c)).contains i) (((H f).take (rid c)).contains i) (H f).nils (zEg c i)).runT (zCV P H n) s.e=some (e',t))
  (hd:zFf s.dr i (zEg c i) t=some dr') (h:WS P H f c (i+1) ⟨dr',e',s.lg⟩ R) (hy:noY s.lg s.e (zEg c i)=true):WS P H f c i s R:=by
 obtain ⟨n0,hT⟩:=hT
 exact zLb hi ⟨n0,fun n hn=>zQ8 hy (hT n hn)⟩ hd h
theorem zTa (hi:Nat.blt i (zFh c).size=true) (hs:zUX P H f c i s=some s') (h:WS P H f c (i+1) s' R):WS P H f c i s R:=by
 simp only [zUX] at hs
 split at hs
 ·rename_i e1 lg1 t ht
  obtain ⟨dr,hd,rfl⟩:=Option.map_eq_some_iff.1 hs
  exact zLb hi ⟨0,fun n _=>zL4 ht⟩ hd h
 ·cases hs
theorem zL0:∀ (m:Nat) {i:Nat} {s s':RS},Nat.ble (i+m) (zFh c).size=true→zHP P H f c m i s=some s'→WS P H f c (i+m) s' R→WS P H f c i s R
 | 0,i,s,s',_,hs,h=>by simp only [zHP,Option.some.injEq] at hs;subst hs;exact h
 | m + 1,i,s,s',hi,hs,h=>by
  have gD:=Nat.le_of_ble_eq_true hi
  simp only [zHP] at hs
  split at hs
  ·rename_i s1 h1
   refine zTa (by simp;omega) h1 (zL0 m ?_ hs ?_)
   ·rw [show i+1+m=i+(m+1) by omega];exact hi
   ·rw [show i+1+m=i+(m+1) by omega];exact h
  ·cases hs
theorem zAc (m:Nat) (h:WS P H f c (i+m) (zV0 (zHP P H f c m i s)) R) (hs:(zHP P H f c m i s).isSome=true:=by kernel_rfl) (hi:Nat.ble (i+m) (zFh c).size=true:=by kernel_rfl):WS P H f c i s R :=
 zL0 m hi (zMN hs) h
def zNe (c:Code) (i:Nat) (e:Env):Bool :=
 match (zEg c i).guard with
 | none=>true
 | some (j,want)=>match ((zFh c)[j]?).bind (·.dst) with
  | some t=>match e.get t with
   | .bool b=>b==want
   | _=>false
  | none=>false
theorem zXU {e':Env} (hm:∃ n0,∀ n,n0≤n→(zWa P H f c i).run (zCV P H n) s.e=some e') (h:WS P H f c (i+1) ⟨none,e',s.lg⟩ R) (jx:s.dr=none:=by kernel_rfl) (hy:noY s.lg s.e (zEg c i)=true:=by kernel_rfl) (hg:zNe c i s.e=true:=by kernel_rfl) (hi:Nat.blt i (zFh c).size=true:=by kernel_rfl):WS P H f c i s R:=by
 obtain ⟨n0,hm⟩:=hm
 obtain ⟨n2,e2,lg2,h1,h2⟩:=h
 obtain ⟨dr,e,lg⟩:=s
 simp only at jx hg hm hy;subst jx
 refine ⟨max n0 n2,e2,lg2,fun n hn=>?_,h2⟩
 obtain ⟨e3,h1,h3⟩:=h1 n (by omega)
 refine ⟨e3,?_,h3⟩
 have hr:(zFL P H (zFh c) (((H f).frzs (rid c)).contains i) (((H f).take (rid c)).contains i) (H f).nils (zEg c i)).run (zCV P H n) e=some e':=by
  have hm:=hm n (by omega)
  revert hg
  simp only [zNe]
  cases qc:(zEg c i).guard with
  | none=>intro _;simp only [zFL,qc];exact hm
  | some w =>
   obtain ⟨j,want⟩:=w
   intro hg
   simp only at hg
   cases hj:((zFh c)[j]?).bind (·.dst) with
   | none=>rw [hj] at hg;cases hg
   | some u =>
    rw [hj] at hg;simp only at hg
    cases hv:e.get u<;>rw [hv] at hg<;>try (cases hg;done)
    have hb:=eq_of_beq hg
    simp only [zFL,qc,hj,PM.run,hv,hb,if_true]
    exact hm
 rw [zR1 hi]
 simp only [zUT] at h1 ⊢
 have hs:zCK P H (zCV P H n) (((H f).frzs (rid c)).contains i) (((H f).take (rid c)).contains i) (H f).nils (zFh c) (zEg c i) e lg=some (e',lg):=by
  cases lg with
  | none=>simp only [zCK,hr,Option.map_some]
  | some l =>
   simp only [noY,Option.isNone_iff_eq_none] at hy
   simp only [zCK,hy,hr,Option.map_some]
 simp only [zA7,hs];exact h1
end
end Go.Eng
namespace Go.Eng
open Go
section
variable {P:Program} {H:zBb} {f:FuncId} {e e':Env} {i:Nat} {c:Code} {fz tk nl:Bool} {orc:zAD}
def zZg (e:Env):Operand→PV
 | .tmp t=>view t (e.get t)
 | .const v=>zEv v
 | .func f => .func f [] []
 | .global _ => .bad
theorem zPk {α β:Type} {f:β→α→β} {b:β} {l:List α} {i:Nat} (h:i<l.length):(l.take (i+1)).foldl f b=f ((l.take i).foldl f b) l[i]:=by
 rw [List.take_add_one,List.getElem?_eq_getElem h]
 simp only [Option.toList,List.foldl_append,List.foldl]
def two (o:Oper) (r:PV):PM :=
 match o.op with
 | .binOp _ _ x y _=>opd x fun _=>opd y fun _=>put o.dst r
 | .indexAddr _ x y=>opd x fun _=>opd y fun _=>put o.dst r
 | .index _ x y=>opd x fun _=>opd y fun _=>put o.dst r
 | _ => .fail
theorem zXg {a:Int} (h : -9223372036854775808≤a∧a<9223372036854775808):IntKind.i64.wrap a=a:=by
 rw [IntKind.wrap_i64];omega
end
end Go.Eng
namespace Go.Eng
open Go
section
variable [Yo] {P:Program} {H:zBb} {f:FuncId} {e e':Env} {i:Nat} {c:Code} {s:RS} {R:Env→Option Log→Prop} {fz tk nl:Bool} {orc:zAD}
def zZV (e:Env) (p q:PV) (l:List (Nat×zAR)):Prop:=∀ (orc:zAD) (k:PV→List (Nat×zAR)→PM),(zPl p k).run orc e=(k q l).run orc e
inductive SeenAll (e:Env):List Nat→List PV→List Arg→Prop where
 | nil {ms}:SeenAll e ms [] []
 | ref {ms ps as p}:Nat.beq (ms.headD 0) 1=true→SeenAll e ms.tail ps as→SeenAll e ms (p::ps) ({p:=p,byref:=true}::as)
 | one {ms ps as p q l}:Nat.beq (ms.headD 0) 1=false→zZV e p q l→SeenAll e ms.tail ps as→SeenAll e ms (p::ps) ({p:=q,shared:=l}::as)
theorem zKB {o o':zAD} (ho:∀ g a h r,o g a h=some r→o' g a h=some r):∀ {p:PM} {e e1:Env},p.run o e=some e1→p.run o' e=some e1:=by
 intro p
 induction p with
 | ok=>intro e e1 h;exact h
 | fail=>intro e e1 h;cases h
 | view s k ih=>intro e e1 h;exact ih _ h
 | get s k ih=>intro e e1 h;simp only [PM.run] at h ⊢;split at h<;>first | (cases h;done) | exact ih _ h
 | set s q k ih=>intro e e1 h;exact ih h
 | cells r pre i c n k ih=>intro e e1 h;simp only [PM.run] at h ⊢;split at h<;>first | (cases h;done) | exact ih _ _ h
 | deep r pre k ih=>intro e e1 h;simp only [PM.run] at h ⊢;split at h<;>first | (cases h;done) | exact ih _ h
 | wcells r pre i c qs k ih=>intro e e1 h;simp only [PM.run] at h ⊢;split at h<;>first | (cases h;done) | exact ih h
 | wnode r pre q k ih =>
  intro e e1 h
  simp only [PM.run] at h ⊢
  rcases zBg h with ⟨_,h⟩ | ⟨hl,h⟩
  ·cases h
  ·rw [hl];simp only [cond_false]
   split at h
   ·exact ih h
   ·cases h
 | kill r pre k ih=>intro e e1 h;exact ih h
 | frz r pre k ih=>intro e e1 h;simp only [PM.run] at h ⊢;split at h<;>first | (cases h;done) | exact ih h
 | killEx r pre k ih=>intro e e1 h;exact ih h
 | forget r k ih=>intro e e1 h;exact ih h
 | call f args hid k ih =>
  intro e e1 h
  simp only [PM.run] at h ⊢
  split at h
  ·rename_i v hO hq
   rw [ho _ _ _ _ hq];exact ih _ _ h
  ·cases h
end
end Go.Eng
namespace Go.Eng
open Go
section
variable [Yo] {P:Program} {H:zBb} {f:FuncId} {e e':Env} {i:Nat} {c:Code} {s:RS} {R:Env→Option Log→Prop} {fz tk nl:Bool} {orc:zAD}
def zSc (c:Code) (i:Nat) (s:RS) (e':Env) (t:Tok):Option RS :=
 bif noY s.lg s.e (zEg c i) then match (match (zEg c i).guard with
  | none=>some t
  | some (j,want)=>match ((zFh c)[j]?).bind (·.dst) with
   | some u=>match s.e.get u with
    | .bool b=>bif b==want then some (Tok.join {rd:=[u]} t) else none
    | _=>none
   | none=>none) with
 | some t=>(zFf s.dr i (zEg c i) t).map fun dr=>⟨dr,e',s.lg⟩
 | none=>none else none
theorem zY5 {m:Option (Env×Tok)} (hm:∃ n0,∀ n,n0≤n→(zWa P H f c i).runT (zCV P H n) s.e=m) (h:WS P H f c (i+1) (zV0 (m.bind fun r=>zSc c i s r.1 r.2)) R) (hs:(m.bind fun r=>zSc c i s r.1 r.2).isSome=true:=by kernel_rfl) (hi:Nat.blt i (zFh c).size=true:=by kernel_rfl):WS P H f c i s R:=by
 cases m with
 | none=>cases hs
 | some r =>
 obtain ⟨e',t⟩:=r
 have jD:=zMN hs
 revert h
 generalize zV0 ((some (e',t)).bind fun r=>zSc c i s r.1 r.2)=s' at jD
 intro h
 obtain ⟨n0,hm⟩:=hm
 simp only [Option.bind_some,zSc] at jD
 rcases zBg jD with ⟨hy,jD⟩ | ⟨_,jD⟩
 case inr=>cases jD
 split at jD
 ·rename_i t' ht
  obtain ⟨dr,hd,rfl⟩:=Option.map_eq_some_iff.1 jD
  refine zWw hi ⟨n0,fun n hn=>?_⟩ hd h hy
  revert ht
  cases hg:(zEg c i).guard with
  | none=>intro ht;simp only [Option.some.injEq] at ht;subst ht;simp only [zFL,hg];exact hm n hn
  | some w =>
   obtain ⟨j,want⟩:=w
   intro ht
   simp only at ht
   cases hj:((zFh c)[j]?).bind (·.dst) with
   | none=>rw [hj] at ht;cases ht
   | some u =>
    rw [hj] at ht;simp only at ht
    cases hv:s.e.get u<;>rw [hv] at ht<;>try (cases ht;done)
    rcases zBg ht with ⟨hb,ht⟩ | ⟨_,ht⟩
    ·have hb:=eq_of_beq hb
     simp only [Option.some.injEq] at ht;subst ht
     simp only [zFL,hg,hj,PM.runT,hv,hb,if_true]
     rw [hm n hn];rfl
    ·cases ht
 ·cases jD
theorem zVD {x:Operand} {p:PV} {k:PV→PM} (hx:zZg e x=p) (hp:p ≠ .bad):(opd x k).run orc e=(k p).run orc e:=by
 subst hx
 cases x with
 | tmp t=>rfl
 | const v=>rfl
 | func g=>rfl
 | global g=>exact (hp rfl).elim
theorem zNB {v:PV} (hh:v.heavy=false):v.cells.all (fun q => !q.heavy)=true:=by
 cases v<;>simp only [PV.cells,List.all_cons,List.all_nil,Bool.and_true,hh,Bool.not_false]
 rename_i cs
 simp only [PV.heavy] at hh
 refine List.all_eq_true.2 fun q hq=>?_
 obtain ⟨i,hi⟩:=List.getElem?_of_mem hq
 rw [zEj hh hi];rfl
theorem zL9:∀ {ps:List PV},ps.all (fun q=>q.ways.isEmpty)=true→zBw ps=[]
 | [],_=>rfl
 | p::ps,h=>by
  simp only [List.all_cons,Bool.and_eq_true,List.isEmpty_iff] at h
  simp only [zBw,h.1,List.nil_append,zL9 h.2]
end
end Go.Eng
namespace Go.Eng
open Go
section
variable [Yo] {P:Program} {H:zBb} {f:FuncId} {e e':Env} {i:Nat} {c:Code} {s:RS} {R:Env→Option Log→Prop} {fz tk nl:Bool} {orc:zAD}
theorem zKG {x:Option Env} (h:x.isSome=true):x=some (zNy x):=by cases x<;>first | rfl | cases h
theorem zTi {α:Type} {xs ys:List α} {y:α} {j:Nat} (h:j+(ys.length+1)≤xs.length):(xs.set j y).take (j+1)++ys++(xs.set j y).drop (j+1+ys.length)=xs.take j++(y::ys)++xs.drop (j+(ys.length+1)):=by
 obtain ⟨A, x, B, rfl, rfl⟩ : ∃ A x B, xs = A ++ x :: B ∧ A.length = j := ⟨xs.take j, xs[j]'(by omega), xs.drop (j + 1), by rw [← List.drop_eq_getElem_cons (by omega), List.take_append_drop], by simp; omega⟩
 have h1:(A++x::B).set A.length y=A++y::B:=by simp
 have h2:(A++y::B).take (A.length+1)=A++[y]:=by rw [List.take_append,List.take_of_length_le (by omega)];simp
 have h3:(A++y::B).drop (A.length+1+ys.length)=B.drop ys.length:=by
  rw [List.drop_append,List.drop_eq_nil_of_le (by omega)]
  simp [show A.length+1+ys.length-A.length=ys.length+1 by omega]
 have h4:(A++x::B).drop (A.length+(ys.length+1))=B.drop ys.length:=by
  rw [List.drop_append,List.drop_eq_nil_of_le (by omega)]
  simp
 have h5:(A++x::B).take A.length=A:=by simp
 rw [h1,h2,h3,h4,h5];simp
end
end Go.Eng
namespace Go.Eng
open Go
def Srt (e:Env):Prop:=e.Pairwise (fun a b=>a.1<b.1)∧∀ x∈e,x.2 ≠ .bad
theorem zL3:∀ {e:Env} {k:Nat},(∀ x∈e,k<x.1)→e.get k = .bad
 | [],_,_=>rfl
 | (k',v)::e,k,h=>by
  have h1:k<k':=h (k',v) (by simp)
  have:Nat.beq k' k=false:=by
   cases hb:Nat.beq k' k with
   | false=>rfl
   | true=>have:=Nat.eq_of_beq_eq_true hb;omega
  simp only [Env.get,this,cond_false]
  exact zL3 fun x hx=>h x (by simp [hx])
theorem Srt.eq:∀ {e e':Env},Srt e→Srt e'→(∀ s,e.get s=e'.get s)→e=e'
 | [],[],_,_,_=>rfl
 | [],(k,v)::e',_,h2,h=>by
  have:=h k
  simp only [Env.get,Nat.beq_refl,cond_true] at this
  exact (h2.2 (k,v) (by simp) this.symm).elim
 | (k,v)::e,[],h1,_,h=>by
  have:=h k
  simp only [Env.get,Nat.beq_refl,cond_true] at this
  exact (h1.2 (k,v) (by simp) this).elim
 | (k, v)::e,(k',v')::e',h1,h2,h=>by
  obtain ⟨p1,q1⟩:=h1
  obtain ⟨p2,q2⟩:=h2
  obtain ⟨a1,b1⟩:=List.pairwise_cons.1 p1
  obtain ⟨a2,b2⟩:=List.pairwise_cons.1 p2
  have hk:k=k':=by
   rcases Nat.lt_trichotomy k k' with yG | u6 | yG
   ·have:=h k
    rw [zL3 (e:=(k',v')::e') (k:=k) (fun x hx=>by
     rcases List.mem_cons.1 hx with rfl | hx
     ·exact yG
     ·exact Nat.lt_trans yG (a2 x hx))] at this
    simp only [Env.get,Nat.beq_refl,cond_true] at this
    exact (q1 (k,v) (by simp) this).elim
   ·exact u6
   ·have:=h k'
    rw [zL3 (e:=(k,v)::e) (k:=k') (fun x hx=>by
     rcases List.mem_cons.1 hx with rfl | hx
     ·exact yG
     ·exact Nat.lt_trans yG (a1 x hx))] at this
    simp only [Env.get,Nat.beq_refl,cond_true] at this
    exact (q2 (k',v') (by simp) this.symm).elim
  subst hk
  have hv:=h k
  simp only [Env.get,Nat.beq_refl,cond_true] at hv
  subst hv
  congr 1
  refine Srt.eq ⟨b1,fun x hx=>q1 x (by simp [hx])⟩ ⟨b2,fun x hx=>q2 x (by simp [hx])⟩ fun s=>?_
  have hs:=h s
  simp only [Env.get] at hs
  cases hb:Nat.beq k s with
  | false=>rw [hb] at hs;exact hs
  | true =>
   have:=Nat.eq_of_beq_eq_true hb;subst this
   rw [zL3 a1,zL3 a2]
theorem zKZ:∀ {e:Env} {k:Nat} {v:PV} {x:Nat×PV},x∈e.set k v→x=(k,v)∨x∈e
 | [],k,v,x,h=>by simp only [Env.set,List.mem_singleton] at h;exact .inl h
 | (k',v')::e,k,v,x,h=>by
  simp only [Env.set] at h
  cases hb:Nat.beq k' k with
  | true=>rw [hb] at h;simp only [cond_true,List.mem_cons] at h;rcases h with h | h<;>simp [h]
  | false =>
   rw [hb] at h;simp only [cond_false] at h
   cases hl:Nat.ble k k' with
   | true=>rw [hl] at h;simp only [cond_true,List.mem_cons] at h;rcases h with h | h | h<;>simp [h]
   | false =>
    rw [hl] at h;simp only [cond_false,List.mem_cons] at h
    rcases h with h | h
    ·simp [h]
    ·rcases zKZ h with h | h<;>simp [h]
theorem Srt.set:∀ {e:Env} {k:Nat} {v:PV},Srt e→v ≠ .bad→Srt (e.set k v)
 | [],k,v,_,hv=>⟨by simp [Env.set],by simp [Env.set,hv]⟩
 | (k',v')::e,k,v,h,hv=>by
  obtain ⟨p,q⟩:=h
  obtain ⟨a,b⟩:=List.pairwise_cons.1 p
  refine ⟨?_,fun x hx=>by
   rcases zKZ hx with rfl | hx
   ·exact hv
   ·exact q x hx⟩
  simp only [Env.set]
  cases hb:Nat.beq k' k with
  | true =>
   have:=Nat.eq_of_beq_eq_true hb;subst this
   exact List.pairwise_cons.2 ⟨a,b⟩
  | false =>
   have hI:k'≠k:=by intro h;subst h;rw [Nat.beq_refl] at hb;cases hb
   cases hl:Nat.ble k k' with
   | true =>
    have:=Nat.le_of_ble_eq_true hl
    exact List.pairwise_cons.2 ⟨fun x hx=>by
     rcases List.mem_cons.1 hx with rfl | hx
     ·show k<k';omega
     ·have:k'<x.1:=a x hx
      show k<x.1;omega,p⟩
   | false =>
    have yG:k'<k:=by
     have:¬ k≤k':=fun hh=>by rw [← Nat.ble_eq] at hh;rw [hh] at hl;cases hl
     omega
    refine List.pairwise_cons.2 ⟨fun x hx=>?_,(Srt.set ⟨b,fun x hx=>q x (by simp [hx])⟩ hv).1⟩
    rcases zKZ hx with rfl | hx
    ·exact yG
    ·exact a x hx
theorem Srt.norm:∀ (e:Env),Srt e.norm
 | []=>⟨by simp [Env.norm],by simp [Env.norm]⟩
 | (k,v)::e=>by
  have ih:=Srt.norm e
  simp only [Env.norm,Env.put]
  split
  ·exact ⟨ih.1.filter _,fun x hx=>ih.2 x (List.mem_filter.1 hx).1⟩
  ·rename_i hv;exact ih.set (fun h=>hv h)
theorem zVt {e e':Env} (h:∀ s,e.get s=e'.get s):e.norm=e'.norm:=(Srt.norm e).eq (Srt.norm e') fun s=>by rw [zIc,zIc];exact h s
section
variable [Yo] {P:Program} {H:zBb} {f:FuncId} {i:Nat} {c:Code} {R:Env→Option Log→Prop}
theorem zFl {o:zAD} {fzs tks:List Nat} {nl:Bool} {ops:Array Oper}:∀ {l:List Oper} {i:Nat} {e g:Env} {r:Env×Option Log},g.get=e.get→zA7 P H o fzs tks nl ops l i e none=some r→∃ g1,zA7 P H o fzs tks nl ops l i g none=some (g1,r.2)∧g1.get=r.1.get
 | [],_,e,g,r,he,h=>by simp only [zA7,Option.some.injEq] at h;subst h;exact ⟨g,rfl,he⟩
 | x :: l,i,e,g,r,he,h=>by
  simp only [zA7,zCK] at h ⊢
  cases hs:(zFL P H ops (fzs.contains i) (tks.contains i) nl x).run o e with
  | none=>rw [hs] at h;cases h
  | some e1 =>
   rw [hs] at h
   obtain ⟨g1,h1,h2⟩:=zG7 he hs
   rw [h1]
   exact zFl h2 h
theorem zW3 {e e':Env} (h:WS P H f c i ⟨none,e',none⟩ R) (he:∀ s,e.get s=e'.get s):WS P H f c i ⟨none,e,none⟩ R:=by
 obtain ⟨n0,eN,lg',h1,h2⟩:=h
 refine ⟨n0,eN,lg',fun n hn=>?_,h2⟩
 obtain ⟨e1,h3,h4⟩:=h1 n hn
 simp only [zUT] at h3
 obtain ⟨g1,h5,h6⟩:=zFl (funext he) h3
 refine ⟨g1,h5,?_⟩
 rw [← h4]
 refine zVt fun s=>?_
 rw [Env.get_drop,Env.get_drop,h6]
def zZk (s:Nat) (x y:PV):Prop:=y.plain=true∧y.cells.length=s∧y.heavy=false∧y.cells.all (fun q=>q.ways.isEmpty)=true∧y.cells.length≤x.cells.length∧zAw x 0 y.cells=y
end
end Go.Eng
namespace Go.Eng
open Go
def Le (o o':zAD):Prop:=∀ g a h r,o g a h=some r→o' g a h=some r
theorem zQA {o0 o:zAD} (ho:Le o0 o):∀ {p:PM} {e:Env} {r:Env×Tok},p.runT o0 e=some r→p.runT o e=some r:=by
 intro p
 induction p with
 | ok=>intro e e1 h;exact h
 | fail=>intro e e1 h;cases h
 | view s k ih=>intro e e1 h;exact zAo h fun a h=>ih _ h
 | get s k ih=>intro e e1 h;simp only [PM.runT] at h ⊢;split at h<;>first | (cases h;done) | exact zAo h fun a h=>ih _ h
 | set s q k ih=>intro e e1 h;exact zAo h fun a h=>ih h
 | cells r pre i c n k ih=>intro e e1 h;simp only [PM.runT] at h ⊢;split at h<;>first | (cases h;done) | exact zAo h fun a h=>ih _ _ h
 | deep r pre k ih=>intro e e1 h;simp only [PM.runT] at h ⊢;split at h<;>first | (cases h;done) | exact zAo h fun a h=>ih _ h
 | wcells r pre i c qs k ih=>intro e e1 h;simp only [PM.runT] at h ⊢;split at h<;>first | (cases h;done) | exact zAo h fun a h=>ih h
 | wnode r pre q k ih =>
  intro e e1 h
  simp only [PM.runT] at h ⊢
  rcases zBg h with ⟨_,h⟩ | ⟨hl,h⟩
  ·cases h
  ·rw [hl];simp only [cond_false]
   split at h
   ·exact zAo h fun a h=>ih h
   ·cases h
 | kill r pre k ih=>intro e e1 h;exact zAo h fun a h=>ih h
 | frz r pre k ih=>intro e e1 h;simp only [PM.runT] at h ⊢;split at h<;>first | (cases h;done) | exact zAo h fun a h=>ih h
 | killEx r pre k ih=>intro e e1 h;exact zAo h fun a h=>ih h
 | forget r k ih=>intro e e1 h;exact zAo h fun a h=>ih h
 | call f args hid k ih =>
  intro e e1 h
  simp only [PM.runT] at h ⊢
  split at h
  ·rename_i v hO hq
   rw [ho _ _ _ _ hq];exact ih _ _ h
  ·cases h
section
variable [Yo] {P:Program} {H:zBb} {o0 o:zAD} (ho:Le o0 o) {fz tk nl:Bool} {fzs tks:List Nat} {ops:Array Oper} {nt:Nat} {hh:FHint} {yo0 yo:zCL} {al:All}
include ho in
theorem zIQ {x:Oper} {h0:Nat} {args:List PV} {l:Log} {e:Env} {r:Env×Option Log} (h:zBQ o0 ops x h0 args l e=some r):zBQ o ops x h0 args l e=some r:=by
 simp only [zBQ] at h ⊢
 split at h
 ·rcases zBg h with ⟨hc,h⟩ | ⟨_,h⟩
  ·rw [hc];simp only [cond_true]
   refine zAo h fun a h=>?_
   rcases zBg h with ⟨hk,h⟩ | ⟨hk,h⟩<;>rw [hk]
   ·exact zKB ho h
   ·exact zKB ho h
  ·cases h
 ·exact zAo h fun a h=>zKB ho h
 ·cases h
include ho in
theorem zS1 {x:Oper} {e:Env} {lg:Option Log} {r:Env×Option Log} (h:zCK P H o0 fz tk nl ops x e lg=some r):zCK P H o fz tk nl ops x e lg=some r:=by
 simp only [zCK] at h ⊢
 split at h
 ·exact zAo h fun a h=>zKB ho h
 ·split at h
  ·exact zIQ ho h
  ·exact zAo h fun a h=>zKB ho h
include ho in
theorem zSN {x:Oper} {e:Env} {lg:Option Log} {r:Env×Option Log×Tok} (h:zEh P H o0 fz tk nl ops x e lg=some r):zEh P H o fz tk nl ops x e lg=some r:=by
 simp only [zEh] at h ⊢
 split at h
 ·exact zAo h fun a h=>zQA ho h
 ·split at h
  ·exact zAo h fun a h=>zIQ ho h
  ·exact zAo h fun a h=>zQA ho h
include ho in
theorem zH2:∀ {l:List Oper} {i:Nat} {e:Env} {lg:Option Log} {r:Env×Option Log},zA7 P H o0 fzs tks nl ops l i e lg=some r→zA7 P H o fzs tks nl ops l i e lg=some r
 | [],_,_,_,_,h=>h
 | x::l,i,e,lg,r,h=>by
  simp only [zA7] at h ⊢
  cases hs:zCK P H o0 (fzs.contains i) (tks.contains i) nl ops x e lg with
  | none=>rw [hs] at h;cases h
  | some q=>rw [hs] at h;rw [zS1 ho hs];exact zH2 h
include ho in
theorem zKp:∀ {l:List Oper} {i:Nat} {acc:List Nat} {ts:List Tok} {e:Env} {lg:Option Log} {r:Env×Option Log},zCm P H o0 fzs tks nl ops l i acc ts e lg=some r→zCm P H o fzs tks nl ops l i acc ts e lg=some r
 | [],_,_,_,_,_,_,h=>h
 | x :: l,i,acc,ts,e,lg,r,h=>by
  simp only [zCm] at h ⊢
  cases hs:zEh P H o0 (fzs.contains i) (tks.contains i) nl ops x e lg with
  | none=>rw [hs] at h;cases h
  | some q =>
   rw [hs] at h;rw [zSN ho hs]
   simp only at h ⊢
   rcases zBg h with ⟨hc,h⟩ | ⟨_,h⟩
   ·rw [hc];exact zKp h
   ·cases h
include ho in
theorem zRF:∀ {m:Nat} {c:Code} {e:Env} {lg:Option Log} {r:X×Env×Option Log},exec P H o0 yo0 zGY nt hh m c e lg=some r→∀ {m':Nat},m≤m'→exec P H o yo al nt hh m' c e lg=some r
 | 0,_,_,_,_,h,_,_=>by cases h
 | m + 1,c,e,lg,r,h,m',hm=>by
  obtain ⟨m',rfl⟩:∃ k,m'=k+1:=⟨m'-1,by omega⟩
  have ih:∀ {c:Code} {e:Env} {lg:Option Log} {r:X×Env×Option Log},exec P H o0 yo0 zGY nt hh m c e lg=some r→exec P H o yo al nt hh m' c e lg=some r:=fun h=>zRF h (by omega)
  cases c with
  | region id ops draw =>
   simp only [exec] at h ⊢
   split at h
   ·rename_i e1 lg1 h1
    have:(if draw=true then zCm P H o (hh.frzs id) (hh.take id) hh.nils ops ops.toList 0 [] [] e lg else zA7 P H o (hh.frzs id) (hh.take id) hh.nils ops ops.toList 0 e lg)=some (e1,lg1):=by
     cases draw with
     | true=>exact zKp ho h1
     | false=>exact zH2 ho h1
    rw [this];exact h
   ·cases h
  | seq a b =>
   simp only [exec] at h ⊢
   cases h1:exec P H o0 yo0 zGY nt hh m a e lg with
   | none=>rw [h1] at h;cases h
   | some q =>
    rw [h1] at h;rw [ih h1]
    obtain ⟨x,e1,lg1⟩:=q
    cases x with
    | norm=>exact ih h
    | ex id=>exact h
    | ret=>exact h
  | cond c a b =>
   cases c with
   | tmp t =>
    simp only [exec] at h ⊢
    revert h
    cases e.get t with
    | bool v=>intro h;cases v<;>exact ih h
    | _=>intro h;cases h
   | const v =>
    simp only [exec] at h ⊢
    revert h
    cases v with
    | bool v=>intro h;cases v<;>exact ih h
    | _=>intro h;cases h
   | _=>cases h
  | block id b =>
   simp only [exec] at h ⊢
   cases h1:exec P H o0 yo0 zGY nt hh m b e lg with
   | none=>rw [h1] at h;cases h
   | some q =>
    rw [h1] at h;rw [ih h1];exact h
  | loop b =>
   simp only [exec] at h ⊢
   cases h1:exec P H o0 yo0 zGY nt hh m b (e.drop (hh.loopDrop (zAQ b))) lg with
   | none=>rw [h1] at h;cases h
   | some q =>
    rw [h1] at h;rw [ih h1]
    obtain ⟨x,e1,lg1⟩:=q
    cases x with
    | norm=>exact ih h
    | ex id=>exact h
    | ret=>exact h
  | scope b=>exact ih h
  | rangeFunc x ps ca cb =>
   cases x with
   | tmp t =>
    simp only [exec] at h
    cases lg with
    | none =>
     simp only at h
     obtain ⟨q,h1,_⟩:=Option.map_eq_some_iff.1 h
     simp only [zGN] at h1
     split at h1
     ·cases h1
     ·cases h1
    | some _=>cases h
   | _=>cases h
  | skip=>exact h
  | exit id=>exact h
  | ret=>exact h
  | label l=>exact h
  | _=>cases h
end
section
variable [Yo] {P:Program} {H:zBb}
theorem zTN {o0 o:zAD} (ho:Le o0 o) {yo0 yo:zCL} {al:All} {n n':Nat} (hn:n≤n') {f:FuncId} {args hid:List PV} {r:PV×List PV} (h:zHG P H o0 yo0 zGY n f args hid=some r):zHG P H o yo al n' f args hid=some r:=by
 simp only [zHG] at h ⊢
 cases hf:P.funcs[f]? with
 | none=>rw [hf] at h;cases h
 | some fn =>
  rw [hf] at h
  simp only at h ⊢
  by_cases hi:(H f).intr≠0
  ·rw [if_pos hi] at h ⊢;exact h
  ·rw [if_neg hi] at h ⊢
   cases hb:fn.body with
   | none=>rw [hb] at h;cases h
   | some body =>
    rw [hb] at h
    simp only [zJl] at h ⊢
    rcases zBg h with ⟨hc,h⟩ | ⟨_,h⟩
    ·rw [hc];simp only [cond_true]
     cases hx:exec P H o0 yo0 zGY fn.ntmps (H f) n body (zA5 args hid) none with
     | none=>rw [hx] at h;cases h
     | some q =>
      rw [hx] at h;rw [zRF ho hx hn]
      obtain ⟨x,e1,lg⟩:=q
      cases x<;>cases lg<;>simp only at h ⊢ <;> try (cases h;done)
      all_goals
       cases hr:(zCG P (H f).frz 0 fn.results.toList).run o0 e1 with
       | none=>rw [hr] at h;cases h
       | some e2=>rw [hr] at h;rw [zKB ho hr];exact h
    ·cases h
abbrev zW4 (P:Program) (H:zBb) (n:Nat):zAD:=(zRI P H zGY n).1
theorem zOd:∀ (n n':Nat),n≤n'→Le (zW4 P H n) (zCV P H n')
 | 0,_,_=>fun g a h r hh=>by cases hh
 | n+1,n',hn=>by
  obtain ⟨k,rfl⟩:∃ k,n'=k+1:=⟨n'-1,by omega⟩
  intro g a h r hh
  exact zTN (zOd n k (by omega)) (by omega) hh
theorem zBD.closed {f:FuncId} {args hid hO:List PV} {v:PV} (n:Nat) (h:zW4 P H n f args hid=some (v,hO):=by kernel_rfl):zBD P H f args hid v hO:=⟨n,fun n' hn=>zOd n n' hn _ _ _ _ h⟩
end
end Go.Eng
namespace Go.Eng
open Go
section
variable {P:Program} {H:zBb}
theorem zSp (zE1:P.follows .mixedOrders=true) (hnm:zEJ P) (zMd:Fit P H) (hin:zEM P H) {f:FuncId} {args:List PV} (hg:@zBD (yo1 P H) P H f args [] (.bool true) []) {w:World} {Φ:Nat→Prop} {vs:Array Value} (hΦ:∀ b,Φ b→b<w.heap.size) (hr:zAX w Φ zCb args vs.toList []) (uT:args.length≤zAm) :
  Calls P f vs w fun e w'=>e = .returned (.bool true)∧w.heap.size≤w'.heap.size∧(∀ b,b<w.heap.size→w'.heap[b]? = w.heap[b]?)∧w'.os=w.os∧w'.tape=w.tape∧w'.output=w.output:=by
 have w5:zAb=1000000000:=rfl
 have hhh:zAm=50000000:=rfl
 obtain ⟨n0,hg⟩:=hg
 obtain ⟨_,hm⟩:=@zE3 P H (yo1 P H) zE1 hnm zMd hin (zPu zE1 hnm zMd hin) n0 f args [] (.bool true) [] (hg n0 (Nat.le_refl _))
 obtain ⟨hZ,kD⟩:=zLk hr
 have hvz:vs.size=args.length:=by rw [← hZ];simp
 have p2:Conf w (fun b=>∃ s,b∈((fun _=>[]):Nat→List Nat) s) Φ w Φ (fun s=>(vs[s]?).getD undef) (fun s=>(zA5 args []).get s) (fun _=>[]):=by
  refine ⟨fun s=>?_,fun _=>List.nodup_nil,fun _ _ _ _ h=>(by cases h),fun _ _ h=>(by cases h),fun b hb=>⟨hΦ b hb,.inl hb⟩,fun _ h=>h,Nat.le_refl _,fun _ _ _=>rfl,rfl,rfl,rfl⟩
  show Rep _ _ _ ((zA5 args []).get s) _ _
  rw [zDg (by omega)]
  by_cases h1:s<args.length
  ·rw [if_pos h1]
   obtain ⟨v,uI,ka⟩:=kD s args[s] (List.getElem?_eq_getElem h1)
   have:vs[s]? = some v:=by rw [← Array.getElem?_toList];exact uI
   rw [this]
   simp only [List.getD,List.getElem?_eq_getElem h1,Option.getD_some]
   exact ka.mono (fun b hb=>⟨hb,rfl⟩) (fun _ _ _ h=>h.elim) (by simp)
  ·rw [if_neg h1,if_neg (by simp only [List.length_nil];omega)]
   rfl
 have hc:=hm w Φ (fun s=>(vs[s]?).getD undef) (fun s=>(zA5 args []).get s) (fun _=>[]) vs (fun _ _=>rfl) (fun s hs=>by
   rw [zDg (by omega),if_neg (by omega),if_neg (by simp only [List.length_nil];omega)]) p2 hvz (fun j hj=>by rw [Array.getElem?_eq_getElem (by omega)];rfl) (fun s hs _=>by rw [Array.getElem?_eq_none (by omega)];rfl)
 refine hc.mono fun e w' ⟨u,Φ',rv',E',L',he,C,_,_,uq⟩=>?_
 obtain ⟨h1,h2⟩:=uq.one (fun ps h=>by cases h)
 have hX:=C.rep zAv
 rw [h1] at hX
 have hu:u = .bool true:=by rw [← h2];exact hX.1
 refine ⟨by rw [he,hu],C.size,fun b hb=>C.kept b hb (fun ⟨s,hs⟩=>by cases hs),C.os,C.tape,C.output⟩
end
end Go.Eng
namespace Go.Eng
open Go
section
variable [Yo] {P:Program} {H:zBb} {f:FuncId} {nt:Nat} {e e':Env} {lg:Option Log} {K:X→Env→Option Log→Prop} {i:Nat} {c:Code} {s:RS} {R:Env→Option Log→Prop} {fz tk nl:Bool} {orc:zAD}
theorem zDo (p:Prop) [Decidable p] (h1:p→W P H f nt (cl c) e lg K) (h2:¬p→W P H f nt (cr c) e lg K) (hc:zEu c e=some (decide p):=by kernel_rfl):W P H f nt c e lg K :=
 zFe (decide p) (fun h=>h1 (of_decide_eq_true h)) (fun h=>h2 (of_decide_eq_false h)) hc
theorem zA8 (p:Prop) [Decidable p] (hp:p) (h1:W P H f nt (cl c) e lg K) (hc:zEu c e=some (decide p):=by kernel_rfl):W P H f nt c e lg K :=
 zFe (decide p) (fun _=>h1) (fun h=>absurd hp (of_decide_eq_false h)) hc
theorem zBk (p:Prop) [Decidable p] (hp:¬p) (h2:W P H f nt (cr c) e lg K) (hc:zEu c e=some (decide p):=by kernel_rfl):W P H f nt c e lg K :=
 zFe (decide p) (fun h=>absurd (of_decide_eq_true h) hp) (fun _=>h2) hc
theorem zDT (p:Prop) [Decidable p] (h1:¬p→W P H f nt (cl c) e lg K) (h2:p→W P H f nt (cr c) e lg K) (hc:zEu c e=some (!decide p):=by kernel_rfl):W P H f nt c e lg K :=
 zFe (!decide p) (fun h=>h1 (by simpa using h)) (fun h=>h2 (by simpa using h)) hc
theorem zIK (p:Prop) [Decidable p] (hp:¬p) (h1:W P H f nt (cl c) e lg K) (hc:zEu c e=some (!decide p):=by kernel_rfl):W P H f nt c e lg K :=
 zDT p (fun _=>h1) (fun h=>absurd h hp) hc
theorem zGE (p:Prop) [Decidable p] (hp:p) (h1:W P H f nt (cr c) e lg K) (hc:zEu c e=some (!decide p):=by kernel_rfl):W P H f nt c e lg K :=
 zDT p (fun h=>absurd hp h) (fun _=>h1) hc
theorem zGi (t:Nat) (b:Bool) (h1:b=true→WS P H f c i ⟨s.dr,s.e.set t (.bool true),s.lg⟩ R) (h2:b=false→WS P H f c i ⟨s.dr,s.e.set t (.bool false),s.lg⟩ R) (hb:s.e.set t (.bool b)=s.e:=by kernel_rfl):WS P H f c i s R:=by
 obtain ⟨dr,e,lg⟩:=s
 simp only at h1 h2 hb
 rw [← hb]
 cases b with
 | true=>exact h1 rfl
 | false=>exact h2 rfl
theorem zLY (t:Nat) (p:Prop) [Decidable p] (h1:p→WS P H f c i ⟨s.dr,s.e.set t (.bool true),s.lg⟩ R) (h2:¬p→WS P H f c i ⟨s.dr,s.e.set t (.bool false),s.lg⟩ R) (hb:s.e.set t (.bool (decide p))=s.e:=by kernel_rfl):WS P H f c i s R :=
 zGi t (decide p) (fun h=>h1 (of_decide_eq_true h)) (fun h=>h2 (of_decide_eq_false h)) hb
theorem zRp (t:Nat) (p:Prop) [Decidable p] (hp:p) (h1:WS P H f c i ⟨s.dr,s.e.set t (.bool true),s.lg⟩ R) (hb:s.e.set t (.bool (decide p))=s.e:=by kernel_rfl):WS P H f c i s R :=
 zLY t p (fun _=>h1) (fun h=>absurd hp h) hb
theorem zJf (t:Nat) (p:Prop) [Decidable p] (hp:¬p) (h1:WS P H f c i ⟨s.dr,s.e.set t (.bool false),s.lg⟩ R) (hb:s.e.set t (.bool (decide p))=s.e:=by kernel_rfl):WS P H f c i s R :=
 zLY t p (fun h=>absurd h hp) (fun _=>h1) hb
theorem zWV (t:Nat) (p:Prop) [Decidable p] (h1:¬p→WS P H f c i ⟨s.dr,s.e.set t (.bool true),s.lg⟩ R) (h2:p→WS P H f c i ⟨s.dr,s.e.set t (.bool false),s.lg⟩ R) (hb:s.e.set t (.bool (!decide p))=s.e:=by kernel_rfl):WS P H f c i s R :=
 zGi t (!decide p) (fun h=>h1 (by simpa using h)) (fun h=>h2 (by simpa using h)) hb
theorem get_map {α β:Type} {g:α→β} {l:List α} {i:Nat} {d:α} (h:i<l.length):(l.map g)[i]? = some (g (l.getD i d)):=by
 simp [List.getD,List.getElem?_eq_getElem h]
def zX5 (e:Env) (p q:PV) (l:List (Nat×zAR)) (t:Tok):Prop:=∀ (orc:zAD) (k:PV→List (Nat×zAR)→PM),(zPl p k).runT orc e=((k q l).runT orc e).map fun y=>(y.1,Tok.join t y.2)
inductive SeenAllT (e:Env):List Nat→List PV→List Arg→List Tok→Prop where
 | nil {ms}:SeenAllT e ms [] [] []
 | ref {ms ps as ts p}:SeenAllT e ms.tail ps as ts→(hb:Nat.beq (ms.headD 0) 1=true:=by kernel_rfl)→SeenAllT e ms (p::ps) ({p:=p,byref:=true}::as) ts
 | one {ms ps as ts p q l t}:zX5 e p q l t→SeenAllT e ms.tail ps as ts→(hb:Nat.beq (ms.headD 0) 1=false:=by kernel_rfl)→SeenAllT e ms (p::ps) ({p:=q,shared:=l}::as) (t::ts)
def zLM:List (Nat×PV)→Env→Env
 | [],e=>e
 | (k,v)::l,e=>zLM l (e.set k v)
theorem zAA {σ:Type} {c:Code} (Inv:σ→Prop) (upd:σ→List (Nat×PV)) (μ:σ→Nat) (s:σ) (hi:Inv s) (h:∀ s,Inv s→W P H f nt (cl c) (zLM (upd s) (e.drop ((H f).loopDrop (zAQ (cl c))))) lg fun x e' lg'=>match x with
   | .norm=>∃ s',Inv s'∧μ s'<μ s∧e'.drop ((H f).loopDrop (zAQ (cl c)))=zLM (upd s') (e.drop ((H f).loopDrop (zAQ (cl c))))∧lg'=lg
   | x=>K x e' lg') (hs:e.drop ((H f).loopDrop (zAQ (cl c)))=zLM (upd s) (e.drop ((H f).loopDrop (zAQ (cl c)))):=by kernel_rfl) (hc:zO6 c=true:=by kernel_rfl):W P H f nt c e lg K :=
 zW5 Inv (fun s=>zLM (upd s) (e.drop ((H f).loopDrop (zAQ (cl c))))) μ s hi h hs hc
end
end Go.Eng
namespace Go.Eng
open Go
theorem zJI {x:Nat→Option (List (List PV))} {r:List (List PV)} (h:∀ i,x i=some r):zB5 x=some r:=by
 have h':∃ r,∀ i,x i=some r:=⟨r,h⟩
 simp only [zB5,dif_pos h']
 have:=(Classical.choose_spec h') 0
 rw [h 0] at this
 exact this.symm
section
def zTs [Yo] (g:FuncId) (first caps:List PV) (k:Int) (xs:List (List PV)):Prop:=∀ i,Yo.yo g first i caps k=some xs
def zFS [Yo] (g:FuncId) (first caps:List PV) (xs:List (List PV)):Prop:=zTs g first caps (-1) xs∧∀ j:Nat,1≤j→j≤xs.length→zTs g first caps j (xs.take j)
variable [Yo] (P:Program) (H:zBb)
def zKQ (f:FuncId) (nt:Nat) (ps:List Tmp) (assign body:Code) (x:List PV) (e:Env) (K:X→Env→Prop):Prop :=
 ∃ e1,zCp ps x e=some e1∧W P H f nt assign e1 none fun y e2 lg=>y = .norm∧lg=none∧W P H f nt body e2 none fun y e3 lg=>lg=none∧K y e3
def Rg (f:FuncId) (nt:Nat) (ps:List Tmp) (assign body:Code) (R ds:List Nat) (K:X→Env→Option Log→Prop):List (List PV)→Env→Prop
 | [],e=>K .norm e none
 | x :: xs,e=>zKQ P H f nt ps assign body x e fun y e3=>match y with
  | .norm=>match R with
   | []=>Rg f nt ps assign body R ds K xs (after nt [] ds e e3)
   | r::R'=>zF5 e (zCQ e (r::R'))=true∧∃ e1,zEn (zCQ e (r::R')) e=some e1∧zKQ P H f nt ps assign body x e1 fun y e3=>y = .norm∧Rg f nt ps assign body R ds K xs (after nt (zCQ e (r::R')) ds e e3)
  | y=>K y (after nt [] ds e e3) none
end
section
variable [Yo] {P:Program} {H:zBb} {f:FuncId} {nt:Nat} {e e':Env} {lg:Option Log} {K:X→Env→Option Log→Prop}
noncomputable abbrev zNt (P:Program) (H:zBb) (f:FuncId) (nt n m:Nat):Code→Env→Option (X×Env):=fun c e=>match exec P H (zCV P H n) Yo.yo zB5 nt (H f) m c e none with | some (x,e',none)=>some (x,e') | _=>none
def zOQ (run:Code→Env→Option (X×Env)) (ps:List Tmp) (assign body:Code) (x:List PV) (e:Env):Option (X×Env):=match zCp ps x e with
 | some e1=>match run assign e1 with
  | some (.norm,e2)=>run body e2
  | _=>none
 | none=>none
theorem zBK {run:Code→Env→Option (X×Env)} {ps:List Tmp} {assign body:Code} {R ds:List Nat} {x:List PV} {xs:List (List PV)} {j:Nat}:zC6 nt run ps assign body R ds (x::xs) e j=(match zOQ run ps assign body x e with
  | some (.norm,e3)=>match R with
   | []=>zC6 nt run ps assign body R ds xs (after nt [] ds e e3) (j+1)
   | r :: R=>match (bif zF5 e (zCQ e (r::R)) then zEn (zCQ e (r::R)) e else none) with
    | some e1=>match zOQ run ps assign body x e1 with
     | some (.norm,e3)=>zC6 nt run ps assign body (r::R) ds xs (after nt (zCQ e (r::R)) ds e e3) (j+1)
     | _=>none
    | none=>none
  | some (r,e3)=>some (some (j+1,r),after nt [] ds e e3)
  | none=>none):=by
 cases R<;>rfl
theorem zKQ.run {ps:List Tmp} {assign body:Code} {x:List PV} {K:X→Env→Prop} (h:zKQ P H f nt ps assign body x e K):∃ n0 y e3,(∀ n m,n0≤n→n0≤m→zOQ (zNt P H f nt n m) ps assign body x e=some (y,e3))∧K y e3:=by
 obtain ⟨e1,h1,n1,y,e2,lg,h2,rfl,rfl,n2,z,e3,lg,h3,rfl,h4⟩:=h
 refine ⟨max n1 n2,z,e3,fun n m hn hm=>?_,h4⟩
 simp only [zOQ,h1,zNt,h2 n m (by omega) (by omega),h3 n m (by omega) (by omega)]
theorem Rg.run {ps:List Tmp} {assign body:Code} {R ds:List Nat}:∀ {xs:List (List PV)} {e:Env},Rg P H f nt ps assign body R ds K xs e→∃ n0,
  (∃ e',(∀ n m j,n0≤n→n0≤m→zC6 nt (zNt P H f nt n m) ps assign body R ds xs e j=some (none,e'))∧K .norm e' none) ∨
  (∃ i y e',i<xs.length∧y ≠ .norm∧(∀ n m j,n0≤n→n0≤m→zC6 nt (zNt P H f nt n m) ps assign body R ds xs e j=some (some (j+i+1,y),e')) ∧
   (∀ n m j,n0≤n→n0≤m→zC6 nt (zNt P H f nt n m) ps assign body R ds (xs.take (i+1)) e j=some (some (j+i+1,y),e'))∧K y e' none)
 | [],e,h=>⟨0,.inl ⟨e,fun _ _ _ _ _=>rfl,h⟩⟩
 | x :: xs,e,h=>by
  obtain ⟨n1,y,e3,h1,h2⟩:=zKQ.run h
  cases y with
  | norm =>
   cases R with
   | nil =>
    simp only at h2
    obtain ⟨n2,h3⟩:=Rg.run h2
    refine ⟨max n1 n2,?_⟩
    rcases h3 with ⟨e',h3,h4⟩ | ⟨i,y,e',hi,hy,h3,h4,h5⟩
    ·exact .inl ⟨e',fun n m j hn hm=>by rw [zBK,h1 n m (by omega) (by omega)];exact h3 n m _ (by omega) (by omega),h4⟩
    ·refine .inr ⟨i+1,y,e',by simp;omega,hy,fun n m j hn hm=>?_,fun n m j hn hm=>?_,h5⟩
     ·rw [zBK,h1 n m (by omega) (by omega)];simp only;rw [h3 n m _ (by omega) (by omega)];simp only [Option.some.injEq,Prod.mk.injEq,and_true];omega
     ·rw [List.take_succ_cons,zBK,h1 n m (by omega) (by omega)];simp only;rw [h4 n m _ (by omega) (by omega)];simp only [Option.some.injEq,Prod.mk.injEq,and_true];omega
   | cons r R' =>
    simp only at h2
    obtain ⟨hc,e1,hf,hr⟩:=h2
    obtain ⟨n3,z,e4,h6,rfl,h7⟩:=zKQ.run hr
    obtain ⟨n2,h3⟩:=Rg.run h7
    refine ⟨max n1 (max n2 n3),?_⟩
    rcases h3 with ⟨e',h3,h4⟩ | ⟨i,y,e',hi,hy,h3,h4,h5⟩
    ·exact .inl ⟨e',fun n m j hn hm=>by rw [zBK,h1 n m (by omega) (by omega)];simp only [hc,cond_true,hf,h6 n m (by omega) (by omega)];exact h3 n m _ (by omega) (by omega),h4⟩
    ·refine .inr ⟨i+1,y,e',by simp;omega,hy,fun n m j hn hm=>?_,fun n m j hn hm=>?_,h5⟩
     ·rw [zBK,h1 n m (by omega) (by omega)];simp only [hc,cond_true,hf,h6 n m (by omega) (by omega)];rw [h3 n m _ (by omega) (by omega)];simp only [Option.some.injEq,Prod.mk.injEq,and_true];omega
     ·rw [List.take_succ_cons,zBK,h1 n m (by omega) (by omega)];simp only [hc,cond_true,hf,h6 n m (by omega) (by omega)];rw [h4 n m _ (by omega) (by omega)];simp only [Option.some.injEq,Prod.mk.injEq,and_true];omega
  | ex id =>
   refine ⟨n1,.inr ⟨0,.ex id,_,by simp,by simp,fun n m j hn hm=>?_,fun n m j hn hm=>?_,h2⟩⟩
   ·rw [zBK,h1 n m (by omega) (by omega)]
   ·rw [List.take_succ_cons,zBK,h1 n m (by omega) (by omega)]
  | ret =>
   refine ⟨n1,.inr ⟨0,.ret,_,by simp,by simp,fun n m j hn hm=>?_,fun n m j hn hm=>?_,h2⟩⟩
   ·rw [zBK,h1 n m (by omega) (by omega)]
   ·rw [List.take_succ_cons,zBK,h1 n m (by omega) (by omega)]
def rgT:Code→Option Nat
 | .rangeFunc (.tmp t) _ _ _=>some t
 | _=>none
def zWF:Code→List Tmp
 | .rangeFunc _ ps _ _=>ps.toList
 | _=>[]
def rgA:Code→Code
 | .rangeFunc _ _ a _=>a
 | c=>c
def rgB:Code→Code
 | .rangeFunc _ _ _ b=>b
 | c=>c
def zVY (c:Code):List Nat:=zWF c++zBN (rgA c)++zBN (rgB c)
theorem zUY {t:Tmp} {ps:Array Tmp} {assign body:Code} {g:FuncId} {first caps:List PV} {R:List Nat} {xs:List (List PV)} (yO:zDF e t=some (g,first,caps,R)) (hY:zFS g first caps xs)
  (h:Rg P H f nt ps.toList assign body R (ps.toList++zBN assign++zBN body) K xs e):W P H f nt (.rangeFunc (.tmp t) ps assign body) e none K:=by
 obtain ⟨hY1,hY2⟩:=hY
 obtain ⟨n2,hr⟩:=Rg.run h
 rcases hr with ⟨e',h3,h4⟩ | ⟨i,y,e',hi,hy,h3,h4,h5⟩
 ·refine ⟨n2+1,.norm,e',none,fun n m hn hm=>?_,h4⟩
  obtain ⟨m,rfl⟩:∃ k,m=k+1:=⟨m-1,by omega⟩
  show (zGN nt Yo.yo zB5 (zNt P H f nt n m) t ps.toList assign body e).map (fun x=>(x.1,x.2,none))=_
  simp only [zGN,yO,zJI (fun i=>hY1 i),h3 n m 0 (by omega) (by omega),Option.map_some]
 ·have hY2:=hY2 (i+1) (by omega) (by omega)
  refine ⟨n2+1,y,e',none,fun n m hn hm=>?_,h5⟩
  obtain ⟨m,rfl⟩:∃ k,m=k+1:=⟨m-1,by omega⟩
  show (zGN nt Yo.yo zB5 (zNt P H f nt n m) t ps.toList assign body e).map (fun x=>(x.1,x.2,none))=_
  simp only [zGN,yO,zJI (fun i=>hY1 i),h3 n m 0 (by omega) (by omega)]
  have hcast:((0+i+1:Nat):Int)=((i+1:Nat):Int):=by omega
  rw [hcast,zJI (fun i=>hY2 i)]
  simp only [h4 n m 0 (by omega) (by omega),List.length_take]
  rw [if_pos ⟨trivial,by omega⟩]
  rfl
theorem zRs {c:Code} {t g:Nat} {first caps:List PV} {R:List Nat} {xs:List (List PV)} (hY:zFS g first caps xs) (h:Rg P H f nt (zWF c) (rgA c) (rgB c) R (zVY c) K xs e) (yO:zDF e t=some (g,first,caps,R):=by kernel_rfl) (hc:rgT c=some t:=by kernel_rfl) (hl:lg=none:=by kernel_rfl):W P H f nt c e lg K:=by
 subst hl
 cases c<;>try (cases hc;done)
 rename_i x ps a b
 cases x<;>try (cases hc;done)
 rename_i u
 simp only [rgT,Option.some.injEq] at hc;subst hc
 exact zUY yO hY h
theorem zU9 {σ:Type} {c:Code} {t g:Nat} {first caps:List PV} {xs:List (List PV)} (hY:zFS g first caps xs) (Inv:Nat→σ→Prop) (I:σ→Env) (s:σ) (hi:Inv 0 s)
  (h:∀ j x s,xs[j]? = some x→Inv j s→zKQ P H f nt (zWF c) (rgA c) (rgB c) x (I s) fun y e3=>match y with
   | .norm=>∃ s',Inv (j+1) s'∧after nt [] (zVY c) (I s) e3=I s'
   | y=>K y (after nt [] (zVY c) (I s) e3) none) (hK:∀ s,Inv xs.length s→K .norm (I s) none) (hs:e=I s:=by kernel_rfl) (yO:zDF e t=some (g,first,caps,[]):=by kernel_rfl) (hc:rgT c=some t:=by kernel_rfl) (hl:lg=none:=by kernel_rfl):W P H f nt c e lg K:=by
 refine zRs hY ?_ yO hc hl
 clear yO hY
 subst hs
 have key:∀ (ys:List (List PV)) (j:Nat) (s:σ),xs.drop j=ys→j≤xs.length→Inv j s→Rg P H f nt (zWF c) (rgA c) (rgB c) [] (zVY c) K ys (I s):=by
  intro ys
  induction ys with
  | nil =>
   intro j s hd hj hi
   have:j=xs.length:=by
    have:=congrArg List.length hd;simp at this;omega
   subst this
   exact hK s hi
  | cons x ys ih =>
   intro j s hd hj hi
   have hx:xs[j]? = some x:=by
    have:=congrArg (fun l=>l[0]?) hd
    simpa using this
   have yG:=(List.getElem?_eq_some_iff.1 hx).1
   obtain ⟨e1,h1,h2⟩:=h j x s hx hi
   refine ⟨e1,h1,zRT h2 fun y e2 lg ⟨a1,a2,a3⟩=>⟨a1,a2,zRT a3 fun y e3 lg ⟨b1,b2⟩=>⟨b1,?_⟩⟩⟩
   cases y with
   | norm =>
    obtain ⟨s',jD,he⟩:=b2
    simp only
    rw [he]
    refine ih (j+1) s' ?_ (by omega) jD
    rw [← List.drop_drop,hd];rfl
   | ex id=>exact b2
   | ret=>exact b2
 exact key xs 0 s rfl (by omega) hi
theorem zOF {ps:List Tmp} {a b:Code} {x:List PV} {K:X→Env→Prop} (h:W P H f nt a ((zCp ps x e).getD []) none fun y e2 lg=>y = .norm∧lg=none∧W P H f nt b e2 none fun y e3 lg=>lg=none∧K y e3) (hp:(zCp ps x e).isSome=true:=by kernel_rfl):zKQ P H f nt ps a b x e K:=by
 obtain ⟨e1,h1⟩:=Option.isSome_iff_exists.1 hp
 rw [h1] at h
 exact ⟨e1,h1,h⟩
omit [Yo] in
theorem zTC (fn:Func) {g:FuncId} {first caps:List PV} {k:Int} {xs:List (List PV)} (h:∀ i,@W yo0 P H g fn.ntmps (fn.body.getD .ret) (zA5 (first++PV.yld i::caps) []) (some ⟨[],k,i⟩) fun x _ lg=>(x = .norm∨x = .ret)∧lg.map (·.xs)=some xs) (hk:k≠0)
  (hf:P.funcs[g]? = some fn:=by kernel_rfl) (hb:fn.body.isSome=true:=by kernel_rfl) (hc:∀ i,(Nat.ble (first++PV.yld i::caps).length fn.ntmps&&fn.results.isEmpty&&(first++caps).all (fun p => !p.isTup))=true:=by intro i;kernel_rfl) (hin:Nat.beq (H g).intr 0=true:=by kernel_rfl):@zTs (yo1 P H) g first caps k xs:=by
 intro i
 obtain ⟨body,hb⟩:∃ body,fn.body=some body:=by cases hx:fn.body<;>first | exact ⟨_,rfl⟩ | (rw [hx] at hb;cases hb)
 have h:=h i
 simp only [hb,Option.getD_some] at h
 obtain ⟨n0,x,e1,lg1,h1,hx,hl⟩:=h
 refine zVm (n0:=n0) fun n hn=>?_
 have j7:=h1 n (n+1) (by omega) (by omega)
 cases lg1 with
 | none=>cases hl
 | some l =>
  simp only [Option.map_some,Option.some.injEq] at hl
  simp only [zTS,zWc,hf,hb]
  have wQ:(k != 0)=true:=by simpa using hk
  have hc':=hc i
  rw [hc',wQ,hin]
  simp only [Bool.and_self,cond_true,j7]
  rcases hx with rfl | rfl<;>simp [hl]
end
end Go.Eng
namespace Go.Eng
open Go
inductive PX where
 | ok | fail | emb (p:PM)
 | view (s:Nat) (k:PV→PX) | get (s:Nat) (k:PV→PX) | set (s:Nat) (p:PV) (k:PX)
 | cells (r:Nat) (pre:zAR) (i c n:Nat) (k:Bool→List PV→PX) | deep (r:Nat) (pre:zAR) (k:PV→PX)
 | wcells (r:Nat) (pre:zAR) (i c:Nat) (qs:List PV) (k:PX) | wnode (r:Nat) (pre:zAR) (q:PV) (k:PX)
 | kill (r:Nat) (pre:zAR) (k:PX) | frz (r:Nat) (pre:zAR) (k:PX) | frzp (r:Nat) (pre:zAR) (p:PV) (k:PV→PX) | killEx (r:Nat) (keep:List zAR) (k:PX)
 | call (f:FuncId) (args hid:List PV) (k:PV→List PV→PX)
 | test (b:Bool) (k:PX) | pick (x:Option PV) (k:PV→PX) | num (x:Option Nat) (k:Nat→PX) | idx (x:Option (Option Nat)) (k:Option Nat→PX)
 | choose (b:Bool) (k1 k2:PX) | same (p:PV) (k:PV→PX) | sames (ps:List PV) (k:List PV→PX)
 | nats (x:List Nat) (k:List Nat→PX) | pure (d:Option Nat) (f:FuncId) (args:List PV) (k:PX)
def PX.toPM:PX→PM
 | .ok => .ok
 | .fail => .fail
 | .emb p=>p
 | .view s k => .view s fun p=>(k p).toPM
 | .get s k => .get s fun p=>(k p).toPM
 | .set s p k => .set s p k.toPM
 | .cells r pre i c n k => .cells r pre i c n fun a qs=>(k a qs).toPM
 | .deep r pre k => .deep r pre fun q=>(k q).toPM
 | .wcells r pre i c qs k => .wcells r pre i c qs k.toPM
 | .wnode r pre q k => .wnode r pre q k.toPM
 | .kill r pre k => .kill r pre k.toPM
 | .frz r pre k => .frz r pre k.toPM
 | .frzp r pre p k => .frz r pre (k p).toPM
 | .killEx r keep k => .killEx r keep k.toPM
 | .call f args hid k => .call f args hid fun v h=>(k v h).toPM
 | .test b k=>bif b then k.toPM else .fail
 | .pick x k=>match x with
  | some v=>(k v).toPM
  | none => .fail
 | .num x k=>match x with
  | some v=>(k v).toPM
  | none => .fail
 | .idx x k=>match x with
  | some v=>(k v).toPM
  | none => .fail
 | .choose b k1 k2=>bif b then k1.toPM else k2.toPM
 | .same p k=>(k p).toPM
 | .sames ps k=>(k ps).toPM
 | .nats x k=>(k x).toPM
 | .pure _ _ _ k=>k.toPM
inductive An where
 | ob | v (p:PV) | vs (ps:List PV) | n (k:Nat) | ix (k:Option Nat) | yes | no | cs (a:Bool) (qs:List PV) | root (r:PV) (kept:Bool) | ret (v:PV) (hid:List PV) | ns (l:List Nat) | env (e:Env) | envv (e:Env) (q:PV)
abbrev Ans:=List (Nat×An)
def zGa:Ans→Option An×Ans
 | []=>(none,[])
 | (0,a)::l=>(some a,l)
 | (n+1,a)::l=>(none,(n,a)::l)
section
variable [Yo] (P:Program) (H:zBb)
def zSS (f:FuncId) (args:List PV) (v:PV):Prop:=∀ (d:Option Nat) (e:Env),∃ n0,∀ n,n0≤n→(zNJ H d f args).runT (zCV P H n) e=(put d v).runT (zCV P H n) e
abbrev XR:=Option (Env×Tok×List Prop)
def XR.tok (t:Tok) (x:XR):XR:=x.map fun y=>(y.1,Tok.join t y.2.1,y.2.2)
def XR.ob (q:Prop) (x:XR):XR:=x.map fun y=>(y.1,y.2.1,q::y.2.2)
def PX.run:PX→Ans→Env→XR
 | .ok,_,e=>some (e,{},[])
 | .fail,_,_=>none
 | .emb p,_,e=>(p.runT zHO e).map fun y=>(y.1,y.2,[])
 | .view s k,as,e=>((k (Eng.view s (e.get s))).run as e).tok {look:=[s]}
 | .get s k,as,e=>match e.get s with
  | .lock _=>none
  | p=>((k p).run as e).tok {rd:=[s]}
 | .set s p k,as,e=>(k.run as (e.set s p)).tok (zFd s (e.get s) p)
 | .cells r pre i c n k,as,e=>match zGa as with
  | (none,as)=>match zAr r (e.get r) pre i c n with
   | some (a,qs)=>((k a qs).run as e).tok {cel:=[(r,pre)]}
   | none=>none
  | (some (.cs a qs),as)=>(((k a qs).run as e).tok {cel:=[(r,pre)]}).ob (zAr r (e.get r) pre i c n=some (a,qs))
  | _=>none
 | .deep r pre k,as,e=>match zGa as with
  | (none,as)=>match zAx (e.get r).unlock pre with
   | some q=>((k q).run as e).tok {rd:=[r]}
   | none=>none
  | (some (.v q),as)=>(((k q).run as e).tok {rd:=[r]}).ob (zAx (e.get r).unlock pre=some q)
  | _=>none
 | .wcells r pre i c qs k,as,e=>match zGa as with
  | (none,as)=>match zBP (e.get r) pre i c qs with
   | some root=>(k.run as (e.set r root)).tok (zBd r [] (zAN (e.get r) root pre) (e.get r) root)
   | none=>none
  | (some (.root root kp),as)=>((k.run as (e.set r root)).tok (zBd r [] kp (e.get r) root)).ob (zBP (e.get r) pre i c qs=some root∧zAN (e.get r) root pre=kp)
  | _=>none
 | .wnode r pre q k,as,e=>match zGa as with
  | (none,as)=>bif (e.get r).isLock then none else match zAt (fun _=>some q) (e.get r) pre with
   | some root=>(k.run as (e.set r root)).tok (zBd r pre.dropLast (zAN (e.get r) root pre&&(pre.isEmpty || !q.isAgg)) (e.get r) root)
   | none=>none
  | (some (.root root kp),as)=>bif (e.get r).isLock then none else ((k.run as (e.set r root)).tok (zBd r pre.dropLast (kp&&(pre.isEmpty || !q.isAgg)) (e.get r) root)).ob (zAt (fun _=>some q) (e.get r) pre=some root∧zAN (e.get r) root pre=kp)
  | _=>none
 | .kill r pre k,as,e=>(k.run as (e.kill r pre)).tok (zAH (zDl e fun z=>zAJ r pre z.1 z.2) e.get (e.kill r pre).get [r] [])
 | .frz r pre k,as,e=>match zGa as with
  | (none,as)=>match e.frz r pre with
   | some e'=>(k.run as e').tok (zAH (r::zDl e fun z=>zAJ r pre z.1 z.2) e.get e'.get [r] [])
   | none=>none
  | (some (.env e'),as)=>((k.run as e').tok (zAH (r::zDl e fun z=>zAJ r pre z.1 z.2) e.get e'.get [r] [])).ob (e.frz r pre=some e')
  | _=>none
 | .frzp r pre p k,as,e=>match zGa as with
  | (none,as)=>match e.frz r pre with
   | some e'=>((k p).run as e').tok (zAH (r::zDl e fun z=>zAJ r pre z.1 z.2) e.get e'.get [r] [])
   | none=>none
  | (some (.env e'),as)=>(((k p).run as e').tok (zAH (r::zDl e fun z=>zAJ r pre z.1 z.2) e.get e'.get [r] [])).ob (e.frz r pre=some e')
  | (some (.envv e' q),as)=>(((k q).run as e').tok (zAH (r::zDl e fun z=>zAJ r pre z.1 z.2) e.get e'.get [r] [])).ob (e.frz r pre=some e'∧p=q)
  | _=>none
 | .killEx r keep k,as,e=>(k.run as (e.killEx r keep)).tok (zAH (zDl e fun z=>Nat.beq z.1 r && !z.2.isEmpty) e.get (e.killEx r keep).get [] [r])
 | .call f args hid k,as,e=>match zGa as with
  | (some (.ret v hO),as)=>((k v hO).run as e).ob (zBD P H f args hid v hO)
  | _=>none
 | .test b k,as,e=>match zGa as with
  | (none,as)=>bif b then k.run as e else none
  | (some .ob,as)=>(k.run as e).ob (b=true)
  | _=>none
 | .pick x k,as,e=>match zGa as with
  | (none,as)=>match x with
   | some v=>(k v).run as e
   | none=>none
  | (some (.v v),as)=>((k v).run as e).ob (x=some v)
  | _=>none
 | .num x k,as,e=>match zGa as with
  | (none,as)=>match x with
   | some v=>(k v).run as e
   | none=>none
  | (some (.n v),as)=>((k v).run as e).ob (x=some v)
  | _=>none
 | .idx x k,as,e=>match zGa as with
  | (none,as)=>match x with
   | some v=>(k v).run as e
   | none=>none
  | (some (.ix v),as)=>((k v).run as e).ob (x=some v)
  | _=>none
 | .choose b k1 k2,as,e=>match zGa as with
  | (none,as)=>bif b then k1.run as e else k2.run as e
  | (some .yes,as)=>(k1.run as e).ob (b=true)
  | (some .no,as)=>(k2.run as e).ob (b=false)
  | _=>none
 | .same p k,as,e=>match zGa as with
  | (none,as)=>(k p).run as e
  | (some (.v q),as)=>((k q).run as e).ob (p=q)
  | _=>none
 | .sames ps k,as,e=>match zGa as with
  | (none,as)=>(k ps).run as e
  | (some (.vs qs),as)=>((k qs).run as e).ob (ps=qs)
  | _=>none
 | .nats x k,as,e=>match zGa as with
  | (none,as)=>(k x).run as e
  | (some (.ns l),as)=>((k l).run as e).ob (x=l)
  | _=>none
 | .pure d f args k,as,e=>match zGa as with
  | (none,as)=>k.run as e
  | (some (.v v),_)=>XR.ob (zSS P H f args v∧k.toPM=zNJ H d f args) (((put d v).runT zHO e).map fun y=>(y.1,y.2,[]))
  | _=>none
def zSD:List Prop→Prop
 | []=>True
 | p::ps=>p∧zSD ps
end
section
variable [Yo] {P:Program} {H:zBb}
theorem XR.tok_some {t u:Tok} {x:XR} {e':Env} {obs:List Prop} (h:x.tok t=some (e',u,obs)):∃ u',x=some (e',u',obs)∧u=Tok.join t u':=by
 obtain ⟨⟨a,b,c⟩,h1,h2⟩:=Option.map_eq_some_iff.1 h
 simp only [Prod.mk.injEq] at h2
 obtain ⟨rfl,rfl,rfl⟩:=h2
 exact ⟨_,h1,rfl⟩
theorem XR.ob_some {q:Prop} {u:Tok} {x:XR} {e':Env} {obs:List Prop} (h:x.ob q=some (e',u,obs)):∃ o',x=some (e',u,o')∧obs=q::o':=by
 obtain ⟨⟨a,b,c⟩,h1,h2⟩:=Option.map_eq_some_iff.1 h
 simp only [Prod.mk.injEq] at h2
 obtain ⟨rfl,rfl,rfl⟩:=h2
 exact ⟨_,h1,rfl⟩
theorem PX.run_ok:∀ {p:PX} {as:Ans} {e e':Env} {t:Tok} {obs:List Prop},p.run P H as e=some (e',t,obs)→zSD obs→∃ n0,∀ n,n0≤n→p.toPM.runT (zCV P H n) e=some (e',t):=by
 intro p
 induction p with
 | ok=>intro as e e' t obs h _;simp only [PX.run,Option.some.injEq,Prod.mk.injEq] at h;obtain ⟨rfl,rfl,_⟩:=h;exact ⟨0,fun _ _=>rfl⟩
 | fail=>intro as e e' t obs h _;cases h
 | emb p =>
  intro as e e' t obs h _
  obtain ⟨⟨a,b⟩,h1,h2⟩:=Option.map_eq_some_iff.1 h
  simp only [Prod.mk.injEq] at h2
  obtain ⟨rfl,rfl,_⟩:=h2
  exact ⟨0,fun _ _=>zIl h1⟩
 | view s k ih =>
  intro as e e' t obs h ha
  obtain ⟨u,h1,rfl⟩:=XR.tok_some h
  obtain ⟨n0,h2⟩:=ih _ h1 ha
  exact ⟨n0,fun n hn=>by simp only [PX.toPM,PM.runT,h2 n hn];rfl⟩
 | get s k ih =>
  intro as e e' t obs h ha
  simp only [PX.run] at h
  cases hg:e.get s<;>rw [hg] at h<;>simp only at h<;>try (cases h;done)
  all_goals
   obtain ⟨u,h1,rfl⟩:=XR.tok_some h
   obtain ⟨n0,h2⟩:=ih _ h1 ha
   exact ⟨n0,fun n hn=>by simp only [PX.toPM,PM.runT,hg,h2 n hn];rfl⟩
 | set s q k ih =>
  intro as e e' t obs h ha
  obtain ⟨u,h1,rfl⟩:=XR.tok_some h
  obtain ⟨n0,h2⟩:=ih h1 ha
  exact ⟨n0,fun n hn=>by simp only [PX.toPM,PM.runT,h2 n hn];rfl⟩
 | cells r pre i c n k ih =>
  intro as e e' t obs h ha
  simp only [PX.run] at h
  split at h
  ·split at h
   ·rename_i hr
    obtain ⟨u,h1,rfl⟩:=XR.tok_some h
    obtain ⟨n0,h2⟩:=ih _ _ h1 ha
    exact ⟨n0,fun n hn=>by simp only [PX.toPM,PM.runT,hr,h2 n hn];rfl⟩
   ·cases h
  ·obtain ⟨o,h0,rfl⟩:=XR.ob_some h
   obtain ⟨u,h1,rfl⟩:=XR.tok_some h0
   obtain ⟨n0,h2⟩:=ih _ _ h1 ha.2
   exact ⟨n0,fun n hn=>by simp only [PX.toPM,PM.runT,ha.1,h2 n hn];rfl⟩
  ·cases h
 | deep r pre k ih =>
  intro as e e' t obs h ha
  simp only [PX.run] at h
  split at h
  ·split at h
   ·rename_i hr
    obtain ⟨u,h1,rfl⟩:=XR.tok_some h
    obtain ⟨n0,h2⟩:=ih _ h1 ha
    exact ⟨n0,fun n hn=>by simp only [PX.toPM,PM.runT,hr,h2 n hn];rfl⟩
   ·cases h
  ·obtain ⟨o,h0,rfl⟩:=XR.ob_some h
   obtain ⟨u,h1,rfl⟩:=XR.tok_some h0
   obtain ⟨n0,h2⟩:=ih _ h1 ha.2
   exact ⟨n0,fun n hn=>by simp only [PX.toPM,PM.runT,ha.1,h2 n hn];rfl⟩
  ·cases h
 | wcells r pre i c qs k ih =>
  intro as e e' t obs h ha
  simp only [PX.run] at h
  split at h
  ·split at h
   ·rename_i hr
    obtain ⟨u,h1,rfl⟩:=XR.tok_some h
    obtain ⟨n0,h2⟩:=ih h1 ha
    exact ⟨n0,fun n hn=>by simp only [PX.toPM,PM.runT,hr,h2 n hn];rfl⟩
   ·cases h
  ·obtain ⟨o,h0,rfl⟩:=XR.ob_some h
   obtain ⟨u,h1,rfl⟩:=XR.tok_some h0
   obtain ⟨n0,h2⟩:=ih h1 ha.2
   exact ⟨n0,fun n hn=>by simp only [PX.toPM,PM.runT,ha.1.1,ha.1.2,h2 n hn];rfl⟩
  ·cases h
 | wnode r pre q k ih =>
  intro as e e' t obs h ha
  simp only [PX.run] at h
  split at h
  ·rcases zBg h with ⟨_,h⟩ | ⟨hl,h⟩
   ·cases h
   ·split at h
    ·rename_i hr
     obtain ⟨u,h1,rfl⟩:=XR.tok_some h
     obtain ⟨n0,h2⟩:=ih h1 ha
     exact ⟨n0,fun n hn=>by simp only [PX.toPM,PM.runT,hl,cond_false,hr,h2 n hn];rfl⟩
    ·cases h
  ·rcases zBg h with ⟨_,h⟩ | ⟨hl,h⟩
   ·cases h
   ·obtain ⟨o,h0,rfl⟩:=XR.ob_some h
    obtain ⟨u,h1,rfl⟩:=XR.tok_some h0
    obtain ⟨n0,h2⟩:=ih h1 ha.2
    exact ⟨n0,fun n hn=>by simp only [PX.toPM,PM.runT,hl,cond_false,ha.1.1,ha.1.2,h2 n hn];rfl⟩
  ·cases h
 | kill r pre k ih =>
  intro as e e' t obs h ha
  obtain ⟨u,h1,rfl⟩:=XR.tok_some h
  obtain ⟨n0,h2⟩:=ih h1 ha
  exact ⟨n0,fun n hn=>by simp only [PX.toPM,PM.runT,h2 n hn];rfl⟩
 | frz r pre k ih =>
  intro as e e' t obs h ha
  simp only [PX.run] at h
  split at h
  ·split at h
   ·rename_i hr
    obtain ⟨u,h1,rfl⟩:=XR.tok_some h
    obtain ⟨n0,h2⟩:=ih h1 ha
    exact ⟨n0,fun n hn=>by simp only [PX.toPM,PM.runT,hr,h2 n hn];rfl⟩
   ·cases h
  ·obtain ⟨o,h0,rfl⟩:=XR.ob_some h
   obtain ⟨u,h1,rfl⟩:=XR.tok_some h0
   obtain ⟨n0,h2⟩:=ih h1 ha.2
   exact ⟨n0,fun n hn=>by simp only [PX.toPM,PM.runT,ha.1,h2 n hn];rfl⟩
  ·cases h
 | frzp r pre p k ih =>
  intro as e e' t obs h ha
  simp only [PX.run] at h
  split at h
  ·split at h
   ·rename_i hr
    obtain ⟨u,h1,rfl⟩:=XR.tok_some h
    obtain ⟨n0,h2⟩:=ih _ h1 ha
    exact ⟨n0,fun n hn=>by simp only [PX.toPM,PM.runT,hr,h2 n hn];rfl⟩
   ·cases h
  ·obtain ⟨o,h0,rfl⟩:=XR.ob_some h
   obtain ⟨u,h1,rfl⟩:=XR.tok_some h0
   obtain ⟨n0,h2⟩:=ih _ h1 ha.2
   exact ⟨n0,fun n hn=>by simp only [PX.toPM,PM.runT,ha.1,h2 n hn];rfl⟩
  ·obtain ⟨o,h0,rfl⟩:=XR.ob_some h
   obtain ⟨u,h1,rfl⟩:=XR.tok_some h0
   obtain ⟨⟨hf,rfl⟩,ha⟩:=ha
   obtain ⟨n0,h2⟩:=ih _ h1 ha
   exact ⟨n0,fun n hn=>by simp only [PX.toPM,PM.runT,hf,h2 n hn];rfl⟩
  ·cases h
 | killEx r keep k ih =>
  intro as e e' t obs h ha
  obtain ⟨u,h1,rfl⟩:=XR.tok_some h
  obtain ⟨n0,h2⟩:=ih h1 ha
  exact ⟨n0,fun n hn=>by simp only [PX.toPM,PM.runT,h2 n hn];rfl⟩
 | call f args hid k ih =>
  intro as e e' t obs h ha
  simp only [PX.run] at h
  split at h
  ·obtain ⟨o,h1,rfl⟩:=XR.ob_some h
   obtain ⟨n0,h2⟩:=ih _ _ h1 ha.2
   obtain ⟨n1,h3⟩:=ha.1
   exact ⟨max n0 n1,fun n hn=>by simp only [PX.toPM,PM.runT,h3 n (by omega),h2 n (by omega)]⟩
  ·cases h
 | test b k ih =>
  intro as e e' t obs h ha
  simp only [PX.run] at h
  split at h
  ·rcases zBg h with ⟨hb,h⟩ | ⟨_,h⟩
   ·obtain ⟨n0,h2⟩:=ih h ha
    exact ⟨n0,fun n hn=>by simp only [PX.toPM,hb,cond_true,h2 n hn]⟩
   ·cases h
  ·obtain ⟨o,h1,rfl⟩:=XR.ob_some h
   obtain ⟨n0,h2⟩:=ih h1 ha.2
   exact ⟨n0,fun n hn=>by simp only [PX.toPM,ha.1,cond_true,h2 n hn]⟩
  ·cases h
 | pick x k ih =>
  intro as e e' t obs h ha
  simp only [PX.run] at h
  split at h
  ·split at h
   ·obtain ⟨n0,h2⟩:=ih _ h ha
    exact ⟨n0,fun n hn=>by simp only [PX.toPM,h2 n hn]⟩
   ·cases h
  ·obtain ⟨o,h1,rfl⟩:=XR.ob_some h
   obtain ⟨n0,h2⟩:=ih _ h1 ha.2
   exact ⟨n0,fun n hn=>by simp only [PX.toPM,ha.1,h2 n hn]⟩
  ·cases h
 | num x k ih =>
  intro as e e' t obs h ha
  simp only [PX.run] at h
  split at h
  ·split at h
   ·obtain ⟨n0,h2⟩:=ih _ h ha
    exact ⟨n0,fun n hn=>by simp only [PX.toPM,h2 n hn]⟩
   ·cases h
  ·obtain ⟨o,h1,rfl⟩:=XR.ob_some h
   obtain ⟨n0,h2⟩:=ih _ h1 ha.2
   exact ⟨n0,fun n hn=>by simp only [PX.toPM,ha.1,h2 n hn]⟩
  ·cases h
 | idx x k ih =>
  intro as e e' t obs h ha
  simp only [PX.run] at h
  split at h
  ·split at h
   ·obtain ⟨n0,h2⟩:=ih _ h ha
    exact ⟨n0,fun n hn=>by simp only [PX.toPM,h2 n hn]⟩
   ·cases h
  ·obtain ⟨o,h1,rfl⟩:=XR.ob_some h
   obtain ⟨n0,h2⟩:=ih _ h1 ha.2
   exact ⟨n0,fun n hn=>by simp only [PX.toPM,ha.1,h2 n hn]⟩
  ·cases h
 | choose b k1 k2 ih1 ih2 =>
  intro as e e' t obs h ha
  simp only [PX.run] at h
  split at h
  ·rcases zBg h with ⟨hb,h⟩ | ⟨hb,h⟩
   ·obtain ⟨n0,h2⟩:=ih1 h ha
    exact ⟨n0,fun n hn=>by simp only [PX.toPM,hb,cond_true,h2 n hn]⟩
   ·obtain ⟨n0,h2⟩:=ih2 h ha
    exact ⟨n0,fun n hn=>by simp only [PX.toPM,hb,cond_false,h2 n hn]⟩
  ·obtain ⟨o,h1,rfl⟩:=XR.ob_some h
   obtain ⟨n0,h2⟩:=ih1 h1 ha.2
   exact ⟨n0,fun n hn=>by simp only [PX.toPM,ha.1,cond_true,h2 n hn]⟩
  ·obtain ⟨o,h1,rfl⟩:=XR.ob_some h
   obtain ⟨n0,h2⟩:=ih2 h1 ha.2
   exact ⟨n0,fun n hn=>by simp only [PX.toPM,ha.1,cond_false,h2 n hn]⟩
  ·cases h
 | same p k ih =>
  intro as e e' t obs h ha
  simp only [PX.run] at h
  split at h
  ·exact ih _ h ha
  ·obtain ⟨o,h1,rfl⟩:=XR.ob_some h
   obtain ⟨n0,h2⟩:=ih _ h1 ha.2
   exact ⟨n0,fun n hn=>by simp only [PX.toPM,ha.1,h2 n hn]⟩
  ·cases h
 | sames ps k ih =>
  intro as e e' t obs h ha
  simp only [PX.run] at h
  split at h
  ·exact ih _ h ha
  ·obtain ⟨o,h1,rfl⟩:=XR.ob_some h
   obtain ⟨n0,h2⟩:=ih _ h1 ha.2
   exact ⟨n0,fun n hn=>by simp only [PX.toPM,ha.1,h2 n hn]⟩
  ·cases h
 | nats x k ih =>
  intro as e e' t obs h ha
  simp only [PX.run] at h
  split at h
  ·exact ih _ h ha
  ·obtain ⟨o,h1,rfl⟩:=XR.ob_some h
   obtain ⟨n0,h2⟩:=ih _ h1 ha.2
   exact ⟨n0,fun n hn=>by simp only [PX.toPM,ha.1,h2 n hn]⟩
  ·cases h
 | pure d f args k ih =>
  intro as e e' t obs h ha
  simp only [PX.run] at h
  split at h
  ·exact ih h ha
  ·obtain ⟨o,h1,rfl⟩:=XR.ob_some h
   obtain ⟨⟨a,b⟩,h2,h3⟩:=Option.map_eq_some_iff.1 h1
   simp only [Prod.mk.injEq] at h3
   obtain ⟨rfl,rfl,_⟩:=h3
   obtain ⟨⟨hp,hk⟩,_⟩:=ha
   obtain ⟨n0,hp⟩:=hp d e
   exact ⟨n0,fun n hn=>by simp only [PX.toPM];rw [hk,hp n hn];exact zIl h2⟩
  ·cases h
end
end Go.Eng
namespace Go.Eng
open Go
def zGJ (x:Operand) (k:PV→PX):PX :=
 match x with
 | .tmp t => .view t k
 | .const v=>k (zEv v)
 | .func f=>k (.func f [] [])
 | .global _ => .fail
def zLa (x:Operand) (k:PV→PX):PX :=
 match x with
 | .tmp t => .get t fun p => .choose p.heavy (.set t .bad (k p)) (k p)
 | .const v=>k (zEv v)
 | .func f=>k (.func f [] [])
 | .global _ => .fail
def zPC:List Operand→(List PV→PX)→PX
 | [],k=>k []
 | x::xs,k=>zGJ x fun p=>zPC xs fun ps=>k (p::ps)
def zV4 (d:Nat) (p:PV) (k:PX):PX := .choose p.heavy (.kill d [] (.set d (p.mapW (lose d [])) k)) (.set d p k)
def zGc (d:Option Nat) (p:PV):PX :=
 match d with
 | none => .ok
 | some d => .same p fun p=>bif p.isTup then .fail else zV4 d p .ok
def zG0 (d:Nat):Nat→List PV→PX→PX
 | n,[],k => .set d (.tup (List.replicate n .bad)) k
 | i,p::ps,k => .same p fun p=>zV4 (zBr d i) p (zG0 d (i+1) ps k)
def zEQ (d:Option Nat) (v:PV):PX :=
 match d,v with
 | some d,.tup vs => .test (Nat.ble vs.length 16) (.test ((zBw vs).all (fun w => !zIE d w.1)) (.set d .bad (zG0 d 0 vs .ok)))
 | d,v=>zGc d v
def zFC:PV→(Nat→PX)→PX
 | .int _ n,k => .test (decide (0≤n)) (.num (some n.toNat) k)
 | _,_ => .fail
def zQj (r:Nat) (pre:zAR) (i c:Nat) (sh:Option Nat) (k:PV→PX):PX :=
 match sh with
 | some n => .cells r pre i c n fun a qs=>bif a then k (.agg qs) else .fail
 | none => .cells r pre i c 1 fun _ qs=>k (qs.headD .bad)
def zHd (r:Nat) (pre:zAR) (i:Nat):Nat→List PV→PX→PX
 | _,[],k=>k
 | c,q::qs,k=>bif q.heavy then .kill r (pre++[(i,c)]) (zHd r pre i (c+1) qs k) else zHd r pre i (c+1) qs k
def zRD (r:Nat) (pre:zAR) (i c:Nat) (qs:List PV) (k:PX):PX := .choose (qs.all fun q => !q.heavy) k (zHd r pre i c qs k)
section
variable {k:PX} {kp:PV→PX}
theorem zB7 {x:Operand} {k:PV→PX}:(zGJ x k).toPM=opd x fun p=>(k p).toPM:=by cases x<;>rfl
theorem zBv {α:Type} {b:Bool} {x y:α}:(bif b then x else y)=if b=true then x else y:=by cases b<;>rfl
theorem zF4 {x:Operand} {k:PV→PX}:(zLa x k).toPM=zOr x fun p=>(k p).toPM:=by
 cases x<;>first | rfl | simp only [zLa,zOr,PX.toPM,zBv]
theorem zIo:∀ {xs:List Operand} {k:List PV→PX},(zPC xs k).toPM=zTu xs fun p=>(k p).toPM
 | [],_=>rfl
 | x::xs,k=>by simp only [zPC,zTu,zB7,zIo]
theorem zLD {d:Nat} {p:PV} {k:PX}:(zV4 d p k).toPM=lay d p k.toPM:=by simp only [zV4,lay,PX.toPM]
theorem zDi {b:Bool} {x y:PX}:(bif b then x else y).toPM=bif b then x.toPM else y.toPM:=by cases b<;>rfl
theorem zOH {c:Prop} [Decidable c] {x y:PX}:(if c then x else y).toPM=if c then x.toPM else y.toPM:=by split<;>rfl
theorem zBs {d:Option Nat} {p:PV}:(zGc d p).toPM=put d p:=by
 cases d with
 | none=>rfl
 | some d=>simp only [zGc,put,PX.toPM,zDi,zLD]
theorem zHV {d:Nat}:∀ {ps:List PV} {i:Nat} {k:PX},(zG0 d i ps k).toPM=zEU d i ps k.toPM
 | [],_,_=>rfl
 | p::ps,i,k=>by simp only [zG0,zEU,PX.toPM,zLD,zHV]
theorem zDn {α:Type} {a b:Bool} {x y:α}:(bif a&&b then x else y)=bif a then (bif b then x else y) else y:=by cases a<;>rfl
theorem zEy {d:Option Nat} {v:PV}:(zEQ d v).toPM=zDp d v:=by
 cases d with
 | none=>cases v<;>simp only [zEQ,zDp,zBs]
 | some d=>cases v<;>simp only [zEQ,zDp,PX.toPM,zHV,zDn,zBs]
theorem zEN {p:PV} {k:Nat→PX}:(zFC p k).toPM=zGm p fun n=>(k n).toPM:=by
 cases p<;>first | rfl | skip
 simp only [zFC,zGm,PX.toPM,zBv,decide_eq_true_eq]
theorem zLs {r:Nat} {pre:zAR} {i c:Nat} {sh:Option Nat} {k:PV→PX}:(zQj r pre i c sh k).toPM=zMM r pre i c sh fun p=>(k p).toPM:=by
 cases sh<;>simp only [zQj,zMM,PX.toPM,zDi]
theorem zID {r:Nat} {pre:zAR} {i:Nat}:∀ {qs:List PV} {c:Nat} {k:PX},(zHd r pre i c qs k).toPM=zDP r pre i c qs k.toPM
 | [],_,_=>rfl
 | q::qs,c,k=>by simp only [zHd,zDP,zDi,PX.toPM,zID]
theorem zE8 {r:Nat} {pre:zAR} {i:Nat}:∀ {qs:List PV} {c:Nat} {k:PM},(qs.all fun q => !q.heavy)=true→zDP r pre i c qs k=k
 | [],_,_,_=>rfl
 | q::qs,c,k,h=>by
  simp only [List.all_cons,Bool.and_eq_true,Bool.not_eq_true'] at h
  simp only [zDP,h.1,cond_false];exact zE8 h.2
theorem zRH {r:Nat} {pre:zAR} {i c:Nat} {qs:List PV} {k:PX}:(zRD r pre i c qs k).toPM=zDP r pre i c qs k.toPM:=by
 simp only [zRD,PX.toPM,zID]
 cases h:qs.all fun q => !q.heavy with
 | false=>rfl
 | true=>exact (zE8 h).symm
end
def zEO (res:PV→(PV→List (Nat×zAR)→PX)→PX):List PV→(List PV→List (Nat×zAR)→PX)→PX
 | [],k=>k [] []
 | p::ps,k=>res p fun q l=>zEO res ps fun qs m=>k (q::qs) (l++m)
def zDC (hb:Nat):Nat→PV→(PV→List (Nat×zAR)→PX)→PX
 | 0,_,_ => .fail
 | n + 1,p,k =>
  match p with
  | .addr r pre i c sh=>bif Nat.ble hb r then k p [] else .deep r pre fun q=>match zBa q with
   | some xs => .pick xs[i]? fun x=>match sh with
     | some m => .test (Nat.ble (c+m) x.cells.length) (.test x.isAgg (zDC hb n (.agg ((x.cells.drop c).take m)) fun q l=>k (.ref q) ((r,pre)::l)))
     | none => .pick x.cells[c]? fun q => .test q.oneCell (zDC hb n q fun q l=>k (.ref q) ((r,pre)::l))
   | none => .fail
  | .bor r pre _ lo m=>bif Nat.ble hb r then k p [] else .deep r pre fun q=>match q with
   | .own _ xs => .test (Nat.ble (lo+m) xs.length) (.same (.sl (zAz ((xs.drop lo).take m))) fun p=>k p [(r,pre)])
   | _ => .fail
  | .bsl r pre i c sz ag m=>bif Nat.ble hb r then k p [] else .deep r pre fun q=>match zBa q with
   | some xs => .pick xs[i]? fun x => .test (zCk ag sz m ((x.cells.drop c).take (m*sz))) (.test (zBw x.cells).isEmpty (.same (.sl (zCj ag sz m (zAz ((x.cells.drop c).take (m*sz))))) fun p=>k p [(r,pre)]))
   | none => .fail
  | .bmap r pre=>bif Nat.ble hb r then k p [] else .deep r pre fun q=>match q with
   | .omap es=>k (.map es) [(r,pre)]
   | _ => .fail
  | .agg cs => .choose (p.ways).isEmpty (.same (zAT p) fun q=>k q []) (zEO (zDC hb n) cs fun qs l=>k (.agg qs) l)
  | .func f a b => .choose (p.ways).isEmpty (k p []) (zEO (zDC hb n) a fun as l=>zEO (zDC hb n) b fun bs m=>k (.func f as bs) (l++m))
  | .ref q => .choose (q.ways).isEmpty (k p []) (zDC hb n q fun q l=>k (.ref q) l)
  | .bad=>k .bad []
  | p => .test (p.ways.all (fun w=>Nat.ble hb w.1)) (.same (zAT p) fun q=>k q [])
def zUC (p:PV) (k:PV→List (Nat×zAR)→PX):PX:=zDC zAb depth p k
theorem zHI {res:PV→(PV→List (Nat×zAR)→PX)→PX} {res':PV→(PV→List (Nat×zAR)→PM)→PM} (h:∀ p k,(res p k).toPM=res' p fun q l=>(k q l).toPM):∀ {ps:List PV} {k:List PV→List (Nat×zAR)→PX},(zEO res ps k).toPM=zEq res' ps fun q l=>(k q l).toPM
 | [],_=>rfl
 | p::ps,k=>by simp only [zEO,zEq,h,zHI h]
theorem zJK {hb:Nat}:∀ {n:Nat} {p:PV} {k:PV→List (Nat×zAR)→PX},(zDC hb n p k).toPM=resolve hb n p fun q l=>(k q l).toPM
 | 0,_,_=>rfl
 | n + 1,p,k=>by
  have ih:∀ (p:PV) (k:PV→List (Nat×zAR)→PX),(zDC hb n p k).toPM=resolve hb n p fun q l=>(k q l).toPM:=fun p k=>zJK
  cases p<;>simp only [zDC,resolve,zDi,PX.toPM,zDn,ih,zHI ih]
  ·congr 1;congr 1;funext q
   cases zBa q with
   | none=>rfl
   | some xs =>
    simp only [PX.toPM]
    rename_i r pre i c sh
    cases xs[i]? with
    | none=>rfl
    | some x =>
     cases sh with
     | some m=>simp only [PX.toPM,zDn,ih]
     | none =>
      simp only [PX.toPM,ih]
      cases x.cells[c]? with
      | none=>rfl
      | some q=>simp only [PX.toPM,zBv,ih]
  ·congr 1;congr 1;funext q
   cases q<;>rfl
  ·congr 1;congr 1;funext q
   cases zBa q with
   | none=>rfl
   | some xs =>
    simp only [PX.toPM]
    rename_i r pre i c sz ag m
    cases xs[i]? with
    | none=>rfl
    | some x=>simp only [PX.toPM,zDn]
  ·congr 1;congr 1;funext q
   cases q<;>rfl
theorem zQt {p:PV} {k:PV→List (Nat×zAR)→PX}:(zUC p k).toPM=zPl p fun q l=>(k q l).toPM:=zJK
def zPH (hb:Nat):Nat→PV→(PV→PX)→PX
 | 0,_,_ => .fail
 | n+1,p,k=>match p.ways.find? (fun w=>Nat.blt w.1 hb) with
  | none => .same p k
  | some (r,pre) => .deep r pre fun q => .frzp r pre (p.mapW (inl r pre q)) fun p=>zPH hb n p k
theorem zFH {hb:Nat}:∀ {n:Nat} {p:PV} {k:PV→PX},(zPH hb n p k).toPM=zLN hb n p fun q=>(k q).toPM
 | 0,_,_=>rfl
 | n+1,p,k=>by
  simp only [zPH,zLN]
  cases p.ways.find? (fun w=>Nat.blt w.1 hb) with
  | none=>rfl
  | some w=>simp only [PX.toPM,zFH]
def zK4 (p:PV) (k:List PV→PX):PX :=
 match p with
 | .nils _=>k []
 | .nn=>k []
 | .sl xs=>k xs
 | .bor r pre z lo n => .deep r pre fun q=>match q with
  | .own _ xs => .test (Nat.ble (lo+n) xs.length) (.sames ((xs.drop lo).take n) k)
  | _ => .fail
 | .bsl r pre i c sz ag n => .cells r pre i c (n*sz) fun _ cs => .test (zCk ag sz n cs) (.test (cs.all (fun q=>q.plain0)) (.sames (zCj ag sz n cs) k))
 | _ => .fail
theorem zKg {p:PV} {k:List PV→PX}:(zK4 p k).toPM=zHS p fun l=>(k l).toPM:=by
 cases p<;>simp only [zK4,zHS,PX.toPM,zDn]
 congr 1;funext q
 cases q<;>rfl
section
variable (P:Program) (H:zBb)
def zFs:List Nat→List PV→(List (Bool×PV)→PX)→PX
 | _,[],k=>k []
 | ms,p::ps,k =>
  match ms.headD 0,p with
  | 2,.bor r pre _ 0 n => .deep r pre fun q=>match q with
   | .own sz xs => .test (Nat.ble n xs.length) (.wnode r pre .bad (.same (.own sz ((xs.drop 0).take n)) fun o=>zFs ms.tail ps fun as=>k ((true,o)::as)))
   | _ => .fail
  | _,p=>zFs ms.tail ps fun as=>k ((false,p)::as)
def zDz:List Nat→List (Bool×PV)→(List Arg→PX)→PX
 | _,[],k=>k []
 | ms,(true,p)::ps,k=>zDz ms.tail ps fun as=>k ({p:=p}::as)
 | ms,(false,p)::ps,k =>
  bif Nat.beq (ms.headD 0) 1 then zDz ms.tail ps fun as=>k ({p:=p,byref:=true}::as)
  else zUC p fun q l=>zDz ms.tail ps fun as=>k ({p:=q,shared:=l}::as)
def zE4:List Nat→List (Bool×PV)→(List Arg→PX)→PX
 | _,[],k=>k []
 | ms,(true,p)::ps,k=>zE4 ms.tail ps fun as=>k ({p:=p}::as)
 | ms,(false,p)::ps,k =>
  bif Nat.beq (ms.headD 0) 1 then zE4 ms.tail ps fun as=>k ({p:=p,byref:=true}::as)
  else zPH zAb zDw p fun q=>zE4 ms.tail ps fun as=>k ({p:=q}::as)
def zSj:List Nat→(List PV→PX)→PX
 | [],k=>k []
 | r::rs,k => .get r fun p=>zSj rs fun ps=>k (p::ps)
def zSX:List Nat→List PV→List PV→PX→PX
 | r::rs,o::os,p::ps,k => .test (zGl o p) (.same p fun p => .wnode r [] p (zSX rs os ps k))
 | [],[],[],k=>k
 | _,_,_,_ => .fail
def zOC:Nat→List Nat→(List Nat→PX)→PX
 | 0,R,k=>k R
 | n+1,R,k=>zSj R fun ts=>let R':=(R++ts.flatMap zNs).eraseDups;bif Nat.beq R'.length R.length then k R else zOC n R' k
def zGV:List Nat→PX→PX
 | [],k=>k
 | r::rs,k => .killEx r [] (zGV rs k)
def zL6:List Bool→PX→PX→PX
 | [a,b,c],x,y => .choose a x (.choose b (.choose c x y) y)
 | _,_,y=>y
theorem zMF {a b c:Bool} {x y:PX}:(zL6 [a,b,c] x y).toPM=bif a||b&&c then x.toPM else y.toPM:=by
 cases a<;>cases b<;>cases c<;>rfl
def zPg (d:Option Nat) (f:FuncId) (as:List Arg) (again:PX):PX :=
 .nats (zOs as) fun R0=>zOC 3 R0 fun R =>
 bif zGX R&&R.all (fun r=>Nat.blt r zAb)&&Nat.ble R.length 1000&&Nat.ble as.length 1000&&(as.flatMap (·.shared)).all (fun x => !R.contains x.1) then
  zSj R fun hid => .sames (as.map fun a=>if a.byref then zGH (zDt R) a.p else a.p) fun args => .call f args (hid.map (zGH (zDt R))) fun v hO =>
   zL6 [(as.flatMap (·.shared)).isEmpty,v.free,zFM hO]
    (zGV R<|zSX R hid (hO.map (zGH (zCc R))) (zEQ d (zGH (zCc R) v)))
    again
 else .fail
def zSy (d:Option Nat) (f:FuncId) (args:List PV):PX :=
 .nats (H f).mode fun ms=>zFs ms args fun bs=>zDz ms bs fun as=>zPg d f as (zE4 ms bs fun as=>zPg d f as .fail)
theorem zFF:∀ {ps:List PV} {ms:List Nat} {k:List (Bool×PV)→PX},(zFs ms ps k).toPM=zDZ ms ps fun as=>(k as).toPM
 | [],_,_=>rfl
 | p :: ps,ms,k=>by
  unfold zFs zDZ
  generalize ms.headD 0=m
  split
  ·simp only [PX.toPM]
   congr 1;funext q
   cases q<;>first | rfl | skip
   simp only [PX.toPM,zFF]
  ·simp only [zFF]
theorem zE2:∀ {ps:List (Bool×PV)} {ms:List Nat} {k:List Arg→PX},(zDz ms ps k).toPM=zCs ms ps fun as=>(k as).toPM
 | [],_,_=>rfl
 | (true,p)::ps,ms,k=>by simp only [zDz,zCs,zE2]
 | (false,p)::ps,ms,k=>by simp only [zDz,zCs,zDi,zQt,zE2]
theorem zGw:∀ {ps:List (Bool×PV)} {ms:List Nat} {k:List Arg→PX},(zE4 ms ps k).toPM=zEa ms ps fun as=>(k as).toPM
 | [],_,_=>rfl
 | (true,p)::ps,ms,k=>by simp only [zE4,zEa,zGw]
 | (false,p)::ps,ms,k=>by simp only [zE4,zEa,zDi,zFH,zGw]
theorem zKX:∀ {rs:List Nat} {k:List PV→PX},(zSj rs k).toPM=zNk rs fun ps=>(k ps).toPM
 | [],_=>rfl
 | r::rs,k=>by simp only [zSj,zNk,PX.toPM,zKX]
theorem zOL:∀ {rs:List Nat} {os ps:List PV} {k:PX},(zSX rs os ps k).toPM=zNr rs os ps k.toPM
 | [],[],[],_=>rfl
 | r::rs,o::os,p::ps,k=>by simp only [zSX,zNr,PX.toPM,zOL]
 | [],[],_::_,_=>rfl
 | [],_::_,_,_=>rfl
 | _::_,[],_,_=>rfl
 | _::_,_::_,[],_=>rfl
theorem zMh:∀ {n:Nat} {R:List Nat} {k:List Nat→PX},(zOC n R k).toPM=zKs n R fun R=>(k R).toPM
 | 0,_,_=>rfl
 | n+1,R,k=>by simp only [zOC,zKs,zKX,zDi,zMh]
theorem zHK:∀ {rs:List Nat} {k:PX},(zGV rs k).toPM=zKx rs k.toPM
 | [],_=>rfl
 | r::rs,k=>by simp only [zGV,zKx,PX.toPM,zHK]
theorem zRg {d:Option Nat} {f:FuncId} {as:List Arg} {again:PX}:(zPg d f as again).toPM=zRc d f as again.toPM:=by
 simp only [zPg,zRc,zMh,zDi,zKX,PX.toPM,zMF,zHK,zOL,zEy]
theorem zRN {d:Option Nat} {f:FuncId} {args:List PV}:(zSy H d f args).toPM=zNJ H d f args:=by
 simp only [zSy,zNJ,zFF,zE2,zRg,zGw,PX.toPM]
def zQO (d:Option Nat) (args:List Operand) (g:PV):PX :=
 match g with
 | .func g first caps=>zPC args fun as => .pure d g (first++as++caps) (zSy H d g (first++as++caps))
 | _ => .fail
theorem zQz {d:Option Nat} {args:List Operand} {g:PV}:(zQO H d args g).toPM=zTh H d args g:=by
 cases g<;>first | rfl | skip
 simp only [zQO,zTh,zIo,PX.toPM,zRN]
def zNA (d:Option Nat) (sz:Nat) (base:PV) (ys:List PV):PX :=
 .test (ys.all (fun y=>Nat.beq y.cells.length sz&&y.cells.all fun q=>q.oneCell)) (.test (zBw ys).isEmpty (
 match base with
 | .bor r pre z lo n => .deep r pre fun q=>match q with
  | .own s xs =>
   .test (Nat.beq s sz) (.test (Nat.ble (lo+n) xs.length) (.test (Nat.ble (xs.length+ys.length) zAU) (
    .choose (Nat.beq (lo+n) xs.length) (.test (Nat.beq lo 0) (.wnode r pre .bad (zGc d (.own sz (xs++ys))))) (.emb (zLK d r pre z lo n s xs ys)))))
  | _ => .fail
 | .nils _ => .test (Nat.ble ys.length zAU) (zGc d (.own sz ys))
 | _ => .fail))
theorem zPh {d:Option Nat} {sz:Nat} {base:PV} {ys:List PV}:(zNA d sz base ys).toPM=zLh d sz base ys:=by
 cases base<;>simp only [zNA,zLh,PX.toPM,zDn,zBs]
 congr 1;congr 1;congr 1;funext q
 cases q<;>first | rfl | skip
 simp only [PX.toPM,zBs]
def zU6 (x:Operand) (k:List PV→PX):PX :=
 match x with
 | .tmp t => .get t fun p=>match p with
  | .own _ xs => .set t .bad (k xs)
  | _ => .view t fun p=>zK4 p fun xs => .test (xs.all (fun x=>x.plain)) (k xs)
 | x=>zGJ x fun p=>zK4 p fun xs => .test (xs.all (fun x=>x.plain)) (k xs)
theorem zTP {x:Operand} {k:List PV→PX}:(zU6 x k).toPM=zNL x fun l=>(k l).toPM:=by
 cases x<;>simp only [zU6,zNL,PX.toPM,zB7,zKg,zBv]
 congr 1;funext p
 cases p<;>first | rfl | simp only [PX.toPM,zKg,zBv]
def zLH (d:Option Nat) (b:Builtin) (ts:List TypeId) (args:List Operand):PX :=
 match b,args,ts with
 | .len,[x],t::_=>zGJ x fun p=>match P.underlying t with
  | some (.array n _)=>zGc d (.int .i64 n)
  | some (.slice _) => .num (lenOf p) fun n=>zGc d (.int .i64 n)
  | _ => .fail
 | .append,[x,y],[t,t2]=>bif (zBY P t2).isNone then .fail else match (zBY P t).bind (szT P),(zBY P t).bind (zHL P),(zBY P t).bind (zCD P) with
  | some sz,some by_,some z=>if by_≤16384∧z.cells.length=sz then zGJ x fun base=>zU6 y fun ys=>zNA d sz base ys else .fail
  | _,_,_ => .fail
 | .max,xs,_=>zPC xs fun ps => .pick (zWO ps) fun v=>zGc d v
 | .min,xs,_=>zPC xs fun ps => .pick (zWQ ps) fun v=>zGc d v
 | b,args,ts => .emb (zBu P d b ts args)
theorem zNU {d:Option Nat} {b:Builtin} {ts:List TypeId} {args:List Operand}:(zLH P d b ts args).toPM=zBu P d b ts args:=by
 unfold zLH
 split
 ·simp only [zB7,zBu]
  congr 1;funext p
  generalize P.underlying _=u
  cases u with
  | none=>rfl
  | some u =>
   cases u<;>first | rfl | exact zBs | skip
   simp only [PX.toPM,zBs]
   cases lenOf p<;>simp only [PX.toPM,zBs]
 ·simp only [zBu,zDi]
  congr 1
  generalize (zBY P _).bind (szT P)=a1
  generalize (zBY P _).bind (zHL P)=a2
  generalize (zBY P _).bind (zCD P)=a3
  cases a1<;>cases a2<;>cases a3<;>first | rfl | simp only [zOH,zB7,zTP,zPh,PX.toPM]
 ·simp only [zBu,zIo,PX.toPM,zBs]
  congr 1;funext ps
  cases zWO ps<;>simp only [PX.toPM,zBs]
 ·simp only [zBu,zIo,PX.toPM,zBs]
  congr 1;funext ps
  cases zWQ ps<;>simp only [PX.toPM,zBs]
 ·rfl
end
end Go.Eng
namespace Go.Eng
open Go
section
variable (P:Program) (H:zBb)
def zV6 {α:Type} (x:Option α) (k:α→PX):PX :=
 match x with
 | some a=>k a
 | none => .fail
theorem zJY {α:Type} {x:Option α} {k:α→PX}:(zV6 x k).toPM=zI7 x fun a=>(k a).toPM:=by cases x<;>rfl
theorem zJu {x:Option PV} {k:PV→PX}:(PX.pick x k).toPM=zI7 x fun a=>(k a).toPM:=by cases x<;>rfl
def zO2 (p:PV) (k:PV→PX) (k2:PX):PX :=
 match p with
 | .bor r pre _ lo n => .deep r pre fun q=>match q with
  | .own sz xs => .choose (Nat.beq lo 0&&Nat.beq n xs.length) (.wnode r pre .bad (k (.own sz xs))) k2
  | _=>k2
 | .bmap r pre => .deep r pre fun q=>match q with
  | .omap es => .wnode r pre .bad (k (.omap es))
  | _=>k2
 | p=>k p
theorem zMe {p:PV} {k:PV→PX} {k2:PX}:(zO2 p k k2).toPM=zN2 p (fun q=>(k q).toPM) k2.toPM:=by
 cases p<;>simp only [zO2,zN2,PX.toPM]
 all_goals
  congr 1;funext q
  cases q<;>rfl
def zTw (p:PV) (k:PV→PX):PX:=zO2 p k (zPH zAb zDw p k)
theorem zOq {p:PV} {k:PV→PX}:(zTw p k).toPM=zM5 p fun q=>(k q).toPM:=by simp only [zTw,zM5,zMe,zFH]
def zOD:List PV→(List PV→PX)→PX
 | [],k=>k []
 | p::ps,k=>zO2 p (fun q=>zOD ps fun qs=>k (q::qs)) .fail
theorem zLZ:∀ {ps:List PV} {k:List PV→PX},(zOD ps k).toPM=zJB ps fun qs=>(k qs).toPM
 | [],_=>rfl
 | p::ps,k=>by simp only [zOD,zJB,zMe,zLZ,PX.toPM]
def zRh:PV→Bool
 | .bor .. | .bmap .. | .bsl .. => true
 | _=>false
def zJe (tk:Bool) (p:PV) (k:PV→PX):PX :=
 match p with
 | .agg cs=>bif tk then zOD cs fun cs=>k (.agg cs) else .choose (cs.any zRh) (zPH zAb zDw p k) (k p)
 | .bsl .. => zPH zAb zDw p k
 | .bor .. | .bmap .. => bif tk then zTw p k else zPH zAb zDw p k
 | p=>k p
theorem zHu {tk:Bool} {p:PV} {k:PV→PX}:(zJe tk p k).toPM=zFu tk p fun q=>(k q).toPM:=by
 cases p<;>simp only [zJe,zFu,zDi,zLZ,zOq,zFH,PX.toPM]
 rfl
def zIk (tk:Bool):List PV→(List PV→PX)→PX
 | [],k=>k []
 | p::ps,k=>zJe tk p fun q=>zIk tk ps fun qs=>k (q::qs)
theorem zI3 {tk:Bool}:∀ {ps:List PV} {k:List PV→PX},(zIk tk ps k).toPM=zFT tk ps fun qs=>(k qs).toPM
 | [],_=>rfl
 | p::ps,k=>by simp only [zIk,zFT,zHu,zI3]
def zO4 (r:Nat) (pre:zAR) (i c:Nat) (v:PV):PX :=
 .test (!v.heavy||v.ways.all (fun w => !(zAJ r pre w.1 w.2&&Nat.blt pre.length w.2.length))) (.test (v.cells.all (fun q=>q.oneCell)) (.test (!v.cells.isEmpty) (zRD r pre i c v.cells (.wcells r pre i c v.cells .ok))))
theorem zL8 {r:Nat} {pre:zAR} {i c:Nat} {v:PV}:(zO4 r pre i c v).toPM=zHU r pre i c v:=by
 simp only [zO4,zHU,PX.toPM,zRH,zDn]
def zJL (tk:Bool) (r:Nat) (pre:zAR) (v:PV) (k:PV→PX):PX :=
 bif pre.isEmpty && !tk then .view r fun q=>(match q with | .addr .. => k v | _=>zJe tk v k) else zJe tk v k
theorem zMk {tk:Bool} {r:Nat} {pre:zAR} {v:PV} {k:PV→PX}:(zJL tk r pre v k).toPM=zIt tk r pre v fun q=>(k q).toPM:=by
 simp only [zJL,zIt,zDi,PX.toPM,zHu]
 congr 1;congr 1;funext q
 cases q<;>first | rfl | exact zHu
def zI4 (tk:Bool) (r:Nat) (pre:zAR) (i c:Nat) (v:PV):PX :=
 match zQD r pre i c v with
 | some m => .deep r (pre++[(i,c)]) fun q=>match q with
  | .own s xs => .test (Nat.ble m xs.length) (.wnode r (pre++[(i,c)]) .bad (.same (.own s ((xs.drop 0).take m)) fun v=>zO4 r pre i c v))
  | _ => .fail
 | none=>zJL tk r pre v fun v => .same v fun v=>zO4 r pre i c v
theorem zKj {tk:Bool} {r:Nat} {pre:zAR} {i c:Nat} {v:PV}:(zI4 tk r pre i c v).toPM=zHJ tk r pre i c v:=by
 simp only [zI4,zHJ]
 cases zQD r pre i c v with
 | none=>simp only [zMk,PX.toPM,zL8]
 | some m =>
  simp only [PX.toPM]
  congr 1;funext q
  cases q<;>first | rfl | simp only [PX.toPM,zL8]
def zQF (fz tk:Bool) (t:TypeId) (a x:Operand):PX :=
 zGJ a fun pa=>match pa,x with
 | .addr r pre i c _,.const (.slice none 0 0)=>zV6 ((zBY P t).bind (szT P)) fun s=>if szT P t=some 1 then zI4 tk r pre i c (.own s []) else .fail
 | pa,x=>match pa,shT P t,szT P t with
 | .addr r pre i c _,some sh,some n=>(bif fz&&tk then zGJ x else zLa x) fun v =>
  .test (Nat.beq v.cells.length n) (.test (v.isAgg==sh.isSome) (zI4 (tk && !fz) r pre i c (bif fz && !tk then zAT v else v)))
 | _,_,_ => .fail
theorem zRG {fz tk:Bool} {t:TypeId} {a x:Operand}:(zQF P fz tk t a x).toPM=zOx P fz tk t a x:=by
 simp only [zQF,zOx,zB7]
 congr 1;funext pa
 have key:∀ (sh:Option (Option Nat)) (n:Option Nat),(match pa,sh,n with
   | .addr r pre i c _,some sh,some n=>(bif fz&&tk then zGJ x else zLa x) fun v=>PX.test (Nat.beq v.cells.length n) (.test (v.isAgg==sh.isSome) (zI4 (tk && !fz) r pre i c (bif fz && !tk then zAT v else v)))
   | _,_,_=>PX.fail).toPM=(match pa,sh,n with
   | .addr r pre i c _,some sh,some n=>(bif fz&&tk then opd x else zOr x) fun v=>bif Nat.beq v.cells.length n&&v.isAgg==sh.isSome then zHJ (tk && !fz) r pre i c (bif fz && !tk then zAT v else v) else .fail
   | _,_,_=>PM.fail):=by
  intro sh n
  cases pa<;>first | rfl | skip
  cases sh<;>cases n<;>first | rfl | skip
  cases hc:(fz&&tk)<;>simp only [cond_true,cond_false,zB7,zF4,PX.toPM,zKj,zDn]
 split
 ·simp only [zJY,zOH,zKj,PX.toPM]
 ·rename_i h
  rw [key]
  cases pa<;>first | rfl | skip
  cases x<;>first | rfl | skip
  rename_i v
  cases v<;>first | rfl | skip
  rename_i a n m
  cases a<;>cases n<;>cases m<;>first | rfl | exact (h _ _ _ _ _ rfl rfl).elim
def zIx (d:Option Nat) (p:PV):PX :=
 match d,p with
 | some d',.bor r [] z lo n=>if r=d' then .get r fun root=>match root with
   | .own sz xs => .test (Nat.ble (lo+n) xs.length) (.kill r [] (.same (.own sz ((xs.drop lo).take n)) fun o => .set r o .ok))
   | _ => .fail
  else zGc d p
 | _,_=>zGc d p
theorem zNH {d:Option Nat} {p:PV}:(zIx d p).toPM=zFN d p:=by
 unfold zIx zFN
 split
 ·simp only [zOH,zBs,PX.toPM]
  congr 1;congr 1;funext q
  cases q<;>rfl
 ·rename_i h
  split
  ·exact (h _ _ _ _ _ rfl rfl).elim
  ·exact zBs
def zJC (tk nl:Bool) (d:Option Nat) (t:TypeId) (x:Operand):PX :=
 match x with
 | .const (.slice none 0 0) => .emb (zFY P tk nl d t x)
 | x=>zLa x fun p=>bif tk then zTw p (zIx d) else zIx d p
theorem zM8 {tk nl:Bool} {d:Option Nat} {t:TypeId} {x:Operand}:(zJC P tk nl d t x).toPM=zFY P tk nl d t x:=by
 unfold zJC
 split
 ·rfl
 ·rename_i h
  unfold zFY
  split
  ·exact (h rfl).elim
  ·simp only [zF4,zDi,zOq,zNH]
def zSk (d:Option Nat) (t:TypeId) (x:Operand):PX:=zLa x fun p=>match shT P t,szT P t with
 | some sh,some n => .test (decide (p.cells.length=n)) (.test (decide (p.isAgg=sh.isSome)) (.test p.whole (zGc d (.box p))))
 | _,_ => .fail
theorem zQq {d:Option Nat} {t:TypeId} {x:Operand}:(zSk P d t x).toPM=zSQ P d t x:=by
 simp only [zSk,zSQ,zF4]
 congr 1;funext p
 cases shT P t<;>cases szT P t<;>first | rfl | skip
 simp only [PX.toPM,zBs,zBv,Bool.and_eq_true,decide_eq_true_eq]
 split<;>split<;>(try split)<;>simp_all
def zUF (nz:Option Nat) (x:Operand) (k:PV→PX):PX :=
 match nz,x with
 | some s,.const (.slice none 0 0)=>k (.own s [])
 | _,x=>zLa x k
def zOj (nz:Option Nat):List Operand→(List PV→PX)→PX
 | [],k=>k []
 | x::xs,k=>zUF nz x fun p=>zOj nz xs fun ps=>k (p::ps)
theorem zTV {nz:Option Nat} {x:Operand} {k:PV→PX}:(zUF nz x k).toPM=zWL nz x fun p=>(k p).toPM:=by
 unfold zUF zWL
 split
 ·rfl
 ·rename_i h
  rw [zF4]
  split
  ·exact (h _ rfl rfl).elim
  ·rfl
theorem zM1 {nz:Option Nat}:∀ {xs:List Operand} {k:List PV→PX},(zOj nz xs k).toPM=zPD nz xs fun p=>(k p).toPM
 | [],_=>rfl
 | x::xs,k=>by simp only [zOj,zPD,zTV,zM1]
def zFb (tk:Bool) (d:Option Nat) (t:TypeId) (n:Nat) (ps:List (Nat×Operand)):PX :=
 match zBY P t with
 | some e=>match szT P e,zCD P e with
  | some s,some z=>if n*s≤65536&&Nat.beq z.cells.length s&&ps.all (fun x=>x.1<n) then zOj (zWm (zCD P e)) (ps.map (·.2)) fun vs=>zIk tk vs fun vs =>
    .sames vs fun vs => .test (zBw vs).isEmpty (.test (vs.all (fun v=>v.cells.length=s&&v.isAgg=z.isAgg&&v.whole)) (zGc d (.own s (zM4 n z ((ps.map (·.1)).zip vs)))))
   else .fail
  | _,_ => .fail
 | none => .fail
theorem zIa {tk:Bool} {d:Option Nat} {t:TypeId} {n:Nat} {ps:List (Nat×Operand)}:(zFb P tk d t n ps).toPM=zDG P tk d t n ps:=by
 simp only [zFb,zDG]
 cases zBY P t with
 | none=>rfl
 | some e =>
  simp only
  generalize szT P e=a1
  generalize zCD P e=a2
  cases a1<;>cases a2<;>first | rfl | skip
  simp only [zOH,zM1,zI3,PX.toPM,zBs]
  congr 1;congr 1;funext vs;congr 1;funext vs
  cases (zBw vs).isEmpty with
  | false=>rfl
  | true=>simp only [cond_true,Bool.true_and,zBv,if_true]
def zOf (d:Option Nat) (sh:Option Nat) (p:PV):PX :=
 match p with
 | .ref q => .test (decide (q.isAgg=sh.isSome)) (.test (decide (q.cells.length=sh.getD 1)) (zGc d q))
 | .addr r pre i c _=>zQj r pre i c sh (zGc d)
 | _ => .fail
theorem zMm {d:Option Nat} {sh:Option Nat} {p:PV}:(zOf d sh p).toPM=zPm d sh p:=by
 cases p<;>simp only [zOf,zPm,PX.toPM,zLs,zBs]
 simp only [zBv,Bool.and_eq_true,decide_eq_true_eq]
 split<;>split<;>simp_all
def zNI (tk:Bool) (d:Option Nat) (t:TypeId) (a:Operand):PX:=zV6 (shT P t) fun sh=>zGJ a fun p =>
 bif tk then (match p with
  | .addr r pre i c _=>zQj r pre i c sh fun v=>zPH zAb zDw v (zGc d)
  | p=>zOf d sh p) else zOf d sh p
theorem zPY {tk:Bool} {d:Option Nat} {t:TypeId} {a:Operand}:(zNI P tk d t a).toPM=zOB P tk d t a:=by
 simp only [zNI,zOB,zJY,zB7,zDi,zMm]
 congr 1;funext sh;congr 1;funext p;congr 1
 cases p<;>simp only [zMm,zLs,zFH,zBs]
def zRu (d:Option Nat) (op:BinOp) (t:TypeId) (x y:Operand):PX:=zGJ x fun p=>zGJ y fun q => .pick (zHp P op t p q) (zGc d)
theorem zR8 {d:Option Nat} {op:BinOp} {t:TypeId} {x y:Operand}:(zRu P d op t x y).toPM=zUc P d op t x y:=by
 simp only [zRu,zUc,zB7,zJu,zBs]
def zZj (d:Option Nat) (op:UnOp) (p:PV):PX :=
 match op,p with
 | .not,.bool b=>zGc d (.bool !b)
 | .neg,.int k n=>zGc d (.int k (k.wrap (0-n)))
 | _,_ => .fail
theorem zVe {d:Option Nat} {op:UnOp} {p:PV}:(zZj d op p).toPM=unV d op p:=by
 cases op<;>cases p<;>first | rfl | exact zBs
def zRn (d:Option Nat) (t:TypeId) (p:PV):PX :=
 match P.underlying t,p with
 | some (.int k),.int _ n=>zGc d (.int k (k.wrap n))
 | _,_ => .fail
theorem zRl {d:Option Nat} {t:TypeId} {p:PV}:(zRn P d t p).toPM=zQw P d t p:=by
 simp only [zRn,zQw]
 cases P.underlying t with
 | none=>rfl
 | some u=>cases u<;>cases p<;>first | rfl | exact zBs
def zFG (d:Option Nat) (t:TypeId) (l c:Operand):PX :=
 zGJ l fun l=>zFC l fun l=>zGJ c fun c=>zFC c fun c=>match zBY P t with
 | some e=>match zCD P e,szT P e,zHL P e with
  | some z,some s,some b => .test (decide (l≤c)) (.test (decide (c≤zAU)) (.test (decide (b≤16384∧z.cells.length=s)) (zGc d (.own s (List.replicate l z)))))
  | _,_,_ => .fail
 | none => .fail
theorem zIW {d:Option Nat} {t:TypeId} {l c:Operand}:(zFG P d t l c).toPM=zEY P d t l c:=by
 simp only [zFG,zEY,zB7,zEN]
 congr 1;funext p;congr 1;funext l;congr 1;funext q;congr 1;funext c
 cases zBY P t with
 | none=>rfl
 | some e =>
  simp only
  generalize zCD P e=a1
  generalize szT P e=a2
  generalize zHL P e=a3
  cases a1<;>cases a2<;>cases a3<;>first | rfl | skip
  simp only [PX.toPM,zBs,zBv,decide_eq_true_eq]
  by_cases h1:l≤c<;>by_cases h2:c≤zAU<;>simp [h1,h2]
def zNi (d:Option Nat) (n:Nat) (e:TypeId) (p:PV) (i:Nat):PX :=
 match szT P e,shT P e with
 | some s,some sh => .test (decide (i<n)) (.pick (zCl p (i*s) sh) (zGc d))
 | _,_ => .fail
def zQL (d:Option Nat) (e:TypeId) (p:PV) (i:Nat):PX :=
 match p with
 | .sl xs => .pick (xs[i]?) fun x => .test (decide (szT P e=some x.cells.length)) (zGc d (.ref x))
 | .bor r pre z lo n=>match shT P e with
  | some sh => .test (decide (i<n)) (.test (decide (szT P e=some z)) (.num (some (lo+i)) fun j=>zGc d (.addr r pre j 0 sh)))
  | none => .fail
 | .bsl r pre j c s ag n => .test (decide (i<n)) (.test (decide (szT P e=some s)) (.num (some (c+i*s)) fun c=>zGc d (.addr r pre j c (if ag then some s else none))))
 | _ => .fail
theorem zPB {d:Option Nat} {n:Nat} {e:TypeId} {p:PV} {i:Nat}:(zNi P d n e p i).toPM=zOW P d n e p i:=by
 simp only [zNi,zOW]
 generalize szT P e=a1
 generalize shT P e=a2
 cases a1<;>cases a2<;>first | rfl | skip
 simp only [PX.toPM,zJu,zBs,zBv,decide_eq_true_eq]
theorem zQC {d:Option Nat} {e:TypeId} {p:PV} {i:Nat}:(zQL P d e p i).toPM=zQB P d e p i:=by
 cases p<;>simp only [zQL,zQB,PX.toPM,zJu,zBs]
 ·congr 1;funext x;simp only [zBv,decide_eq_true_eq]
 ·cases shT P e with
  | none=>rfl
  | some sh =>
   simp only [PX.toPM,zBs,zBv,decide_eq_true_eq]
   split<;>split<;>simp_all
 ·simp only [zBv,decide_eq_true_eq]
  split<;>split<;>simp_all
def zFo (d:Option Nat) (t:TypeId) (x i:Operand):PX :=
 zGJ x fun p=>zGJ i fun i=>zFC i fun i=>match P.underlying t with
 | some (.array n e)=>zNi P d n e p i
 | some (.slice e)=>zQL P d e p i
 | _ => .fail
theorem zIP {d:Option Nat} {t:TypeId} {x i:Operand}:(zFo P d t x i).toPM=zE7 P d t x i:=by
 simp only [zFo,zE7,zB7,zEN]
 congr 1;funext p;congr 1;funext q;congr 1;funext i
 cases P.underlying t with
 | none=>rfl
 | some u=>cases u<;>first | rfl | exact zPB P | exact zQC P
def zK3 (d:Option Nat) (t:TypeId) (x i:Operand):PX :=
 zGJ x fun p=>zGJ i fun i=>zFC i fun i=>match P.underlying t with
 | some (.array n e)=>match szT P e,shT P e with
  | some s,some sh => .test (decide (i<n)) (.pick (sub p (i*s) sh) (zGc d))
  | _,_ => .fail
 | _ => .fail
theorem zNP {d:Option Nat} {t:TypeId} {x i:Operand}:(zK3 P d t x i).toPM=zKU P d t x i:=by
 simp only [zK3,zKU,zB7,zEN]
 congr 1;funext p;congr 1;funext q;congr 1;funext i
 cases P.underlying t with
 | none=>rfl
 | some u =>
  cases u<;>first | rfl | skip
  rename_i n e
  simp only
  generalize szT P e=a1
  generalize shT P e=a2
  cases a1<;>cases a2<;>first | rfl | skip
  simp only [PX.toPM,zJu,zBs,zBv,decide_eq_true_eq]
def zV5 (x:Option Operand) (n:Nat) (k:Nat→PX):PX :=
 match x with
 | some x=>zGJ x fun p=>zFC p k
 | none=>k n
theorem zRa {x:Option Operand} {n:Nat} {k:Nat→PX}:(zV5 x n k).toPM=zSH x n fun m=>(k m).toPM:=by
 cases x with
 | none=>rfl
 | some x=>simp only [zV5,zSH,zB7,zEN]
def zNC (d:Option Nat) (s:Nat) (p:PV) (l h:Nat):PX :=
 match p with
 | .sl xs => .test (Nat.ble l h) (.test (Nat.ble h xs.length) (.test (xs.all (fun x=>Nat.beq x.cells.length s)) (zGc d (.sl ((xs.drop l).take (h-l))))))
 | .bor r pre z a n =>
  .test (Nat.beq z s) (.test (Nat.ble l h) (
   .choose (Nat.ble h n) (.choose (Nat.beq l 0||Nat.blt l h) (zGc d (.bor r pre z (a+l) (h-l))) (zGc d (.sl [])))
   (.deep r pre fun q=>match q with
    | .own _ xs => .test (Nat.ble (a+h) xs.length) (.choose (Nat.beq l 0||Nat.blt l h) (zGc d (.bor r pre z (a+l) (h-l))) (zGc d (.sl [])))
    | _ => .fail)))
 | _ => .fail
theorem zS8 {d:Option Nat} {b:Bool} {p q:PV}:put d (bif b then p else q)=bif b then put d p else put d q:=by cases b<;>rfl
theorem zP5 {d:Option Nat} {s:Nat} {p:PV} {l h:Nat}:(zNC d s p l h).toPM=zOO d s p l h:=by
 cases p<;>simp only [zNC,zOO,PX.toPM,zBs,zDn,zS8]
 congr 1;congr 1;congr 1;congr 1;funext q
 cases q<;>first | rfl | simp only [PX.toPM,zBs]
def zNf (d:Option Nat) (n s:Nat) (sh:Option Nat) (p:PV) (l h:Nat):PX :=
 .test (Nat.ble l h) (.test (Nat.ble h n) (.test (Nat.beq l 0||Nat.blt l n) (
  match p with
  | .addr r pre i c _ => .num (some (h-l)) fun m=>zGc d (.bsl r pre i (c+l*s) s sh.isSome m)
  | .ref (.agg cs) => .test (Nat.ble (n*s) cs.length) (.test (zCk sh.isSome s (h-l) ((cs.drop (l*s)).take ((h-l)*s))) (.test (zBw cs).isEmpty (zGc d (.sl (zCj sh.isSome s (h-l) ((cs.drop (l*s)).take ((h-l)*s)))))))
  | _ => .fail)))
theorem zPs {d:Option Nat} {n s:Nat} {sh:Option Nat} {p:PV} {l h:Nat}:(zNf d n s sh p l h).toPM=zQ7 d n s sh p l h:=by
 cases p<;>simp only [zNf,zQ7,PX.toPM,zBs,zDn]
 rename_i q
 cases q<;>simp only [PX.toPM,zBs,zDn]
def zRC (d:Option Nat) (t:TypeId) (x:Operand) (lo hi mx:Option Operand):PX :=
 match mx with
 | some m => .emb (zIY P d t x lo hi (some m))
 | none=>zGJ x fun p=>match P.underlying t with
  | some (.array n e)=>match szT P e,shT P e with
   | some s,some sh=>zV5 hi n fun h=>zV5 lo 0 fun l=>zNf d n s sh p l h
   | _,_ => .fail
  | some (.slice e)=>match szT P e,lenOf p with
   | some s,some n=>zV5 hi n fun h=>zV5 lo 0 fun l=>zNC d s p l h
   | _,_ => .fail
  | _ => .fail
theorem zRm {d:Option Nat} {t:TypeId} {x:Operand} {lo hi mx:Option Operand}:(zRC P d t x lo hi mx).toPM=zIY P d t x lo hi mx:=by
 cases mx with
 | some _=>rfl
 | none =>
  simp only [zRC,zIY,zB7]
  congr 1;funext p
  cases P.underlying t with
  | none=>rfl
  | some u =>
   cases u<;>first | rfl | skip
   ·rename_i e
    simp only
    generalize szT P e=a1
    generalize lenOf p=a2
    cases a1<;>cases a2<;>first | rfl | simp only [zRa,zP5]
   ·rename_i n e
    simp only
    generalize szT P e=a1
    generalize shT P e=a2
    cases a1<;>cases a2<;>first | rfl | simp only [zRa,zPs]
def zJS (es:List (PV×PV)) (i:Nat):Option PV:=(es[i]?).map (·.2)
def zJW (d:Option Nat) (kt:TypeId) (z key:PV) (ok:Bool) (es:List (PV×PV)):PX :=
 .idx (zC7 P kt key es 0) fun x=>match x with
 | some i => .pick (zJS es i) fun v => .test v.lone (zEQ d (if ok then .tup [v,.bool true] else v))
 | none=>zEQ d (if ok then .tup [z,.bool false] else z)
theorem zKm {d:Option Nat} {kt:TypeId} {z key:PV} {ok:Bool} {es:List (PV×PV)}:(zJW P d kt z key ok es).toPM=zJy P d kt z key ok es:=by
 simp only [zJW,zJy,PX.toPM]
 cases zC7 P kt key es 0 with
 | none=>rfl
 | some x =>
  cases x with
  | none=>exact zEy
  | some i =>
   show (PX.pick (zJS es i) fun v => .test v.lone (zEQ d (if ok then .tup [v,.bool true] else v))).toPM=_
   rw [zJu]
   simp only [zJS,PX.toPM,zEy]
   cases es[i]?<;>rfl
def zRR (d:Option Nat) (kt:TypeId) (z key:PV) (ok:Bool) (m:PV):PX :=
 match m with
 | .nilm=>zJW P d kt z key ok []
 | .map es=>zJW P d kt z key ok es
 | .bmap r pre => .deep r pre fun q=>match q with
  | .omap es=>zJW P d kt z key ok es
  | _ => .fail
 | _ => .fail
theorem zSm {d:Option Nat} {kt:TypeId} {z key:PV} {ok:Bool} {m:PV}:(zRR P d kt z key ok m).toPM=zT9 P d kt z key ok m:=by
 cases m<;>first | rfl | exact zKm P | skip
 simp only [zRR,zT9,PX.toPM]
 congr 1;funext q
 cases q<;>first | rfl | exact zKm P
def zJc (d:Option Nat) (t:TypeId) (m x:Operand) (ok:Bool):PX :=
 zGJ m fun m=>zGJ x fun key=>match P.underlying t with
 | some (.map kt e) => .test (zPd P 20 kt key) (zV6 (zCD P e) fun z => .test (zJd z).lone (zRR P d kt (zJd z) key ok m))
 | _ => .fail
theorem zM9 {d:Option Nat} {t:TypeId} {m x:Operand} {ok:Bool}:(zJc P d t m x ok).toPM=zIy P d t m x ok:=by
 simp only [zJc,zIy,zB7]
 congr 1;funext p;congr 1;funext q
 cases P.underlying t with
 | none=>rfl
 | some u=>cases u<;>first | rfl | simp only [PX.toPM,zJY,zSm]
def zUq (es:List (PV×PV)) (k:List (PV×PV)→PX):PX := .same (.omap es) fun q=>match q with
 | .omap es=>k es
 | _ => .fail
def zNX (kt:TypeId) (key v m:PV):PX :=
 match m with
 | .bmap r pre => .test v.lone (.deep r pre fun q=>match q with
  | .omap es => .idx (zC7 P kt key es 0) fun x=>match x with
   | some i=>zUq (es.modify i fun _=>(key,v)) fun es => .wnode r pre (.omap es) .ok
   | none=>zUq (es++[(key,v)]) fun es => .wnode r pre (.omap es) .ok
  | _ => .fail)
 | _ => .fail
theorem zPV {kt:TypeId} {key v m:PV}:(zNX P kt key v m).toPM=zMO P kt key v m:=by
 cases m<;>first | rfl | skip
 simp only [zNX,zMO,PX.toPM]
 congr 1;congr 1;funext q
 cases q<;>first | rfl | skip
 rename_i es
 simp only [PX.toPM]
 cases zC7 P kt key es 0 with
 | none=>rfl
 | some x=>cases x<;>rfl
def zFz (t:TypeId) (m x y:Operand):PX:=zGJ m fun m=>zGJ x fun key=>match P.underlying t with
 | some (.map kt _) => .test (zPd P 20 kt key&&key.flat) (zLa y fun v=>zPH zAb zDw v fun v=>zNX P kt key (zAT v) m)
 | _ => .fail
theorem zI2 {t:TypeId} {m x y:Operand}:(zFz P t m x y).toPM=zEV P t m x y:=by
 simp only [zFz,zEV,zB7]
 congr 1;funext p;congr 1;funext q
 cases P.underlying t with
 | none=>rfl
 | some u=>cases u<;>first | rfl | simp only [PX.toPM,zF4,zFH,zPV]
def zUe (es:List (PV×PV)) (i:Nat):Option PV:=(es[i]?).map (·.1)
def zNx (d:Option Nat) (kt:TypeId) (z key m:PV):PX :=
 match m with
 | .bmap r pre => .deep r pre fun q=>match q with
  | .omap es => .idx (zC7 P kt key es 0) fun x=>match x with
   | some i => .pick (zJS es i) fun v => .test v.lone (.wnode r pre (.omap (es.modify i fun _=>(key,v))) (zEQ d (.tup [v,.int .i64 i])))
   | none => .wnode r pre (.omap (es++[(key,z)])) (zEQ d (.tup [z,.int .i64 es.length]))
  | _ => .fail
 | _ => .fail
theorem zPT {d:Option Nat} {kt:TypeId} {z key m:PV}:(zNx P d kt z key m).toPM=zOi P d kt z key m:=by
 cases m<;>first | rfl | skip
 simp only [zNx,zOi,PX.toPM]
 congr 1;funext q
 cases q<;>first | rfl | skip
 rename_i es
 simp only [PX.toPM]
 cases zC7 P kt key es 0 with
 | none=>rfl
 | some x =>
  cases x with
  | none=>simp only [PX.toPM,zEy]
  | some i =>
   simp only [PX.toPM,zJS]
   cases es[i]? with
   | none=>rfl
   | some kv=>obtain ⟨k,v⟩:=kv;simp only [Option.map_some,PX.toPM,zEy]
def zGA (d:Option Nat) (t:TypeId) (m x:Operand):PX:=zGJ m fun m=>zGJ x fun key=>match P.underlying t with
 | some (.map kt el) => .test (zPd P 20 kt key&&key.flat) (zV6 (zCD P el) fun z => .test (zJd z).lone (zNx P d kt (zJd z) key m))
 | _ => .fail
theorem zJ2 {d:Option Nat} {t:TypeId} {m x:Operand}:(zGA P d t m x).toPM=zF8 P d t m x:=by
 simp only [zGA,zF8,zB7]
 congr 1;funext p;congr 1;funext q
 cases P.underlying t with
 | none=>rfl
 | some u=>cases u<;>first | rfl | simp only [PX.toPM,zJY,zPT]
def zIO (i:Nat) (v m:PV):PX :=
 match m with
 | .bmap r pre => .test v.lone (.deep r pre fun q=>match q with
  | .omap es => .pick (zUe es i) fun k => .wnode r pre (.omap (es.modify i fun _=>(k,v))) .ok
  | _ => .fail)
 | _ => .fail
theorem zM7 {i:Nat} {v m:PV}:(zIO i v m).toPM=zIh i v m:=by
 cases m<;>first | rfl | skip
 simp only [zIO,zIh,PX.toPM]
 congr 1;congr 1;funext q
 cases q<;>first | rfl | skip
 rename_i es
 simp only [PX.toPM,zUe]
 cases es[i]? with
 | none=>rfl
 | some kv=>obtain ⟨k,x⟩:=kv;rfl
def zE9 (m s y:Operand):PX:=zGJ m fun m=>zGJ s fun s=>zFC s fun i=>zLa y fun v=>zPH zAb zDw v fun v=>zIO i (zAT v) m
theorem zIb {m s y:Operand}:(zE9 m s y).toPM=zEo m s y:=by
 simp only [zE9,zEo,zB7,zEN,zF4,zFH,zM7]
def zNW (d:Option Nat) (c:Call):PX :=
 match c.callee with
 | .builtin b=>zLH P d b c.argTypes.toList c.args.toList
 | .value f=>zGJ f (zQO H d c.args.toList)
 | _ => .fail
theorem zPo {d:Option Nat} {c:Call}:(zNW P H d c).toPM=zKM P H d c:=by
 simp only [zNW,zKM]
 cases c.callee<;>simp only [PX.toPM,zNU,zB7,zQz]
def opX (fz tk nl:Bool) (o:Oper):PX :=
 match o.op with
 | .assign x=>zJC P tk nl o.dst o.type x
 | .box t x=>zSk P o.dst t x
 | .buildSlice t n ps=>zFb P tk o.dst t n ps.toList
 | .load t a=>zNI P tk o.dst t a
 | .store t a x=>zQF P fz tk t a x
 | .binOp op t x y _=>zRu P o.dst op t x y
 | .unOp op _ x=>zGJ x (zZj o.dst op)
 | .convert _ t x=>zGJ x (zRn P o.dst t)
 | .makeSlice t l c=>zFG P o.dst t l c
 | .slice t x lo hi mx=>zRC P o.dst t x lo hi mx
 | .indexAddr t x i=>zFo P o.dst t x i
 | .index t x i=>zK3 P o.dst t x i
 | .lookup t m x ok=>zJc P o.dst t m x ok
 | .mapUpdate t m x y=>zFz P t m x y
 | .mapEntry t m x=>zGA P o.dst t m x
 | .entryStore _ m s x=>zE9 m s x
 | .call c=>zNW P H o.dst c
 | _ => .emb (opM P H fz tk nl o)
theorem zXc {fz tk nl:Bool} {o:Oper}:(opX P H fz tk nl o).toPM=opM P H fz tk nl o:=by
 obtain ⟨dst,op,type,pos,after,guard⟩:=o
 cases op<;>simp only [opX,opM,PX.toPM,zM8,zQq,zIa,zPY,zRG,zR8,zB7,zVe,zRl,zIW,zRm,zIP,zNP,zM9,zI2,zJ2,zIb,zPo]
end
end Go.Eng
namespace Go.Eng
open Go
section
variable [Yo] {P:Program} {H:zBb} {f:FuncId} {nt:Nat} {e e':Env} {lg:Option Log} {K:X→Env→Option Log→Prop} {i:Nat} {c:Code} {s:RS} {R:Env→Option Log→Prop}
abbrev zYy (P:Program) (H:zBb) (f:FuncId) (c:Code) (i:Nat):PX:=opX P H (((H f).frzs (rid c)).contains i) (((H f).take (rid c)).contains i) (H f).nils (zEg c i)
def zV3 [Yo] (P:Program) (H:zBb) (f:FuncId) (c:Code) (i:Nat) (as:Ans) (s:RS):Option (RS×List Prop) :=
 match (zYy P H f c i).run P H as s.e with
 | some (e',t,obs)=>(zSc c i s e' t).map fun s'=>(s',obs)
 | none=>none
def rsX (o:Option (RS×List Prop)):RS:=zV0 (o.map (·.1))
theorem S_x (as:Ans) (obs:List Prop) (ho:zSD obs) (h:WS P H f c (i+1) (rsX (zV3 P H f c i as s)) R) (hq:(zV3 P H f c i as s).map (·.2)=some obs:=by kernel_rfl) (hi:Nat.blt i (zFh c).size=true:=by kernel_rfl):WS P H f c i s R:=by
 obtain ⟨⟨s',obs'⟩,hs,hq⟩:=Option.map_eq_some_iff.1 hq
 simp only at hq;subst hq
 simp only [zV3] at hs
 split at hs
 ·rename_i e1 t obs hr
  obtain ⟨s1,h1,h2⟩:=Option.map_eq_some_iff.1 hs
  simp only [Prod.mk.injEq] at h2
  obtain ⟨rfl,rfl⟩:=h2
  obtain ⟨n0,hn⟩:=PX.run_ok hr ho
  refine zY5 (m:=some (e1,t)) ⟨n0,fun n vp=>?_⟩ ?_ ?_ hi
  ·have:=hn n vp
   rw [zXc] at this
   exact this
  ·simpa [rsX,zV3,hr,h1] using h
  ·simp [h1]
 ·cases hs
def zUJ (p:PV) (k:PV→PX) (k2:PX):PX :=
 match p with
 | .bor r pre _ lo n => .deep r pre fun q=>match q with
  | .own sz xs => .choose (Nat.ble (lo+n) xs.length) (.wnode r pre .bad (.same (.own sz ((xs.drop lo).take n)) k)) k2
  | _=>k2
 | .addr r pre 0 0 _ => .deep r pre fun q=>match q with
  | .box q => .wnode r pre .bad (k (.box q))
  | _=>k2
 | .bmap r pre => .deep r pre fun q=>match q with
  | .omap es => .wnode r pre .bad (k (.omap es))
  | _=>k2
 | _=>k2
omit [Yo] in
theorem zSO {p:PV} {k:PV→PX} {k2:PX}:(zUJ p k k2).toPM=zQi p (fun q=>(k q).toPM) k2.toPM:=by
 unfold zUJ zQi
 split
 ·simp only [PX.toPM]
  congr 1;funext q
  cases q<;>rfl
 ·simp only [PX.toPM]
  congr 1;funext q
  cases q<;>rfl
 ·simp only [PX.toPM]
  congr 1;funext q
  cases q<;>rfl
 ·rename_i h1 h2 h3
  split
  ·exact (h1 _ _ _ _ _ rfl).elim
  ·exact (h2 _ _ _ rfl).elim
  ·exact (h3 _ _ rfl).elim
  ·rfl
def zLu (frz:Bool) (p:PV) (k:PV→PX):PX :=
 bif frz||p.ways.any (fun w=>Nat.ble zAm w.1) then zPH zAm zDw p k else zUJ p k (zPH zAm zDw p k)
def zEk (frz:Bool):List PV→(List PV→PX)→PX
 | [],k=>k []
 | p::ps,k=>zLu frz p fun q=>zEk frz ps fun qs=>k (q::qs)
def zId (frz:Bool) (p:PV) (k:PV→PX):PX :=
 match p with
 | .agg cs => .choose (cs.all fun q=>q.num) (k (.agg cs)) (zEk frz cs fun qs=>k (.agg qs))
 | p=>zLu frz p k
omit [Yo] in
theorem zKP {frz:Bool} {p:PV} {k:PV→PX}:(zLu frz p k).toPM=zFO frz p fun q=>(k q).toPM:=by
 simp only [zLu,zFO,zDi,zFH,zSO]
omit [Yo] in
theorem zFv {frz:Bool}:∀ {ps:List PV} {k:List PV→PX},(zEk frz ps k).toPM=zCn frz ps fun qs=>(k qs).toPM
 | [],_=>rfl
 | p::ps,k=>by simp only [zEk,zCn,zKP,zFv]
omit [Yo] in
theorem zNR {frz:Bool} {p:PV} {k:PV→PM} (h:p.num=true):zFO frz p k=k p:=by
 cases p<;>first | (cases h;done) | skip
 all_goals cases frz<;>rfl
omit [Yo] in
theorem zFj {frz:Bool}:∀ {ps:List PV} {k:List PV→PM},ps.all (fun q=>q.num)=true→zCn frz ps k=k ps
 | [],_,_=>rfl
 | p::ps,k,h=>by
  simp only [List.all_cons,Bool.and_eq_true] at h
  simp only [zCn,zNR h.1,zFj h.2]
omit [Yo] in
theorem zJa {frz:Bool} {p:PV} {k:PV→PX}:(zId frz p k).toPM=zGC frz p fun q=>(k q).toPM:=by
 cases p<;>first | exact zKP | skip
 rename_i cs
 simp only [zId,zGC,PX.toPM,zFv]
 cases h:cs.all fun q=>q.num with
 | false=>rfl
 | true=>simp only [cond_true];exact (zFj (k:=fun qs=>(k (.agg qs)).toPM) h).symm
def zHE (P:Program) (frz:Bool):Nat→List ResultVar→PX
 | _,[] => .ok
 | j,.tmp t::rs => .view t fun p=>zId frz p fun q => .same q fun q=>zV4 (zAv+j) q (zHE P frz (j+1) rs)
 | j,.cell a t::rs=>zV6 (shT P t) fun sh => .view a fun p=>match p with
  | .addr r pre i c _=>zQj r pre i c sh fun v=>zId frz v fun q => .same q fun q=>zV4 (zAv+j) q (zHE P frz (j+1) rs)
  | _ => .fail
omit [Yo] in
theorem zHH {frz:Bool}:∀ {rs:List ResultVar} {j:Nat},(zHE P frz j rs).toPM=zCG P frz j rs
 | [],_=>rfl
 | .tmp t::rs,j=>by simp only [zHE,zCG,PX.toPM,zJa,zLD,zHH]
 | .cell a t::rs,j=>by
  simp only [zHE,zCG,zJY,PX.toPM]
  congr 1;funext sh;congr 1;funext p
  cases p<;>first | rfl | simp only [zLs,zJa,PX.toPM,zLD,zHH]
def zLy [Yo] (P:Program) (H:zBb) (f:FuncId) (fn:Func) (as:Ans) (e:Env) (nh:Nat):Option ((PV×List PV)×List Prop) :=
 match (zHE P (H f).frz 0 fn.results.toList).run P H as e with
 | some (e',_,obs)=>bif Nat.beq fn.results.size 1&&(e'.get zAv).isTup then none else some ((zVl e' fn.results.size,(List.range nh).map fun j=>e'.get (zAm+j)),obs)
 | none=>none
def zTJ [Yo] (P:Program) (H:zBb) (f:FuncId) (fn:Func) (nh:Nat) (v:PV) (hO:List PV) (x:X) (e:Env) (lg:Option Log):Prop :=
 (x = .norm∨x = .ret)∧lg=none∧∃ n0,∀ n,n0≤n→∃ e',(zCG P (H f).frz 0 fn.results.toList).run (zCV P H n) e=some e'∧(bif Nat.beq fn.results.size 1&&(e'.get zAv).isTup then none else some (zVl e' fn.results.size,(List.range nh).map fun j=>e'.get (zAm+j)))=some (v,hO)
theorem E_x {fn:Func} {nh:Nat} {v:PV} {h:List PV} {x:X} (as:Ans) (obs:List Prop) (v':PV) (h':List PV) (ho:zSD obs) (hv:v'=v) (hh:h'=h) (hf:zLy P H f fn as e nh=some ((v',h'),obs):=by kernel_rfl) (hl:lg=none:=by kernel_rfl) (hx:x = .norm∨x = .ret:=by first | exact .inr rfl | exact .inl rfl):zTJ P H f fn nh v h x e lg:=by
 subst hv;subst hh
 simp only [zLy] at hf
 split at hf
 ·rename_i e1 t obs' hr
  rcases zBg hf with ⟨_,hf⟩ | ⟨hb,hf⟩
  ·cases hf
  ·simp only [Option.some.injEq,Prod.mk.injEq] at hf
   obtain ⟨⟨h1,h2⟩,rfl⟩:=hf
   obtain ⟨n0,hn⟩:=PX.run_ok hr ho
   refine ⟨hx,hl,n0,fun n vp=>⟨e1,?_,?_⟩⟩
   ·have:=hn n vp
    rw [zHH] at this
    exact zD7 this
   ·rw [hb];simp only [cond_false,h1,h2]
 ·cases hf
theorem zAe (fn:Func) {args hid:List PV} {v:PV} {hO:List PV} (h:W P H f fn.ntmps (fn.body.getD .ret) (zA5 args hid) none (zTJ P H f fn hid.length v hO)) (hf:P.funcs[f]? = some fn:=by kernel_rfl) (hi:(H f).intr=0:=by kernel_rfl) (hb:fn.body.isSome=true:=by kernel_rfl)
  (hc:(Nat.ble args.length fn.ntmps&&Nat.ble hid.length 1000&&args.all (fun p => !p.isTup))=true:=by kernel_rfl):zBD P H f args hid v hO:=by
 obtain ⟨body,hb⟩:∃ body,fn.body=some body:=by cases hx:fn.body<;>first | exact ⟨_,rfl⟩ | (rw [hx] at hb;cases hb)
 simp only [hb,Option.getD_some] at h
 obtain ⟨n0,x,e1,lg1,h1,hx,rfl,n1,hr⟩:=h
 refine ⟨max n0 n1+1,fun n hn=>?_⟩
 obtain ⟨n,rfl⟩:∃ k,n=k+1:=⟨n-1,by omega⟩
 have j7:=h1 n (n+1) (by omega) (by omega)
 obtain ⟨e2,h2,hr⟩:=hr n (by omega)
 show zHG P H (zCV P H n) Yo.yo zB5 (n+1) f args hid=_
 simp only [zHG,hf,hi,hb,zJl,hc,cond_true,j7,ne_eq,not_true,if_false]
 rcases hx with rfl | rfl<;>simp only [h2,hr]
theorem zVM (k:Int) (xss:List (List PV)) (args:List PV) (a:Nat) (h1:k=1→WS P H f c (i+1) ⟨(zFf s.dr i (zEg c i) {all:=true}).getD none,zNy ((put (zEg c i).dst (.bool false)).run zHO (s.e.forget zAb)),some ⟨xss++[args],k-1,a⟩⟩ R)
  (h2:k≠1→WS P H f c (i+1) ⟨(zFf s.dr i (zEg c i) {all:=true}).getD none,zNy ((put (zEg c i).dst (.bool true)).run zHO s.e),some ⟨xss++[args],k-1,a⟩⟩ R) (hk:k≠0)
  (hy:zB9 s.e (zEg c i)=some (a,args):=by kernel_rfl) (hl:s.lg=some ⟨xss,k,a⟩:=by kernel_rfl) (hw:zLn (zFh c) s.e (zEg c i)=some true:=by kernel_rfl) (hf:args.all PV.flat=true:=by kernel_rfl)
  (hd:(zFf s.dr i (zEg c i) {all:=true}).isSome=true:=by kernel_rfl) (kV:((put (zEg c i).dst (.bool false)).run zHO (s.e.forget zAb)).isSome=true:=by kernel_rfl) (kF:((put (zEg c i).dst (.bool true)).run zHO s.e).isSome=true:=by kernel_rfl)
  (hi:Nat.blt i (zFh c).size=true:=by kernel_rfl):WS P H f c i s R:=by
 have wU:zFf s.dr i (zEg c i) {all:=true}=some ((zFf s.dr i (zEg c i) {all:=true}).getD none):=by
  cases hx:zFf s.dr i (zEg c i) {all:=true} with
  | none=>rw [hx] at hd;cases hd
  | some d=>rfl
 have vK:(k != 0)=true:=by simpa using hk
 by_cases jP:k=1
 ·refine zLb hi ⟨0,fun n _=>?_⟩ wU (h1 jP)
  have hr:(put (zEg c i).dst (.bool false)).run (zCV P H n) (s.e.forget zAb)=some (zNy ((put (zEg c i).dst (.bool false)).run zHO (s.e.forget zAb))):=zGD (zKG kV)
  have wQ:(k==1)=true:=by simpa using jP
  have hyr:zBQ (zCV P H n) (zFh c) (zEg c i) a args ⟨xss,k,a⟩ s.e=some (zNy ((put (zEg c i).dst (.bool false)).run zHO (s.e.forget zAb)),some ⟨xss++[args],k-1,a⟩):=by
   unfold zBQ
   rw [hw]
   simp only
   rw [hf,vK,Nat.beq_refl,wQ]
   simp only [Bool.and_self,cond_true]
   rw [hr];rfl
  rw [hl]
  unfold zEh
  simp only
  rw [hy]
  simp only
  rw [hyr];rfl
 ·refine zLb hi ⟨0,fun n _=>?_⟩ wU (h2 jP)
  have hr:(put (zEg c i).dst (.bool true)).run (zCV P H n) s.e=some (zNy ((put (zEg c i).dst (.bool true)).run zHO s.e)):=zGD (zKG kF)
  have wQ:(k==1)=false:=by simpa using jP
  have hyr:zBQ (zCV P H n) (zFh c) (zEg c i) a args ⟨xss,k,a⟩ s.e=some (zNy ((put (zEg c i).dst (.bool true)).run zHO s.e),some ⟨xss++[args],k-1,a⟩):=by
   unfold zBQ
   rw [hw]
   simp only
   rw [hf,vK,Nat.beq_refl,wQ]
   simp only [Bool.and_self,cond_true,cond_false]
   rw [hr];rfl
  rw [hl]
  unfold zEh
  simp only
  rw [hy]
  simp only
  rw [hyr];rfl
theorem zVJ {σ:Type} {c:Code} (Inv:σ→Prop) (upd:σ→List (Nat×PV)) (L:σ→Option Log) (μ:σ→Nat) (s:σ) (hi:Inv s) (h:∀ s,Inv s→W P H f nt (cl c) (zLM (upd s) (e.drop ((H f).loopDrop (zAQ (cl c))))) (L s) fun x e' lg'=>match x with
   | .norm=>∃ s',Inv s'∧μ s'<μ s∧e'.drop ((H f).loopDrop (zAQ (cl c)))=zLM (upd s') (e.drop ((H f).loopDrop (zAQ (cl c))))∧lg'=L s'
   | x=>K x e' lg') (hs:e.drop ((H f).loopDrop (zAQ (cl c)))=zLM (upd s) (e.drop ((H f).loopDrop (zAQ (cl c)))):=by kernel_rfl) (hl:lg=L s:=by kernel_rfl) (hc:zO6 c=true:=by kernel_rfl):W P H f nt c e lg K:=by
 rw [zMn hc]
 generalize hE:e.drop ((H f).loopDrop (zAQ (cl c)))=e0 at h hs
 have key:∀ (n:Nat) (s:σ) (e:Env) (lg:Option Log),μ s≤n→Inv s→e.drop ((H f).loopDrop (zAQ (cl c)))=zLM (upd s) e0→lg=L s→W P H f nt (.loop (cl c)) e lg K:=by
  intro n
  induction n with
  | zero =>
   intro s e lg hs hi he w8
   subst w8
   obtain ⟨n0,x,e1,lg1,h1,h2⟩:=h s hi
   cases x with
   | norm=>obtain ⟨s',_,h3,_⟩:=h2;omega
   | ex id =>
    refine ⟨n0+1,_,e1,lg1,fun n m hn hm=>?_,h2⟩
    obtain ⟨m,rfl⟩:∃ k,m=k+1:=⟨m-1,by omega⟩
    simp only [exec,he,h1 n m (by omega) (by omega)]
   | ret =>
    refine ⟨n0+1,_,e1,lg1,fun n m hn hm=>?_,h2⟩
    obtain ⟨m,rfl⟩:∃ k,m=k+1:=⟨m-1,by omega⟩
    simp only [exec,he,h1 n m (by omega) (by omega)]
  | succ n ih =>
   intro s e lg hs hi he w8
   subst w8
   obtain ⟨n0,x,e1,lg1,h1,h2⟩:=h s hi
   cases x with
   | norm =>
    obtain ⟨s',h3,h4,h7,h8⟩:=h2
    obtain ⟨n2,x,e2,lg2,h5,h6⟩:=ih s' e1 lg1 (by omega) h3 h7 h8
    refine ⟨max n0 n2+1,x,e2,lg2,fun n m hn hm=>?_,h6⟩
    obtain ⟨m,rfl⟩:∃ k,m=k+1:=⟨m-1,by omega⟩
    simp only [exec,he,h1 n m (by omega) (by omega),h5 n m (by omega) (by omega)]
   | ex id =>
    refine ⟨n0+1,_,e1,lg1,fun n m hn hm=>?_,h2⟩
    obtain ⟨m,rfl⟩:∃ k,m=k+1:=⟨m-1,by omega⟩
    simp only [exec,he,h1 n m (by omega) (by omega)]
   | ret =>
    refine ⟨n0+1,_,e1,lg1,fun n m hn hm=>?_,h2⟩
    obtain ⟨m,rfl⟩:∃ k,m=k+1:=⟨m-1,by omega⟩
    simp only [exec,he,h1 n m (by omega) (by omega)]
 exact key (μ s) s e lg (Nat.le_refl _) hi (hE.trans hs) hl
end
end Go.Eng
namespace Go.Eng
open Go
abbrev I (n:Int):PV := .int .i64 n
abbrev zA9 (l:List Int):PV := .sl (l.map I)
section
theorem zUo {a b:Bool} (ha:a=true) (hb:b=true):(a&&b)=true:=by rw [ha,hb];rfl
theorem zA0 {a b:Nat} (h:a≤b):Nat.ble a b=true:=by rw [Nat.ble_eq];exact h
theorem zBB {a b:Nat} (h:a=b):Nat.beq a b=true:=by rw [h];exact Nat.beq_refl _
theorem zAs {p:Prop} [Decidable p] (h:p):decide p=true:=decide_eq_true h
variable {α:Type} {g:α→PV} {l:List α} {i:Nat} {d:α} {x q root root':PV} {xs:List PV} {r z c n:Nat} {pre rest:zAR}
theorem zCI (d:α) (h:i<l.length):(l.map g)[i]? = some (g (l.getD i d)):=by simp [List.getD,List.getElem?_eq_getElem h]
theorem zLr {u:α}:(l.map g).set i (g u)=(l.set i u).map g:=(List.map_set).symm
theorem zL5 (hx:xs[i]? = some x) {y:PV} (hn:zAx y rest=some q) (hh:zAZ root=some xs:=by kernel_rfl) (hc:x.cells[c]? = some y:=by kernel_rfl):zAx root ((i,c)::rest)=some q:=by
 simp only [zAx,hh,hx,hc,hn]
def zMZ (r:Nat) (pre:zAR) (i c n:Nat) (x:PV):Option (Bool×List PV):=bif Nat.ble (c+n) x.cells.length then some (x.isAgg,zBA r pre i c ((x.cells.drop c).take n)) else none
theorem zC8 {a:Bool} {qs:List PV} (hn:zAx root.unlock pre=some q) (hx:xs[i]? = some x) (hr:zMZ r pre i c n x=some (a,qs):=by kernel_rfl) (hh:zBa q=some xs:=by kernel_rfl):zAr r root pre i c n=some (a,qs):=by
 simp only [zAr,hn,hh,hx];exact hr
theorem zVh {qs:List PV} {xs':List PV} (hx:xs[i]? = some x) (hs:xs.set i (zAw x c qs)=xs') (hb:Nat.ble (c+qs.length) x.cells.length=true:=by kernel_rfl) (hw:(zBw qs).isEmpty=true:=by kernel_rfl):zBP (.own z xs) [] i c qs=some (.own z xs')∧zAN (.own z xs) (.own z xs') []=true:=by
 subst hs
 constructor
 ·simp only [zBP,hw,Bool.not_true,Bool.and_false,cond_false,zAt,zBa,hx,hb,cond_true,zAB]
 ·simp [zAN,zCw]
theorem zBT {x m:Nat} (h:Nat.beq m 1=true):0+x*m=x:=by rw [Nat.eq_of_beq_eq_true h,Nat.mul_one,Nat.zero_add]
theorem zBW {a x m:Nat} (h:Nat.beq m 1=true):a+x*m=a+x:=by rw [Nat.eq_of_beq_eq_true h,Nat.mul_one]
def wf (i c:Nat) (qs:List PV) (q:PV):Option PV:=match zBa q with
 | some xs=>match xs[i]? with
  | some x=>bif Nat.ble (c+qs.length) x.cells.length then zAB q (xs.set i (zAw x c qs)) else none
  | none=>none
 | none=>none
theorem zKe {qs:List PV} {q' y:PV} (hx:xs[i]? = some x) (hs:zAw x c qs=y) (hq:zAB q (xs.set i y)=some q') (hh:zBa q=some xs:=by kernel_rfl) (hb:Nat.ble (c+qs.length) x.cells.length=true:=by kernel_rfl):zAt (wf i c qs) q []=some q':=by
 subst hs
 simp only [zAt,wf,hh,hx,hb,cond_true,hq]
theorem zP0 {qs:List PV} {b:Bool} (h:zAt (wf i c qs) root pre=some root') (hk:zAN root root' pre=b) (hw:(zBw qs).isEmpty=true:=by kernel_rfl):zBP root pre i c qs=some root'∧zAN root root' pre=b:=by
 refine ⟨?_,hk⟩
 simp only [zBP,hw,Bool.not_true,Bool.and_false,cond_false]
 exact h
theorem zA6 (l:List α) (h:∀ x,zAT (g x)=g x:=by intro;rfl):zAz (l.map g)=l.map g:=by
 induction l with
 | nil=>rfl
 | cons x l ih=>simp only [List.map_cons,zAz,h,ih]
theorem zED {ys:List PV} (hy:xs=ys) (h2:zAz ys=ys):zAz xs=ys:=by rw [hy];exact h2
theorem zFi (l:List α) (h:∀ x,(g x).free=true:=by intro;rfl):zFM (l.map g)=true:=by
 induction l with
 | nil=>rfl
 | cons x l ih=>simp only [List.map_cons,zFM,h,ih,Bool.and_self]
theorem zSq (l:List α) (h:∀ x,(g x).ways=[]:=by intro;rfl):zBw (l.map g)=[]:=by
 induction l with
 | nil=>rfl
 | cons x l ih=>simp only [List.map_cons,zBw,h,ih,List.append_nil]
theorem all_map {p:PV→Bool} (l:List α) (h:∀ x,p (g x)=true:=by intro;rfl):(l.map g).all p=true:=by
 rw [List.all_map];exact List.all_eq_true.2 fun x _=>h x
theorem zDe (l:List α):List.take l.length (l.map g)=l.map g:=List.take_of_length_le (by simp)
theorem zAY {xs ys:List PV} (h:xs=ys):PV.own z xs=PV.own z ys:=by rw [h]
theorem zQ9 {xs ys:List PV} (h:xs=ys):PV.sl xs=PV.sl ys:=by rw [h]
theorem zEw {a x m:Nat} {sh:Option Nat} (h:Nat.beq m 1=true):PV.addr r pre i (a+x*m) sh=PV.addr r pre i (a+x) sh:=by rw [Nat.eq_of_beq_eq_true h,Nat.mul_one]
end
end Go.Eng
namespace Go.Eng
open Go
section
def zVH:Code→Bool
 | .label _=>true
 | _=>false
theorem ap {p:Prop} {ps:List Prop} (h:p) (hs:zSD ps):zSD (p::ps):=⟨h,hs⟩
theorem an:zSD []:=trivial
theorem zCe {a b:Int} (h:a=b) (hr : -9223372036854775808≤b∧b<9223372036854775808):PV.int .i64 (IntKind.i64.wrap a)=PV.int .i64 b:=by rw [h,zXg hr]
variable [Yo] {P:Program} {H:zBb} {f:FuncId} {nt:Nat} {e e':Env} {lg:Option Log} {K:X→Env→Option Log→Prop} {i:Nat} {c:Code} {s:RS} {R:Env→Option Log→Prop}
theorem S_a (as:Ans) {obs:List Prop} (ho:zSD obs) (h:WS P H f c (i+1) (rsX (zV3 P H f c i as s)) R) (hq:(zV3 P H f c i as s).map (·.2)=some obs:=by kernel_rfl) (hi:Nat.blt i (zFh c).size=true:=by kernel_rfl):WS P H f c i s R:=S_x as obs ho h hq hi
theorem E_a {fn:Func} {nh:Nat} {v:PV} {h:List PV} {x:X} (as:Ans) {obs:List Prop} (ho:zSD obs) (v':PV) (h':List PV) (hv:v'=v) (hh:h'=h) (hf:zLy P H f fn as e nh=some ((v',h'),obs):=by kernel_rfl) (hl:lg=none:=by kernel_rfl) (hx:x = .norm∨x = .ret:=by first | exact .inr rfl | exact .inl rfl):zTJ P H f fn nh v h x e lg:=E_x as obs v' h' ho hv hh hf hl hx
theorem zUG {c:Code} (h:K .norm e lg) (hc:zVH c=true:=by kernel_rfl):W P H f nt c e lg K:=by
 cases c<;>first | (cases hc;done) | exact zSM 1 rfl h
theorem zSw {t:TypeId} {k:IntKind} {a b q:Int} (hb:b≠0) (h:a.tmod b=q):zHp P .rem t (.int k a) (.int k b)=some (.int k q):=by
 simp [zHp,zSL,hb,h]
end
end Go.Eng
namespace Go.Eng
open Go
section
variable [Yo] {P:Program} {H:zBb} {f:FuncId}
end
end Go.Eng
namespace Go.Eng
open Go
def zSC (pre:zAR) (put:PV→PV):Prop:=∀ f z xs,zAt f (put (.own z xs)) pre=(f (.own z xs)).map put
theorem zSC.nil:zSC [] (fun q=>q):=fun f z xs=>by simp [zAt]
theorem zSC.box:zSC [(0,0)] (fun q => .box q):=fun f z xs=>by
 simp only [zAt,zAZ,List.getElem?_cons_zero,PV.cells]
 cases f (.own z xs)<;>rfl
theorem zIJ [Yo] {r z:Nat} {pre:zAR} {put:PV→PV} (L:zSC pre put):∀ {ys:List PV} {j:Nat} {xs:List PV} {e:Env},e.get r=put (.own z xs)→j+ys.length≤xs.length→(∀ (a:Nat) (x y:PV),xs[j+a]? = some x→ys[a]? = some y→y.heavy=false∧y.cells.all (fun q=>q.ways.isEmpty)=true∧y.cells.length≤x.cells.length∧zAw x 0 y.cells=y) →
  ∃ e',e'.get r=put (.own z (xs.take j++ys++xs.drop (j+ys.length)))∧(∀ t,t≠r→e'.get t=e.get t)∧∀ (o:zAD) (k:PM),(zGg r pre j ys k).run o e=k.run o e'
 | [],j,xs,e,he,hj,hy=>⟨e,by simp [he],fun _ _=>rfl,fun _ _=>rfl⟩
 | y :: ys,j,xs,e,he,hj,hy=>by
  simp only [List.length_cons] at hj
  have hjx:j<xs.length:=by omega
  obtain ⟨h1,h2,h3,h4⟩:=hy 0 xs[j] y (by simp [hjx]) rfl
  have hws:zBw y.cells=[]:=zL9 h2
  have hb:Nat.ble (0+y.cells.length) xs[j].cells.length=true:=by rw [Nat.ble_eq];omega
  have yY:(e.set r (put (.own z (xs.set j y)))).get r=put (.own z (xs.set j y)):=by rw [Env.get_set,if_pos rfl]
  obtain ⟨e',g1,g2,g3⟩:=zIJ L (ys:=ys) (j:=j+1) yY (by simp;omega) fun a x' y' uM wT=>by
   rw [List.getElem?_set] at uM
   rw [if_neg (by omega)] at uM
   exact hy (a+1) x' y' (by rw [← uM];congr 1;omega) (by simpa using wT)
  refine ⟨e',?_,fun t ht=>?_,?_⟩
  ·rw [g1,zTi hj]
   simp only [List.length_cons]
  ·rw [g2 t ht,Env.get_set,if_neg ht]
  ·intro o k
   simp only [zGg]
   rw [zE8 (by simpa using zNB h1)]
   simp only [PM.run,he,zBP,hws,List.isEmpty_nil,Bool.not_true,Bool.and_false,cond_false,L _ z xs,zBa,List.getElem?_eq_getElem hjx,hb,cond_true,zAB,h4,Option.map_some]
   exact g3 o k
section
variable [Yo] {P:Program} {H:zBb} {f:FuncId} {i:Nat} {c:Code} {R:Env→Option Log→Prop}
theorem zLA {k:IntKind} {a b:Int}:zZk 1 (.int k a) (.int k b):=⟨rfl,rfl,rfl,rfl,Nat.le_refl _,rfl⟩
end
end Go.Eng
namespace Go.Eng
open Go
abbrev zP8 (sh:Option Nat) (a:List Int):PV:=match sh with | none=>I (a.getD 0 0) | some _ => .agg (a.map I)
theorem zOe {l:List Int} {i k:Nat} {sh:Option Nat} (j6:sh=some k∨(sh=none∧k=1)) (h:i+k≤l.length):sub (.agg (l.map I)) i sh=some (zP8 sh ((l.drop i).take k)):=by
 rcases j6 with rfl | ⟨rfl,rfl⟩
 ·simp only [sub,List.length_map,h,if_true,zP8,List.map_take,List.map_drop]
 ·have h2:i<l.length:=by omega
  simp only [sub,zP8]
  rw [List.drop_eq_getElem_cons h2]
  simp [h2]
theorem zMx {eq:PV→PV→Option Bool} {sh:Option Nat} {k:Nat} {l m:List Int} (u6:∀ a b:List Int,a.length=k→b.length=k→eq (zP8 sh a) (zP8 sh b)=some (decide (a=b))) (j6:sh=some k∨(sh=none∧k=1)):∀ n i,(i+n)*k=l.length→(i+n)*k=m.length→zUf eq sh k (.agg (l.map I)) (.agg (m.map I)) i n=some (decide (l.drop (i*k)=m.drop (i*k)))
 | 0,i,h1,h2=>by
  simp only [zUf]
  rw [List.drop_eq_nil_of_le (by simpa using Nat.le_of_eq h1.symm),List.drop_eq_nil_of_le (by simpa using Nat.le_of_eq h2.symm)];simp
 | n + 1,i,h1,h2=>by
  have e:(i+(n+1))*k=i*k+k+n*k:=by rw [Nat.add_mul,Nat.succ_mul];omega
  have e1:(i+1)*k=i*k+k:=by rw [Nat.succ_mul]
  have hl:i*k+k≤l.length:=by omega
  have hm:i*k+k≤m.length:=by omega
  have ih:=zMx u6 j6 n (i+1) (by rw [← h1];congr 1;omega) (by rw [← h2];congr 1;omega)
  simp only [zUf,zOe j6 hl,zOe j6 hm]
  rw [u6 _ _ (by rw [List.length_take,List.length_drop];omega) (by rw [List.length_take,List.length_drop];omega)]
  have d1:l.drop (i*k)=(l.drop (i*k)).take k++l.drop ((i+1)*k):=by rw [e1,← List.drop_drop,List.take_append_drop]
  have d2:m.drop (i*k)=(m.drop (i*k)).take k++m.drop ((i+1)*k):=by rw [e1,← List.drop_drop,List.take_append_drop]
  by_cases hc:(l.drop (i*k)).take k=(m.drop (i*k)).take k
  ·simp only [hc,decide_true,ih]
   congr 1
   rw [d1,d2,hc]
   simp
  ·simp only [hc,decide_false]
   rw [Eq.comm,decide_eq_false]
   intro hx
   exact hc (by rw [hx])
def zPe:Option TypeDesc→Bool
 | some (.array ..)=>true
 | _=>false
def zVo:Option TypeDesc→Bool
 | some (.int .i64)=>true
 | _=>false
theorem zTF {x:Option TypeDesc} (h:zVo x=true):x=some (.int .i64):=by
 unfold zVo at h;split at h
 ·rfl
 ·cases h
theorem zMj {x:Option TypeDesc} (h:zPe x=true):∃ c e,x=some (.array c e):=by
 unfold zPe at h;split at h
 ·exact ⟨_,_,rfl⟩
 ·cases h
def zTZ (P:Program):Nat→TypeId→Option Nat
 | 0,_=>none
 | n + 1,t=>match P.underlying t with
  | some (.int k)=>if k = .i64 then some 1 else none
  | some (.array m e)=>match szT P e,shT P e,zTZ P n e with
   | some sz,some sh,some k=>if sz=k∧(sh=some k∧zPe (P.underlying e)=true∨sh=none∧k=1∧zVo (P.underlying e)=true) then some (m*k) else none
   | _,_,_=>none
  | _=>none
theorem zVy {P:Program} {n:Nat} {t:TypeId} {a b:Int} (h:P.underlying t=some (.int .i64)):eqT P (n+1) t (I a) (I b)=some (decide (a=b)):=by
 simp only [eqT,h,if_true];rfl
theorem zO9 {P:Program}:∀ (n:Nat) (t:TypeId) (k:Nat) (l m:List Int),zTZ P n t=some k→(∃ c e,P.underlying t=some (.array c e))→l.length=k→m.length=k→eqT P n t (.agg (l.map I)) (.agg (m.map I))=some (decide (l=m))
 | 0,_,_,_,_,h,_,_,_=>by cases h
 | n + 1, t, k,l,m,h,⟨c,e,hu⟩,hl,hm=>by
  simp only [zTZ,hu] at h
  split at h
  ·rename_i sz sh k1 h1 h2 h3
   split at h
   ·rename_i hx
    obtain ⟨rfl,hx⟩:=hx
    cases h
    simp only [eqT,hu,h1,h2]
    have:=zMx (eq:=eqT P n e) (sh:=sh) (k:=sz) (l:=l) (m:=m) (fun a b ha hb=>by
     rcases hx with ⟨rfl,hx⟩ | ⟨rfl,rfl,hx⟩
     ·exact zO9 n e sz a b h3 (zMj hx) ha hb
     ·cases n with
      | zero=>cases h3
      | succ n =>
       simp only [zP8,zVy (zTF hx)]
       match a,b,ha,hb with
       | [x],[y],_,_=>simp) (by
     rcases hx with ⟨rfl,_⟩ | ⟨rfl,rfl,_⟩
     ·exact .inl rfl
     ·exact .inr ⟨rfl,rfl⟩) c 0 (by rw [hl];simp) (by rw [hm];simp)
    simpa using this
   ·cases h
  ·cases h
def zLG (P:Program) (t:TypeId) (k:Nat):Bool := !P.eqGuardType P.depth t&&decide (zTZ P 20 t=some k)&&zPe (P.underlying t)
theorem zQm {P:Program} {t:TypeId} {k:Nat} {l m:List Int} (h:zLG P t k=true) (hl:l.length=k) (hm:m.length=k):eqT P 20 t (.agg (l.map I)) (.agg (m.map I))=some (decide (l=m)):=by
 unfold zLG at h
 simp only [Bool.and_eq_true,decide_eq_true_eq,Bool.not_eq_true'] at h
 obtain ⟨⟨h1,h2⟩,h3⟩:=h
 exact zO9 20 t k l m h2 (zMj h3) hl hm
theorem zUh {P:Program} {t:TypeId} {k:Nat} {l m:List Int} (h:zLG P t k=true) (hl:l.length=k) (hm:m.length=k):eqV P t (.agg (l.map I)) (.agg (m.map I))=some (decide (l=m)):=by
 have hg:P.eqGuardType P.depth t=false:=by
  unfold zLG at h
  simp only [Bool.and_eq_true,Bool.not_eq_true'] at h
  exact h.1.1
 simp only [eqV,hg,cond_false,zQm h hl hm]
theorem zUK {P:Program} {t:TypeId} {l m:List Int} (k:Nat) (hl:l.length=k) (hm:m.length=k) (h:zLG P t k=true:=by kernel_rfl):zHp P .eql t (.agg (l.map I)) (.agg (m.map I))=some (.bool (decide (l=m))):=by
 simp only [zHp,zUh h hl hm,Option.map_some]
theorem zVP {P:Program} {t:TypeId} {l m:List Int} (k:Nat) (hl:l.length=k) (hm:m.length=k) (h:zLG P t k=true:=by kernel_rfl):zHp P .neq t (.agg (l.map I)) (.agg (m.map I))=some (.bool (!decide (l=m))):=by
 simp only [zHp,zUh h hl hm,Option.map_some]
theorem zRe {a b c d:Int}:decide ([a,b]=[c,d])=(decide (a=c)&&decide (b=d)):=by simp
theorem zRb {P:Program} {t:TypeId} {a b c d:Int} (h:zLG P t 2=true:=by kernel_rfl):zHp P .eql t (.agg [I a,I b]) (.agg [I c,I d])=some (.bool (decide (a=c)&&decide (b=d))):=by
 rw [← zRe];exact zUK (l:=[a,b]) (m:=[c,d]) 2 rfl rfl h
theorem zMg {P:Program} {kt:TypeId} {α:Type} {g:α→PV×PV} {kx ky:α→Int} (hk:∀ x,(g x).1 = .agg [I (kx x),I (ky x)]) (u6:∀ a b c d:Int,eqT P 20 kt (.agg [I a,I b]) (.agg [I c,I d])=some (decide (a=c)&&decide (b=d))) (a b:Int):∀ (M:List α) (i:Nat),zC7 P kt (.agg [I a,I b]) (M.map g) i=some ((M.findIdx? fun x=>decide (a=kx x)&&decide (b=ky x)).map (· + i))
 | [],i=>rfl
 | x :: M,i=>by
  have h1:=u6 a b (kx x) (ky x)
  rw [← hk x] at h1
  have h2:zFP (PV.agg [I a,I b]).cells (g x).1.cells=some (a==kx x&&(b==ky x&&true)):=by rw [hk x];rfl
  rw [List.map_cons,List.findIdx?_cons]
  have e:g x=((g x).1,(g x).2):=rfl
  rw [e]
  simp only [zC7,h1,h2]
  cases hc:(decide (a=kx x)&&decide (b=ky x)) with
  | true =>
   simp only [Bool.and_eq_true,decide_eq_true_eq] at hc
   simp [hc.1,hc.2]
  | false =>
   simp only
   rw [zMg hk u6 a b M (i+1)]
   simp only [Bool.false_eq_true,if_false,Option.map_map]
   congr 2
   funext y
   simp only [Function.comp];omega
theorem zSl {P:Program} {t:TypeId} (h:zLG P t 2=true:=by kernel_rfl) (a b c d:Int):eqT P 20 t (.agg [I a,I b]) (.agg [I c,I d])=some (decide (a=c)&&decide (b=d)):=by
 rw [← zRe];exact zQm (l:=[a,b]) (m:=[c,d]) h rfl rfl
def zXj (F:List Int) (n:Nat):Nat→List PV
 | 0=>[]
 | m+1=>I (F.getD (n-(m+1)) 0)::zXj F n m
abbrev zAM (F:List Int) (m:Nat):List PV:=zXj F m m
theorem zQe {F:List Int} {n:Nat}:∀ (m:Nat),m≤n→zXj F n m=(List.range' (n-m) m).map fun k=>I (F.getD k 0)
 | 0,_=>rfl
 | m+1,h=>by
  rw [zXj,zQe m (by omega),List.range'_succ,List.map_cons,show n-(m+1)+1=n-m by omega]
theorem zNF {F:List Int} {m:Nat}:zAM F m=(List.range m).map fun k=>I (F.getD k 0):=by
 rw [List.range_eq_range',zAM,zQe m (Nat.le_refl m),Nat.sub_self]
theorem zEr {F:List Int} {m:Nat} (h:F.length=m):zAM F m=F.map I:=by
 rw [zNF]
 apply List.ext_getElem?
 intro k
 by_cases hk:k<m
 ·simp [hk,show k<F.length by omega]
 ·rw [List.getElem?_eq_none (by simp;omega),List.getElem?_eq_none (by simp;omega)]
section
variable {A B:List PV} {F:List Int} {m j:Nat} {r i c':Nat} {pre:zAR}
theorem zJo:(zAM F m).length=m:=by rw [zNF];simp
theorem zQG (hj:j<m):(zAM F m)[j]? = some (I (F.getD j 0)):=by rw [zNF];simp [hj]
theorem zUW (hj:j<m):(A++zAM F m++B)[A.length+j]? = some (I (F.getD j 0)):=by
 rw [List.append_assoc,List.getElem?_append_right (by omega),Nat.add_sub_cancel_left,List.getElem?_append_left (by rw [zJo];exact hj)]
 exact zQG hj
theorem zWK (hj:j<m):zCl (.ref (.agg (zAM F m))) j none=some (.ref (I (F.getD j 0))):=by
 have h1:(I (F.getD j 0)).oneCell=true:=rfl
 simp only [zCl,zOg,sub,zQG hj,Option.isSome,Bool.false_or,h1,cond_true]
theorem zGr {n:Nat} (hj:j<m) (hn:Nat.beq n 1=true:=by kernel_rfl):zCl (.ref (.agg (zAM F m))) (j*n) none=some (.ref (I (F.getD j 0))):=by
 rw [Nat.eq_of_beq_eq_true hn,Nat.mul_one];exact zWK hj
theorem zH4 (hc:c'=A.length+j) (hj:j<m):zMZ r pre i c' 1 (.agg (A++zAM F m++B))=some (true,[I (F.getD j 0)]):=by
 subst hc
 have hZ:A.length+j<(A++zAM F m++B).length:=by rw [List.length_append,List.length_append,zJo];omega
 have hb:Nat.ble (A.length+j+1) (PV.agg (A++zAM F m++B)).cells.length=true:=by rw [Nat.ble_eq];exact hZ
 have h2:((A++zAM F m++B).drop (A.length+j)).take 1=[I (F.getD j 0)]:=by
  rw [List.drop_eq_getElem_cons hZ]
  have:=zUW (A:=A) (B:=B) (F:=F) hj
  rw [List.getElem?_eq_getElem hZ] at this
  simp only [Option.some.injEq] at this
  rw [this];simp
 simp only [zMZ,hb,cond_true,PV.isAgg]
 show some (true,zBA r pre i (A.length+j) (((A++zAM F m++B).drop (A.length+j)).take 1))=_
 rw [h2];rfl
theorem zVb {u:Int} (hj:j<m) (hF:F.length=m):(zAM F m).set j (I u)=zAM (F.set j u) m:=by
 rw [zEr hF,zEr (F:=F.set j u) (by simpa using hF),List.map_set]
theorem zPb {u:Int} (hc:c'=A.length+j) (hj:j<m) (hF:F.length=m):zAw (.agg (A++zAM F m++B)) c' [I u] = .agg (A++zAM (F.set j u) m++B):=by
 subst hc
 have hZ:A.length+j<(A++zAM F m++B).length:=by rw [List.length_append,List.length_append,zJo];omega
 have e:(A++zAM F m++B).take (A.length+j)++[I u]++(A++zAM F m++B).drop (A.length+j+1)=(A++zAM F m++B).set (A.length+j) (I u):=by
  rw [List.set_eq_take_append_cons_drop,if_pos hZ];simp
 simp only [zAw,List.length_singleton,e]
 rw [List.append_assoc,List.set_append_right _ _ (by omega),Nat.add_sub_cancel_left,List.set_append_left _ _ (by rw [zJo];exact hj),zVb hj hF,List.append_assoc]
theorem zOh (hc:c'=A.length+j) (hj:j<m) {q:PV}:Nat.ble (c' + [q].length) (PV.agg (A++zAM F m++B)).cells.length=true:=by
 subst hc;rw [Nat.ble_eq];show _≤(A++zAM F m++B).length;rw [List.length_append,List.length_append,zJo];simp;omega
theorem zU7 (hj:j<m):sub (.agg (zAM F m)) j none=some (I (F.getD j 0)):=by
 simp only [sub,zQG hj]
theorem zES (hc:c'=j) (hj:j<m):zMZ r pre i c' 1 (.agg (zAM F m))=some (true,[I (F.getD j 0)]):=by
 have:=zH4 (A:=[]) (B:=[]) (F:=F) (r:=r) (pre:=pre) (i:=i) (c':=c') (by simpa using hc) hj
 simpa using this
theorem zNo {u:Int} (hc:c'=j) (hj:j<m) (hF:F.length=m):zAw (.agg (zAM F m)) c' [I u] = .agg (zAM (F.set j u) m):=by
 have:=zPb (A:=[]) (B:=[]) (F:=F) (u:=u) (c':=c') (by simpa using hc) hj hF
 simpa using this
theorem zNq (hc:c'=j) (hj:j<m) {q:PV}:Nat.ble (c' + [q].length) (PV.agg (zAM F m)).cells.length=true:=by
 have:=zOh (A:=[]) (B:=[]) (F:=F) (q:=q) (c':=c') (by simpa using hc) hj
 simpa using this
theorem zPf {n:Nat} (hj:j<m) (hn:Nat.beq n 1=true:=by kernel_rfl):sub (.agg (zAM F m)) (j*n) none=some (I (F.getD j 0)):=by
 rw [Nat.eq_of_beq_eq_true hn,Nat.mul_one];exact zU7 hj
end
section
variable {l:List Int} {r i c c' k:Nat} {pre:zAR}
theorem zJX:∀ (l:List Int) (c:Nat),zBA r pre i c (l.map I)=l.map I
 | [],_=>rfl
 | x::l,c=>by simp only [List.map_cons,zBA,zJX l (c+1)];rfl
theorem zWb (hc:c'=c) (h:c+k≤l.length):zMZ r pre i c' k (.agg (l.map I))=some (true,((l.drop c).take k).map I):=by
 subst hc
 have hb:Nat.ble (c'+k) (PV.agg (l.map I)).cells.length=true:=by rw [Nat.ble_eq];simpa [PV.cells] using h
 simp only [zMZ,hb,cond_true,PV.isAgg]
 show some (true,zBA r pre i c' (((l.map I).drop c').take k))=_
 rw [← List.map_drop,← List.map_take,zJX]
theorem zUS {K:Nat} (hc:c'=c) (h:c+K≤l.length) (hk:Nat.beq k K=true):zMZ r pre i c' k (.agg (l.map I))=some (true,((l.drop c).take K).map I):=by rw [Nat.eq_of_beq_eq_true hk];exact zWb hc h
theorem zUI {K m:Nat} (hl:l.length=m) (hc:c'=c) (h:c+K≤m) (hk:Nat.beq k K=true):zMZ r pre i c' k (.agg (zAM l m))=some (true,zAM ((l.drop c).take K) K):=by
 rw [zEr hl,zUS (K:=K) hc (by omega) hk,zEr (F:=(l.drop c).take K) (by rw [List.length_take,List.length_drop];omega)]
theorem zRZ {P:Program} {t:TypeId} {l m:List Int} (k:Nat) (hl:l.length=k) (hm:m.length=k) (h:zLG P t k=true:=by kernel_rfl):zHp P .neq t (.agg (zAM l k)) (.agg (zAM m k))=some (.bool (!decide (l=m))):=by
 rw [zEr hl,zEr hm];exact zVP k hl hm h
end
end Go.Eng
namespace Go.Eng
open Go
theorem zC9 {a b m k M:Nat} (h:Nat.beq m M=true) (h2:Nat.beq k 1=true):a*m+b*k=a*M+b:=by rw [Nat.eq_of_beq_eq_true h,Nat.eq_of_beq_eq_true h2,Nat.mul_one]
theorem zC3 {a m M:Nat} (h:Nat.beq m M=true):a*m=a*M:=by rw [Nat.eq_of_beq_eq_true h]
theorem zDq {a b m k M:Nat} (h:Nat.beq m M=true) (h2:Nat.beq k 1=true):0+a*m+b*k=a*M+b:=by rw [Nat.zero_add];exact zC9 h h2
theorem zDh {a m M:Nat} (h:Nat.beq m M=true):0+a*m=a*M:=by rw [Nat.zero_add];exact zC3 h
theorem zBE {α:Type} {g:α→PV} {l:List α} {u:α} {y:PV} (h:g u=y):l.map g++[y]=(l++[u]).map g:=by rw [← h,List.map_append];rfl
def zUm (P:Program) (e:Env) (o:Oper):Option (Nat×PV×PV) :=
 match o.op,o.dst with
 | .call c,none=>match c.callee,c.args.toList,c.argTypes.toList with
  | .builtin .clear,[x],t::_=>match (zBY P t).bind (zCD P),(zBY P t).bind (szT P) with
   | some q,some s=>some (s,q,zZg e x)
   | _,_=>none
  | _,_,_=>none
 | _,_=>none
section
variable [Yo] {P:Program} {H:zBb} {f:FuncId} {i:Nat} {c:Code} {R:Env→Option Log→Prop}
theorem zNO {α:Type} {g:α→PV} {pre:zAR} (put':PV→PV) (r s lo n:Nat) (l:List α) (u:α) {st:RS} (ke:lo+n≤l.length) (hu:(g u).plain=true∧(g u).cells.length=s) (hy:∀ x,zZk s (g x) (g u)) (L:zSC pre put')
  (h:WS P H f c (i+1) ⟨none,st.e.set r (put' (.own s ((l.take lo++List.replicate n u++l.drop (lo+n)).map g))),none⟩ R) (he:st.e.get r=put' (.own s (l.map g)):=by kernel_rfl) (ho:zUm P st.e (zEg c i)=some (s,g u,.bor r pre s lo n):=by kernel_rfl) (hs:Nat.blt 0 s=true:=by kernel_rfl)
  (jx:st.dr=none:=by kernel_rfl) (w8:st.lg=none:=by kernel_rfl) (hg:zNe c i st.e=true:=by kernel_rfl) (hi:Nat.blt i (zFh c).size=true:=by kernel_rfl):WS P H f c i st R:=by
 obtain ⟨dr,e,lg⟩:=st
 simp only at jx h he ho hg w8
 subst jx;subst w8
 obtain ⟨e',g1,g2,g3⟩:=zIJ L he (j:=lo) (ys:=List.replicate n (g u)) (by simpa using ke) fun a x y hx wT=>by
  rw [List.getElem?_map] at hx
  obtain ⟨x',_,rfl⟩:=Option.map_eq_some_iff.1 hx
  obtain ⟨hn,hy2⟩:=List.getElem?_eq_some_iff.1 wT
  rw [List.getElem_replicate] at hy2
  subst hy2
  obtain ⟨_,_,h3,h4,h5,h6⟩:=hy x'
  exact ⟨h3,h4,h5,h6⟩
 have yY:∀ t,e'.get t=(e.set r (put' (.own s ((l.take lo++List.replicate n u++l.drop (lo+n)).map g)))).get t:=fun t=>by
  rw [Env.get_set]
  split
  ·rename_i h;subst h;rw [g1];simp
  ·rename_i h;exact g2 t h
 refine zXU (s:=⟨none,e,none⟩) (e':=e') ⟨0,fun m _=>?_⟩ (zW3 h fun t=>yY t) rfl rfl hg hi
 show (opM P H _ _ _ (zEg c i)).run _ e=_
 generalize zEg c i=o at ho
 cases hop:o.op<;>simp only [zUm,hop] at ho<;>try (cases ho;done)
 rename_i cc
 cases ju:o.dst<;>rw [ju] at ho<;>simp only at ho<;>try (cases ho;done)
 split at ho
 ·rename_i x t ts hc ha hT
  split at ho
  ·rename_i q s' hq jD
   simp only [Option.some.injEq,Prod.mk.injEq] at ho
   obtain ⟨rfl,rfl,hx⟩:=ho
   simp only [opM,hop,zKM,hc,ha,hT,zBu,ju]
   rw [zVD hx (by simp)]
   simp only [zRv,hs,Nat.beq_refl,hu.1,hu.2,Bool.and_self,cond_true,hq,jD]
   rw [g3];rfl
  ·cases ho
 ·cases ho
end
end Go.Eng
namespace Go.Eng
open Go
section
variable [Yo] {P:Program} {H:zBb} {f:FuncId} {nt:Nat} {c:Code} {e:Env} {lg:Option Log} {K:X→Env→Option Log→Prop}
end
end Go.Eng
namespace Go.Eng
open Go
theorem zOJ [Yo] {P:Program} {H:zBb} {f:FuncId} {nt:Nat} {e:Env} {lg:Option Log} {K:X→Env→Option Log→Prop} {σ:Type} {c:Code} {t g:Nat} {first caps:List PV} {xs:List (List PV)} (hY:zFS g first caps xs) (Inv:Nat→σ→Prop) (upd:σ→List (Nat×PV)) (s:σ) (hi:Inv 0 s)
  (h:∀ j x s,xs[j]? = some x→Inv j s→zKQ P H f nt (zWF c) (rgA c) (rgB c) x (zLM (upd s) e) fun y e3=>match y with
   | .norm=>∃ s',Inv (j+1) s'∧after nt [] (zVY c) (zLM (upd s) e) e3=zLM (upd s') e
   | y=>K y (after nt [] (zVY c) (zLM (upd s) e) e3) none) (hK:∀ s,Inv xs.length s→K .norm (zLM (upd s) e) none) (hs:e=zLM (upd s) e:=by kernel_rfl) (yO:zDF e t=some (g,first,caps,[]):=by kernel_rfl) (hc:rgT c=some t:=by kernel_rfl) (hl:lg=none:=by kernel_rfl):W P H f nt c e lg K :=
 zU9 (t:=t) hY Inv (fun s=>zLM (upd s) e) s hi h hK hs yO hc hl
end Go.Eng
namespace Go.Eng
open Go
theorem zSC.field (A B:List PV):zSC [(0,A.length)] (fun q => .box (.agg (A++q::B))):=fun f z xs=>by
 have h1:(A++PV.own z xs::B)[A.length]? = some (.own z xs):=by simp
 simp only [zAt,zAZ,List.getElem?_cons_zero,PV.cells,h1]
 cases f (.own z xs) with
 | none=>rfl
 | some q=>simp [zAB,zAw]
end Go.Eng
namespace Go.Eng
open Go
theorem zFr (l:List Int):zAz (l.map I)=l.map I:=zA6 l
theorem zH1 (k:IntKind) (l:List Int):zAz (l.map (PV.int k))=l.map (PV.int k):=zA6 l
theorem zE6 (l:List Bool):zAz (l.map PV.bool)=l.map PV.bool:=zA6 l
theorem zBp {α:Type} {g g':α→PV} (l:List α) (h:∀ x,zAT (g x)=g' x:=by intro x;simp only [zAT,zAz,zFr,zE6,zH1]):zAz (l.map g)=l.map g':=by
 induction l with
 | nil=>rfl
 | cons x l ih=>simp only [List.map_cons,zAz,h,ih]
theorem zBG {xs ys:List PV} (h:zAz xs=ys):zAz ((xs.drop 0).take xs.length)=ys:=by rw [List.drop_zero,List.take_length];exact h
theorem zU4 {r z:Nat} {xs ys:List PV} (h:zAz xs=ys):PV.mapW (inl r [] (.own z xs)) (.bor r [] z 0 xs.length) = .sl ys:=by
 have e:zAJ r [] r []=true:=by simp [zAJ]
 have e2:Nat.ble (0+xs.length) xs.length=true:=by simp
 simp only [PV.mapW,inl,e,cond_true]
 show zGe (zAx (.own z xs) []) (zCy 0 xs.length)=_
 simp only [zAx,zGe,zCy,e2,cond_true]
 rw [zBG h]
def zQy (P:Program) (t:TypeId) (k1 k2:IntKind):Bool := !P.eqGuardType P.depth t && !P.stoodInHeld t&&match P.underlying t with
  | some (.struct fs)=>match fs.toList with
    | [f1, f2] => !decide (f1.name = "_") && !decide (f2.name = "_") && decide (shT P f1.type = some none) && decide (shT P f2.type = some none) && decide (f1.offset = 0) && decide (f2.offset = 1) &&
      (match P.underlying f1.type with | some (.int k)=>decide (k=k1) | _=>false)&&(match P.underlying f2.type with | some (.int k)=>decide (k=k2) | _=>false)
    | _=>false
  | _=>false
theorem zVF {P:Program} {t:TypeId} {k1 k2:IntKind} {a b c d:Int} (h:zQy P t k1 k2=true):eqV P t (.agg [.int k1 a,.int k2 b]) (.agg [.int k1 c,.int k2 d])=some (decide (a=c)&&decide (b=d)):=by
 unfold zQy at h
 rw [Bool.and_eq_true,Bool.and_eq_true] at h
 obtain ⟨⟨h1,h2⟩,h3⟩:=h
 split at h3
 ·rename_i fs hu
  split at h3
  ·rename_i f1 f2 hl
   simp only [Bool.and_eq_true,decide_eq_true_eq,Bool.not_eq_true',decide_eq_false_iff_not] at h1 h2 h3
   obtain ⟨⟨⟨⟨⟨⟨⟨n1,n2⟩,s1⟩,s2⟩,o1⟩,o2⟩,u1⟩,u2⟩:=h3
   split at u1
   ·rename_i k1' jP
    split at u2
    ·rename_i k2' wh
     simp only [decide_eq_true_eq] at u1 u2
     subst u1;subst u2
     simp only [eqV,h1,cond_false,eqT,hu,h2,hl,zUE,n1,n2,s1,s2,o1,o2,sub,jP,wh,if_true,if_false,List.getElem?_cons_zero,List.getElem?_cons_succ]
     by_cases e1:a=c
     ·subst e1
      by_cases e2:b=d
      ·subst e2;simp
      ·simp [e2]
     ·simp [e1]
    ·cases u2
   ·cases u1
  ·cases h3
 ·cases h3
theorem zQ5 {P:Program} {t:TypeId} {k1 k2:IntKind} {a b c d:Int} (h:zQy P t k1 k2=true:=by kernel_rfl):zHp P .neq t (.agg [.int k1 a,.int k2 b]) (.agg [.int k1 c,.int k2 d])=some (.bool (!(decide (a=c)&&decide (b=d)))):=by
 simp only [zHp,zVF h,Option.map_some]
section
variable {α:Type} {g:α→PV} {l:List α} {i z:Nat} {b:PV}
end
def zIe (P:Program) (t:TypeId):Bool:=match P.underlying t with | some (.slice _)=>true | _=>false
theorem zUL {P:Program} {t:TypeId} {p:PV} {z:Nat} (he:zE5 p=true) (hp:(match p with | .nils _=>false | .agg _=>false | _=>true)=true:=by rfl) (h:zIe P t=true:=by kernel_rfl):eqV P t p (.nils z)=some false:=by
 unfold zIe at h
 split at h
 ·rename_i e hu
  unfold eqV
  rw [hu]
  cases p<;>first | (cases hp;done) | simp only [he,cond_true]
 ·cases h
theorem zT0 {P:Program} {t:TypeId} {p:PV} {z:Nat} (he:zE5 p=true) (hp:(match p with | .nils _=>false | .agg _=>false | _=>true)=true:=by rfl) (h:zIe P t=true:=by kernel_rfl):(eqV P t p (.nils z)).map PV.bool=some (.bool false):=by rw [zUL he hp h];rfl
theorem zBi {xs:List PV}:List.take xs.length (List.drop 0 xs)=xs:=by rw [List.drop_zero,List.take_length]
def zWY [Yo] (P:Program) (H:zBb) (f:FuncId) (fn:Func) (nh:Nat) (Q:PV→List PV→Prop) (x:X) (e:Env) (lg:Option Log):Prop:=∃ v h,zTJ P H f fn nh v h x e lg∧Q v h
section
variable [Yo] {P:Program} {H:zBb} {f:FuncId} {e:Env} {lg:Option Log}
theorem E_q {fn:Func} {nh:Nat} {Q:PV→List PV→Prop} {x:X} (as:Ans) {obs:List Prop} (ho:zSD obs) (v':PV) (h':List PV) (hQ:Q v' h') (hf:zLy P H f fn as e nh=some ((v',h'),obs):=by kernel_rfl) (hl:lg=none:=by kernel_rfl) (hx:x = .norm∨x = .ret:=by first | exact .inr rfl | exact .inl rfl):zWY P H f fn nh Q x e lg:=⟨v',h',E_a as ho v' h' rfl rfl hf hl hx,hQ⟩
theorem zMI (fn:Func) {args hid:List PV} (Q:PV→List PV→Prop) (h:W P H f fn.ntmps (fn.body.getD .ret) (zA5 args hid) none (zWY P H f fn hid.length Q)) (hf:P.funcs[f]? = some fn:=by kernel_rfl) (hi:(H f).intr=0:=by kernel_rfl) (hb:fn.body.isSome=true:=by kernel_rfl)
  (hc:(Nat.ble args.length fn.ntmps&&Nat.ble hid.length 1000&&args.all (fun p => !p.isTup))=true:=by kernel_rfl):∃ v h,zBD P H f args hid v h∧Q v h:=by
 obtain ⟨n0,x,e1,lg1,h1,v,h',h2,h3⟩:=h
 exact ⟨v,h',zAe fn ⟨n0,x,e1,lg1,h1,h2⟩ hf hi hb hc,h3⟩
end
theorem zTk {α:Type} {g:α→PV} {l:List α} (h:0<l.length):zE5 (.sl (l.map g))=true:=by
 cases l with
 | nil=>exact absurd h (Nat.lt_irrefl _)
 | cons x l=>rfl
theorem zNG {P:Program} {t:TypeId} {z:Nat} {α:Type} {g:α→PV} {l:List α} (hp:0<l.length) (h:zIe P t=true:=by kernel_rfl):zHp P .eql t (.sl (l.map g)) (.nils z)=some (.bool false):=by
 have:=zT0 (P:=P) (t:=t) (z:=z) (zTk (g:=g) hp) rfl h
 simpa [zHp] using this
class FrzOf {α:Type} (g:α→PV) (g':outParam (α→PV)):Prop where
 frz:∀ x,zAT (g x)=g' x
theorem zBC {α:Type} {g g':α→PV} [h:FrzOf g g'] (l:List α):zAz (l.map g)=l.map g':=zBp l h.frz
section
variable {α:Type} {g:α→PV} {l:List α} {i z:Nat} {b:PV} {u0:α}
end
end Go.Eng
namespace Go.Eng
open Go
theorem zWz [Yo] {P:Program} {H:zBb} {f:FuncId} {nt:Nat} {e:Env} {lg:Option Log} {K:X→Env→Option Log→Prop} {σ:Type} {c:Code} (Inv:σ→Prop) (upd:σ→List (Nat×PV)) (D:List Nat) (h1:W P H f nt (cl c) e lg fun x e' lg'=>match x with
   | .norm=>∃ s,Inv s∧e'=zLM (upd s) (e.drop D)∧lg'=lg
   | x=>K x e' lg') (h2:∀ s,Inv s→W P H f nt (cr c) (zLM (upd s) (e.drop D)) lg K) (hc:zTH c=true:=by kernel_rfl):W P H f nt c e lg K :=
 zAi (zRT h1 fun x e' lg' h=>by
  cases x with
  | norm=>obtain ⟨s,hs,rfl,rfl⟩:=h;exact h2 s hs
  | _=>exact h) hc
theorem blz (l:List PV):(0+l.length).ble l.length=true:=by rw [Nat.zero_add];exact Nat.ble_self_eq_true _
theorem frT {α:Type} (g:α→PV) (l:List α) (h:∀ x,zAT (g x)=g x:=by intro x;simp only [zAT,zAz,zFr,zE6,zH1]):PV.sl (zAz (List.take (List.map g l).length (List.drop 0 (List.map g l))))=PV.sl (List.map g l):=zQ9 (zBG (zBp l h))
theorem lnS {α:Type} (g:α→PV) (l:List α):some (List.map g l).length=some l.length:=by rw [List.length_map]
theorem wrN (i:Nat) (h:(i:Int)+1<9223372036854775808:=by omega):PV.int IntKind.i64 (IntKind.i64.wrap ((i:Int)+1))=PV.int IntKind.i64 ((i+1:Nat):Int):=zCe (by omega) (by omega)
theorem zAd [Yo] {P:Program} {H:zBb} {f:FuncId} {nt:Nat} {e:Env} {lg:Option Log} {K:X→Env→Option Log→Prop} {c:Code} (m:Nat) (h:WS P H f (cl c) (0+m) (zV0 (zHP P H f (cl c) m 0 {dr:=bif zQS (cl c) then some ([],[]) else none,e:=e,lg:=lg})) (zXS P H f nt (cr c) K .norm)) (h1:zTH c=true:=by kernel_rfl) (h2:zUM (cl c)=true:=by kernel_rfl) (h3:(zHP P H f (cl c) m 0 {dr:=bif zQS (cl c) then some ([],[]) else none,e:=e,lg:=lg}).isSome=true:=by kernel_rfl) (h4:(0+m).ble (zFh (cl c)).size=true:=by kernel_rfl):W P H f nt c e lg K:=zAi (zAg (zAc m h h3 h4) h2) h1
abbrev zs (F:List Int) (i k:Nat):PV:=PV.int IntKind.i64 ((F.set i (i:Int)).getD k 0)
abbrev z8 (i:Nat):PV:=PV.int IntKind.i64 ((List.replicate 8 (0:Int)).getD i 0)
end Go.Eng
