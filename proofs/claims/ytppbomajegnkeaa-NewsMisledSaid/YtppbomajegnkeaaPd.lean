/- For all numbers, cries and when the law NewsMisled ends in true: who is misled is left, and in linked towns nobody is left in the end; without conditions. -/
import Derived.Test.YtppbomajegnkeaaPc
import Derived.Test.YtppbomajegnkeaaPa
import Derived.KernelRfl
import Derived.IntWalk
set_option linter.unusedVariables false
set_option linter.unusedSimpArgs false
set_option linter.unusedSectionVars false
namespace Go.Eng
open Go
section
variable {P:Program} {H:zBf} {w0 w:World} {U Φ0 Φ:Nat→Prop} {nt:Nat} {hv:Hid} {a:Act} {e e':Env} {rv:Nat→Value} {E:Nat→PV} {L:Nat→List Nat} {o:zAE}
theorem zUQ (S:St w0 U Φ0 nt hv a w e Φ rv E L) {g:Nat} (hg:zAb≤g) {k:PV→PM} {k2:PM} (h:(zQE (E g) k k2).run o e=some e') :
  k2.run o e=some e'∨∃ e1 rv1 E1,(k (E1 g)).run o e1=some e'∧Worked w0 U Φ0 nt hv a w rv E g e1 rv1 E1:=by
 have hO:=S.conf.rep g
 have fin:∀ {r:Nat} {pre:zAR} {q root p':PV} (hr:r<zAb) (yE:(E r).unlock=E r) (hq:zAy (E r) pre=some q) (h1:q.oneCell=true) (hm:zAu (fun _=>some .bad) (E r) pre=some root),
   (E g).oneCell=true→p'.oneCell=true→(∀ nv Li,zAQ w (rv r) (E r) pre=some (nv,q)→Rep w Φ (zA0 w rv E) q nv Li→Li.Nodup→∃ Lg,Rep w Φ (zA0 w rv E) p' (rv g) Lg∧Lg.Nodup∧∀ b∈Lg,b∈Li) →
   (k p').run o (e.set r root)=some e'→∃ e1 rv1 E1,(k (E1 g)).run o e1=some e'∧Worked w0 U Φ0 nt hv a w rv E g e1 rv1 E1:=by
  intro r pre q root p' hr yE hq h1 hm uQ jc y6 hk
  obtain ⟨kk1,kk2⟩:=zBM (q' := .bad) rfl rfl hm
  obtain ⟨nv,Li,g1,g2,g3,g4,g5⟩:=S.taken hg hr yE hq h1 hm kk1 kk2
  obtain ⟨Lg,p1,p2,p3⟩:=y6 nv Li g1 g2 g3
  obtain ⟨L',S1,v5⟩:=g5 p' (rv g) Lg p1 p2 (fun b hb => .inl (p3 b hb))
  have jX:∀ s,upd rv g (rv g) s=rv s:=fun s=>by
   by_cases hs:s=g
   ·subst hs;rw [zAi]
   ·rw [zAf hs]
  refine ⟨_,_,_,by rw [zAi];exact hk,⟨⟨_,_,S1⟩,jX g,fun s _=>jX s,fun s hs hI=>⟨by rw [zAf hI,zAf (by omega)],jX s⟩,?_,?_⟩⟩
  ·rw [zAi,(zBj jc).2,(zBj uQ).2]
  ·rw [zAi,(zBj jc).1,(zBj uQ).1];rfl
 generalize hE:E g=p at h
 rw [hE] at hO
 simp only [zQE] at h
 split at h
 ·rename_i r pre z lo n
  obtain ⟨q,hq,h1⟩:=zBG h
  obtain ⟨_,hr,⟨b,cap,yF,_⟩,hn⟩:=hO
  split at h1
  ·rename_i sz xs
   cases hc:Nat.ble (lo+n) xs.length with
   | false=>rw [hc] at h1;exact .inl h1
   | true =>
    rw [hc] at h1;simp only [cond_true] at h1
    obtain ⟨root,hl,hm,h2⟩:=zBW h1
    have yE:=zBz hl
    rw [yE,← S.env r hr] at hq
    rw [← S.env r hr] at yE hm
    refine .inr (fin hr yE hq rfl hm (by rw [hE];rfl) rfl (fun nv Li hf uR yV=>?_) h2)
    obtain ⟨s2,xs2,q1,q2,q3⟩:=hn nv _ (by rw [yE];exact hf) rfl
    cases q1;subst q2
    obtain ⟨Lg,p1,p2,p3⟩:=zIh uR (Nat.le_of_ble_eq_true hc) q3
    exact ⟨Lg,p1,p3 yV,p2⟩
  ·exact .inl h1
 ·rename_i r pre sh
  obtain ⟨q,hq,h1⟩:=zBG h
  obtain ⟨_,hr,b,yF,y4,hn⟩:=hO
  split at h1
  ·rename_i q
   obtain ⟨root,hl,hm,h2⟩:=zBW h1
   have yE:=zBz hl
   rw [yE,← S.env r hr] at hq
   rw [← S.env r hr] at yE hm
   refine .inr (fin hr yE hq rfl hm (by rw [hE];rfl) rfl (fun nv Li hf uR yV=>?_) h2)
   refine ⟨Li,?_,yV,fun b hb=>hb⟩
   have hrp':=uR
   obtain ⟨x,c,u,L',h3,h4,h5,_⟩:=hrp'
   have h6:nv=rv g:=by
    rw [yF,h4]
    have:=hn nv _ (by rw [yE];exact hf) x (by rw [h4];cases x;simp_all [zA1,zAr])
    rw [this]
   rw [← h6];exact uR
  ·exact .inl h1
 ·rename_i r pre
  obtain ⟨q,hq,h1⟩:=zBG h
  obtain ⟨_,hr,⟨b,yF⟩,hn⟩:=hO
  split at h1
  ·rename_i es
   obtain ⟨root,hl,hm,h2⟩:=zBW h1
   have yE:=zBz hl
   rw [yE,← S.env r hr] at hq
   rw [← S.env r hr] at yE hm
   refine .inr (fin hr yE hq rfl hm (by rw [hE];rfl) rfl (fun nv Li hf uR yV=>⟨Li,?_,yV,fun b hb=>hb⟩) h2)
   rw [hn nv _ (by rw [yE];exact hf) _ rfl];exact uR
  ·exact .inl h1
 ·exact .inl h
theorem zM1 (S:St w0 U Φ0 nt hv a w e Φ rv E L) {g:Nat} (hg:zAb≤g) {frz:Bool} {k:PV→PM} (h:(zFD frz (E g) k).run o e=some e'):∃ e1 rv1 E1,(k (E1 g)).run o e1=some e'∧Worked w0 U Φ0 nt hv a w rv E g e1 rv1 E1:=by
 have iced:(zLJ zAm zDy (E g) k).run o e=some e'→∃ e1 rv1 E1,(k (E1 g)).run o e1=some e'∧Worked w0 U Φ0 nt hv a w rv E g e1 rv1 E1:=by
  intro h
  obtain ⟨e1,Φ1,E1,L1,h1,S1,h2,h3,h4,h5,h6,h7⟩:=zI3 (hb:=zAm) hg (by decide) zDy S h
  exact ⟨e1,rv,E1,h1,⟨⟨_,_,S1⟩,rfl,fun _ _=>rfl,fun s hs hI=>⟨h3 s hs hI,rfl⟩,h6,h7⟩⟩
 simp only [zFD] at h
 cases hc:(frz||(E g).ways.any fun w=>Nat.ble zAm w.1) with
 | true=>rw [hc] at h;exact iced h
 | false =>
  rw [hc] at h;simp only [cond_false] at h
  rcases zUQ S hg h with h | h
  ·exact iced h
  ·exact h
theorem zKG {frz:Bool}:∀ (ps:List PV) (i:Nat) {k:List PV→PM} {e:Env} {Φ:Nat→Prop} {rv:Nat→Value} {E:Nat→PV} {L:Nat→List Nat},St w0 U Φ0 nt hv a w e Φ rv E L→(∀ (j:Nat) (p:PV),ps[j]? = some p→E (zAb+i+j)=p)→(zCr frz ps k).run o e=some e' →
  ∃ e1 Φ1 rv1 E1 L1 qs,(k qs).run o e1=some e'∧St w0 U Φ0 nt hv a w e1 Φ1 rv1 E1 L1∧qs.length=ps.length∧(∀ (j:Nat) (q:PV),qs[j]? = some q→E1 (zAb+i+j)=q∧rv1 (zAb+i+j)=rv (zAb+i+j)) ∧
   (∀ s,s<zAb→rv1 s=rv s)∧∀ s,zAb≤s→(s<zAb+i∨zAb+i+ps.length≤s)→E1 s=E s∧rv1 s=rv s
 | [],i,k,e,Φ,rv,E,L,S,hp,h=>⟨e,Φ,rv,E,L,[],h,S,rfl,by simp,fun _ _=>rfl,fun _ _ _=>⟨rfl,rfl⟩⟩
 | p :: ps,i,k,e,Φ,rv,E,L,S,hp,h=>by
  simp only [zCr] at h
  have hE:=hp 0 p rfl
  simp only [Nat.add_zero] at hE
  rw [← hE] at h
  obtain ⟨e1,rv1,E1,h1,W⟩:=zM1 S (g:=zAb+i) (by omega) h
  obtain ⟨Φ1,L1,S1⟩:=W.st
  obtain ⟨e2,Φ2,rv2,E2,L2,qs,h2,S2,h3,h4,h5,h6⟩:=zKG ps (i+1) S1 (fun j q hq=>by
   rw [(W.rest _ (by omega) (by omega)).1,show zAb+(i+1)+j=zAb+i+(j+1) by omega];exact hp (j+1) q (by simpa using hq)) h1
  refine ⟨e2,Φ2,rv2,E2,L2,E1 (zAb+i)::qs,h2,S2,by simp [h3],fun j q hq=>?_,fun s hs=>(h5 s hs).trans (W.low s hs),fun s hs jj=>?_⟩
  ·cases j with
   | zero =>
    simp at hq;subst hq
    obtain ⟨k1,k2⟩:=h6 (zAb+i) (by omega) (.inl (by omega))
    simp only [Nat.add_zero]
    exact ⟨k1,k2.trans W.val⟩
   | succ j =>
    obtain ⟨k1,k2⟩:=h4 j q (by simpa using hq)
    rw [show zAb+(i+1)+j=zAb+i+(j+1) by omega] at k1 k2
    exact ⟨k1,k2.trans (W.rest _ (by omega) (by omega)).2⟩
  ·obtain ⟨k1,k2⟩:=h6 s hs (by simp at jj;omega)
   obtain ⟨k3,k4⟩:=W.rest s hs (by simp at jj;omega)
   exact ⟨k1.trans k3,k2.trans k4⟩
theorem zKF (C:Conf w0 U Φ0 w Φ rv E L):∀ (qs:List PV) (vs:List Value) (i:Nat),vs.length=qs.length→(∀ (j:Nat) (q:PV) (v:Value),qs[j]? = some q→vs[j]? = some v→E (i+j)=q∧rv (i+j)=v) →
  ∃ Lp,zAX w Φ (zA0 w rv E) qs vs Lp∧Lp.Nodup∧∀ b∈Lp,∃ t,i≤t∧t<i+qs.length∧b∈L t
 | [],vs,i,hl,h=>by
  have:vs=[]:=List.eq_nil_of_length_eq_zero (by simpa using hl)
  subst this;exact ⟨[],⟨rfl,rfl⟩,List.nodup_nil,by simp⟩
 | q :: qs,vs,i,hl,h=>by
  match vs,hl,h with
  | v :: vs,hl,h =>
   obtain ⟨h1,h2⟩:=h 0 q v rfl rfl
   simp only [Nat.add_zero] at h1 h2
   obtain ⟨Lp,k1,k2,k3⟩:=zKF C qs vs (i+1) (by simpa using hl) fun j q' v' hq hv=>by
    rw [show i+1+j=i+(j+1) by omega];exact h (j+1) q' v' (by simpa using hq) (by simpa using hv)
   have hr:=C.rep i
   rw [h1,h2] at hr
   refine ⟨L i++Lp,⟨v,vs,_,_,rfl,rfl,hr,k1⟩,?_,fun b hb=>?_⟩
   ·rw [List.nodup_append]
    refine ⟨C.nodup i,k2,fun x hx y hy e=>?_⟩
    obtain ⟨t,k4,k5,k6⟩:=k3 y hy
    exact C.disj i t (by omega) x hx (e▸k6)
   ·rcases List.mem_append.1 hb with hb | hb
    ·exact ⟨i,Nat.le_refl _,by simp,hb⟩
    ·obtain ⟨t,k4,k5,k6⟩:=k3 b hb
     exact ⟨t,by omega,by simp;omega,k6⟩
theorem zLM (S:St w0 U Φ0 nt hv a w e Φ rv E L) {j g:Nat} (hj:j<1000) (hg:zAb≤g) (hb:∀ s,zAb≤s→s≠g→E s = .bad) {k:PM} (h:(lay (zAw+j) (E g) k).run o e=some e') :
  ∃ e1 E1 L1,k.run o e1=some e'∧St w0 U Φ0 nt hv a w e1 Φ (upd rv (zAw+j) (rv g)) E1 L1∧zBo E1:=by
 have hh:zAm=50000000:=rfl
 have ho:zAw=60000000:=rfl
 have wN:zAb=1000000000:=rfl
 have jv:=S.small
 obtain ⟨e1,E1,L1,h1,C,h2,h3,h4,h5,h6⟩:=zQi S (d:=zAw+j) (by omega) hg h
 have u5:∀ d ps,d≠zAw+j→d<zAb→E1 d = .tup ps→∃ ps',E d = .tup ps'∧ps'.length=ps.length:=by
  intro d ps hd ua hp
  rcases h3 d hd ua with h7 | h7
  ·exact ⟨ps,by rw [← h7,hp],rfl⟩
  ·rw [h7] at hp;exact zDZ (zIv _ _) hp
 refine ⟨e1,E1,L1,h1,⟨C,h2,S.size,S.small,fun t ht=>?_,fun d ps i hd hp hi=>?_,fun s h7 h8=>?_,S.dfr⟩,fun s hs=>?_⟩
 ·rw [zAf (by omega)];exact S.tmps t ht
 ·obtain ⟨ps',h7,h8⟩:=u5 d ps (by omega) (by omega) hp
  obtain ⟨h9,vs,jO,uz⟩:=S.parts d ps' i hd h7 (by omega)
  refine ⟨h9,vs,by rw [zAf (by omega)];exact jO,?_⟩
  rw [zAf (by simp only [zBq];omega)];exact uz
 ·rw [zAf (by omega)];exact S.hid s h7 h8
 ·by_cases y9:s=g
  ·subst y9;exact h5
  ·rcases h6 s hs y9 with h7 | h7
   ·rw [h7];exact hb s hs y9
   ·rw [h7,hb s hs y9];rfl
theorem zWG (S:St w0 U Φ0 nt hv a w e Φ rv E L) (hb:zBo E) {frz:Bool} {j:Nat} (hj:j<1000) {p:PV} {v:Value} (hp:Rep w Φ (zA0 w rv E) p v []) {k:PM} (h:(zGB frz p fun q=>lay (zAw+j) q k).run o e=some e') :
  ∃ e1 Φ1 rv1 E1 L1,k.run o e1=some e'∧St w0 U Φ0 nt hv a w e1 Φ1 rv1 E1 L1∧zBo E1∧rv1 (zAw+j)=v∧∀ s,s<zAb→s≠zAw+j→rv1 s=rv s:=by
 have ho:zAw=60000000:=rfl
 have wN:zAb=1000000000:=rfl
 have single:(zFD frz p fun q=>lay (zAw+j) q k).run o e=some e'→∃ e1 Φ1 rv1 E1 L1,k.run o e1=some e'∧St w0 U Φ0 nt hv a w e1 Φ1 rv1 E1 L1∧zBo E1∧rv1 (zAw+j)=v∧∀ s,s<zAb→s≠zAw+j→rv1 s=rv s:=by
  intro h
  have S1:=S.hold (g:=zAb) (Nat.le_refl _) hp
  obtain ⟨e1,rv1,E1,h1,W⟩:=zM1 S1 (g:=zAb) (Nat.le_refl _) (by rw [zAi];exact h)
  obtain ⟨Φ1,L1,S2⟩:=W.st
  obtain ⟨e2,E2,L2,h2,S3,qR⟩:=zLM S2 hj (Nat.le_refl zAb) (fun s hs hI=>by rw [(W.rest s hs hI).1,zAf hI];exact hb s hs) h1
  refine ⟨e2,Φ1,_,E2,L2,h2,S3,qR,?_,fun s hs hI=>?_⟩
  ·rw [zAi,W.val,zAi]
  ·rw [zAf hI,W.low s hs,zAf (by omega)]
 simp only [zGB] at h
 split at h
 ·rename_i cs
  obtain ⟨vs,rfl,hr⟩:=hp
  obtain ⟨rv1,E1,L1,S1,k1,k2,k3⟩:=zLt cs vs.toList 1 S hr
  have yO:=hr.length
  have yW:∀ (j:Nat) (p:PV),cs[j]? = some p→∃ v,vs.toList[j]? = some v:=fun j p hj=>⟨_,List.getElem?_eq_getElem (by have:=(List.getElem?_eq_some_iff.1 hj).1;omega)⟩
  obtain ⟨e2,Φ2,rv2,E2,L2,qs,h2,S2,h3,h4,h5,h6⟩:=zKG cs 1 S1 (fun j p hjp=>by
   obtain ⟨v,yF⟩:=yW j p hjp
   exact (k2 j p v hjp yF).1) h
  have vC:∀ s,zAb≤s→(s<zAb+1∨zAb+1+cs.length≤s)→E2 s = .bad:=fun s hs jj=>by
   rw [(h6 s hs jj).1,(k3 s hs jj).1];exact hb s hs
  have gQ:∀ (j:Nat) (q:PV) (v:Value),qs[j]? = some q→vs.toList[j]? = some v→E2 (zAb+1+j)=q∧rv2 (zAb+1+j)=v:=fun j q v hq yF=>by
   obtain ⟨m1,m2⟩:=h4 j q hq
   have jD:j<cs.length:=by have:=(List.getElem?_eq_some_iff.1 hq).1;omega
   have:=k2 j _ v (List.getElem?_eq_getElem jD) yF
   exact ⟨m1,m2.trans this.2.1⟩
  obtain ⟨Lp,r1,r2,r3⟩:=zKF S2.conf qs vs.toList (zAb+1) (by omega) gQ
  have hG:∀ s,decide (zAb+1≤s∧s<zAb+1+cs.length)=true↔zAb+1≤s∧s<zAb+1+cs.length:=fun s=>decide_eq_true_iff
  have hc:=S2.conf.make (w':=w) (fun s=>decide (zAb+1≤s∧s<zAb+1+cs.length)) (fun s hs=>by have:=(hG s).1 hs;omega) (g:=zAb) (Nat.le_refl _) (p := .agg qs) (v := .agg vs) (Lp:=Lp)
   (fun A hA=>⟨vs,rfl,r1.mono zDl.refl hA (fun _ _=>rfl)⟩) r2 (fun b hb=>by
    obtain ⟨t,q1,q2,q3⟩:=r3 b hb
    exact .inl ⟨t,q3,(hG t).2 ⟨q1,by omega⟩⟩) (Nat.le_refl _) (fun _ _ _=>rfl) ⟨rfl,rfl,rfl⟩
  have yq:∀ s,s<zAb→decide (zAb+1≤s∧s<zAb+1+cs.length)=false:=fun s hs=>decide_eq_false (by omega)
  have S3:=S2.turn (e':=e2) hc (fun s hs=>by
   rw [zAf (by omega)]
   simp only [yq s hs,Bool.false_eq_true,if_false];exact S2.env s hs) (fun s hs=>zAf (by omega)) (fun d ps hd hp=>by
   rw [zAf (by omega)] at hp
   simp only [yq d (by omega),Bool.false_eq_true,if_false] at hp;exact ⟨ps,hp,rfl⟩)
  obtain ⟨e4,E4,L4,m1,S4,m2⟩:=zLM S3 hj (Nat.le_refl zAb) (fun s hs hI=>by
   rw [zAf hI]
   by_cases h7:s<zAb+1+cs.length
   ·simp only [(hG s).2 ⟨by omega,h7⟩,if_true]
   ·have:decide (zAb+1≤s∧s<zAb+1+cs.length)=false:=decide_eq_false (by omega)
    simp only [this,Bool.false_eq_true,if_false];exact vC s hs (by omega)) (by rw [zAi];exact h2)
  refine ⟨e4,Φ2,_,E4,L4,m1,S4,m2,?_,fun s hs hI=>?_⟩
  ·rw [zAi,zAi]
  ·rw [zAf hI,zAf (by omega),h5 s hs,(k1 s hs).2]
 ·exact single h
def zWL (nt:Nat):ResultVar→Bool
 | .tmp t=>Nat.blt t nt
 | .cell t _=>Nat.blt t nt
def zGJ (a:Act):ResultVar→Sem Value
 | .tmp t=>pure (a.tmps.getD t undef)
 | .cell t ty=>do loadVar ty (← asAddr (a.tmps.getD t undef))
theorem zL8 {frz:Bool}:∀ (rs:List ResultVar) (j:Nat) {e:Env} {Φ:Nat→Prop} {rv:Nat→Value} {E:Nat→PV} {L:Nat→List Nat},St w0 U Φ0 nt hv a w e Φ rv E L→zBo E→j+rs.length≤1000→(∀ x∈rs,zWL nt x=true)→(zCL P frz j rs).run o e=some e' →
  ∃ Φ1 rv1 E1 L1,St w0 U Φ0 nt hv a w e' Φ1 rv1 E1 L1∧zBo E1∧(∀ s,s<zAw+j→rv1 s=rv s)∧∀ (i:Nat) (x:ResultVar),rs[i]? = some x→(zGJ a x).run P w = .ok (rv1 (zAw+j+i)) w
 | [],j,e,Φ,rv,E,L,S,hb,hj,hr,h=>by
  simp only [zCL,PM.run,Option.some.injEq] at h;subst h
  exact ⟨Φ,rv,E,L,S,hb,fun _ _=>rfl,by simp⟩
 | x :: rs,j,e,Φ,rv,E,L,S,hb,hj,hr,h=>by
  have ho:zAw=60000000:=rfl
  have wN:zAb=1000000000:=rfl
  simp only [List.length_cons] at hj
  have hx:=hr x (by simp)
  have fin:∀ {p:PV} {v:Value},Rep w Φ (zA0 w rv E) p v []→(zGJ a x).run P w = .ok v w→(zGB frz p fun q=>lay (zAw+j) q (zCL P frz (j+1) rs)).run o e=some e' →
    ∃ Φ1 rv1 E1 L1,St w0 U Φ0 nt hv a w e' Φ1 rv1 E1 L1∧zBo E1∧(∀ s,s<zAw+j→rv1 s=rv s)∧∀ (i:Nat) (y:ResultVar),(x::rs)[i]? = some y→(zGJ a y).run P w = .ok (rv1 (zAw+j+i)) w:=by
   intro p v hp yF h
   obtain ⟨e1,Φ1,rv1,E1,L1,h1,S1,y1,h2,h3⟩:=zWG S hb (by omega) hp h
   obtain ⟨Φ2,rv2,E2,L2,S2,jF,h4,h5⟩:=zL8 rs (j+1) S1 y1 (by omega) (fun y hy=>hr y (by simp [hy])) h1
   refine ⟨Φ2,rv2,E2,L2,S2,jF,fun s hs=>(h4 s (by omega)).trans (h3 s (by omega) (by omega)),fun i y hy=>?_⟩
   cases i with
   | zero =>
    simp at hy;subst hy
    rw [Nat.add_zero,h4 _ (by omega),h2];exact yF
   | succ i =>
    rw [show zAw+j+(i+1)=zAw+(j+1)+i by omega]
    exact h5 i y (by simpa using hy)
  cases x with
  | tmp t =>
   have uJ:t<nt:=zB7 hx
   have ye:t<zAb:=Nat.lt_of_lt_of_le uJ (Nat.le_trans S.small (by decide))
   simp only [zCL,PM.run] at h
   rw [← S.env t ye] at h
   exact fin (S.conf.view ye) (by simp only [zGJ,Sem.run_pure];rw [S.tmps t uJ]) h
  | cell t ty =>
   have uJ:t<nt:=zB7 hx
   have ye:t<zAb:=Nat.lt_of_lt_of_le uJ (Nat.le_trans S.small (by decide))
   simp only [zCL] at h
   obtain ⟨sh,j1,h1⟩:=zBC h
   simp only [PM.run] at h1
   rw [← S.env t ye] at h1
   have yF:=S.conf.view ye
   split at h1
   ·rename_i r pre i c s' u4
    rw [u4] at yF
    obtain ⟨b,u,q,q1,q2,q3,q4⟩:=zKZ (P:=P) S j1 yF h1
    exact fin q4 (by simp only [zGJ,Sem.run_bind];rw [S.tmps t uJ,q1];simp [asAddr,q2]) q3
   ·cases h1
end
end Go.Eng
namespace Go.Eng
open Go
def zU8 (P:Program) (fn:Func):Bool :=
 match fn.body with
 | none=>true
 | some c=>zCI P fn.ntmps c&&fn.results.toList.all (zWL fn.ntmps)&&Nat.ble fn.ntmps 2000000&&Nat.ble fn.results.size 1000
section
variable {P:Program} {H:zBf} {w:World} {orc:zAE} {yo:zCQ}
theorem zIZ {α β:Type} {f:α→Sem β}:∀ (l:List α) (vs:List β),l.length=vs.length→(∀ (i:Nat) (x:α) (v:β),l[i]? = some x→vs[i]? = some v→(f x).run P w = .ok v w)→(l.mapM f).run P w = .ok vs w
 | [],[],_,_=>rfl
 | [],_::_,h,_=>by cases h
 | _::_,[],h,_=>by cases h
 | x::l,v::vs,h,hf=>by
  simp only [List.mapM_cons,Sem.run_bind,hf 0 x v rfl rfl,Result.andThen_ok,zIZ l vs (by simpa using h) (fun i y u hy hu=>hf (i+1) y u (by simpa using hy) (by simpa using hu)),Sem.run_pure]
theorem zNk {fn:Func} {a:Act} {vs:List Value} (hl:fn.results.size=vs.length) (h:∀ (i:Nat) (x:ResultVar) (v:Value),fn.results.toList[i]? = some x→vs[i]? = some v→(zGJ a x).run P w = .ok v w) :
  (results fn a.tmps).run P w = .ok (if h:vs.toArray.size=1 then vs.toArray[0] else .tuple vs.toArray) w:=by
 have h1:=zIZ (P:=P) (w:=w) (f:=zGJ a) fn.results.toList vs (by simpa using hl) h
 have h2:(fn.results.mapM (zGJ a)).run P w = .ok vs.toArray w:=by
  rw [Array.mapM_eq_mapM_toList]
  simp only [Sem.run_map,h1,Result.andThen_ok]
 have h3:(fun | .tmp t=>pure (a.tmps.getD t undef) | .cell t ty=>do loadVar ty (← asAddr (a.tmps.getD t undef)):ResultVar→Sem Value)=zGJ a:=by
  funext x;cases x<;>rfl
 simp only [results,Sem.run_bind]
 have h4:(fn.results.mapM (fun | .tmp t=>pure (a.tmps.getD t undef) | .cell t ty=>do loadVar ty (← asAddr (a.tmps.getD t undef)):ResultVar→Sem Value)).run P w = .ok vs.toArray w:=by rw [h3];exact h2
 erw [h4]
 rfl
theorem zI6 {fn:Func} {tmps:Array Value} {R:Ending→World→Prop}:∀ (ds:List Deferred) (w:World),(∀ d∈ds,∃ D,d.target = .collected D∧w.heap[D]? = some (.deferred (some [])))→ds.Pairwise (fun d d'=>∀ D D',d.target = .collected D→d'.target = .collected D'→D≠D') →
  (∀ w',w'.heap.size=w.heap.size→(∀ b,(∀ d∈ds,d.target ≠ .collected b)→w'.heap[b]? = w.heap[b]?)→(w'.os=w.os∧w'.tape=w.tape∧w'.output=w.output)→LeavesIn (FF none) 0 P fn tmps R [] .returning w')→LeavesInM (FF none) 0 P fn tmps R ds .returning w
 | [],w,_,_,h=>h w rfl (fun _ _=>rfl) ⟨rfl,rfl,rfl⟩
 | d :: ds,w,h1,h2,h=>by
  obtain ⟨D,q1,q2⟩:=h1 d (by simp)
  obtain ⟨p1,p2⟩:=List.pairwise_cons.1 h2
  refine ⟨by simp,.inl ⟨D,_,q1,run_takeDeferred q2,zI6 ds _ (fun d' hd=>?_) p2 fun w' g1 g2 g3=>?_⟩⟩
  ·obtain ⟨D',r1,r2⟩:=h1 d' (by simp [hd])
   exact ⟨D',r1,(World.putObj_heap_other (Ne.symm (p1 d' hd D D' q1 r1))).trans r2⟩
  ·refine h w' (g1.trans (by simp)) (fun b hb=>(g2 b fun d' hd=>hb d' (by simp [hd])).trans (World.putObj_heap_other fun e=>hb d (by simp) (e▸q1))) g3
theorem zUM (zE5:P.follows .mixedOrders=true) (yx:zGd P orc) (hnm:zEB P) (qa:zMA P yo) {f:FuncId} {fn:Func} {body:Code} {n:Nat} {args hid hX:List PV} {v:PV} (hf:P.funcs[f]? = some fn) (yU:fn.body=some body) (hwf:zU8 P fn=true) (h:zIQ P H orc yo zCg n f fn body args hid=some (v,hX)) :
    zFt P f args hid v hX:=by
  have ho:zAw=60000000:=rfl
  have hh:zAm=50000000:=rfl
  have wN:zAb=1000000000:=rfl
  simp only [zU8,yU,Bool.and_eq_true] at hwf
  obtain ⟨⟨⟨jH,y7⟩,uZ⟩,jT⟩:=hwf
  have uZ:=Nat.le_of_ble_eq_true uZ
  have jT:=Nat.le_of_ble_eq_true jT
  simp only [zIQ] at h
  cases hc:(Nat.ble args.length fn.ntmps&&Nat.ble hid.length 1000&&args.all fun p => !p.isTup) with
  | false=>rw [hc] at h;cases h
  | true =>
    rw [hc] at h;simp only [cond_true] at h
    simp only [Bool.and_eq_true] at hc
    obtain ⟨⟨yL,uY⟩,u5⟩:=hc
    have yL:=Nat.le_of_ble_eq_true yL
    have uY:=Nat.le_of_ble_eq_true uY
    have key : ∀ x e1,exec P H orc yo zCg fn.ntmps (H f) n body (zA3 args hid) none=some (x,e1,none)→(x = .norm∨x = .ret)→∀ e',(zCL P (H f).frz 0 fn.results.toList).run orc e1=some e' →
        (bif Nat.beq fn.results.size 1&&(e'.get zAw).isTup then none else some (zUs e' fn.results.size,(List.range hid.length).map fun j=>e'.get (zAm+j)))=some (v,hX)→zFt P f args hid v hX:=by
      intro x e1 hx gN e' vz yd w Φ rv E L vs hE kX C yJ yk j8
      refine callsIn_wide.1 (callsIn_of_wp_marks (n:=0) hf yU trivial ?_)
      have hntm:vs.size+(fn.ntmps-vs.size)=fn.ntmps:=by omega
      have S:St w (fun b=>∃ s,b∈L s) Φ fn.ntmps ⟨rv,[]⟩ {tmps:=vs++Array.replicate (fn.ntmps-vs.size) undef,defers:=[]} w (zA3 args hid) Φ rv E L:=by
        refine ⟨C,hE,by simp;omega,uZ,fun t ht=>?_,fun d ps i hd hp hi=>?_,fun _ _ _=>rfl,rfl⟩
        · simp only [Array.getD_eq_getD_getElem?,Array.getElem?_append]
          by_cases h1:t<vs.size
          · rw [if_pos h1,yk t (by omega)];rfl
          · rw [if_neg h1,Array.getElem?_replicate,if_pos (by omega),j8 t (by omega) (by omega)];rfl
        · rw [hE d (by omega),zDi (by omega)] at hp
          split at hp
          · rename_i vX
            have:(args.getD d .bad)∈args:=by
              simp only [List.getD,List.getElem?_eq_getElem vX,Option.getD_some];exact List.getElem_mem vX
            have:=List.all_eq_true.1 u5 _ this
            rw [hp] at this;cases this
          · split at hp
            · omega
            · cases hp
      have hw:=zHt (zWo yx hnm) zE5 n body (.inr (zWQ zE5 yx hnm qa)) jH (fun _ _=>trivial) rfl (⟨rfl,w,_,Φ,[],Rel.refl,⟨fun _ h=>(by cases h),.nil⟩,Φ,rv,E,L,S,kX⟩:GB w (fun b=>∃ s,b∈L s) Φ fn.ntmps rv _ w _ none) hx
      refine wpIn_mono hw fun ex a' w1 ⟨wQ,_,wz,Uz,Φz,ds,wt,vS,Φ1,rv1,E1,L1,Sz,y1⟩=>?_
      have u6:LeavesInM (FF none) 0 P fn a'.tmps (fun e w'=>∃ u Φ' rv' E' L',e = .returned u∧Conf w (fun b=>∃ s,b∈L s) Φ w' Φ' rv' E' L'∧hX.length=hid.length ∧
          (∀ j,j<hid.length→E' (zAm+j)=hX.getD j .bad∧rv' (zAm+j)=rv (zAm+j))∧Gave v u rv' E') a'.defers .returning w1:=by
       rw [Sz.dfr]
       have gR:∀ d∈ds,∀ D,d.target = .collected D→(∀ s,D∉L1 s)∧¬ Φ1 D∧w.heap.size≤D:=by
         intro d hd D hD
         obtain ⟨D',q1,q0,q2,q3,q4,q5⟩:=vS.each d hd
         rw [q1] at hD;cases hD
         refine ⟨fun s hs=>?_,fun h=>?_,q0⟩
         · rcases (Sz.conf.own s D hs).2.2 with h | h
           · exact q4 h
           · omega
         · rcases (Sz.conf.frz D h).2 with h | h | h
           · exact q5 h
           · exact q4 h
           · omega
       refine zI6 ds w1 (fun d hd=>?_) vS.apart fun w' m1 m2 m3=>?_
       · obtain ⟨D,q1,_,q2,q3,q4,_⟩:=vS.each d hd
         exact ⟨D,q1,(Sz.conf.kept D q2 q4).trans q3⟩
       have C1:Conf w (fun b=>∃ s,b∈L s) Φ w' Φ1 rv1 E1 L1:=(Sz.conf.rebase wt).moved (by omega) (fun s b hb=>m2 b fun d hd h=>(gR d hd b h).1 s hb) (fun b hb=>m2 b fun d hd h=>(gR d hd b h).2.1 hb) (fun b hb _=>m2 b fun d hd h=>by have:=(gR d hd b h).2.2;omega) m3
       have S1:St w (fun b=>∃ s,b∈L s) Φ fn.ntmps ⟨rv,ds⟩ a' w' e1 Φ1 rv1 E1 L1:=Sz.with C1
       obtain ⟨Φ2,rv2,E2,L2,S2,jF,_,h3⟩:=zL8 fn.results.toList 0 S1 y1 (by simpa using jT) (fun y hy=>List.all_eq_true.1 y7 y hy) vz
       let us:List Value:=(List.range fn.results.size).map fun i=>rv2 (zAw+i)
       have yA:=zNk (P:=P) (w:=w') (fn:=fn) (a:=a') (vs:=us) (by simp [us]) (fun i y u hy hu=>by
         have:=h3 i y hy
         rw [Nat.add_zero] at this
         rw [this]
         have hi:i<fn.results.size:=by have:=(List.getElem?_eq_some_iff.1 hy).1;simpa using this
         simp only [us,List.getElem?_map,List.getElem?_range hi,Option.map_some,Option.some.injEq] at hu
         rw [hu])
       refine ⟨_,yA,_,Φ2,rv2,E2,L2,rfl,S2.conf,?_⟩
       have hv:v=zUs e' fn.results.size∧hX=(List.range hid.length).map fun j=>e'.get (zAm+j):=by
         revert yd
         cases (Nat.beq fn.results.size 1&&(e'.get zAw).isTup) with
         | true=>intro h;cases h
         | false=>intro h;simp only [cond_false,Option.some.injEq,Prod.mk.injEq] at h;exact ⟨h.1.symm,h.2.symm⟩
       obtain ⟨ui,kY⟩:=hv
       refine ⟨by rw [kY];simp,fun j hj=>⟨?_,S2.hid _ (by omega) (by omega)⟩,?_⟩
       · rw [S2.env _ (by omega),kY]
         simp [List.getD,hj]
       · by_cases h1:fn.results.size=1
         · have uZ:(e'.get zAw).isTup=false:=by
             revert yd
             cases hb:(e'.get zAw).isTup with
             | true=>simp [h1]
             | false=>intro _;rfl
           have hv3:v=e'.get zAw:=by rw [ui,zUs,if_pos h1]
           have wK:us=[rv2 zAw]:=by simp only [us,h1];rfl
           refine ⟨fun _=>⟨by rw [S2.env _ (by omega),hv3],?_⟩,fun ps ya=>?_⟩
           · rw [wK];rfl
           · rw [hv3] at ya;rw [ya] at uZ;cases uZ
         · have hv3:v = .tup ((List.range fn.results.size).map fun j=>e'.get (zAw+j)):=by rw [ui,zUs,if_neg h1]
           refine ⟨fun h=>absurd hv3 (h _),fun ps ya=>?_⟩
           rw [hv3] at ya
           simp only [PV.tup.injEq] at ya
           subst ya
           refine ⟨us.toArray,?_,by simp [us],fun j p hj=>?_⟩
           · rw [dif_neg (by simpa [us] using h1)]
           · simp only [List.getElem?_map] at hj
             cases hr:(List.range fn.results.size)[j]? with
             | none=>rw [hr] at hj;cases hj
             | some k =>
               rw [hr] at hj;simp only [Option.map_some,Option.some.injEq] at hj
               obtain ⟨jN,wX⟩:=List.getElem?_eq_some_iff.1 hr
               simp only [List.getElem_range] at wX
               subst wX
               simp only [List.length_range] at jN
               exact ⟨by rw [S2.env _ (by omega)];exact hj,by simp [us,jN]⟩
      subst wQ
      rcases gN with rfl | rfl<;>exact u6
    revert h
    cases hx:exec P H orc yo zCg fn.ntmps (H f) n body (zA3 args hid) none with
    | none=>intro h;cases h
    | some r =>
      obtain ⟨x,e1,lg⟩:=r
      intro h
      cases x with
      | ex id=>cases lg<;>cases h
      | norm =>
        cases lg with
        | some g=>cases h
        | none =>
          cases vz:(zCL P (H f).frz 0 fn.results.toList).run orc e1 with
          | none=>simp only [vz] at h;cases h
          | some e'=>simp only [vz] at h;exact key .norm e1 hx (.inl rfl) e' vz h
      | ret =>
        cases lg with
        | some g=>cases h
        | none =>
          cases vz:(zCL P (H f).frz 0 fn.results.toList).run orc e1 with
          | none=>simp only [vz] at h;cases h
          | some e'=>simp only [vz] at h;exact key .ret e1 hx (.inr rfl) e' vz h
def zEM (P:Program) (H:zBf):Prop:=∀ (f:FuncId) (fn:Func) (args hid:List PV) (v:PV) (hX:List PV),P.funcs[f]? = some fn→(H f).intr≠0→zDJ P fn (H f).intr args hid=some (v,hX)→zCH P f∧zFt P f args hid v hX
def Fit (P:Program) (H:zBf):Prop:=∀ (f:FuncId) (fn:Func),P.funcs[f]? = some fn→(H f).intr=0→zU8 P fn=true
def zUc (P:Program) (g:FuncId) (first:List PV) (i:Nat) (caps:List PV) (k:Int) (plan:List (List PV)):Prop :=
  ∀ (J:List (List PV)→World→(Nat→Prop)→Prop) (Jx:World→Prop) (Ψ:Nat→Prop),Client P i plan k Ψ J Jx→∀ (w:World) (Φ:Nat→Prop) (rv:Nat→Value) (E:Nat→PV) (L:Nat→List Nat) (vs:Array Value) (B:Nat→Prop),
   (∀ s,s<zAb→E s=(zA3 (first++PV.yld i::caps) []).get s)→(∀ s,zAb≤s→E s = .bad)→Conf w (fun b=>∃ s,b∈L s) Φ w Φ rv E L→vs.size=(first++PV.yld i::caps).length→(∀ j,j<(first++PV.yld i::caps).length→vs[j]? = some (rv j)) →
   (∀ s,(first++PV.yld i::caps).length≤s→s<zAm→rv s=undef)→J [] w B→(∀ b,B b→∀ s,b∉L s)→(∀ b,Φ b→Ψ b∨¬ B b) →
   CallsIn (FF none) 0 P g vs w fun en w'=>(∃ v,en = .returned v)∧((k-plan.length≠0∧∃ B',J plan w' B')∨(k-plan.length=0∧Jx w'))
theorem zPM (zE5:P.follows .mixedOrders=true) (yx:zGd P orc) (hnm:zEB P) (zMd:Fit P H) {n:Nat} {g:FuncId} {first caps:List PV} {i:Nat} {k:Int} {plan:List (List PV)} (h:zWh P H orc yo zCg n g first i caps k=some plan):zCH P g∧(first++PV.yld i::caps).length≤zAm∧zUc P g first i caps k plan:=by
 have hh:zAm=50000000:=rfl
 simp only [zWh] at h
 split at h
 ·rename_i fn hf
  split at h
  ·rename_i body yU
   rcases zBh h with ⟨hc,h⟩ | ⟨_,h⟩
   ·simp only [Bool.and_eq_true] at hc
    obtain ⟨⟨⟨⟨h1,h2⟩,h3⟩,h4⟩,hint⟩:=hc
    have hint:=Nat.eq_of_beq_eq_true hint
    have h1:=Nat.le_of_ble_eq_true h1
    have hwf:=zMd g fn hf hint
    simp only [zU8,yU,Bool.and_eq_true] at hwf
    obtain ⟨⟨⟨jH,y7⟩,uZ⟩,jT⟩:=hwf
    have uZ:=Nat.le_of_ble_eq_true uZ
    have u5:(first++PV.yld i::caps).all (fun p => !p.isTup)=true:=by
     rw [List.all_append,List.all_cons,Bool.and_eq_true] 
     rw [List.all_append,Bool.and_eq_true] at h3
     exact ⟨h3.1,by rw [h3.2];rfl⟩
    have hk:k≠0:=by simpa using h4
    refine ⟨⟨fn,hf,by rw [yU];rfl⟩,by omega,?_⟩
    have key:∀ {x:X} {e1:Env} {l:Log},exec P H orc yo zCg fn.ntmps (H g) n body (zA3 (first++PV.yld i::caps) []) (some ⟨[],k,i⟩)=some (x,e1,some l)→(x = .norm∨x = .ret)→l.xs=plan→zUc P g first i caps k plan:=fun hx gN hg J Jx Ψ hC w Φ rv E L vs B hE kX C yJ yk j8 hJ hBL hBΦ =>
     zU3 zE5 yx hnm hC hf yU jH uZ h1 u5 h2 hx gN hg hk hE kX C yJ yk j8 hJ hBL hBΦ
    split at h
    ·rename_i e1 l hx
     simp only [Option.some.injEq] at h
     exact key hx (.inl rfl) h
    ·rename_i e1 l hx
     simp only [Option.some.injEq] at h
     exact key hx (.inr rfl) h
    ·cases h
   ·cases h
  ·cases h
 ·cases h
theorem zE4 [Yo] (zE5:P.follows .mixedOrders=true) (hnm:zEB P) (zMd:Fit P H) (hin:zEM P H) (qa:zMA P Yo.yo):∀ n,zGd P (zC9 P H n)
 | 0=>by intro f args hid v hX h;cases h
 | n + 1 => by
  have yx:=zE4 zE5 hnm zMd hin qa n
  intro f args hid v hX h
  have h:zI7 P H (zC9 P H n) Yo.yo zCg (n+1) f args hid=some (v,hX):=h
  simp only [zI7] at h
  split at h
  ·rename_i fn hf
   split at h
   ·rename_i hi
    exact hin f fn args hid v hX hf hi h
   ·rename_i hi
    split at h
    ·rename_i body yU
     exact ⟨⟨fn,hf,by rw [yU];rfl⟩,zUM zE5 yx hnm qa hf yU (zMd f fn hf (by simpa using hi)) h⟩
    ·cases h
  ·cases h
abbrev yo0:Yo:=⟨fun _ _ _ _ _=>none⟩
noncomputable def zSF (P:Program) (H:zBf) (n:Nat):zCQ:=fun g first i caps k=>zWh P H (@zC9 P H yo0 n) yo0.yo zCg (n+1) g first i caps k
open Classical in
noncomputable def zW4 (P:Program) (H:zBf):zCQ:=fun g first i caps k=>if h:∃ xs n0,∀ n,n0≤n→zSF P H n g first i caps k=some xs then some (Classical.choose h) else none
noncomputable abbrev yo1 (P:Program) (H:zBf):Yo:=⟨zW4 P H⟩
theorem zUv {g:FuncId} {first:List PV} {i:Nat} {caps:List PV} {k:Int} {xs:List (List PV)} {n0:Nat} (h:∀ n,n0≤n→zSF P H n g first i caps k=some xs):zW4 P H g first i caps k=some xs:=by
 have h':∃ xs n0,∀ n,n0≤n→zSF P H n g first i caps k=some xs:=⟨xs,n0,h⟩
 simp only [zW4,dif_pos h']
 obtain ⟨n1,h1⟩:=Classical.choose_spec h'
 have h2:=h1 (max n0 n1) (by omega)
 rw [h (max n0 n1) (by omega)] at h2
 exact h2.symm
theorem zPu (zE5:P.follows .mixedOrders=true) (hnm:zEB P) (zMd:Fit P H) (hin:zEM P H):zMA P (zW4 P H):=by
 intro g first i caps k plan h
 simp only [zW4] at h
 split at h
 ·rename_i h'
  simp only [Option.some.injEq] at h;subst h
  obtain ⟨n1,h1⟩:=Classical.choose_spec h'
  exact zPM zE5 (@zE4 P H yo0 zE5 hnm zMd hin (fun g first i caps k plan h=>by cases h) n1) hnm zMd (h1 n1 (by omega))
 ·cases h
end
end Go.Eng
namespace Go.Eng
open Go
def zHY:zAE:=fun _ _ _=>none
def zVR:zCQ:=fun _ _ _ _ _=>none
def zHj:All:=fun _=>none
theorem zGz {o:zAE}:∀ {p:PM} {e e1:Env},p.run zHY e=some e1→p.run o e=some e1:=by
 intro p
 induction p with
 | ok=>intro e e1 h;exact h
 | fail=>intro e e1 h;cases h
 | view s k ih=>intro e e1 h;exact ih _ h
 | get s k ih=>intro e e1 h;simp only [PM.run] at h ⊢;split at h<;>first | (cases h;done) | exact ih _ h
 | set s q k ih=>intro e e1 h;exact ih h
 | cells r pre i c n k ih=>intro e e1 h;simp only [PM.run] at h ⊢;split at h<;>first | (cases h;done) | exact ih _ _ h
 | deep r pre k ih=>intro e e1 h;simp only [PM.run] at h ⊢;split at h<;>first | (cases h;done) | exact ih _ h
 | wcells r pre i c qs k ih=>intro e e1 h;simp only [PM.run] at h ⊢;split at h<;>first | (cases h;done) | exact ih h
 | wnode r pre q k ih =>
  intro e e1 h
  simp only [PM.run] at h ⊢
  rcases zBh h with ⟨_,h⟩ | ⟨hl,h⟩
  ·cases h
  ·rw [hl];simp only [cond_false]
   split at h
   ·exact ih h
   ·cases h
 | kill r pre k ih=>intro e e1 h;exact ih h
 | frz r pre k ih=>intro e e1 h;simp only [PM.run] at h ⊢;split at h<;>first | (cases h;done) | exact ih h
 | killEx r pre k ih=>intro e e1 h;exact ih h
 | forget r k ih=>intro e e1 h;exact ih h
 | call f args hid k ih=>intro e e1 h;cases h
theorem zAo {α β:Type} {x y:Option α} {f:α→β} {r:β} (h:x.map f=some r) (g:∀ a,x=some a→y=some a):y.map f=some r:=by
 obtain ⟨a,h1,h2⟩:=Option.map_eq_some_iff.1 h
 rw [g a h1];simp [h2]
theorem zIs {o:zAE}:∀ {p:PM} {e:Env} {r:Env×Tok},p.runT zHY e=some r→p.runT o e=some r:=by
 intro p
 induction p with
 | ok=>intro e e1 h;exact h
 | fail=>intro e e1 h;cases h
 | view s k ih=>intro e e1 h;exact zAo h fun a h=>ih _ h
 | get s k ih=>intro e e1 h;simp only [PM.runT] at h ⊢;split at h<;>first | (cases h;done) | exact zAo h fun a h=>ih _ h
 | set s q k ih=>intro e e1 h;exact zAo h fun a h=>ih h
 | cells r pre i c n k ih=>intro e e1 h;simp only [PM.runT] at h ⊢;split at h<;>first | (cases h;done) | exact zAo h fun a h=>ih _ _ h
 | deep r pre k ih=>intro e e1 h;simp only [PM.runT] at h ⊢;split at h<;>first | (cases h;done) | exact zAo h fun a h=>ih _ h
 | wcells r pre i c qs k ih=>intro e e1 h;simp only [PM.runT] at h ⊢;split at h<;>first | (cases h;done) | exact zAo h fun a h=>ih h
 | wnode r pre q k ih =>
  intro e e1 h
  simp only [PM.runT] at h ⊢
  rcases zBh h with ⟨_,h⟩ | ⟨hl,h⟩
  ·cases h
  ·rw [hl];simp only [cond_false]
   split at h
   ·exact zAo h fun a h=>ih h
   ·cases h
 | kill r pre k ih=>intro e e1 h;exact zAo h fun a h=>ih h
 | frz r pre k ih=>intro e e1 h;simp only [PM.runT] at h ⊢;split at h<;>first | (cases h;done) | exact zAo h fun a h=>ih h
 | killEx r pre k ih=>intro e e1 h;exact zAo h fun a h=>ih h
 | forget r k ih=>intro e e1 h;exact zAo h fun a h=>ih h
 | call f args hid k ih=>intro e e1 h;cases h
section
variable {P:Program} {H:zBf} {o:zAE} {fz tk nl:Bool} {fzs tks:List Nat} {ops:Array Oper} {nt:Nat} {hh:FHint} {yo:zCQ} {al:All}
theorem zHI {x:Oper} {h0:Nat} {args:List PV} {l:Log} {e:Env} {r:Env×Option Log} (h:zBQ zHY ops x h0 args l e=some r):zBQ o ops x h0 args l e=some r:=by
 simp only [zBQ] at h ⊢
 split at h
 ·rcases zBh h with ⟨hc,h⟩ | ⟨_,h⟩
  ·rw [hc];simp only [cond_true]
   refine zAo h fun a h=>?_
   rcases zBh h with ⟨hk,h⟩ | ⟨hk,h⟩<;>rw [hk]
   ·exact zGz h
   ·exact zGz h
  ·cases h
 ·exact zAo h fun a h=>zGz h
 ·cases h
theorem zRi {x:Oper} {e:Env} {lg:Option Log} {r:Env×Option Log} (h:zCP P H zHY fz tk nl ops x e lg=some r):zCP P H o fz tk nl ops x e lg=some r:=by
 simp only [zCP] at h ⊢
 split at h
 ·exact zAo h fun a h=>zGz h
 ·split at h
  ·exact zHI h
  ·exact zAo h fun a h=>zGz h
theorem zL3 {x:Oper} {e:Env} {lg:Option Log} {r:Env×Option Log×Tok} (h:zEj P H zHY fz tk nl ops x e lg=some r):zEj P H o fz tk nl ops x e lg=some r:=by
 simp only [zEj] at h ⊢
 split at h
 ·exact zAo h fun a h=>zIs h
 ·split at h
  ·exact zAo h fun a h=>zHI h
  ·exact zAo h fun a h=>zIs h
theorem zG9:∀ {l:List Oper} {i:Nat} {e:Env} {lg:Option Log} {r:Env×Option Log},zA7 P H zHY fzs tks nl ops l i e lg=some r→zA7 P H o fzs tks nl ops l i e lg=some r
 | [],_,_,_,_,h=>h
 | x::l,i,e,lg,r,h=>by
  simp only [zA7] at h ⊢
  cases hs:zCP P H zHY (fzs.contains i) (tks.contains i) nl ops x e lg with
  | none=>rw [hs] at h;cases h
  | some q=>rw [hs] at h;rw [zRi hs];exact zG9 h
theorem zJH:∀ {l:List Oper} {i:Nat} {acc:List Nat} {ts:List Tok} {e:Env} {lg:Option Log} {r:Env×Option Log},zCv P H zHY fzs tks nl ops l i acc ts e lg=some r→zCv P H o fzs tks nl ops l i acc ts e lg=some r
 | [],_,_,_,_,_,_,h=>h
 | x :: l,i,acc,ts,e,lg,r,h=>by
  simp only [zCv] at h ⊢
  cases hs:zEj P H zHY (fzs.contains i) (tks.contains i) nl ops x e lg with
  | none=>rw [hs] at h;cases h
  | some q =>
   rw [hs] at h;rw [zL3 hs]
   simp only at h ⊢
   rcases zBh h with ⟨hc,h⟩ | ⟨_,h⟩
   ·rw [hc];exact zJH h
   ·cases h
theorem zOH:∀ {m:Nat} {c:Code} {e:Env} {lg:Option Log} {r:X×Env×Option Log},exec P H zHY zVR zHj nt hh m c e lg=some r→∀ {m':Nat},m≤m'→exec P H o yo al nt hh m' c e lg=some r
 | 0,_,_,_,_,h,_,_=>by cases h
 | m + 1,c,e,lg,r,h,m',hm=>by
  obtain ⟨m',rfl⟩:∃ k,m'=k+1:=⟨m'-1,by omega⟩
  have ih:∀ {c:Code} {e:Env} {lg:Option Log} {r:X×Env×Option Log},exec P H zHY zVR zHj nt hh m c e lg=some r→exec P H o yo al nt hh m' c e lg=some r:=fun h=>zOH h (by omega)
  cases c with
  | region id ops draw =>
   simp only [exec] at h ⊢
   split at h
   ·rename_i e1 lg1 h1
    have:(if draw=true then zCv P H o (hh.frzs id) (hh.take id) hh.nils ops ops.toList 0 [] [] e lg else zA7 P H o (hh.frzs id) (hh.take id) hh.nils ops ops.toList 0 e lg)=some (e1,lg1):=by
     cases draw with
     | true=>exact zJH h1
     | false=>exact zG9 h1
    rw [this];exact h
   ·cases h
  | seq a b =>
   simp only [exec] at h ⊢
   cases h1:exec P H zHY zVR zHj nt hh m a e lg with
   | none=>rw [h1] at h;cases h
   | some q =>
    rw [h1] at h;rw [ih h1]
    obtain ⟨x,e1,lg1⟩:=q
    cases x with
    | norm=>exact ih h
    | ex id=>exact h
    | ret=>exact h
  | cond c a b =>
   cases c with
   | tmp t =>
    simp only [exec] at h ⊢
    revert h
    cases e.get t with
    | bool v=>intro h;cases v<;>exact ih h
    | _=>intro h;cases h
   | const v =>
    simp only [exec] at h ⊢
    revert h
    cases v with
    | bool v=>intro h;cases v<;>exact ih h
    | _=>intro h;cases h
   | _=>cases h
  | block id b =>
   simp only [exec] at h ⊢
   cases h1:exec P H zHY zVR zHj nt hh m b e lg with
   | none=>rw [h1] at h;cases h
   | some q =>
    rw [h1] at h;rw [ih h1];exact h
  | loop b =>
   simp only [exec] at h ⊢
   cases h1:exec P H zHY zVR zHj nt hh m b (e.drop (hh.loopDrop (zAP b))) lg with
   | none=>rw [h1] at h;cases h
   | some q =>
    rw [h1] at h;rw [ih h1]
    obtain ⟨x,e1,lg1⟩:=q
    cases x with
    | norm=>exact ih h
    | ex id=>exact h
    | ret=>exact h
  | scope b=>exact ih h
  | rangeFunc x ps ca cb =>
   cases x with
   | tmp t =>
    simp only [exec] at h
    cases lg with
    | none =>
     simp only at h
     obtain ⟨q,h1,_⟩:=Option.map_eq_some_iff.1 h
     simp only [zHf] at h1
     split at h1
     ·cases h1
     ·cases h1
    | some _=>cases h
   | _=>cases h
  | skip=>exact h
  | exit id=>exact h
  | ret=>exact h
  | label l=>exact h
  | _=>cases h
end
def cl:Code→Code
 | .seq a _=>a
 | .cond _ a _=>a
 | .block _ b=>b
 | .loop b=>b
 | .scope b=>b
 | c=>c
def cr:Code→Code
 | .seq _ b=>b
 | .cond _ _ b=>b
 | c=>c
def zTu:Code→Bool
 | .seq .. => true
 | _=>false
def zOg:Code→Bool
 | .loop _=>true
 | _=>false
def zSh:Code→Bool
 | .scope _=>true
 | _=>false
def zRS:Code→Option Nat
 | .block n _=>some n
 | _=>none
def zRk:Code→Option Nat
 | .cond (.tmp t) _ _=>some t
 | _=>none
def zT4:Code→Option Nat
 | .exit n=>some n
 | _=>none
def zWO:Code→Bool
 | .ret=>true
 | _=>false
def zUb:Code→Bool
 | .skip=>true
 | _=>false
def zUX:Code→Bool
 | .region .. => true
 | _=>false
def rid:Code→Nat
 | .region n _ _=>n
 | _=>0
def zFk:Code→Array Oper
 | .region _ o _=>o
 | _=>#[]
def zQs:Code→Bool
 | .region _ _ d=>d
 | _=>false
def zEi (c : Code) (i : Nat) : Oper := (zFk c)[i]?.getD { dst := none, op := .move (.const .nilIface), type := 0, pos := "", after := #[], guard := none }
theorem zSU {c:Code} (h:zTu c=true):c = .seq (cl c) (cr c):=by cases c<;>first | rfl | cases h
theorem zM6 {c:Code} (h:zOg c=true):c = .loop (cl c):=by cases c<;>first | rfl | cases h
theorem zPz {c:Code} (h:zSh c=true):c = .scope (cl c):=by cases c<;>first | rfl | cases h
theorem zSY {c:Code} (h:zWO c=true):c = .ret:=by cases c<;>first | rfl | cases h
theorem zSp {c:Code} (h:zUb c=true):c = .skip:=by cases c<;>first | rfl | cases h
theorem zS9 {c:Code} (h:zUX c=true):c = .region (rid c) (zFk c) (zQs c):=by cases c<;>first | rfl | cases h
theorem zPH {c:Code} {n:Nat} (h:zRS c=some n):c = .block n (cl c):=by cases c<;>first | (cases h;rfl) | cases h
theorem zRw {c:Code} {n:Nat} (h:zT4 c=some n):c = .exit n:=by cases c<;>first | (cases h;rfl) | cases h
theorem zPg {c:Code} {t:Nat} (h:zRk c=some t):c = .cond (.tmp t) (cl c) (cr c):=by
 cases c<;>try (cases h;done)
 rename_i x a b
 cases x<;>first | (cases h;rfl) | cases h
section
variable [Yo] (P:Program) (H:zBf)
def zBD (f:FuncId) (args hid:List PV) (v:PV) (hX:List PV):Prop:=∃ n0,∀ n,n0≤n→zC9 P H n f args hid=some (v,hX)
def W (f:FuncId) (nt:Nat) (c:Code) (e:Env) (lg:Option Log) (K:X→Env→Option Log→Prop):Prop :=
 ∃ n0 x e' lg',(∀ n m,n0≤n→n0≤m→exec P H (zC9 P H n) Yo.yo zCg nt (H f) m c e lg=some (x,e',lg'))∧K x e' lg'
def zFi (dr:Option (List Nat×List Tok)) (i:Nat) (o:Oper) (t:Tok):Option (Option (List Nat×List Tok)) :=
 match dr with
 | none=>some none
 | some (acc,ts)=>bif o.after.toList.all (fun e => !Region.binds .any e||Nat.blt e.on i)&&zF2 (zHR acc o) t 0 ts then some (some (acc++[zHR acc o],ts++[t])) else none
def zU7 (orc:zAE) (fzs tks:List Nat) (nl:Bool) (ops:Array Oper) (dr:Option (List Nat×List Tok)) (l:List Oper) (i:Nat) (e:Env) (lg:Option Log):Option (Env×Option Log) :=
 match dr with
 | none=>zA7 P H orc fzs tks nl ops l i e lg
 | some (acc,ts)=>zCv P H orc fzs tks nl ops l i acc ts e lg
def WR (f:FuncId) (id:Nat) (ops:Array Oper) (dr:Option (List Nat×List Tok)) (i:Nat) (e:Env) (lg:Option Log) (K:Env→Option Log→Prop):Prop :=
 ∃ n0 eN lg',(∀ n,n0≤n→∃ e',zU7 P H (zC9 P H n) ((H f).frzs id) ((H f).take id) (H f).nils ops dr (ops.toList.drop i) i e lg=some (e',lg')∧(e'.drop ((H f).drop id)).norm=eN)∧K eN lg'
end
section
variable [Yo] {P:Program} {H:zBf} {f:FuncId} {nt:Nat} {e e':Env} {lg:Option Log} {K:X→Env→Option Log→Prop}
def zXh (P:Program) (H:zBf) (f:FuncId) (nt:Nat) (b:Code) (K:X→Env→Option Log→Prop):X→Env→Option Log→Prop
 | .norm,e,lg=>W P H f nt b e lg K
 | x,e,lg=>K x e lg
theorem zXV {a b:Code} (h:W P H f nt a e lg (zXh P H f nt b K)):W P H f nt (.seq a b) e lg K:=by
 obtain ⟨n0,x,e1,lg1,h1,h2⟩:=h
 cases x with
 | norm =>
  obtain ⟨n2,x,e2,lg2,h3,h4⟩:=h2
  refine ⟨max n0 n2+1,x,e2,lg2,fun n m hn hm=>?_,h4⟩
  obtain ⟨m,rfl⟩:∃ k,m=k+1:=⟨m-1,by omega⟩
  simp only [exec,h1 n m (by omega) (by omega),h3 n m (by omega) (by omega)]
 | ex id =>
  refine ⟨n0+1,_,e1,lg1,fun n m hn hm=>?_,h2⟩
  obtain ⟨m,rfl⟩:∃ k,m=k+1:=⟨m-1,by omega⟩
  simp only [exec,h1 n m (by omega) (by omega)]
 | ret =>
  refine ⟨n0+1,_,e1,lg1,fun n m hn hm=>?_,h2⟩
  obtain ⟨m,rfl⟩:∃ k,m=k+1:=⟨m-1,by omega⟩
  simp only [exec,h1 n m (by omega) (by omega)]
theorem zTE (m:Nat) {c:Code} {x:X} {e1:Env} {lg1:Option Log} (h:exec P H zHY zVR zHj nt (H f) m c e lg=some (x,e1,lg1)) (hk:K x e1 lg1):W P H f nt c e lg K :=
 ⟨m,x,e1,lg1,fun _ _ _ hm=>zOH h hm,hk⟩
theorem zSj {c:Code} {K':X→Env→Option Log→Prop} (h:W P H f nt c e lg K) (hk:∀ x e lg,K x e lg→K' x e lg):W P H f nt c e lg K':=by
 obtain ⟨n0,x,e1,lg1,h1,h2⟩:=h
 exact ⟨n0,x,e1,lg1,h1,hk _ _ _ h2⟩
theorem zXG (h:K .ret e lg):W P H f nt .ret e lg K:=zTE 1 rfl h
theorem zWW (h:K .norm e lg):W P H f nt .skip e lg K:=zTE 1 rfl h
theorem zW1 {id:Nat} (h:K (.ex id) (zVM ((H f).ices id) e) lg):W P H f nt (.exit id) e lg K:=zTE 1 rfl h
theorem zVA {b:Code} (h:W P H f nt b e lg K):W P H f nt (.scope b) e lg K:=by
 obtain ⟨n0,x,e1,lg1,h1,h2⟩:=h
 refine ⟨n0+1,x,e1,lg1,fun n m hn hm=>?_,h2⟩
 obtain ⟨m,rfl⟩:∃ k,m=k+1:=⟨m-1,by omega⟩
 exact h1 n m (by omega) (by omega)
def Blk (id:Nat) (K:X→Env→Option Log→Prop):X→Env→Option Log→Prop
 | .ex id',e,lg=>bif Nat.beq id' id then K .norm e lg else K (.ex id') e lg
 | x,e,lg=>K x e lg
theorem zUK {id:Nat} {b:Code} (h:W P H f nt b e lg (Blk id K)):W P H f nt (.block id b) e lg K:=by
 obtain ⟨n0,x,e1,lg1,h1,h2⟩:=h
 cases x with
 | ex id' =>
  by_cases hid:id'=id
  ·subst hid
   simp only [Blk,Nat.beq_refl,cond_true] at h2
   refine ⟨n0+1,.norm,e1,lg1,fun n m hn hm=>?_,h2⟩
   obtain ⟨m,rfl⟩:∃ k,m=k+1:=⟨m-1,by omega⟩
   simp only [exec,h1 n m (by omega) (by omega),if_true]
  ·have hb:Nat.beq id' id=false:=by
    cases hc:Nat.beq id' id with
    | false=>rfl
    | true=>exact (hid (Nat.eq_of_beq_eq_true hc)).elim
   simp only [Blk,hb,cond_false] at h2
   refine ⟨n0+1,.ex id',e1,lg1,fun n m hn hm=>?_,h2⟩
   obtain ⟨m,rfl⟩:∃ k,m=k+1:=⟨m-1,by omega⟩
   simp only [exec,h1 n m (by omega) (by omega),if_neg hid]
 | norm =>
  refine ⟨n0+1,_,e1,lg1,fun n m hn hm=>?_,h2⟩
  obtain ⟨m,rfl⟩:∃ k,m=k+1:=⟨m-1,by omega⟩
  simp only [exec,h1 n m (by omega) (by omega)]
 | ret =>
  refine ⟨n0+1,_,e1,lg1,fun n m hn hm=>?_,h2⟩
  obtain ⟨m,rfl⟩:∃ k,m=k+1:=⟨m-1,by omega⟩
  simp only [exec,h1 n m (by omega) (by omega)]
theorem zVV {t:Nat} {a b:Code} {c:Bool} (ht:e.get t = .bool c) (h1:c=true→W P H f nt a e lg K) (h2:c=false→W P H f nt b e lg K):W P H f nt (.cond (.tmp t) a b) e lg K:=by
 cases c with
 | true =>
  obtain ⟨n0,x,e1,lg1,h3,h4⟩:=h1 rfl
  refine ⟨n0+1,_,_,lg1,fun n m hn hm=>?_,h4⟩
  obtain ⟨m,rfl⟩:∃ k,m=k+1:=⟨m-1,by omega⟩
  simp only [exec,ht];exact h3 n m (by omega) (by omega)
 | false =>
  obtain ⟨n0,x,e1,lg1,h3,h4⟩:=h2 rfl
  refine ⟨n0+1,_,_,lg1,fun n m hn hm=>?_,h4⟩
  obtain ⟨m,rfl⟩:∃ k,m=k+1:=⟨m-1,by omega⟩
  simp only [exec,ht];exact h3 n m (by omega) (by omega)
theorem zV4 {σ:Type} (Inv:σ→Prop) (I:σ→Env) (μ:σ→Nat) {b:Code} (h:∀ s,Inv s→W P H f nt b (I s) lg fun x e lg'=>match x with
   | .norm=>∃ s',Inv s'∧μ s'<μ s∧e.drop ((H f).loopDrop (zAP b))=I s'∧lg'=lg
   | x=>K x e lg'):∀ (n:Nat) (s:σ) (e:Env),μ s≤n→Inv s→e.drop ((H f).loopDrop (zAP b))=I s→W P H f nt (.loop b) e lg K:=by
 intro n
 induction n with
 | zero =>
  intro s e hs hi he
  obtain ⟨n0,x,e1,lg1,h1,h2⟩:=h s hi
  cases x with
  | norm=>obtain ⟨s',_,h3,_⟩:=h2;omega
  | ex id =>
   refine ⟨n0+1,_,e1,lg1,fun n m hn hm=>?_,h2⟩
   obtain ⟨m,rfl⟩:∃ k,m=k+1:=⟨m-1,by omega⟩
   simp only [exec,he,h1 n m (by omega) (by omega)]
  | ret =>
   refine ⟨n0+1,_,e1,lg1,fun n m hn hm=>?_,h2⟩
   obtain ⟨m,rfl⟩:∃ k,m=k+1:=⟨m-1,by omega⟩
   simp only [exec,he,h1 n m (by omega) (by omega)]
 | succ n ih =>
  intro s e hs hi he
  obtain ⟨n0,x,e1,lg1,h1,h2⟩:=h s hi
  cases x with
  | norm =>
   obtain ⟨s',h3,h4,h7,rfl⟩:=h2
   obtain ⟨n2,x,e2,lg2,h5,h6⟩:=ih s' e1 (by omega) h3 h7
   refine ⟨max n0 n2+1,x,e2,lg2,fun n m hn hm=>?_,h6⟩
   obtain ⟨m,rfl⟩:∃ k,m=k+1:=⟨m-1,by omega⟩
   simp only [exec,he,h1 n m (by omega) (by omega),h5 n m (by omega) (by omega)]
  | ex id =>
   refine ⟨n0+1,_,e1,lg1,fun n m hn hm=>?_,h2⟩
   obtain ⟨m,rfl⟩:∃ k,m=k+1:=⟨m-1,by omega⟩
   simp only [exec,he,h1 n m (by omega) (by omega)]
  | ret =>
   refine ⟨n0+1,_,e1,lg1,fun n m hn hm=>?_,h2⟩
   obtain ⟨m,rfl⟩:∃ k,m=k+1:=⟨m-1,by omega⟩
   simp only [exec,he,h1 n m (by omega) (by omega)]
theorem zAh {c:Code} (h:W P H f nt (cl c) e lg (zXh P H f nt (cr c) K)) (hc:zTu c=true:=by kernel_rfl):W P H f nt c e lg K:=by rw [zSU hc];exact zXV h
theorem zAn {c:Code} (h:K .ret e lg) (hc:zWO c=true:=by kernel_rfl):W P H f nt c e lg K:=by rw [zSY hc];exact zXG h
theorem zAl {c:Code} (h:K .norm e lg) (hc:zUb c=true:=by kernel_rfl):W P H f nt c e lg K:=by rw [zSp hc];exact zWW h
theorem zAO {c:Code} (n:Nat) (h:K (.ex n) (zVM ((H f).ices n) e) lg) (hc:zT4 c=some n:=by kernel_rfl):W P H f nt c e lg K:=by rw [zRw hc];exact zW1 h
theorem zU0 {c:Code} (h:W P H f nt (cl c) e lg K) (hc:zSh c=true:=by kernel_rfl):W P H f nt c e lg K:=by rw [zPz hc];exact zVA h
theorem zAk {c:Code} (n:Nat) (h:W P H f nt (cl c) e lg (Blk n K)) (hc:zRS c=some n:=by kernel_rfl):W P H f nt c e lg K:=by rw [zPH hc];exact zUK h
def zEw (c:Code) (e:Env):Option Bool :=
 match zRk c with
 | some t=>match e.get t with
  | .bool b=>some b
  | _=>none
 | none=>none
theorem zED (b:Bool) {c:Code} (h1:b=true→W P H f nt (cl c) e lg K) (h2:b=false→W P H f nt (cr c) e lg K) (hc:zEw c e=some b:=by kernel_rfl):W P H f nt c e lg K:=by
 simp only [zEw] at hc
 split at hc
 ·rename_i t ht
  rw [zPg ht]
  split at hc
  ·rename_i b' hb
   simp only [Option.some.injEq] at hc;subst hc
   exact zVV hb h1 h2
  ·cases hc
 ·cases hc
theorem zEb {c:Code} (h:W P H f nt (cl c) e lg K) (hc:zEw c e=some true:=by kernel_rfl):W P H f nt c e lg K:=zED true (fun _=>h) (fun h=>by cases h) hc
theorem zAN {c:Code} (h:W P H f nt (cr c) e lg K) (hc:zEw c e=some false:=by kernel_rfl):W P H f nt c e lg K:=zED false (fun h=>by cases h) (fun _=>h) hc
theorem zWC {σ:Type} {c:Code} (Inv:σ→Prop) (I:σ→Env) (μ:σ→Nat) (s:σ) (hi:Inv s) (h:∀ s,Inv s→W P H f nt (cl c) (I s) lg fun x e lg'=>match x with
   | .norm=>∃ s',Inv s'∧μ s'<μ s∧e.drop ((H f).loopDrop (zAP (cl c)))=I s'∧lg'=lg
   | x=>K x e lg') (hs:e.drop ((H f).loopDrop (zAP (cl c)))=I s:=by kernel_rfl) (hc:zOg c=true:=by kernel_rfl):W P H f nt c e lg K:=by
 rw [zM6 hc];exact zV4 Inv I μ h (μ s) s e (Nat.le_refl _) hi hs
def zNH (o:Option Env):Env :=
 match o with
 | some e=>e
 | none=>[]
structure RS where
 dr:Option (List Nat×List Tok)
 e:Env
 lg:Option Log
def noY (lg:Option Log) (e:Env) (o:Oper):Bool :=
 match lg with
 | none=>true
 | some _=>(zCd e o).isNone
def WS (P:Program) (H:zBf) (f:FuncId) (c:Code) (i:Nat) (s:RS) (R:Env→Option Log→Prop):Prop:=WR P H f (rid c) (zFk c) s.dr i s.e s.lg R
def zVp (P:Program) (H:zBf) (f:FuncId) (c:Code) (i:Nat) (s:RS):Option RS :=
 match zEj P H zHY (((H f).frzs (rid c)).contains i) (((H f).take (rid c)).contains i) (H f).nils (zFk c) (zEi c i) s.e s.lg with
 | some (e',lg',t)=>(zFi s.dr i (zEi c i) t).map fun dr=>⟨dr,e',lg'⟩
 | none=>none
def zHF (P:Program) (H:zBf) (f:FuncId) (c:Code):Nat→Nat→RS→Option RS
 | 0,_,s=>some s
 | m+1,i,s=>match zVp P H f c i s with
  | some s'=>zHF P H f c m (i+1) s'
  | none=>none
variable {i:Nat} {c:Code} {s s':RS} {R:Env→Option Log→Prop}
abbrev zWY (P:Program) (H:zBf) (f:FuncId) (c:Code) (i:Nat):PM:=opM P H (((H f).frzs (rid c)).contains i) (((H f).take (rid c)).contains i) (H f).nils (zEi c i)
def zVO (o:Option RS):RS :=
 match o with
 | some s=>s
 | none=>⟨none,[],none⟩
theorem zMC {o:Option RS} (h:o.isSome=true):o=some (zVO o):=by cases o<;>first | rfl | cases h
theorem zAg (h:WS P H f c 0 ⟨bif zQs c then some ([],[]) else none,e,lg⟩ (K .norm)) (hc:zUX c=true:=by kernel_rfl):W P H f nt c e lg K:=by
 obtain ⟨n0,e1,lg1,h1,h2⟩:=h
 rw [zS9 hc]
 refine ⟨n0+1,_,_,lg1,fun n m hn hm=>?_,h2⟩
 obtain ⟨m,rfl⟩:∃ k,m=k+1:=⟨m-1,by omega⟩
 obtain ⟨e2,this,h3⟩:=h1 n (by omega)
 cases hd:zQs c with
 | true=>simp only [hd,cond_true,zU7,List.drop_zero] at this;simp only [exec,this,if_true,h3]
 | false=>simp only [hd,cond_false,zU7,List.drop_zero] at this;simp only [exec,this,← h3];rfl
theorem zWm (e1:Env) (h:R e1 s.lg) (he:(s.e.drop ((H f).drop (rid c))).norm=e1:=by kernel_rfl) (hi:Nat.ble (zFk c).size i=true:=by kernel_rfl):WS P H f c i s R:=by
 have hi:=Nat.le_of_ble_eq_true hi
 refine ⟨0,e1,s.lg,fun n _=>⟨s.e,?_,he⟩,h⟩
 rw [List.drop_eq_nil_of_le (by simpa using hi)]
 cases s.dr<;>rfl
theorem zAa (h:R ((s.e.drop ((H f).drop (rid c))).norm) s.lg) (hi:Nat.ble (zFk c).size i=true:=by kernel_rfl):WS P H f c i s R:=zWm _ h rfl hi
theorem zVn (h:Nat.blt i (zFk c).size=true):(zFk c)[i]? = some (zEi c i):=by
 have:i<(zFk c).size:=by simpa using h
 simp [zEi,this]
theorem zQZ (h:Nat.blt i (zFk c).size=true):(zFk c).toList.drop i=zEi c i::(zFk c).toList.drop (i+1):=by
 have h1:(zFk c).toList[i]? = some (zEi c i):=by rw [Array.getElem?_toList];exact zVn h
 obtain ⟨h2,h3⟩:=List.getElem?_eq_some_iff.1 h1
 rw [← h3];exact (List.drop_eq_getElem_cons h2)
theorem zJ4 {orc:zAE} {fz tk nl:Bool} {ops:Array Oper} {o:Oper} {lg':Option Log} {t:Tok} (h:zEj P H orc fz tk nl ops o e lg=some (e',lg',t)):zCP P H orc fz tk nl ops o e lg=some (e',lg'):=by
 simp only [zEj] at h
 simp only [zCP]
 split at h
 ·obtain ⟨a,h1,h2⟩:=Option.map_eq_some_iff.1 h
  cases h2
  rw [zD8 h1];rfl
 ·split at h
  ·obtain ⟨a,h1,h2⟩:=Option.map_eq_some_iff.1 h
   cases h2
   rw [h1]
  ·obtain ⟨a,h1,h2⟩:=Option.map_eq_some_iff.1 h
   cases h2
   rw [zD8 h1];rfl
theorem zLc {t:Tok} {dr':Option (List Nat×List Tok)} {lg':Option Log} (hi:Nat.blt i (zFk c).size=true) (hT:∃ n0,∀ n,n0≤n→zEj P H (zC9 P H n) (((H f).frzs (rid c)).contains i) (((H f).take (rid c)).contains i) (H f).nils (zFk c) (zEi c i) s.e s.lg=some (e',lg',t))
  (hd:zFi s.dr i (zEi c i) t=some dr') (h:WS P H f c (i+1) ⟨dr',e',lg'⟩ R):WS P H f c i s R:=by
 obtain ⟨n0,hT⟩:=hT
 obtain ⟨n2,e2,lg2,h1,h2⟩:=h
 obtain ⟨dr,e,lg⟩:=s
 refine ⟨max n0 n2,e2,lg2,fun n hn=>?_,h2⟩
 have hs:=hT n (by omega)
 obtain ⟨e3,h1,h3⟩:=h1 n (by omega)
 refine ⟨e3,?_,h3⟩
 rw [zQZ hi]
 cases dr with
 | none =>
  simp only [zFi,Option.some.injEq] at hd;subst hd
  simp only [zU7] at h1 ⊢
  simp only [zA7,zJ4 hs];exact h1
 | some d =>
  obtain ⟨acc,ts⟩:=d
  simp only [zFi] at hd
  rcases zBh hd with ⟨hc,hd⟩ | ⟨_,hd⟩
  ·simp only [Option.some.injEq] at hd;subst hd
   simp only [zU7] at h1 ⊢
   simp only [zCv,hs,hc,cond_true];exact h1
  ·cases hd
theorem zQW {orc:zAE} {fz tk nl:Bool} {ops:Array Oper} {o:Oper} {t:Tok} (hy:noY lg e o=true) (h:(zFr P H ops fz tk nl o).runT orc e=some (e',t)):zEj P H orc fz tk nl ops o e lg=some (e',lg,t):=by
 cases lg with
 | none=>simp only [zEj,h];rfl
 | some l =>
  simp only [noY,Option.isNone_iff_eq_none] at hy
  simp only [zEj,hy,h];rfl
theorem zWy {t:Tok} {dr':Option (List Nat×List Tok)} (hi:Nat.blt i (zFk c).size=true) (hT:∃ n0,∀ n,n0≤n→(zFr P H (zFk c) (((H f).frzs (rid c)).contains i) (((H f).take (rid c)).contains i) (H f).nils (zEi c i)).runT (zC9 P H n) s.e=some (e',t))
  (hd:zFi s.dr i (zEi c i) t=some dr') (h:WS P H f c (i+1) ⟨dr',e',s.lg⟩ R) (hy:noY s.lg s.e (zEi c i)=true):WS P H f c i s R:=by
 obtain ⟨n0,hT⟩:=hT
 exact zLc hi ⟨n0,fun n hn=>zQW hy (hT n hn)⟩ hd h
theorem zSM (hi:Nat.blt i (zFk c).size=true) (hs:zVp P H f c i s=some s') (h:WS P H f c (i+1) s' R):WS P H f c i s R:=by
 simp only [zVp] at hs
 split at hs
 ·rename_i e1 lg1 t ht
  obtain ⟨dr,hd,rfl⟩:=Option.map_eq_some_iff.1 hs
  exact zLc hi ⟨0,fun n _=>zL3 ht⟩ hd h
 ·cases hs
theorem zLW:∀ (m:Nat) {i:Nat} {s s':RS},Nat.ble (i+m) (zFk c).size=true→zHF P H f c m i s=some s'→WS P H f c (i+m) s' R→WS P H f c i s R
 | 0,i,s,s',_,hs,h=>by simp only [zHF,Option.some.injEq] at hs;subst hs;exact h
 | m + 1,i,s,s',hi,hs,h=>by
  have qt:=Nat.le_of_ble_eq_true hi
  simp only [zHF] at hs
  split at hs
  ·rename_i s1 h1
   refine zSM (by simp;omega) h1 (zLW m ?_ hs ?_)
   ·rw [show i+1+m=i+(m+1) by omega];exact hi
   ·rw [show i+1+m=i+(m+1) by omega];exact h
  ·cases hs
theorem zAc (m:Nat) (h:WS P H f c (i+m) (zVO (zHF P H f c m i s)) R) (hs:(zHF P H f c m i s).isSome=true:=by kernel_rfl) (hi:Nat.ble (i+m) (zFk c).size=true:=by kernel_rfl):WS P H f c i s R :=
 zLW m hi (zMC hs) h
def zNW (c:Code) (i:Nat) (e:Env):Bool :=
 match (zEi c i).guard with
 | none=>true
 | some (j,want)=>match ((zFk c)[j]?).bind (·.dst) with
  | some t=>match e.get t with
   | .bool b=>b==want
   | _=>false
  | none=>false
theorem zXi {e':Env} (hm:∃ n0,∀ n,n0≤n→(zWY P H f c i).run (zC9 P H n) s.e=some e') (h:WS P H f c (i+1) ⟨none,e',s.lg⟩ R) (jx:s.dr=none:=by kernel_rfl) (hy:noY s.lg s.e (zEi c i)=true:=by kernel_rfl) (hg:zNW c i s.e=true:=by kernel_rfl) (hi:Nat.blt i (zFk c).size=true:=by kernel_rfl):WS P H f c i s R:=by
 obtain ⟨n0,hm⟩:=hm
 obtain ⟨n2,e2,lg2,h1,h2⟩:=h
 obtain ⟨dr,e,lg⟩:=s
 simp only at jx hg hm hy;subst jx
 refine ⟨max n0 n2,e2,lg2,fun n hn=>?_,h2⟩
 obtain ⟨e3,h1,h3⟩:=h1 n (by omega)
 refine ⟨e3,?_,h3⟩
 have hr:(zFr P H (zFk c) (((H f).frzs (rid c)).contains i) (((H f).take (rid c)).contains i) (H f).nils (zEi c i)).run (zC9 P H n) e=some e':=by
  have hm:=hm n (by omega)
  revert hg
  simp only [zNW]
  cases qS:(zEi c i).guard with
  | none=>intro _;simp only [zFr,qS];exact hm
  | some w =>
   obtain ⟨j,want⟩:=w
   intro hg
   simp only at hg
   cases hj:((zFk c)[j]?).bind (·.dst) with
   | none=>rw [hj] at hg;cases hg
   | some u =>
    rw [hj] at hg;simp only at hg
    cases hv:e.get u<;>rw [hv] at hg<;>try (cases hg;done)
    have hb:=eq_of_beq hg
    simp only [zFr,qS,hj,PM.run,hv,hb,if_true]
    exact hm
 rw [zQZ hi]
 simp only [zU7] at h1 ⊢
 have hs:zCP P H (zC9 P H n) (((H f).frzs (rid c)).contains i) (((H f).take (rid c)).contains i) (H f).nils (zFk c) (zEi c i) e lg=some (e',lg):=by
  cases lg with
  | none=>simp only [zCP,hr,Option.map_some]
  | some l =>
   simp only [noY,Option.isNone_iff_eq_none] at hy
   simp only [zCP,hy,hr,Option.map_some]
 simp only [zA7,hs];exact h1
end
end Go.Eng
namespace Go.Eng
open Go
section
variable {P:Program} {H:zBf} {f:FuncId} {e e':Env} {i:Nat} {c:Code} {fz tk nl:Bool} {orc:zAE}
def zX0 (e:Env):Operand→PV
 | .tmp t=>view t (e.get t)
 | .const v=>zEu v
 | .func f => .func f [] []
 | .global _ => .bad
theorem zPB {α β:Type} {f:β→α→β} {b:β} {l:List α} {i:Nat} (h:i<l.length):(l.take (i+1)).foldl f b=f ((l.take i).foldl f b) l[i]:=by
 rw [List.take_add_one,List.getElem?_eq_getElem h]
 simp only [Option.toList,List.foldl_append,List.foldl]
def two (o:Oper) (r:PV):PM :=
 match o.op with
 | .binOp _ _ x y _=>opd x fun _=>opd y fun _=>put o.dst r
 | .indexAddr _ x y=>opd x fun _=>opd y fun _=>put o.dst r
 | .index _ x y=>opd x fun _=>opd y fun _=>put o.dst r
 | _ => .fail
theorem zVX {a:Int} (h : -9223372036854775808≤a∧a<9223372036854775808):IntKind.i64.wrap a=a:=by
 rw [IntKind.wrap_i64];omega
end
end Go.Eng
namespace Go.Eng
open Go
section
variable [Yo] {P:Program} {H:zBf} {f:FuncId} {e e':Env} {i:Nat} {c:Code} {s:RS} {R:Env→Option Log→Prop} {fz tk nl:Bool} {orc:zAE}
def zYu (e:Env) (p q:PV) (l:List (Nat×zAR)):Prop:=∀ (orc:zAE) (k:PV→List (Nat×zAR)→PM),(zPC p k).run orc e=(k q l).run orc e
inductive SeenAll (e:Env):List Nat→List PV→List Arg→Prop where
 | nil {ms}:SeenAll e ms [] []
 | ref {ms ps as p}:Nat.beq (ms.headD 0) 1=true→SeenAll e ms.tail ps as→SeenAll e ms (p::ps) ({p:=p,byref:=true}::as)
 | one {ms ps as p q l}:Nat.beq (ms.headD 0) 1=false→zYu e p q l→SeenAll e ms.tail ps as→SeenAll e ms (p::ps) ({p:=q,shared:=l}::as)
theorem zKu {o o':zAE} (ho:∀ g a h r,o g a h=some r→o' g a h=some r):∀ {p:PM} {e e1:Env},p.run o e=some e1→p.run o' e=some e1:=by
 intro p
 induction p with
 | ok=>intro e e1 h;exact h
 | fail=>intro e e1 h;cases h
 | view s k ih=>intro e e1 h;exact ih _ h
 | get s k ih=>intro e e1 h;simp only [PM.run] at h ⊢;split at h<;>first | (cases h;done) | exact ih _ h
 | set s q k ih=>intro e e1 h;exact ih h
 | cells r pre i c n k ih=>intro e e1 h;simp only [PM.run] at h ⊢;split at h<;>first | (cases h;done) | exact ih _ _ h
 | deep r pre k ih=>intro e e1 h;simp only [PM.run] at h ⊢;split at h<;>first | (cases h;done) | exact ih _ h
 | wcells r pre i c qs k ih=>intro e e1 h;simp only [PM.run] at h ⊢;split at h<;>first | (cases h;done) | exact ih h
 | wnode r pre q k ih =>
  intro e e1 h
  simp only [PM.run] at h ⊢
  rcases zBh h with ⟨_,h⟩ | ⟨hl,h⟩
  ·cases h
  ·rw [hl];simp only [cond_false]
   split at h
   ·exact ih h
   ·cases h
 | kill r pre k ih=>intro e e1 h;exact ih h
 | frz r pre k ih=>intro e e1 h;simp only [PM.run] at h ⊢;split at h<;>first | (cases h;done) | exact ih h
 | killEx r pre k ih=>intro e e1 h;exact ih h
 | forget r k ih=>intro e e1 h;exact ih h
 | call f args hid k ih =>
  intro e e1 h
  simp only [PM.run] at h ⊢
  split at h
  ·rename_i v hX hq
   rw [ho _ _ _ _ hq];exact ih _ _ h
  ·cases h
end
end Go.Eng
namespace Go.Eng
open Go
section
variable [Yo] {P:Program} {H:zBf} {f:FuncId} {e e':Env} {i:Nat} {c:Code} {s:RS} {R:Env→Option Log→Prop} {fz tk nl:Bool} {orc:zAE}
def zQA (c:Code) (i:Nat) (s:RS) (e':Env) (t:Tok):Option RS :=
 bif noY s.lg s.e (zEi c i) then match (match (zEi c i).guard with
  | none=>some t
  | some (j,want)=>match ((zFk c)[j]?).bind (·.dst) with
   | some u=>match s.e.get u with
    | .bool b=>bif b==want then some (Tok.join {rd:=[u]} t) else none
    | _=>none
   | none=>none) with
 | some t=>(zFi s.dr i (zEi c i) t).map fun dr=>⟨dr,e',s.lg⟩
 | none=>none else none
theorem zXT {m:Option (Env×Tok)} (hm:∃ n0,∀ n,n0≤n→(zWY P H f c i).runT (zC9 P H n) s.e=m) (h:WS P H f c (i+1) (zVO (m.bind fun r=>zQA c i s r.1 r.2)) R) (hs:(m.bind fun r=>zQA c i s r.1 r.2).isSome=true:=by kernel_rfl) (hi:Nat.blt i (zFk c).size=true:=by kernel_rfl):WS P H f c i s R:=by
 cases m with
 | none=>cases hs
 | some r =>
 obtain ⟨e',t⟩:=r
 have jC:=zMC hs
 revert h
 generalize zVO ((some (e',t)).bind fun r=>zQA c i s r.1 r.2)=s' at jC
 intro h
 obtain ⟨n0,hm⟩:=hm
 simp only [Option.bind_some,zQA] at jC
 rcases zBh jC with ⟨hy,jC⟩ | ⟨_,jC⟩
 case inr=>cases jC
 split at jC
 ·rename_i t' ht
  obtain ⟨dr,hd,rfl⟩:=Option.map_eq_some_iff.1 jC
  refine zWy hi ⟨n0,fun n hn=>?_⟩ hd h hy
  revert ht
  cases hg:(zEi c i).guard with
  | none=>intro ht;simp only [Option.some.injEq] at ht;subst ht;simp only [zFr,hg];exact hm n hn
  | some w =>
   obtain ⟨j,want⟩:=w
   intro ht
   simp only at ht
   cases hj:((zFk c)[j]?).bind (·.dst) with
   | none=>rw [hj] at ht;cases ht
   | some u =>
    rw [hj] at ht;simp only at ht
    cases hv:s.e.get u<;>rw [hv] at ht<;>try (cases ht;done)
    rcases zBh ht with ⟨hb,ht⟩ | ⟨_,ht⟩
    ·have hb:=eq_of_beq hb
     simp only [Option.some.injEq] at ht;subst ht
     simp only [zFr,hg,hj,PM.runT,hv,hb,if_true]
     rw [hm n hn];rfl
    ·cases ht
 ·cases jC
theorem zVF {x:Operand} {p:PV} {k:PV→PM} (hx:zX0 e x=p) (hp:p ≠ .bad):(opd x k).run orc e=(k p).run orc e:=by
 subst hx
 cases x with
 | tmp t=>rfl
 | const v=>rfl
 | func g=>rfl
 | global g=>exact (hp rfl).elim
theorem zNx {v:PV} (hh:v.heavy=false):v.cells.all (fun q => !q.heavy)=true:=by
 cases v<;>simp only [PV.cells,List.all_cons,List.all_nil,Bool.and_true,hh,Bool.not_false]
 rename_i cs
 simp only [PV.heavy] at hh
 refine List.all_eq_true.2 fun q hq=>?_
 obtain ⟨i,hi⟩:=List.getElem?_of_mem hq
 rw [zEk hh hi];rfl
theorem zMy:∀ {ps:List PV},ps.all (fun q=>q.ways.isEmpty)=true→zBv ps=[]
 | [],_=>rfl
 | p::ps,h=>by
  simp only [List.all_cons,Bool.and_eq_true,List.isEmpty_iff] at h
  simp only [zBv,h.1,List.nil_append,zMy h.2]
end
end Go.Eng
namespace Go.Eng
open Go
section
variable [Yo] {P:Program} {H:zBf} {f:FuncId} {e e':Env} {i:Nat} {c:Code} {s:RS} {R:Env→Option Log→Prop} {fz tk nl:Bool} {orc:zAE}
theorem zKq {x:Option Env} (h:x.isSome=true):x=some (zNH x):=by cases x<;>first | rfl | cases h
theorem zSS {α:Type} {xs ys:List α} {y:α} {j:Nat} (h:j+(ys.length+1)≤xs.length):(xs.set j y).take (j+1)++ys++(xs.set j y).drop (j+1+ys.length)=xs.take j++(y::ys)++xs.drop (j+(ys.length+1)):=by
 obtain ⟨A, x, B, rfl, rfl⟩ : ∃ A x B, xs = A ++ x :: B ∧ A.length = j := ⟨xs.take j, xs[j]'(by omega), xs.drop (j + 1), by rw [← List.drop_eq_getElem_cons (by omega), List.take_append_drop], by simp; omega⟩
 have h1:(A++x::B).set A.length y=A++y::B:=by simp
 have h2:(A++y::B).take (A.length+1)=A++[y]:=by rw [List.take_append,List.take_of_length_le (by omega)];simp
 have h3:(A++y::B).drop (A.length+1+ys.length)=B.drop ys.length:=by
  rw [List.drop_append,List.drop_eq_nil_of_le (by omega)]
  simp [show A.length+1+ys.length-A.length=ys.length+1 by omega]
 have h4:(A++x::B).drop (A.length+(ys.length+1))=B.drop ys.length:=by
  rw [List.drop_append,List.drop_eq_nil_of_le (by omega)]
  simp
 have h5:(A++x::B).take A.length=A:=by simp
 rw [h1,h2,h3,h4,h5];simp
end
end Go.Eng
namespace Go.Eng
open Go
def Srt (e:Env):Prop:=e.Pairwise (fun a b=>a.1<b.1)∧∀ x∈e,x.2 ≠ .bad
theorem zLT:∀ {e:Env} {k:Nat},(∀ x∈e,k<x.1)→e.get k = .bad
 | [],_,_=>rfl
 | (k',v)::e,k,h=>by
  have h1:k<k':=h (k',v) (by simp)
  have:Nat.beq k' k=false:=by
   cases hb:Nat.beq k' k with
   | false=>rfl
   | true=>have:=Nat.eq_of_beq_eq_true hb;omega
  simp only [Env.get,this,cond_false]
  exact zLT fun x hx=>h x (by simp [hx])
theorem Srt.eq:∀ {e e':Env},Srt e→Srt e'→(∀ s,e.get s=e'.get s)→e=e'
 | [],[],_,_,_=>rfl
 | [],(k,v)::e',_,h2,h=>by
  have:=h k
  simp only [Env.get,Nat.beq_refl,cond_true] at this
  exact (h2.2 (k,v) (by simp) this.symm).elim
 | (k,v)::e,[],h1,_,h=>by
  have:=h k
  simp only [Env.get,Nat.beq_refl,cond_true] at this
  exact (h1.2 (k,v) (by simp) this).elim
 | (k, v)::e,(k',v')::e',h1,h2,h=>by
  obtain ⟨p1,q1⟩:=h1
  obtain ⟨p2,q2⟩:=h2
  obtain ⟨a1,b1⟩:=List.pairwise_cons.1 p1
  obtain ⟨a2,b2⟩:=List.pairwise_cons.1 p2
  have hk:k=k':=by
   rcases Nat.lt_trichotomy k k' with yC | u4 | yC
   ·have:=h k
    rw [zLT (e:=(k',v')::e') (k:=k) (fun x hx=>by
     rcases List.mem_cons.1 hx with rfl | hx
     ·exact yC
     ·exact Nat.lt_trans yC (a2 x hx))] at this
    simp only [Env.get,Nat.beq_refl,cond_true] at this
    exact (q1 (k,v) (by simp) this).elim
   ·exact u4
   ·have:=h k'
    rw [zLT (e:=(k,v)::e) (k:=k') (fun x hx=>by
     rcases List.mem_cons.1 hx with rfl | hx
     ·exact yC
     ·exact Nat.lt_trans yC (a1 x hx))] at this
    simp only [Env.get,Nat.beq_refl,cond_true] at this
    exact (q2 (k',v') (by simp) this.symm).elim
  subst hk
  have hv:=h k
  simp only [Env.get,Nat.beq_refl,cond_true] at hv
  subst hv
  congr 1
  refine Srt.eq ⟨b1,fun x hx=>q1 x (by simp [hx])⟩ ⟨b2,fun x hx=>q2 x (by simp [hx])⟩ fun s=>?_
  have hs:=h s
  simp only [Env.get] at hs
  cases hb:Nat.beq k s with
  | false=>rw [hb] at hs;exact hs
  | true =>
   have:=Nat.eq_of_beq_eq_true hb;subst this
   rw [zLT a1,zLT a2]
theorem zLl:∀ {e:Env} {k:Nat} {v:PV} {x:Nat×PV},x∈e.set k v→x=(k,v)∨x∈e
 | [],k,v,x,h=>by simp only [Env.set,List.mem_singleton] at h;exact .inl h
 | (k',v')::e,k,v,x,h=>by
  simp only [Env.set] at h
  cases hb:Nat.beq k' k with
  | true=>rw [hb] at h;simp only [cond_true,List.mem_cons] at h;rcases h with h | h<;>simp [h]
  | false =>
   rw [hb] at h;simp only [cond_false] at h
   cases hl:Nat.ble k k' with
   | true=>rw [hl] at h;simp only [cond_true,List.mem_cons] at h;rcases h with h | h | h<;>simp [h]
   | false =>
    rw [hl] at h;simp only [cond_false,List.mem_cons] at h
    rcases h with h | h
    ·simp [h]
    ·rcases zLl h with h | h<;>simp [h]
theorem Srt.set:∀ {e:Env} {k:Nat} {v:PV},Srt e→v ≠ .bad→Srt (e.set k v)
 | [],k,v,_,hv=>⟨by simp [Env.set],by simp [Env.set,hv]⟩
 | (k',v')::e,k,v,h,hv=>by
  obtain ⟨p,q⟩:=h
  obtain ⟨a,b⟩:=List.pairwise_cons.1 p
  refine ⟨?_,fun x hx=>by
   rcases zLl hx with rfl | hx
   ·exact hv
   ·exact q x hx⟩
  simp only [Env.set]
  cases hb:Nat.beq k' k with
  | true =>
   have:=Nat.eq_of_beq_eq_true hb;subst this
   exact List.pairwise_cons.2 ⟨a,b⟩
  | false =>
   have hI:k'≠k:=by intro h;subst h;rw [Nat.beq_refl] at hb;cases hb
   cases hl:Nat.ble k k' with
   | true =>
    have:=Nat.le_of_ble_eq_true hl
    exact List.pairwise_cons.2 ⟨fun x hx=>by
     rcases List.mem_cons.1 hx with rfl | hx
     ·show k<k';omega
     ·have:k'<x.1:=a x hx
      show k<x.1;omega,p⟩
   | false =>
    have yC:k'<k:=by
     have:¬ k≤k':=fun hh=>by rw [← Nat.ble_eq] at hh;rw [hh] at hl;cases hl
     omega
    refine List.pairwise_cons.2 ⟨fun x hx=>?_,(Srt.set ⟨b,fun x hx=>q x (by simp [hx])⟩ hv).1⟩
    rcases zLl hx with rfl | hx
    ·exact yC
    ·exact a x hx
theorem Srt.norm:∀ (e:Env),Srt e.norm
 | []=>⟨by simp [Env.norm],by simp [Env.norm]⟩
 | (k,v)::e=>by
  have ih:=Srt.norm e
  simp only [Env.norm,Env.put]
  split
  ·exact ⟨ih.1.filter _,fun x hx=>ih.2 x (List.mem_filter.1 hx).1⟩
  ·rename_i hv;exact ih.set (fun h=>hv h)
theorem zU6 {e e':Env} (h:∀ s,e.get s=e'.get s):e.norm=e'.norm:=(Srt.norm e).eq (Srt.norm e') fun s=>by rw [zIp,zIp];exact h s
section
variable [Yo] {P:Program} {H:zBf} {f:FuncId} {i:Nat} {c:Code} {R:Env→Option Log→Prop}
theorem zFs {o:zAE} {fzs tks:List Nat} {nl:Bool} {ops:Array Oper}:∀ {l:List Oper} {i:Nat} {e g:Env} {r:Env×Option Log},g.get=e.get→zA7 P H o fzs tks nl ops l i e none=some r→∃ g1,zA7 P H o fzs tks nl ops l i g none=some (g1,r.2)∧g1.get=r.1.get
 | [],_,e,g,r,he,h=>by simp only [zA7,Option.some.injEq] at h;subst h;exact ⟨g,rfl,he⟩
 | x :: l,i,e,g,r,he,h=>by
  simp only [zA7,zCP] at h ⊢
  cases hs:(zFr P H ops (fzs.contains i) (tks.contains i) nl x).run o e with
  | none=>rw [hs] at h;cases h
  | some e1 =>
   rw [hs] at h
   obtain ⟨g1,h1,h2⟩:=zGI he hs
   rw [h1]
   exact zFs h2 h
theorem zW3 {e e':Env} (h:WS P H f c i ⟨none,e',none⟩ R) (he:∀ s,e.get s=e'.get s):WS P H f c i ⟨none,e,none⟩ R:=by
 obtain ⟨n0,eN,lg',h1,h2⟩:=h
 refine ⟨n0,eN,lg',fun n hn=>?_,h2⟩
 obtain ⟨e1,h3,h4⟩:=h1 n hn
 simp only [zU7] at h3
 obtain ⟨g1,h5,h6⟩:=zFs (funext he) h3
 refine ⟨g1,h5,?_⟩
 rw [← h4]
 refine zU6 fun s=>?_
 rw [Env.get_drop,Env.get_drop,h6]
def zX2 (s:Nat) (x y:PV):Prop:=y.plain=true∧y.cells.length=s∧y.heavy=false∧y.cells.all (fun q=>q.ways.isEmpty)=true∧y.cells.length≤x.cells.length∧zAx x 0 y.cells=y
end
end Go.Eng
namespace Go.Eng
open Go
def Le (o o':zAE):Prop:=∀ g a h r,o g a h=some r→o' g a h=some r
theorem zRQ {o0 o:zAE} (ho:Le o0 o):∀ {p:PM} {e:Env} {r:Env×Tok},p.runT o0 e=some r→p.runT o e=some r:=by
 intro p
 induction p with
 | ok=>intro e e1 h;exact h
 | fail=>intro e e1 h;cases h
 | view s k ih=>intro e e1 h;exact zAo h fun a h=>ih _ h
 | get s k ih=>intro e e1 h;simp only [PM.runT] at h ⊢;split at h<;>first | (cases h;done) | exact zAo h fun a h=>ih _ h
 | set s q k ih=>intro e e1 h;exact zAo h fun a h=>ih h
 | cells r pre i c n k ih=>intro e e1 h;simp only [PM.runT] at h ⊢;split at h<;>first | (cases h;done) | exact zAo h fun a h=>ih _ _ h
 | deep r pre k ih=>intro e e1 h;simp only [PM.runT] at h ⊢;split at h<;>first | (cases h;done) | exact zAo h fun a h=>ih _ h
 | wcells r pre i c qs k ih=>intro e e1 h;simp only [PM.runT] at h ⊢;split at h<;>first | (cases h;done) | exact zAo h fun a h=>ih h
 | wnode r pre q k ih =>
  intro e e1 h
  simp only [PM.runT] at h ⊢
  rcases zBh h with ⟨_,h⟩ | ⟨hl,h⟩
  ·cases h
  ·rw [hl];simp only [cond_false]
   split at h
   ·exact zAo h fun a h=>ih h
   ·cases h
 | kill r pre k ih=>intro e e1 h;exact zAo h fun a h=>ih h
 | frz r pre k ih=>intro e e1 h;simp only [PM.runT] at h ⊢;split at h<;>first | (cases h;done) | exact zAo h fun a h=>ih h
 | killEx r pre k ih=>intro e e1 h;exact zAo h fun a h=>ih h
 | forget r k ih=>intro e e1 h;exact zAo h fun a h=>ih h
 | call f args hid k ih =>
  intro e e1 h
  simp only [PM.runT] at h ⊢
  split at h
  ·rename_i v hX hq
   rw [ho _ _ _ _ hq];exact ih _ _ h
  ·cases h
section
variable [Yo] {P:Program} {H:zBf} {o0 o:zAE} (ho:Le o0 o) {fz tk nl:Bool} {fzs tks:List Nat} {ops:Array Oper} {nt:Nat} {hh:FHint} {yo0 yo:zCQ} {al:All}
include ho in
theorem zJB {x:Oper} {h0:Nat} {args:List PV} {l:Log} {e:Env} {r:Env×Option Log} (h:zBQ o0 ops x h0 args l e=some r):zBQ o ops x h0 args l e=some r:=by
 simp only [zBQ] at h ⊢
 split at h
 ·rcases zBh h with ⟨hc,h⟩ | ⟨_,h⟩
  ·rw [hc];simp only [cond_true]
   refine zAo h fun a h=>?_
   rcases zBh h with ⟨hk,h⟩ | ⟨hk,h⟩<;>rw [hk]
   ·exact zKu ho h
   ·exact zKu ho h
  ·cases h
 ·exact zAo h fun a h=>zKu ho h
 ·cases h
include ho in
theorem zTy {x:Oper} {e:Env} {lg:Option Log} {r:Env×Option Log} (h:zCP P H o0 fz tk nl ops x e lg=some r):zCP P H o fz tk nl ops x e lg=some r:=by
 simp only [zCP] at h ⊢
 split at h
 ·exact zAo h fun a h=>zKu ho h
 ·split at h
  ·exact zJB ho h
  ·exact zAo h fun a h=>zKu ho h
include ho in
theorem zTg {x:Oper} {e:Env} {lg:Option Log} {r:Env×Option Log×Tok} (h:zEj P H o0 fz tk nl ops x e lg=some r):zEj P H o fz tk nl ops x e lg=some r:=by
 simp only [zEj] at h ⊢
 split at h
 ·exact zAo h fun a h=>zRQ ho h
 ·split at h
  ·exact zAo h fun a h=>zJB ho h
  ·exact zAo h fun a h=>zRQ ho h
include ho in
theorem zHM:∀ {l:List Oper} {i:Nat} {e:Env} {lg:Option Log} {r:Env×Option Log},zA7 P H o0 fzs tks nl ops l i e lg=some r→zA7 P H o fzs tks nl ops l i e lg=some r
 | [],_,_,_,_,h=>h
 | x::l,i,e,lg,r,h=>by
  simp only [zA7] at h ⊢
  cases hs:zCP P H o0 (fzs.contains i) (tks.contains i) nl ops x e lg with
  | none=>rw [hs] at h;cases h
  | some q=>rw [hs] at h;rw [zTy ho hs];exact zHM h
include ho in
theorem zKg:∀ {l:List Oper} {i:Nat} {acc:List Nat} {ts:List Tok} {e:Env} {lg:Option Log} {r:Env×Option Log},zCv P H o0 fzs tks nl ops l i acc ts e lg=some r→zCv P H o fzs tks nl ops l i acc ts e lg=some r
 | [],_,_,_,_,_,_,h=>h
 | x :: l,i,acc,ts,e,lg,r,h=>by
  simp only [zCv] at h ⊢
  cases hs:zEj P H o0 (fzs.contains i) (tks.contains i) nl ops x e lg with
  | none=>rw [hs] at h;cases h
  | some q =>
   rw [hs] at h;rw [zTg ho hs]
   simp only at h ⊢
   rcases zBh h with ⟨hc,h⟩ | ⟨_,h⟩
   ·rw [hc];exact zKg h
   ·cases h
include ho in
theorem zR4:∀ {m:Nat} {c:Code} {e:Env} {lg:Option Log} {r:X×Env×Option Log},exec P H o0 yo0 zHj nt hh m c e lg=some r→∀ {m':Nat},m≤m'→exec P H o yo al nt hh m' c e lg=some r
 | 0,_,_,_,_,h,_,_=>by cases h
 | m + 1,c,e,lg,r,h,m',hm=>by
  obtain ⟨m',rfl⟩:∃ k,m'=k+1:=⟨m'-1,by omega⟩
  have ih:∀ {c:Code} {e:Env} {lg:Option Log} {r:X×Env×Option Log},exec P H o0 yo0 zHj nt hh m c e lg=some r→exec P H o yo al nt hh m' c e lg=some r:=fun h=>zR4 h (by omega)
  cases c with
  | region id ops draw =>
   simp only [exec] at h ⊢
   split at h
   ·rename_i e1 lg1 h1
    have:(if draw=true then zCv P H o (hh.frzs id) (hh.take id) hh.nils ops ops.toList 0 [] [] e lg else zA7 P H o (hh.frzs id) (hh.take id) hh.nils ops ops.toList 0 e lg)=some (e1,lg1):=by
     cases draw with
     | true=>exact zKg ho h1
     | false=>exact zHM ho h1
    rw [this];exact h
   ·cases h
  | seq a b =>
   simp only [exec] at h ⊢
   cases h1:exec P H o0 yo0 zHj nt hh m a e lg with
   | none=>rw [h1] at h;cases h
   | some q =>
    rw [h1] at h;rw [ih h1]
    obtain ⟨x,e1,lg1⟩:=q
    cases x with
    | norm=>exact ih h
    | ex id=>exact h
    | ret=>exact h
  | cond c a b =>
   cases c with
   | tmp t =>
    simp only [exec] at h ⊢
    revert h
    cases e.get t with
    | bool v=>intro h;cases v<;>exact ih h
    | _=>intro h;cases h
   | const v =>
    simp only [exec] at h ⊢
    revert h
    cases v with
    | bool v=>intro h;cases v<;>exact ih h
    | _=>intro h;cases h
   | _=>cases h
  | block id b =>
   simp only [exec] at h ⊢
   cases h1:exec P H o0 yo0 zHj nt hh m b e lg with
   | none=>rw [h1] at h;cases h
   | some q =>
    rw [h1] at h;rw [ih h1];exact h
  | loop b =>
   simp only [exec] at h ⊢
   cases h1:exec P H o0 yo0 zHj nt hh m b (e.drop (hh.loopDrop (zAP b))) lg with
   | none=>rw [h1] at h;cases h
   | some q =>
    rw [h1] at h;rw [ih h1]
    obtain ⟨x,e1,lg1⟩:=q
    cases x with
    | norm=>exact ih h
    | ex id=>exact h
    | ret=>exact h
  | scope b=>exact ih h
  | rangeFunc x ps ca cb =>
   cases x with
   | tmp t =>
    simp only [exec] at h
    cases lg with
    | none =>
     simp only at h
     obtain ⟨q,h1,_⟩:=Option.map_eq_some_iff.1 h
     simp only [zHf] at h1
     split at h1
     ·cases h1
     ·cases h1
    | some _=>cases h
   | _=>cases h
  | skip=>exact h
  | exit id=>exact h
  | ret=>exact h
  | label l=>exact h
  | _=>cases h
end
section
variable [Yo] {P:Program} {H:zBf}
theorem zS0 {o0 o:zAE} (ho:Le o0 o) {yo0 yo:zCQ} {al:All} {n n':Nat} (hn:n≤n') {f:FuncId} {args hid:List PV} {r:PV×List PV} (h:zI7 P H o0 yo0 zHj n f args hid=some r):zI7 P H o yo al n' f args hid=some r:=by
 simp only [zI7] at h ⊢
 cases hf:P.funcs[f]? with
 | none=>rw [hf] at h;cases h
 | some fn =>
  rw [hf] at h
  simp only at h ⊢
  by_cases hi:(H f).intr≠0
  ·rw [if_pos hi] at h ⊢;exact h
  ·rw [if_neg hi] at h ⊢
   cases hb:fn.body with
   | none=>rw [hb] at h;cases h
   | some body =>
    rw [hb] at h
    simp only [zIQ] at h ⊢
    rcases zBh h with ⟨hc,h⟩ | ⟨_,h⟩
    ·rw [hc];simp only [cond_true]
     cases hx:exec P H o0 yo0 zHj fn.ntmps (H f) n body (zA3 args hid) none with
     | none=>rw [hx] at h;cases h
     | some q =>
      rw [hx] at h;rw [zR4 ho hx hn]
      obtain ⟨x,e1,lg⟩:=q
      cases x<;>cases lg<;>simp only at h ⊢ <;> try (cases h;done)
      all_goals
       cases hr:(zCL P (H f).frz 0 fn.results.toList).run o0 e1 with
       | none=>rw [hr] at h;cases h
       | some e2=>rw [hr] at h;rw [zKu ho hr];exact h
    ·cases h
abbrev zWV (P:Program) (H:zBf) (n:Nat):zAE:=(zRB P H zHj n).1
theorem zOO:∀ (n n':Nat),n≤n'→Le (zWV P H n) (zC9 P H n')
 | 0,_,_=>fun g a h r hh=>by cases hh
 | n+1,n',hn=>by
  obtain ⟨k,rfl⟩:∃ k,n'=k+1:=⟨n'-1,by omega⟩
  intro g a h r hh
  exact zS0 (zOO n k (by omega)) (by omega) hh
theorem zBD.closed {f:FuncId} {args hid hX:List PV} {v:PV} (n:Nat) (h:zWV P H n f args hid=some (v,hX):=by kernel_rfl):zBD P H f args hid v hX:=⟨n,fun n' hn=>zOO n n' hn _ _ _ _ h⟩
end
end Go.Eng
namespace Go.Eng
open Go
section
variable {P:Program} {H:zBf}
theorem zRN (zE5:P.follows .mixedOrders=true) (hnm:zEB P) (zMd:Fit P H) (hin:zEM P H) {f:FuncId} {args:List PV} (hg:@zBD (yo1 P H) P H f args [] (.bool true) []) {w:World} {Φ:Nat→Prop} {vs:Array Value} (hΦ:∀ b,Φ b→b<w.heap.size) (hr:zAX w Φ zCf args vs.toList []) (uG:args.length≤zAm) :
  Calls P f vs w fun e w'=>e = .returned (.bool true)∧w.heap.size≤w'.heap.size∧(∀ b,b<w.heap.size→w'.heap[b]? = w.heap[b]?)∧w'.os=w.os∧w'.tape=w.tape∧w'.output=w.output:=by
 have wN:zAb=1000000000:=rfl
 have hhh:zAm=50000000:=rfl
 obtain ⟨n0,hg⟩:=hg
 obtain ⟨_,hm⟩:=@zE4 P H (yo1 P H) zE5 hnm zMd hin (zPu zE5 hnm zMd hin) n0 f args [] (.bool true) [] (hg n0 (Nat.le_refl _))
 obtain ⟨hZ,kD⟩:=zLD hr
 have hvz:vs.size=args.length:=by rw [← hZ];simp
 have p2:Conf w (fun b=>∃ s,b∈((fun _=>[]):Nat→List Nat) s) Φ w Φ (fun s=>(vs[s]?).getD undef) (fun s=>(zA3 args []).get s) (fun _=>[]):=by
  refine ⟨fun s=>?_,fun _=>List.nodup_nil,fun _ _ _ _ h=>(by cases h),fun _ _ h=>(by cases h),fun b hb=>⟨hΦ b hb,.inl hb⟩,fun _ h=>h,Nat.le_refl _,fun _ _ _=>rfl,rfl,rfl,rfl⟩
  show Rep _ _ _ ((zA3 args []).get s) _ _
  rw [zDi (by omega)]
  by_cases h1:s<args.length
  ·rw [if_pos h1]
   obtain ⟨v,ui,kY⟩:=kD s args[s] (List.getElem?_eq_getElem h1)
   have:vs[s]? = some v:=by rw [← Array.getElem?_toList];exact ui
   rw [this]
   simp only [List.getD,List.getElem?_eq_getElem h1,Option.getD_some]
   exact kY.mono (fun b hb=>⟨hb,rfl⟩) (fun _ _ _ h=>h.elim) (by simp)
  ·rw [if_neg h1,if_neg (by simp only [List.length_nil];omega)]
   rfl
 have hc:=hm w Φ (fun s=>(vs[s]?).getD undef) (fun s=>(zA3 args []).get s) (fun _=>[]) vs (fun _ _=>rfl) (fun s hs=>by
   rw [zDi (by omega),if_neg (by omega),if_neg (by simp only [List.length_nil];omega)]) p2 hvz (fun j hj=>by rw [Array.getElem?_eq_getElem (by omega)];rfl) (fun s hs _=>by rw [Array.getElem?_eq_none (by omega)];rfl)
 refine hc.mono fun e w' ⟨u,Φ',rv',E',L',he,C,_,_,um⟩=>?_
 obtain ⟨h1,h2⟩:=um.one (fun ps h=>by cases h)
 have hO:=C.rep zAw
 rw [h1] at hO
 have hu:u = .bool true:=by rw [← h2];exact hO.1
 refine ⟨by rw [he,hu],C.size,fun b hb=>C.kept b hb (fun ⟨s,hs⟩=>by cases hs),C.os,C.tape,C.output⟩
end
end Go.Eng
namespace Go.Eng
open Go
section
variable [Yo] {P:Program} {H:zBf} {f:FuncId} {nt:Nat} {e e':Env} {lg:Option Log} {K:X→Env→Option Log→Prop} {i:Nat} {c:Code} {s:RS} {R:Env→Option Log→Prop} {fz tk nl:Bool} {orc:zAE}
theorem zDa (p:Prop) [Decidable p] (h1:p→W P H f nt (cl c) e lg K) (h2:¬p→W P H f nt (cr c) e lg K) (hc:zEw c e=some (decide p):=by kernel_rfl):W P H f nt c e lg K :=
 zED (decide p) (fun h=>h1 (of_decide_eq_true h)) (fun h=>h2 (of_decide_eq_false h)) hc
theorem zA5 (p:Prop) [Decidable p] (hp:p) (h1:W P H f nt (cl c) e lg K) (hc:zEw c e=some (decide p):=by kernel_rfl):W P H f nt c e lg K :=
 zED (decide p) (fun _=>h1) (fun h=>absurd hp (of_decide_eq_false h)) hc
theorem zBd (p:Prop) [Decidable p] (hp:¬p) (h2:W P H f nt (cr c) e lg K) (hc:zEw c e=some (decide p):=by kernel_rfl):W P H f nt c e lg K :=
 zED (decide p) (fun h=>absurd (of_decide_eq_true h) hp) (fun _=>h2) hc
theorem zD9 (p:Prop) [Decidable p] (h1:¬p→W P H f nt (cl c) e lg K) (h2:p→W P H f nt (cr c) e lg K) (hc:zEw c e=some (!decide p):=by kernel_rfl):W P H f nt c e lg K :=
 zED (!decide p) (fun h=>h1 (by simpa using h)) (fun h=>h2 (by simpa using h)) hc
theorem zLw (p:Prop) [Decidable p] (hp:¬p) (h1:W P H f nt (cl c) e lg K) (hc:zEw c e=some (!decide p):=by kernel_rfl):W P H f nt c e lg K :=
 zD9 p (fun _=>h1) (fun h=>absurd h hp) hc
theorem zNX (p:Prop) [Decidable p] (hp:p) (h1:W P H f nt (cr c) e lg K) (hc:zEw c e=some (!decide p):=by kernel_rfl):W P H f nt c e lg K :=
 zD9 p (fun h=>absurd hp h) (fun _=>h1) hc
theorem zFp (t:Nat) (b:Bool) (h1:b=true→WS P H f c i ⟨s.dr,s.e.set t (.bool true),s.lg⟩ R) (h2:b=false→WS P H f c i ⟨s.dr,s.e.set t (.bool false),s.lg⟩ R) (hb:s.e.set t (.bool b)=s.e:=by kernel_rfl):WS P H f c i s R:=by
 obtain ⟨dr,e,lg⟩:=s
 simp only at h1 h2 hb
 rw [← hb]
 cases b with
 | true=>exact h1 rfl
 | false=>exact h2 rfl
theorem zIR (t:Nat) (p:Prop) [Decidable p] (h1:p→WS P H f c i ⟨s.dr,s.e.set t (.bool true),s.lg⟩ R) (h2:¬p→WS P H f c i ⟨s.dr,s.e.set t (.bool false),s.lg⟩ R) (hb:s.e.set t (.bool (decide p))=s.e:=by kernel_rfl):WS P H f c i s R :=
 zFp t (decide p) (fun h=>h1 (of_decide_eq_true h)) (fun h=>h2 (of_decide_eq_false h)) hb
theorem zRh (t:Nat) (p:Prop) [Decidable p] (hp:p) (h1:WS P H f c i ⟨s.dr,s.e.set t (.bool true),s.lg⟩ R) (hb:s.e.set t (.bool (decide p))=s.e:=by kernel_rfl):WS P H f c i s R :=
 zIR t p (fun _=>h1) (fun h=>absurd hp h) hb
theorem zWZ (t:Nat) (p:Prop) [Decidable p] (hp:¬p) (h1:WS P H f c i ⟨s.dr,s.e.set t (.bool false),s.lg⟩ R) (hb:s.e.set t (.bool (decide p))=s.e:=by kernel_rfl):WS P H f c i s R :=
 zIR t p (fun h=>absurd h hp) (fun _=>h1) hb
theorem zWx (t:Nat) (p:Prop) [Decidable p] (h1:¬p→WS P H f c i ⟨s.dr,s.e.set t (.bool true),s.lg⟩ R) (h2:p→WS P H f c i ⟨s.dr,s.e.set t (.bool false),s.lg⟩ R) (hb:s.e.set t (.bool (!decide p))=s.e:=by kernel_rfl):WS P H f c i s R :=
 zFp t (!decide p) (fun h=>h1 (by simpa using h)) (fun h=>h2 (by simpa using h)) hb
theorem get_map {α β:Type} {g:α→β} {l:List α} {i:Nat} {d:α} (h:i<l.length):(l.map g)[i]? = some (g (l.getD i d)):=by
 simp [List.getD,List.getElem?_eq_getElem h]
def zXb (e:Env) (p q:PV) (l:List (Nat×zAR)) (t:Tok):Prop:=∀ (orc:zAE) (k:PV→List (Nat×zAR)→PM),(zPC p k).runT orc e=((k q l).runT orc e).map fun y=>(y.1,Tok.join t y.2)
inductive SeenAllT (e:Env):List Nat→List PV→List Arg→List Tok→Prop where
 | nil {ms}:SeenAllT e ms [] [] []
 | ref {ms ps as ts p}:SeenAllT e ms.tail ps as ts→(hb:Nat.beq (ms.headD 0) 1=true:=by kernel_rfl)→SeenAllT e ms (p::ps) ({p:=p,byref:=true}::as) ts
 | one {ms ps as ts p q l t}:zXb e p q l t→SeenAllT e ms.tail ps as ts→(hb:Nat.beq (ms.headD 0) 1=false:=by kernel_rfl)→SeenAllT e ms (p::ps) ({p:=q,shared:=l}::as) (t::ts)
def zLI:List (Nat×PV)→Env→Env
 | [],e=>e
 | (k,v)::l,e=>zLI l (e.set k v)
theorem zAz {σ:Type} {c:Code} (Inv:σ→Prop) (upd:σ→List (Nat×PV)) (μ:σ→Nat) (s:σ) (hi:Inv s) (h:∀ s,Inv s→W P H f nt (cl c) (zLI (upd s) (e.drop ((H f).loopDrop (zAP (cl c))))) lg fun x e' lg'=>match x with
   | .norm=>∃ s',Inv s'∧μ s'<μ s∧e'.drop ((H f).loopDrop (zAP (cl c)))=zLI (upd s') (e.drop ((H f).loopDrop (zAP (cl c))))∧lg'=lg
   | x=>K x e' lg') (hs:e.drop ((H f).loopDrop (zAP (cl c)))=zLI (upd s) (e.drop ((H f).loopDrop (zAP (cl c)))):=by kernel_rfl) (hc:zOg c=true:=by kernel_rfl):W P H f nt c e lg K :=
 zWC Inv (fun s=>zLI (upd s) (e.drop ((H f).loopDrop (zAP (cl c))))) μ s hi h hs hc
end
end Go.Eng
namespace Go.Eng
open Go
theorem zJO {x:Nat→Option (List (List PV))} {r:List (List PV)} (h:∀ i,x i=some r):zCg x=some r:=by
 have h':∃ r,∀ i,x i=some r:=⟨r,h⟩
 simp only [zCg,dif_pos h']
 have:=(Classical.choose_spec h') 0
 rw [h 0] at this
 exact this.symm
section
def zS8 [Yo] (g:FuncId) (first caps:List PV) (k:Int) (xs:List (List PV)):Prop:=∀ i,Yo.yo g first i caps k=some xs
def zFY [Yo] (g:FuncId) (first caps:List PV) (xs:List (List PV)):Prop:=zS8 g first caps (-1) xs∧∀ j:Nat,1≤j→j≤xs.length→zS8 g first caps j (xs.take j)
variable [Yo] (P:Program) (H:zBf)
def zLy (f:FuncId) (nt:Nat) (ps:List Tmp) (assign body:Code) (x:List PV) (e:Env) (K:X→Env→Prop):Prop :=
 ∃ e1,zCt ps x e=some e1∧W P H f nt assign e1 none fun y e2 lg=>y = .norm∧lg=none∧W P H f nt body e2 none fun y e3 lg=>lg=none∧K y e3
def Rg (f:FuncId) (nt:Nat) (ps:List Tmp) (assign body:Code) (R ds:List Nat) (K:X→Env→Option Log→Prop):List (List PV)→Env→Prop
 | [],e=>K .norm e none
 | x :: xs,e=>zLy P H f nt ps assign body x e fun y e3=>match y with
  | .norm=>match R with
   | []=>Rg f nt ps assign body R ds K xs (after nt [] ds e e3)
   | r::R'=>zFW e (zCU e (r::R'))=true∧∃ e1,zEt (zCU e (r::R')) e=some e1∧zLy P H f nt ps assign body x e1 fun y e3=>y = .norm∧Rg f nt ps assign body R ds K xs (after nt (zCU e (r::R')) ds e e3)
  | y=>K y (after nt [] ds e e3) none
end
section
variable [Yo] {P:Program} {H:zBf} {f:FuncId} {nt:Nat} {e e':Env} {lg:Option Log} {K:X→Env→Option Log→Prop}
noncomputable abbrev zNV (P:Program) (H:zBf) (f:FuncId) (nt n m:Nat):Code→Env→Option (X×Env):=fun c e=>match exec P H (zC9 P H n) Yo.yo zCg nt (H f) m c e none with | some (x,e',none)=>some (x,e') | _=>none
def zO0 (run:Code→Env→Option (X×Env)) (ps:List Tmp) (assign body:Code) (x:List PV) (e:Env):Option (X×Env):=match zCt ps x e with
 | some e1=>match run assign e1 with
  | some (.norm,e2)=>run body e2
  | _=>none
 | none=>none
theorem zBJ {run:Code→Env→Option (X×Env)} {ps:List Tmp} {assign body:Code} {R ds:List Nat} {x:List PV} {xs:List (List PV)} {j:Nat}:zC6 nt run ps assign body R ds (x::xs) e j=(match zO0 run ps assign body x e with
  | some (.norm,e3)=>match R with
   | []=>zC6 nt run ps assign body R ds xs (after nt [] ds e e3) (j+1)
   | r :: R=>match (bif zFW e (zCU e (r::R)) then zEt (zCU e (r::R)) e else none) with
    | some e1=>match zO0 run ps assign body x e1 with
     | some (.norm,e3)=>zC6 nt run ps assign body (r::R) ds xs (after nt (zCU e (r::R)) ds e e3) (j+1)
     | _=>none
    | none=>none
  | some (r,e3)=>some (some (j+1,r),after nt [] ds e e3)
  | none=>none):=by
 cases R<;>rfl
theorem zLy.run {ps:List Tmp} {assign body:Code} {x:List PV} {K:X→Env→Prop} (h:zLy P H f nt ps assign body x e K):∃ n0 y e3,(∀ n m,n0≤n→n0≤m→zO0 (zNV P H f nt n m) ps assign body x e=some (y,e3))∧K y e3:=by
 obtain ⟨e1,h1,n1,y,e2,lg,h2,rfl,rfl,n2,z,e3,lg,h3,rfl,h4⟩:=h
 refine ⟨max n1 n2,z,e3,fun n m hn hm=>?_,h4⟩
 simp only [zO0,h1,zNV,h2 n m (by omega) (by omega),h3 n m (by omega) (by omega)]
theorem Rg.run {ps:List Tmp} {assign body:Code} {R ds:List Nat}:∀ {xs:List (List PV)} {e:Env},Rg P H f nt ps assign body R ds K xs e→∃ n0,
  (∃ e',(∀ n m j,n0≤n→n0≤m→zC6 nt (zNV P H f nt n m) ps assign body R ds xs e j=some (none,e'))∧K .norm e' none) ∨
  (∃ i y e',i<xs.length∧y ≠ .norm∧(∀ n m j,n0≤n→n0≤m→zC6 nt (zNV P H f nt n m) ps assign body R ds xs e j=some (some (j+i+1,y),e')) ∧
   (∀ n m j,n0≤n→n0≤m→zC6 nt (zNV P H f nt n m) ps assign body R ds (xs.take (i+1)) e j=some (some (j+i+1,y),e'))∧K y e' none)
 | [],e,h=>⟨0,.inl ⟨e,fun _ _ _ _ _=>rfl,h⟩⟩
 | x :: xs,e,h=>by
  obtain ⟨n1,y,e3,h1,h2⟩:=zLy.run h
  cases y with
  | norm =>
   cases R with
   | nil =>
    simp only at h2
    obtain ⟨n2,h3⟩:=Rg.run h2
    refine ⟨max n1 n2,?_⟩
    rcases h3 with ⟨e',h3,h4⟩ | ⟨i,y,e',hi,hy,h3,h4,h5⟩
    ·exact .inl ⟨e',fun n m j hn hm=>by rw [zBJ,h1 n m (by omega) (by omega)];exact h3 n m _ (by omega) (by omega),h4⟩
    ·refine .inr ⟨i+1,y,e',by simp;omega,hy,fun n m j hn hm=>?_,fun n m j hn hm=>?_,h5⟩
     ·rw [zBJ,h1 n m (by omega) (by omega)];simp only;rw [h3 n m _ (by omega) (by omega)];simp only [Option.some.injEq,Prod.mk.injEq,and_true];omega
     ·rw [List.take_succ_cons,zBJ,h1 n m (by omega) (by omega)];simp only;rw [h4 n m _ (by omega) (by omega)];simp only [Option.some.injEq,Prod.mk.injEq,and_true];omega
   | cons r R' =>
    simp only at h2
    obtain ⟨hc,e1,hf,hr⟩:=h2
    obtain ⟨n3,z,e4,h6,rfl,h7⟩:=zLy.run hr
    obtain ⟨n2,h3⟩:=Rg.run h7
    refine ⟨max n1 (max n2 n3),?_⟩
    rcases h3 with ⟨e',h3,h4⟩ | ⟨i,y,e',hi,hy,h3,h4,h5⟩
    ·exact .inl ⟨e',fun n m j hn hm=>by rw [zBJ,h1 n m (by omega) (by omega)];simp only [hc,cond_true,hf,h6 n m (by omega) (by omega)];exact h3 n m _ (by omega) (by omega),h4⟩
    ·refine .inr ⟨i+1,y,e',by simp;omega,hy,fun n m j hn hm=>?_,fun n m j hn hm=>?_,h5⟩
     ·rw [zBJ,h1 n m (by omega) (by omega)];simp only [hc,cond_true,hf,h6 n m (by omega) (by omega)];rw [h3 n m _ (by omega) (by omega)];simp only [Option.some.injEq,Prod.mk.injEq,and_true];omega
     ·rw [List.take_succ_cons,zBJ,h1 n m (by omega) (by omega)];simp only [hc,cond_true,hf,h6 n m (by omega) (by omega)];rw [h4 n m _ (by omega) (by omega)];simp only [Option.some.injEq,Prod.mk.injEq,and_true];omega
  | ex id =>
   refine ⟨n1,.inr ⟨0,.ex id,_,by simp,by simp,fun n m j hn hm=>?_,fun n m j hn hm=>?_,h2⟩⟩
   ·rw [zBJ,h1 n m (by omega) (by omega)]
   ·rw [List.take_succ_cons,zBJ,h1 n m (by omega) (by omega)]
  | ret =>
   refine ⟨n1,.inr ⟨0,.ret,_,by simp,by simp,fun n m j hn hm=>?_,fun n m j hn hm=>?_,h2⟩⟩
   ·rw [zBJ,h1 n m (by omega) (by omega)]
   ·rw [List.take_succ_cons,zBJ,h1 n m (by omega) (by omega)]
def rgT:Code→Option Nat
 | .rangeFunc (.tmp t) _ _ _=>some t
 | _=>none
def zWr:Code→List Tmp
 | .rangeFunc _ ps _ _=>ps.toList
 | _=>[]
def rgA:Code→Code
 | .rangeFunc _ _ a _=>a
 | c=>c
def rgB:Code→Code
 | .rangeFunc _ _ _ b=>b
 | c=>c
def zVJ (c:Code):List Nat:=zWr c++zBP (rgA c)++zBP (rgB c)
theorem zVG {t:Tmp} {ps:Array Tmp} {assign body:Code} {g:FuncId} {first caps:List PV} {R:List Nat} {xs:List (List PV)} (yO:zDM e t=some (g,first,caps,R)) (hY:zFY g first caps xs)
  (h:Rg P H f nt ps.toList assign body R (ps.toList++zBP assign++zBP body) K xs e):W P H f nt (.rangeFunc (.tmp t) ps assign body) e none K:=by
 obtain ⟨hY1,hY2⟩:=hY
 obtain ⟨n2,hr⟩:=Rg.run h
 rcases hr with ⟨e',h3,h4⟩ | ⟨i,y,e',hi,hy,h3,h4,h5⟩
 ·refine ⟨n2+1,.norm,e',none,fun n m hn hm=>?_,h4⟩
  obtain ⟨m,rfl⟩:∃ k,m=k+1:=⟨m-1,by omega⟩
  show (zHf nt Yo.yo zCg (zNV P H f nt n m) t ps.toList assign body e).map (fun x=>(x.1,x.2,none))=_
  simp only [zHf,yO,zJO (fun i=>hY1 i),h3 n m 0 (by omega) (by omega),Option.map_some]
 ·have hY2:=hY2 (i+1) (by omega) (by omega)
  refine ⟨n2+1,y,e',none,fun n m hn hm=>?_,h5⟩
  obtain ⟨m,rfl⟩:∃ k,m=k+1:=⟨m-1,by omega⟩
  show (zHf nt Yo.yo zCg (zNV P H f nt n m) t ps.toList assign body e).map (fun x=>(x.1,x.2,none))=_
  simp only [zHf,yO,zJO (fun i=>hY1 i),h3 n m 0 (by omega) (by omega)]
  have hcast:((0+i+1:Nat):Int)=((i+1:Nat):Int):=by omega
  rw [hcast,zJO (fun i=>hY2 i)]
  simp only [h4 n m 0 (by omega) (by omega),List.length_take]
  rw [if_pos ⟨trivial,by omega⟩]
  rfl
theorem zRG {c:Code} {t g:Nat} {first caps:List PV} {R:List Nat} {xs:List (List PV)} (hY:zFY g first caps xs) (h:Rg P H f nt (zWr c) (rgA c) (rgB c) R (zVJ c) K xs e) (yO:zDM e t=some (g,first,caps,R):=by kernel_rfl) (hc:rgT c=some t:=by kernel_rfl) (hl:lg=none:=by kernel_rfl):W P H f nt c e lg K:=by
 subst hl
 cases c<;>try (cases hc;done)
 rename_i x ps a b
 cases x<;>try (cases hc;done)
 rename_i u
 simp only [rgT,Option.some.injEq] at hc;subst hc
 exact zVG yO hY h
theorem zUN {σ:Type} {c:Code} {t g:Nat} {first caps:List PV} {xs:List (List PV)} (hY:zFY g first caps xs) (Inv:Nat→σ→Prop) (I:σ→Env) (s:σ) (hi:Inv 0 s)
  (h:∀ j x s,xs[j]? = some x→Inv j s→zLy P H f nt (zWr c) (rgA c) (rgB c) x (I s) fun y e3=>match y with
   | .norm=>∃ s',Inv (j+1) s'∧after nt [] (zVJ c) (I s) e3=I s'
   | y=>K y (after nt [] (zVJ c) (I s) e3) none) (hK:∀ s,Inv xs.length s→K .norm (I s) none) (hs:e=I s:=by kernel_rfl) (yO:zDM e t=some (g,first,caps,[]):=by kernel_rfl) (hc:rgT c=some t:=by kernel_rfl) (hl:lg=none:=by kernel_rfl):W P H f nt c e lg K:=by
 refine zRG hY ?_ yO hc hl
 clear yO hY
 subst hs
 have key:∀ (ys:List (List PV)) (j:Nat) (s:σ),xs.drop j=ys→j≤xs.length→Inv j s→Rg P H f nt (zWr c) (rgA c) (rgB c) [] (zVJ c) K ys (I s):=by
  intro ys
  induction ys with
  | nil =>
   intro j s hd hj hi
   have:j=xs.length:=by
    have:=congrArg List.length hd;simp at this;omega
   subst this
   exact hK s hi
  | cons x ys ih =>
   intro j s hd hj hi
   have hx:xs[j]? = some x:=by
    have:=congrArg (fun l=>l[0]?) hd
    simpa using this
   have yC:=(List.getElem?_eq_some_iff.1 hx).1
   obtain ⟨e1,h1,h2⟩:=h j x s hx hi
   refine ⟨e1,h1,zSj h2 fun y e2 lg ⟨a1,a2,a3⟩=>⟨a1,a2,zSj a3 fun y e3 lg ⟨b1,b2⟩=>⟨b1,?_⟩⟩⟩
   cases y with
   | norm =>
    obtain ⟨s',jC,he⟩:=b2
    simp only
    rw [he]
    refine ih (j+1) s' ?_ (by omega) jC
    rw [← List.drop_drop,hd];rfl
   | ex id=>exact b2
   | ret=>exact b2
 exact key xs 0 s rfl (by omega) hi
theorem zOE {ps:List Tmp} {a b:Code} {x:List PV} {K:X→Env→Prop} (h:W P H f nt a ((zCt ps x e).getD []) none fun y e2 lg=>y = .norm∧lg=none∧W P H f nt b e2 none fun y e3 lg=>lg=none∧K y e3) (hp:(zCt ps x e).isSome=true:=by kernel_rfl):zLy P H f nt ps a b x e K:=by
 obtain ⟨e1,h1⟩:=Option.isSome_iff_exists.1 hp
 rw [h1] at h
 exact ⟨e1,h1,h⟩
omit [Yo] in
theorem zSG (fn:Func) {g:FuncId} {first caps:List PV} {k:Int} {xs:List (List PV)} (h:∀ i,@W yo0 P H g fn.ntmps (fn.body.getD .ret) (zA3 (first++PV.yld i::caps) []) (some ⟨[],k,i⟩) fun x _ lg=>(x = .norm∨x = .ret)∧lg.map (·.xs)=some xs) (hk:k≠0)
  (hf:P.funcs[g]? = some fn:=by kernel_rfl) (hb:fn.body.isSome=true:=by kernel_rfl) (hc:∀ i,(Nat.ble (first++PV.yld i::caps).length fn.ntmps&&fn.results.isEmpty&&(first++caps).all (fun p => !p.isTup))=true:=by intro i;kernel_rfl) (hin:Nat.beq (H g).intr 0=true:=by kernel_rfl):@zS8 (yo1 P H) g first caps k xs:=by
 intro i
 obtain ⟨body,hb⟩:∃ body,fn.body=some body:=by cases hx:fn.body<;>first | exact ⟨_,rfl⟩ | (rw [hx] at hb;cases hb)
 have h:=h i
 simp only [hb,Option.getD_some] at h
 obtain ⟨n0,x,e1,lg1,h1,hx,hl⟩:=h
 refine zUv (n0:=n0) fun n hn=>?_
 have j2:=h1 n (n+1) (by omega) (by omega)
 cases lg1 with
 | none=>cases hl
 | some l =>
  simp only [Option.map_some,Option.some.injEq] at hl
  simp only [zSF,zWh,hf,hb]
  have wD:(k != 0)=true:=by simpa using hk
  have hc':=hc i
  rw [hc',wD,hin]
  simp only [Bool.and_self,cond_true,j2]
  rcases hx with rfl | rfl<;>simp [hl]
end
end Go.Eng
namespace Go.Eng
open Go
inductive PX where
 | ok | fail | emb (p:PM)
 | view (s:Nat) (k:PV→PX) | get (s:Nat) (k:PV→PX) | set (s:Nat) (p:PV) (k:PX)
 | cells (r:Nat) (pre:zAR) (i c n:Nat) (k:Bool→List PV→PX) | deep (r:Nat) (pre:zAR) (k:PV→PX)
 | wcells (r:Nat) (pre:zAR) (i c:Nat) (qs:List PV) (k:PX) | wnode (r:Nat) (pre:zAR) (q:PV) (k:PX)
 | kill (r:Nat) (pre:zAR) (k:PX) | frz (r:Nat) (pre:zAR) (k:PX) | frzp (r:Nat) (pre:zAR) (p:PV) (k:PV→PX) | killEx (r:Nat) (keep:List zAR) (k:PX)
 | call (f:FuncId) (args hid:List PV) (k:PV→List PV→PX)
 | test (b:Bool) (k:PX) | pick (x:Option PV) (k:PV→PX) | num (x:Option Nat) (k:Nat→PX) | idx (x:Option (Option Nat)) (k:Option Nat→PX)
 | choose (b:Bool) (k1 k2:PX) | same (p:PV) (k:PV→PX) | sames (ps:List PV) (k:List PV→PX)
 | nats (x:List Nat) (k:List Nat→PX) | pure (d:Option Nat) (f:FuncId) (args:List PV) (k:PX)
def PX.toPM:PX→PM
 | .ok => .ok
 | .fail => .fail
 | .emb p=>p
 | .view s k => .view s fun p=>(k p).toPM
 | .get s k => .get s fun p=>(k p).toPM
 | .set s p k => .set s p k.toPM
 | .cells r pre i c n k => .cells r pre i c n fun a qs=>(k a qs).toPM
 | .deep r pre k => .deep r pre fun q=>(k q).toPM
 | .wcells r pre i c qs k => .wcells r pre i c qs k.toPM
 | .wnode r pre q k => .wnode r pre q k.toPM
 | .kill r pre k => .kill r pre k.toPM
 | .frz r pre k => .frz r pre k.toPM
 | .frzp r pre p k => .frz r pre (k p).toPM
 | .killEx r keep k => .killEx r keep k.toPM
 | .call f args hid k => .call f args hid fun v h=>(k v h).toPM
 | .test b k=>bif b then k.toPM else .fail
 | .pick x k=>match x with
  | some v=>(k v).toPM
  | none => .fail
 | .num x k=>match x with
  | some v=>(k v).toPM
  | none => .fail
 | .idx x k=>match x with
  | some v=>(k v).toPM
  | none => .fail
 | .choose b k1 k2=>bif b then k1.toPM else k2.toPM
 | .same p k=>(k p).toPM
 | .sames ps k=>(k ps).toPM
 | .nats x k=>(k x).toPM
 | .pure _ _ _ k=>k.toPM
inductive An where
 | ob | v (p:PV) | vs (ps:List PV) | n (k:Nat) | ix (k:Option Nat) | yes | no | cs (a:Bool) (qs:List PV) | root (r:PV) (kept:Bool) | ret (v:PV) (hid:List PV) | ns (l:List Nat) | env (e:Env) | envv (e:Env) (q:PV)
abbrev Ans:=List (Nat×An)
def zGc:Ans→Option An×Ans
 | []=>(none,[])
 | (0,a)::l=>(some a,l)
 | (n+1,a)::l=>(none,(n,a)::l)
section
variable [Yo] (P:Program) (H:zBf)
def zSV (f:FuncId) (args:List PV) (v:PV):Prop:=∀ (d:Option Nat) (e:Env),∃ n0,∀ n,n0≤n→(zNg H d f args).runT (zC9 P H n) e=(put d v).runT (zC9 P H n) e
abbrev XR:=Option (Env×Tok×List Prop)
def XR.tok (t:Tok) (x:XR):XR:=x.map fun y=>(y.1,Tok.join t y.2.1,y.2.2)
def XR.ob (q:Prop) (x:XR):XR:=x.map fun y=>(y.1,y.2.1,q::y.2.2)
def PX.run:PX→Ans→Env→XR
 | .ok,_,e=>some (e,{},[])
 | .fail,_,_=>none
 | .emb p,_,e=>(p.runT zHY e).map fun y=>(y.1,y.2,[])
 | .view s k,as,e=>((k (Eng.view s (e.get s))).run as e).tok {look:=[s]}
 | .get s k,as,e=>match e.get s with
  | .lock _=>none
  | p=>((k p).run as e).tok {rd:=[s]}
 | .set s p k,as,e=>(k.run as (e.set s p)).tok (zFj s (e.get s) p)
 | .cells r pre i c n k,as,e=>match zGc as with
  | (none,as)=>match zAs r (e.get r) pre i c n with
   | some (a,qs)=>((k a qs).run as e).tok {cel:=[(r,pre)]}
   | none=>none
  | (some (.cs a qs),as)=>(((k a qs).run as e).tok {cel:=[(r,pre)]}).ob (zAs r (e.get r) pre i c n=some (a,qs))
  | _=>none
 | .deep r pre k,as,e=>match zGc as with
  | (none,as)=>match zAy (e.get r).unlock pre with
   | some q=>((k q).run as e).tok {rd:=[r]}
   | none=>none
  | (some (.v q),as)=>(((k q).run as e).tok {rd:=[r]}).ob (zAy (e.get r).unlock pre=some q)
  | _=>none
 | .wcells r pre i c qs k,as,e=>match zGc as with
  | (none,as)=>match zBw (e.get r) pre i c qs with
   | some root=>(k.run as (e.set r root)).tok (zBa r [] (zAF (e.get r) root pre) (e.get r) root)
   | none=>none
  | (some (.root root kp),as)=>((k.run as (e.set r root)).tok (zBa r [] kp (e.get r) root)).ob (zBw (e.get r) pre i c qs=some root∧zAF (e.get r) root pre=kp)
  | _=>none
 | .wnode r pre q k,as,e=>match zGc as with
  | (none,as)=>bif (e.get r).isLock then none else match zAu (fun _=>some q) (e.get r) pre with
   | some root=>(k.run as (e.set r root)).tok (zBa r pre.dropLast (zAF (e.get r) root pre&&(pre.isEmpty || !q.isAgg)) (e.get r) root)
   | none=>none
  | (some (.root root kp),as)=>bif (e.get r).isLock then none else ((k.run as (e.set r root)).tok (zBa r pre.dropLast (kp&&(pre.isEmpty || !q.isAgg)) (e.get r) root)).ob (zAu (fun _=>some q) (e.get r) pre=some root∧zAF (e.get r) root pre=kp)
  | _=>none
 | .kill r pre k,as,e=>(k.run as (e.kill r pre)).tok (zAH (zDp e fun z=>zAJ r pre z.1 z.2) e.get (e.kill r pre).get [r] [])
 | .frz r pre k,as,e=>match zGc as with
  | (none,as)=>match e.frz r pre with
   | some e'=>(k.run as e').tok (zAH (r::zDp e fun z=>zAJ r pre z.1 z.2) e.get e'.get [r] [])
   | none=>none
  | (some (.env e'),as)=>((k.run as e').tok (zAH (r::zDp e fun z=>zAJ r pre z.1 z.2) e.get e'.get [r] [])).ob (e.frz r pre=some e')
  | _=>none
 | .frzp r pre p k,as,e=>match zGc as with
  | (none,as)=>match e.frz r pre with
   | some e'=>((k p).run as e').tok (zAH (r::zDp e fun z=>zAJ r pre z.1 z.2) e.get e'.get [r] [])
   | none=>none
  | (some (.env e'),as)=>(((k p).run as e').tok (zAH (r::zDp e fun z=>zAJ r pre z.1 z.2) e.get e'.get [r] [])).ob (e.frz r pre=some e')
  | (some (.envv e' q),as)=>(((k q).run as e').tok (zAH (r::zDp e fun z=>zAJ r pre z.1 z.2) e.get e'.get [r] [])).ob (e.frz r pre=some e'∧p=q)
  | _=>none
 | .killEx r keep k,as,e=>(k.run as (e.killEx r keep)).tok (zAH (zDp e fun z=>Nat.beq z.1 r && !z.2.isEmpty) e.get (e.killEx r keep).get [] [r])
 | .call f args hid k,as,e=>match zGc as with
  | (some (.ret v hX),as)=>((k v hX).run as e).ob (zBD P H f args hid v hX)
  | _=>none
 | .test b k,as,e=>match zGc as with
  | (none,as)=>bif b then k.run as e else none
  | (some .ob,as)=>(k.run as e).ob (b=true)
  | _=>none
 | .pick x k,as,e=>match zGc as with
  | (none,as)=>match x with
   | some v=>(k v).run as e
   | none=>none
  | (some (.v v),as)=>((k v).run as e).ob (x=some v)
  | _=>none
 | .num x k,as,e=>match zGc as with
  | (none,as)=>match x with
   | some v=>(k v).run as e
   | none=>none
  | (some (.n v),as)=>((k v).run as e).ob (x=some v)
  | _=>none
 | .idx x k,as,e=>match zGc as with
  | (none,as)=>match x with
   | some v=>(k v).run as e
   | none=>none
  | (some (.ix v),as)=>((k v).run as e).ob (x=some v)
  | _=>none
 | .choose b k1 k2,as,e=>match zGc as with
  | (none,as)=>bif b then k1.run as e else k2.run as e
  | (some .yes,as)=>(k1.run as e).ob (b=true)
  | (some .no,as)=>(k2.run as e).ob (b=false)
  | _=>none
 | .same p k,as,e=>match zGc as with
  | (none,as)=>(k p).run as e
  | (some (.v q),as)=>((k q).run as e).ob (p=q)
  | _=>none
 | .sames ps k,as,e=>match zGc as with
  | (none,as)=>(k ps).run as e
  | (some (.vs qs),as)=>((k qs).run as e).ob (ps=qs)
  | _=>none
 | .nats x k,as,e=>match zGc as with
  | (none,as)=>(k x).run as e
  | (some (.ns l),as)=>((k l).run as e).ob (x=l)
  | _=>none
 | .pure d f args k,as,e=>match zGc as with
  | (none,as)=>k.run as e
  | (some (.v v),_)=>XR.ob (zSV P H f args v∧k.toPM=zNg H d f args) (((put d v).runT zHY e).map fun y=>(y.1,y.2,[]))
  | _=>none
def zSt:List Prop→Prop
 | []=>True
 | p::ps=>p∧zSt ps
end
section
variable [Yo] {P:Program} {H:zBf}
theorem XR.tok_some {t u:Tok} {x:XR} {e':Env} {obs:List Prop} (h:x.tok t=some (e',u,obs)):∃ u',x=some (e',u',obs)∧u=Tok.join t u':=by
 obtain ⟨⟨a,b,c⟩,h1,h2⟩:=Option.map_eq_some_iff.1 h
 simp only [Prod.mk.injEq] at h2
 obtain ⟨rfl,rfl,rfl⟩:=h2
 exact ⟨_,h1,rfl⟩
theorem XR.ob_some {q:Prop} {u:Tok} {x:XR} {e':Env} {obs:List Prop} (h:x.ob q=some (e',u,obs)):∃ o',x=some (e',u,o')∧obs=q::o':=by
 obtain ⟨⟨a,b,c⟩,h1,h2⟩:=Option.map_eq_some_iff.1 h
 simp only [Prod.mk.injEq] at h2
 obtain ⟨rfl,rfl,rfl⟩:=h2
 exact ⟨_,h1,rfl⟩
theorem PX.run_ok:∀ {p:PX} {as:Ans} {e e':Env} {t:Tok} {obs:List Prop},p.run P H as e=some (e',t,obs)→zSt obs→∃ n0,∀ n,n0≤n→p.toPM.runT (zC9 P H n) e=some (e',t):=by
 intro p
 induction p with
 | ok=>intro as e e' t obs h _;simp only [PX.run,Option.some.injEq,Prod.mk.injEq] at h;obtain ⟨rfl,rfl,_⟩:=h;exact ⟨0,fun _ _=>rfl⟩
 | fail=>intro as e e' t obs h _;cases h
 | emb p =>
  intro as e e' t obs h _
  obtain ⟨⟨a,b⟩,h1,h2⟩:=Option.map_eq_some_iff.1 h
  simp only [Prod.mk.injEq] at h2
  obtain ⟨rfl,rfl,_⟩:=h2
  exact ⟨0,fun _ _=>zIs h1⟩
 | view s k ih =>
  intro as e e' t obs h ha
  obtain ⟨u,h1,rfl⟩:=XR.tok_some h
  obtain ⟨n0,h2⟩:=ih _ h1 ha
  exact ⟨n0,fun n hn=>by simp only [PX.toPM,PM.runT,h2 n hn];rfl⟩
 | get s k ih =>
  intro as e e' t obs h ha
  simp only [PX.run] at h
  cases hg:e.get s<;>rw [hg] at h<;>simp only at h<;>try (cases h;done)
  all_goals
   obtain ⟨u,h1,rfl⟩:=XR.tok_some h
   obtain ⟨n0,h2⟩:=ih _ h1 ha
   exact ⟨n0,fun n hn=>by simp only [PX.toPM,PM.runT,hg,h2 n hn];rfl⟩
 | set s q k ih =>
  intro as e e' t obs h ha
  obtain ⟨u,h1,rfl⟩:=XR.tok_some h
  obtain ⟨n0,h2⟩:=ih h1 ha
  exact ⟨n0,fun n hn=>by simp only [PX.toPM,PM.runT,h2 n hn];rfl⟩
 | cells r pre i c n k ih =>
  intro as e e' t obs h ha
  simp only [PX.run] at h
  split at h
  ·split at h
   ·rename_i hr
    obtain ⟨u,h1,rfl⟩:=XR.tok_some h
    obtain ⟨n0,h2⟩:=ih _ _ h1 ha
    exact ⟨n0,fun n hn=>by simp only [PX.toPM,PM.runT,hr,h2 n hn];rfl⟩
   ·cases h
  ·obtain ⟨o,h0,rfl⟩:=XR.ob_some h
   obtain ⟨u,h1,rfl⟩:=XR.tok_some h0
   obtain ⟨n0,h2⟩:=ih _ _ h1 ha.2
   exact ⟨n0,fun n hn=>by simp only [PX.toPM,PM.runT,ha.1,h2 n hn];rfl⟩
  ·cases h
 | deep r pre k ih =>
  intro as e e' t obs h ha
  simp only [PX.run] at h
  split at h
  ·split at h
   ·rename_i hr
    obtain ⟨u,h1,rfl⟩:=XR.tok_some h
    obtain ⟨n0,h2⟩:=ih _ h1 ha
    exact ⟨n0,fun n hn=>by simp only [PX.toPM,PM.runT,hr,h2 n hn];rfl⟩
   ·cases h
  ·obtain ⟨o,h0,rfl⟩:=XR.ob_some h
   obtain ⟨u,h1,rfl⟩:=XR.tok_some h0
   obtain ⟨n0,h2⟩:=ih _ h1 ha.2
   exact ⟨n0,fun n hn=>by simp only [PX.toPM,PM.runT,ha.1,h2 n hn];rfl⟩
  ·cases h
 | wcells r pre i c qs k ih =>
  intro as e e' t obs h ha
  simp only [PX.run] at h
  split at h
  ·split at h
   ·rename_i hr
    obtain ⟨u,h1,rfl⟩:=XR.tok_some h
    obtain ⟨n0,h2⟩:=ih h1 ha
    exact ⟨n0,fun n hn=>by simp only [PX.toPM,PM.runT,hr,h2 n hn];rfl⟩
   ·cases h
  ·obtain ⟨o,h0,rfl⟩:=XR.ob_some h
   obtain ⟨u,h1,rfl⟩:=XR.tok_some h0
   obtain ⟨n0,h2⟩:=ih h1 ha.2
   exact ⟨n0,fun n hn=>by simp only [PX.toPM,PM.runT,ha.1.1,ha.1.2,h2 n hn];rfl⟩
  ·cases h
 | wnode r pre q k ih =>
  intro as e e' t obs h ha
  simp only [PX.run] at h
  split at h
  ·rcases zBh h with ⟨_,h⟩ | ⟨hl,h⟩
   ·cases h
   ·split at h
    ·rename_i hr
     obtain ⟨u,h1,rfl⟩:=XR.tok_some h
     obtain ⟨n0,h2⟩:=ih h1 ha
     exact ⟨n0,fun n hn=>by simp only [PX.toPM,PM.runT,hl,cond_false,hr,h2 n hn];rfl⟩
    ·cases h
  ·rcases zBh h with ⟨_,h⟩ | ⟨hl,h⟩
   ·cases h
   ·obtain ⟨o,h0,rfl⟩:=XR.ob_some h
    obtain ⟨u,h1,rfl⟩:=XR.tok_some h0
    obtain ⟨n0,h2⟩:=ih h1 ha.2
    exact ⟨n0,fun n hn=>by simp only [PX.toPM,PM.runT,hl,cond_false,ha.1.1,ha.1.2,h2 n hn];rfl⟩
  ·cases h
 | kill r pre k ih =>
  intro as e e' t obs h ha
  obtain ⟨u,h1,rfl⟩:=XR.tok_some h
  obtain ⟨n0,h2⟩:=ih h1 ha
  exact ⟨n0,fun n hn=>by simp only [PX.toPM,PM.runT,h2 n hn];rfl⟩
 | frz r pre k ih =>
  intro as e e' t obs h ha
  simp only [PX.run] at h
  split at h
  ·split at h
   ·rename_i hr
    obtain ⟨u,h1,rfl⟩:=XR.tok_some h
    obtain ⟨n0,h2⟩:=ih h1 ha
    exact ⟨n0,fun n hn=>by simp only [PX.toPM,PM.runT,hr,h2 n hn];rfl⟩
   ·cases h
  ·obtain ⟨o,h0,rfl⟩:=XR.ob_some h
   obtain ⟨u,h1,rfl⟩:=XR.tok_some h0
   obtain ⟨n0,h2⟩:=ih h1 ha.2
   exact ⟨n0,fun n hn=>by simp only [PX.toPM,PM.runT,ha.1,h2 n hn];rfl⟩
  ·cases h
 | frzp r pre p k ih =>
  intro as e e' t obs h ha
  simp only [PX.run] at h
  split at h
  ·split at h
   ·rename_i hr
    obtain ⟨u,h1,rfl⟩:=XR.tok_some h
    obtain ⟨n0,h2⟩:=ih _ h1 ha
    exact ⟨n0,fun n hn=>by simp only [PX.toPM,PM.runT,hr,h2 n hn];rfl⟩
   ·cases h
  ·obtain ⟨o,h0,rfl⟩:=XR.ob_some h
   obtain ⟨u,h1,rfl⟩:=XR.tok_some h0
   obtain ⟨n0,h2⟩:=ih _ h1 ha.2
   exact ⟨n0,fun n hn=>by simp only [PX.toPM,PM.runT,ha.1,h2 n hn];rfl⟩
  ·obtain ⟨o,h0,rfl⟩:=XR.ob_some h
   obtain ⟨u,h1,rfl⟩:=XR.tok_some h0
   obtain ⟨⟨hf,rfl⟩,ha⟩:=ha
   obtain ⟨n0,h2⟩:=ih _ h1 ha
   exact ⟨n0,fun n hn=>by simp only [PX.toPM,PM.runT,hf,h2 n hn];rfl⟩
  ·cases h
 | killEx r keep k ih =>
  intro as e e' t obs h ha
  obtain ⟨u,h1,rfl⟩:=XR.tok_some h
  obtain ⟨n0,h2⟩:=ih h1 ha
  exact ⟨n0,fun n hn=>by simp only [PX.toPM,PM.runT,h2 n hn];rfl⟩
 | call f args hid k ih =>
  intro as e e' t obs h ha
  simp only [PX.run] at h
  split at h
  ·obtain ⟨o,h1,rfl⟩:=XR.ob_some h
   obtain ⟨n0,h2⟩:=ih _ _ h1 ha.2
   obtain ⟨n1,h3⟩:=ha.1
   exact ⟨max n0 n1,fun n hn=>by simp only [PX.toPM,PM.runT,h3 n (by omega),h2 n (by omega)]⟩
  ·cases h
 | test b k ih =>
  intro as e e' t obs h ha
  simp only [PX.run] at h
  split at h
  ·rcases zBh h with ⟨hb,h⟩ | ⟨_,h⟩
   ·obtain ⟨n0,h2⟩:=ih h ha
    exact ⟨n0,fun n hn=>by simp only [PX.toPM,hb,cond_true,h2 n hn]⟩
   ·cases h
  ·obtain ⟨o,h1,rfl⟩:=XR.ob_some h
   obtain ⟨n0,h2⟩:=ih h1 ha.2
   exact ⟨n0,fun n hn=>by simp only [PX.toPM,ha.1,cond_true,h2 n hn]⟩
  ·cases h
 | pick x k ih =>
  intro as e e' t obs h ha
  simp only [PX.run] at h
  split at h
  ·split at h
   ·obtain ⟨n0,h2⟩:=ih _ h ha
    exact ⟨n0,fun n hn=>by simp only [PX.toPM,h2 n hn]⟩
   ·cases h
  ·obtain ⟨o,h1,rfl⟩:=XR.ob_some h
   obtain ⟨n0,h2⟩:=ih _ h1 ha.2
   exact ⟨n0,fun n hn=>by simp only [PX.toPM,ha.1,h2 n hn]⟩
  ·cases h
 | num x k ih =>
  intro as e e' t obs h ha
  simp only [PX.run] at h
  split at h
  ·split at h
   ·obtain ⟨n0,h2⟩:=ih _ h ha
    exact ⟨n0,fun n hn=>by simp only [PX.toPM,h2 n hn]⟩
   ·cases h
  ·obtain ⟨o,h1,rfl⟩:=XR.ob_some h
   obtain ⟨n0,h2⟩:=ih _ h1 ha.2
   exact ⟨n0,fun n hn=>by simp only [PX.toPM,ha.1,h2 n hn]⟩
  ·cases h
 | idx x k ih =>
  intro as e e' t obs h ha
  simp only [PX.run] at h
  split at h
  ·split at h
   ·obtain ⟨n0,h2⟩:=ih _ h ha
    exact ⟨n0,fun n hn=>by simp only [PX.toPM,h2 n hn]⟩
   ·cases h
  ·obtain ⟨o,h1,rfl⟩:=XR.ob_some h
   obtain ⟨n0,h2⟩:=ih _ h1 ha.2
   exact ⟨n0,fun n hn=>by simp only [PX.toPM,ha.1,h2 n hn]⟩
  ·cases h
 | choose b k1 k2 ih1 ih2 =>
  intro as e e' t obs h ha
  simp only [PX.run] at h
  split at h
  ·rcases zBh h with ⟨hb,h⟩ | ⟨hb,h⟩
   ·obtain ⟨n0,h2⟩:=ih1 h ha
    exact ⟨n0,fun n hn=>by simp only [PX.toPM,hb,cond_true,h2 n hn]⟩
   ·obtain ⟨n0,h2⟩:=ih2 h ha
    exact ⟨n0,fun n hn=>by simp only [PX.toPM,hb,cond_false,h2 n hn]⟩
  ·obtain ⟨o,h1,rfl⟩:=XR.ob_some h
   obtain ⟨n0,h2⟩:=ih1 h1 ha.2
   exact ⟨n0,fun n hn=>by simp only [PX.toPM,ha.1,cond_true,h2 n hn]⟩
  ·obtain ⟨o,h1,rfl⟩:=XR.ob_some h
   obtain ⟨n0,h2⟩:=ih2 h1 ha.2
   exact ⟨n0,fun n hn=>by simp only [PX.toPM,ha.1,cond_false,h2 n hn]⟩
  ·cases h
 | same p k ih =>
  intro as e e' t obs h ha
  simp only [PX.run] at h
  split at h
  ·exact ih _ h ha
  ·obtain ⟨o,h1,rfl⟩:=XR.ob_some h
   obtain ⟨n0,h2⟩:=ih _ h1 ha.2
   exact ⟨n0,fun n hn=>by simp only [PX.toPM,ha.1,h2 n hn]⟩
  ·cases h
 | sames ps k ih =>
  intro as e e' t obs h ha
  simp only [PX.run] at h
  split at h
  ·exact ih _ h ha
  ·obtain ⟨o,h1,rfl⟩:=XR.ob_some h
   obtain ⟨n0,h2⟩:=ih _ h1 ha.2
   exact ⟨n0,fun n hn=>by simp only [PX.toPM,ha.1,h2 n hn]⟩
  ·cases h
 | nats x k ih =>
  intro as e e' t obs h ha
  simp only [PX.run] at h
  split at h
  ·exact ih _ h ha
  ·obtain ⟨o,h1,rfl⟩:=XR.ob_some h
   obtain ⟨n0,h2⟩:=ih _ h1 ha.2
   exact ⟨n0,fun n hn=>by simp only [PX.toPM,ha.1,h2 n hn]⟩
  ·cases h
 | pure d f args k ih =>
  intro as e e' t obs h ha
  simp only [PX.run] at h
  split at h
  ·exact ih h ha
  ·obtain ⟨o,h1,rfl⟩:=XR.ob_some h
   obtain ⟨⟨a,b⟩,h2,h3⟩:=Option.map_eq_some_iff.1 h1
   simp only [Prod.mk.injEq] at h3
   obtain ⟨rfl,rfl,_⟩:=h3
   obtain ⟨⟨hp,hk⟩,_⟩:=ha
   obtain ⟨n0,hp⟩:=hp d e
   exact ⟨n0,fun n hn=>by simp only [PX.toPM];rw [hk,hp n hn];exact zIs h2⟩
  ·cases h
end
end Go.Eng
namespace Go.Eng
open Go
def zGG (x:Operand) (k:PV→PX):PX :=
 match x with
 | .tmp t => .view t k
 | .const v=>k (zEu v)
 | .func f=>k (.func f [] [])
 | .global _ => .fail
def zK1 (x:Operand) (k:PV→PX):PX :=
 match x with
 | .tmp t => .get t fun p => .choose p.heavy (.set t .bad (k p)) (k p)
 | .const v=>k (zEu v)
 | .func f=>k (.func f [] [])
 | .global _ => .fail
def zPF:List Operand→(List PV→PX)→PX
 | [],k=>k []
 | x::xs,k=>zGG x fun p=>zPF xs fun ps=>k (p::ps)
def zVN (d:Nat) (p:PV) (k:PX):PX := .choose p.heavy (.kill d [] (.set d (p.mapW (lose d [])) k)) (.set d p k)
def zGb (d:Option Nat) (p:PV):PX :=
 match d with
 | none => .ok
 | some d => .same p fun p=>bif p.isTup then .fail else zVN d p .ok
def zG0 (d:Nat):Nat→List PV→PX→PX
 | n,[],k => .set d (.tup (List.replicate n .bad)) k
 | i,p::ps,k => .same p fun p=>zVN (zBq d i) p (zG0 d (i+1) ps k)
def zE1 (d:Option Nat) (v:PV):PX :=
 match d,v with
 | some d,.tup vs => .test (Nat.ble vs.length 16) (.test ((zBv vs).all (fun w => !zJt d w.1)) (.set d .bad (zG0 d 0 vs .ok)))
 | d,v=>zGb d v
def zFQ:PV→(Nat→PX)→PX
 | .int _ n,k => .test (decide (0≤n)) (.num (some n.toNat) k)
 | _,_ => .fail
def zQQ (r:Nat) (pre:zAR) (i c:Nat) (sh:Option Nat) (k:PV→PX):PX :=
 match sh with
 | some n => .cells r pre i c n fun a qs=>bif a then k (.agg qs) else .fail
 | none => .cells r pre i c 1 fun _ qs=>k (qs.headD .bad)
def zHi (r:Nat) (pre:zAR) (i:Nat):Nat→List PV→PX→PX
 | _,[],k=>k
 | c,q::qs,k=>bif q.heavy then .kill r (pre++[(i,c)]) (zHi r pre i (c+1) qs k) else zHi r pre i (c+1) qs k
def zQq (r:Nat) (pre:zAR) (i c:Nat) (qs:List PV) (k:PX):PX := .choose (qs.all fun q => !q.heavy) k (zHi r pre i c qs k)
section
variable {k:PX} {kp:PV→PX}
theorem zCc {x:Operand} {k:PV→PX}:(zGG x k).toPM=opd x fun p=>(k p).toPM:=by cases x<;>rfl
theorem zBs {α:Type} {b:Bool} {x y:α}:(bif b then x else y)=if b=true then x else y:=by cases b<;>rfl
theorem zF4 {x:Operand} {k:PV→PX}:(zK1 x k).toPM=zPa x fun p=>(k p).toPM:=by
 cases x<;>first | rfl | simp only [zK1,zPa,PX.toPM,zBs]
theorem zIa:∀ {xs:List Operand} {k:List PV→PX},(zPF xs k).toPM=zTj xs fun p=>(k p).toPM
 | [],_=>rfl
 | x::xs,k=>by simp only [zPF,zTj,zCc,zIa]
theorem zLG {d:Nat} {p:PV} {k:PX}:(zVN d p k).toPM=lay d p k.toPM:=by simp only [zVN,lay,PX.toPM]
theorem zDc {b:Bool} {x y:PX}:(bif b then x else y).toPM=bif b then x.toPM else y.toPM:=by cases b<;>rfl
theorem zOy {c:Prop} [Decidable c] {x y:PX}:(if c then x else y).toPM=if c then x.toPM else y.toPM:=by split<;>rfl
theorem zBu {d:Option Nat} {p:PV}:(zGb d p).toPM=put d p:=by
 cases d with
 | none=>rfl
 | some d=>simp only [zGb,put,PX.toPM,zDc,zLG]
theorem zH0 {d:Nat}:∀ {ps:List PV} {i:Nat} {k:PX},(zG0 d i ps k).toPM=zFf d i ps k.toPM
 | [],_,_=>rfl
 | p::ps,i,k=>by simp only [zG0,zFf,PX.toPM,zLG,zH0]
theorem zDk {α:Type} {a b:Bool} {x y:α}:(bif a&&b then x else y)=bif a then (bif b then x else y) else y:=by cases a<;>rfl
theorem zEI {d:Option Nat} {v:PV}:(zE1 d v).toPM=zDq d v:=by
 cases d with
 | none=>cases v<;>simp only [zE1,zDq,zBu]
 | some d=>cases v<;>simp only [zE1,zDq,PX.toPM,zH0,zDk,zBu]
theorem zEQ {p:PV} {k:Nat→PX}:(zFQ p k).toPM=zGm p fun n=>(k n).toPM:=by
 cases p<;>first | rfl | skip
 simp only [zFQ,zGm,PX.toPM,zBs,decide_eq_true_eq]
theorem zK3 {r:Nat} {pre:zAR} {i c:Nat} {sh:Option Nat} {k:PV→PX}:(zQQ r pre i c sh k).toPM=zLQ r pre i c sh fun p=>(k p).toPM:=by
 cases sh<;>simp only [zQQ,zLQ,PX.toPM,zDc]
theorem zID {r:Nat} {pre:zAR} {i:Nat}:∀ {qs:List PV} {c:Nat} {k:PX},(zHi r pre i c qs k).toPM=zDQ r pre i c qs k.toPM
 | [],_,_=>rfl
 | q::qs,c,k=>by simp only [zHi,zDQ,zDc,PX.toPM,zID]
theorem zES {r:Nat} {pre:zAR} {i:Nat}:∀ {qs:List PV} {c:Nat} {k:PM},(qs.all fun q => !q.heavy)=true→zDQ r pre i c qs k=k
 | [],_,_,_=>rfl
 | q::qs,c,k,h=>by
  simp only [List.all_cons,Bool.and_eq_true,Bool.not_eq_true'] at h
  simp only [zDQ,h.1,cond_false];exact zES h.2
theorem zQ5 {r:Nat} {pre:zAR} {i c:Nat} {qs:List PV} {k:PX}:(zQq r pre i c qs k).toPM=zDQ r pre i c qs k.toPM:=by
 simp only [zQq,PX.toPM,zID]
 cases h:qs.all fun q => !q.heavy with
 | false=>rfl
 | true=>exact (zES h).symm
end
def zEO (res:PV→(PV→List (Nat×zAR)→PX)→PX):List PV→(List PV→List (Nat×zAR)→PX)→PX
 | [],k=>k [] []
 | p::ps,k=>res p fun q l=>zEO res ps fun qs m=>k (q::qs) (l++m)
def zDE (hb:Nat):Nat→PV→(PV→List (Nat×zAR)→PX)→PX
 | 0,_,_ => .fail
 | n + 1,p,k =>
  match p with
  | .addr r pre i c sh=>bif Nat.ble hb r then k p [] else .deep r pre fun q=>match zA6 q with
   | some xs => .pick xs[i]? fun x=>match sh with
     | some m => .test (Nat.ble (c+m) x.cells.length) (.test x.isAgg (zDE hb n (.agg ((x.cells.drop c).take m)) fun q l=>k (.ref q) ((r,pre)::l)))
     | none => .pick x.cells[c]? fun q => .test q.oneCell (zDE hb n q fun q l=>k (.ref q) ((r,pre)::l))
   | none => .fail
  | .bor r pre _ lo m=>bif Nat.ble hb r then k p [] else .deep r pre fun q=>match q with
   | .own _ xs => .test (Nat.ble (lo+m) xs.length) (.same (.sl (zAA ((xs.drop lo).take m))) fun p=>k p [(r,pre)])
   | _ => .fail
  | .bsl r pre i c sz ag m=>bif Nat.ble hb r then k p [] else .deep r pre fun q=>match zA6 q with
   | some xs => .pick xs[i]? fun x => .test (zCn ag sz m ((x.cells.drop c).take (m*sz))) (.test (zBv x.cells).isEmpty (.same (.sl (zCm ag sz m (zAA ((x.cells.drop c).take (m*sz))))) fun p=>k p [(r,pre)]))
   | none => .fail
  | .bmap r pre=>bif Nat.ble hb r then k p [] else .deep r pre fun q=>match q with
   | .omap es=>k (.map es) [(r,pre)]
   | _ => .fail
  | .agg cs => .choose (p.ways).isEmpty (.same (zAS p) fun q=>k q []) (zEO (zDE hb n) cs fun qs l=>k (.agg qs) l)
  | .func f a b => .choose (p.ways).isEmpty (k p []) (zEO (zDE hb n) a fun as l=>zEO (zDE hb n) b fun bs m=>k (.func f as bs) (l++m))
  | .ref q => .choose (q.ways).isEmpty (k p []) (zDE hb n q fun q l=>k (.ref q) l)
  | .bad=>k .bad []
  | p => .test (p.ways.all (fun w=>Nat.ble hb w.1)) (.same (zAS p) fun q=>k q [])
def zUf (p:PV) (k:PV→List (Nat×zAR)→PX):PX:=zDE zAb depth p k
theorem zHS {res:PV→(PV→List (Nat×zAR)→PX)→PX} {res':PV→(PV→List (Nat×zAR)→PM)→PM} (h:∀ p k,(res p k).toPM=res' p fun q l=>(k q l).toPM):∀ {ps:List PV} {k:List PV→List (Nat×zAR)→PX},(zEO res ps k).toPM=zEm res' ps fun q l=>(k q l).toPM
 | [],_=>rfl
 | p::ps,k=>by simp only [zEO,zEm,h,zHS h]
theorem zJF {hb:Nat}:∀ {n:Nat} {p:PV} {k:PV→List (Nat×zAR)→PX},(zDE hb n p k).toPM=resolve hb n p fun q l=>(k q l).toPM
 | 0,_,_=>rfl
 | n + 1,p,k=>by
  have ih:∀ (p:PV) (k:PV→List (Nat×zAR)→PX),(zDE hb n p k).toPM=resolve hb n p fun q l=>(k q l).toPM:=fun p k=>zJF
  cases p<;>simp only [zDE,resolve,zDc,PX.toPM,zDk,ih,zHS ih]
  ·congr 1;congr 1;funext q
   cases zA6 q with
   | none=>rfl
   | some xs =>
    simp only [PX.toPM]
    rename_i r pre i c sh
    cases xs[i]? with
    | none=>rfl
    | some x =>
     cases sh with
     | some m=>simp only [PX.toPM,zDk,ih]
     | none =>
      simp only [PX.toPM,ih]
      cases x.cells[c]? with
      | none=>rfl
      | some q=>simp only [PX.toPM,zBs,ih]
  ·congr 1;congr 1;funext q
   cases q<;>rfl
  ·congr 1;congr 1;funext q
   cases zA6 q with
   | none=>rfl
   | some xs =>
    simp only [PX.toPM]
    rename_i r pre i c sz ag m
    cases xs[i]? with
    | none=>rfl
    | some x=>simp only [PX.toPM,zDk]
  ·congr 1;congr 1;funext q
   cases q<;>rfl
theorem zRn {p:PV} {k:PV→List (Nat×zAR)→PX}:(zUf p k).toPM=zPC p fun q l=>(k q l).toPM:=zJF
def zPQ (hb:Nat):Nat→PV→(PV→PX)→PX
 | 0,_,_ => .fail
 | n+1,p,k=>match p.ways.find? (fun w=>Nat.blt w.1 hb) with
  | none => .same p k
  | some (r,pre) => .deep r pre fun q => .frzp r pre (p.mapW (inl r pre q)) fun p=>zPQ hb n p k
theorem zFy {hb:Nat}:∀ {n:Nat} {p:PV} {k:PV→PX},(zPQ hb n p k).toPM=zLJ hb n p fun q=>(k q).toPM
 | 0,_,_=>rfl
 | n+1,p,k=>by
  simp only [zPQ,zLJ]
  cases p.ways.find? (fun w=>Nat.blt w.1 hb) with
  | none=>rfl
  | some w=>simp only [PX.toPM,zFy]
def zLq (p:PV) (k:List PV→PX):PX :=
 match p with
 | .nils _=>k []
 | .nn=>k []
 | .sl xs=>k xs
 | .bor r pre z lo n => .deep r pre fun q=>match q with
  | .own _ xs => .test (Nat.ble (lo+n) xs.length) (.sames ((xs.drop lo).take n) k)
  | _ => .fail
 | .bsl r pre i c sz ag n => .cells r pre i c (n*sz) fun _ cs => .test (zCn ag sz n cs) (.test (cs.all (fun q=>q.plain0)) (.sames (zCm ag sz n cs) k))
 | _ => .fail
theorem zKI {p:PV} {k:List PV→PX}:(zLq p k).toPM=zHO p fun l=>(k l).toPM:=by
 cases p<;>simp only [zLq,zHO,PX.toPM,zDk]
 congr 1;funext q
 cases q<;>rfl
section
variable (P:Program) (H:zBf)
def zFn:List Nat→List PV→(List (Bool×PV)→PX)→PX
 | _,[],k=>k []
 | ms,p::ps,k =>
  match ms.headD 0,p with
  | 2,.bor r pre _ 0 n => .deep r pre fun q=>match q with
   | .own sz xs => .test (Nat.ble n xs.length) (.wnode r pre .bad (.same (.own sz ((xs.drop 0).take n)) fun o=>zFn ms.tail ps fun as=>k ((true,o)::as)))
   | _ => .fail
  | _,p=>zFn ms.tail ps fun as=>k ((false,p)::as)
def zDw:List Nat→List (Bool×PV)→(List Arg→PX)→PX
 | _,[],k=>k []
 | ms,(true,p)::ps,k=>zDw ms.tail ps fun as=>k ({p:=p}::as)
 | ms,(false,p)::ps,k =>
  bif Nat.beq (ms.headD 0) 1 then zDw ms.tail ps fun as=>k ({p:=p,byref:=true}::as)
  else zUf p fun q l=>zDw ms.tail ps fun as=>k ({p:=q,shared:=l}::as)
def zFg:List Nat→List (Bool×PV)→(List Arg→PX)→PX
 | _,[],k=>k []
 | ms,(true,p)::ps,k=>zFg ms.tail ps fun as=>k ({p:=p}::as)
 | ms,(false,p)::ps,k =>
  bif Nat.beq (ms.headD 0) 1 then zFg ms.tail ps fun as=>k ({p:=p,byref:=true}::as)
  else zPQ zAb zDy p fun q=>zFg ms.tail ps fun as=>k ({p:=q}::as)
def zQn:List Nat→(List PV→PX)→PX
 | [],k=>k []
 | r::rs,k => .get r fun p=>zQn rs fun ps=>k (p::ps)
def zTK:List Nat→List PV→List PV→PX→PX
 | r::rs,o::os,p::ps,k => .test (zGe o p) (.same p fun p => .wnode r [] p (zTK rs os ps k))
 | [],[],[],k=>k
 | _,_,_,_ => .fail
def zOK:Nat→List Nat→(List Nat→PX)→PX
 | 0,R,k=>k R
 | n+1,R,k=>zQn R fun ts=>let R':=(R++ts.flatMap zN1).eraseDups;bif Nat.beq R'.length R.length then k R else zOK n R' k
def zHk:List Nat→PX→PX
 | [],k=>k
 | r::rs,k => .killEx r [] (zHk rs k)
def zMN:List Bool→PX→PX→PX
 | [a,b,c],x,y => .choose a x (.choose b (.choose c x y) y)
 | _,_,y=>y
theorem zMk {a b c:Bool} {x y:PX}:(zMN [a,b,c] x y).toPM=bif a||b&&c then x.toPM else y.toPM:=by
 cases a<;>cases b<;>cases c<;>rfl
def zOY (d:Option Nat) (f:FuncId) (as:List Arg) (again:PX):PX :=
 .nats (zOn as) fun R0=>zOK 3 R0 fun R =>
 bif zHb R&&R.all (fun r=>Nat.blt r zAb)&&Nat.ble R.length 1000&&Nat.ble as.length 1000&&(as.flatMap (·.shared)).all (fun x => !R.contains x.1) then
  zQn R fun hid => .sames (as.map fun a=>if a.byref then zGu (zDr R) a.p else a.p) fun args => .call f args (hid.map (zGu (zDr R))) fun v hX =>
   zMN [(as.flatMap (·.shared)).isEmpty,v.free,zFx hX]
    (zHk R<|zTK R hid (hX.map (zGu (zCe R))) (zE1 d (zGu (zCe R) v)))
    again
 else .fail
def zQ3 (d:Option Nat) (f:FuncId) (args:List PV):PX :=
 .nats (H f).mode fun ms=>zFn ms args fun bs=>zDw ms bs fun as=>zOY d f as (zFg ms bs fun as=>zOY d f as .fail)
theorem zFA:∀ {ps:List PV} {ms:List Nat} {k:List (Bool×PV)→PX},(zFn ms ps k).toPM=zD3 ms ps fun as=>(k as).toPM
 | [],_,_=>rfl
 | p :: ps,ms,k=>by
  unfold zFn zD3
  generalize ms.headD 0=m
  split
  ·simp only [PX.toPM]
   congr 1;funext q
   cases q<;>first | rfl | skip
   simp only [PX.toPM,zFA]
  ·simp only [zFA]
theorem zE7:∀ {ps:List (Bool×PV)} {ms:List Nat} {k:List Arg→PX},(zDw ms ps k).toPM=zCs ms ps fun as=>(k as).toPM
 | [],_,_=>rfl
 | (true,p)::ps,ms,k=>by simp only [zDw,zCs,zE7]
 | (false,p)::ps,ms,k=>by simp only [zDw,zCs,zDc,zRn,zE7]
theorem zGp:∀ {ps:List (Bool×PV)} {ms:List Nat} {k:List Arg→PX},(zFg ms ps k).toPM=zEc ms ps fun as=>(k as).toPM
 | [],_,_=>rfl
 | (true,p)::ps,ms,k=>by simp only [zFg,zEc,zGp]
 | (false,p)::ps,ms,k=>by simp only [zFg,zEc,zDc,zFy,zGp]
theorem zLx:∀ {rs:List Nat} {k:List PV→PX},(zQn rs k).toPM=zNe rs fun ps=>(k ps).toPM
 | [],_=>rfl
 | r::rs,k=>by simp only [zQn,zNe,PX.toPM,zLx]
theorem zOl:∀ {rs:List Nat} {os ps:List PV} {k:PX},(zTK rs os ps k).toPM=zNM rs os ps k.toPM
 | [],[],[],_=>rfl
 | r::rs,o::os,p::ps,k=>by simp only [zTK,zNM,PX.toPM,zOl]
 | [],[],_::_,_=>rfl
 | [],_::_,_,_=>rfl
 | _::_,[],_,_=>rfl
 | _::_,_::_,[],_=>rfl
theorem zMz:∀ {n:Nat} {R:List Nat} {k:List Nat→PX},(zOK n R k).toPM=zJ9 n R fun R=>(k R).toPM
 | 0,_,_=>rfl
 | n+1,R,k=>by simp only [zOK,zJ9,zLx,zDc,zMz]
theorem zHU:∀ {rs:List Nat} {k:PX},(zHk rs k).toPM=zKh rs k.toPM
 | [],_=>rfl
 | r::rs,k=>by simp only [zHk,zKh,PX.toPM,zHU]
theorem zRj {d:Option Nat} {f:FuncId} {as:List Arg} {again:PX}:(zOY d f as again).toPM=zQC d f as again.toPM:=by
 simp only [zOY,zQC,zMz,zDc,zLx,PX.toPM,zMk,zHU,zOl,zEI]
theorem zRY {d:Option Nat} {f:FuncId} {args:List PV}:(zQ3 H d f args).toPM=zNg H d f args:=by
 simp only [zQ3,zNg,zFA,zE7,zRj,zGp,PX.toPM]
def zQf (d:Option Nat) (args:List Operand) (g:PV):PX :=
 match g with
 | .func g first caps=>zPF args fun as => .pure d g (first++as++caps) (zQ3 H d g (first++as++caps))
 | _ => .fail
theorem zSi {d:Option Nat} {args:List Operand} {g:PV}:(zQf H d args g).toPM=zTr H d args g:=by
 cases g<;>first | rfl | skip
 simp only [zQf,zTr,zIa,PX.toPM,zRY]
def zND (d:Option Nat) (sz:Nat) (base:PV) (ys:List PV):PX :=
 .test (ys.all (fun y=>Nat.beq y.cells.length sz&&y.cells.all fun q=>q.oneCell)) (.test (zBv ys).isEmpty (
 match base with
 | .bor r pre z lo n => .deep r pre fun q=>match q with
  | .own s xs =>
   .test (Nat.beq s sz) (.test (Nat.ble (lo+n) xs.length) (.test (Nat.ble (xs.length+ys.length) zAY) (
    .choose (Nat.beq (lo+n) xs.length) (.test (Nat.beq lo 0) (.wnode r pre .bad (zGb d (.own sz (xs++ys))))) (.emb (zLr d r pre z lo n s xs ys)))))
  | _ => .fail
 | .nils _ => .test (Nat.ble ys.length zAY) (zGb d (.own sz ys))
 | _ => .fail))
theorem zP2 {d:Option Nat} {sz:Nat} {base:PV} {ys:List PV}:(zND d sz base ys).toPM=zKY d sz base ys:=by
 cases base<;>simp only [zND,zKY,PX.toPM,zDk,zBu]
 congr 1;congr 1;congr 1;funext q
 cases q<;>first | rfl | skip
 simp only [PX.toPM,zBu]
def zVa (x:Operand) (k:List PV→PX):PX :=
 match x with
 | .tmp t => .get t fun p=>match p with
  | .own _ xs => .set t .bad (k xs)
  | _ => .view t fun p=>zLq p fun xs => .test (xs.all (fun x=>x.plain)) (k xs)
 | x=>zGG x fun p=>zLq p fun xs => .test (xs.all (fun x=>x.plain)) (k xs)
theorem zTY {x:Operand} {k:List PV→PX}:(zVa x k).toPM=zN2 x fun l=>(k l).toPM:=by
 cases x<;>simp only [zVa,zN2,PX.toPM,zCc,zKI,zBs]
 congr 1;funext p
 cases p<;>first | rfl | simp only [PX.toPM,zKI,zBs]
def zLC (d:Option Nat) (b:Builtin) (ts:List TypeId) (args:List Operand):PX :=
 match b,args,ts with
 | .len,[x],t::_=>zGG x fun p=>match P.underlying t with
  | some (.array n _)=>zGb d (.int .i64 n)
  | some (.slice _) => .num (lenOf p) fun n=>zGb d (.int .i64 n)
  | _ => .fail
 | .append,[x,y],[t,t2]=>bif (zBU P t2).isNone then .fail else match (zBU P t).bind (szT P),(zBU P t).bind (zHJ P),(zBU P t).bind (zCJ P) with
  | some sz,some by_,some z=>if by_≤16384∧z.cells.length=sz then zGG x fun base=>zVa y fun ys=>zND d sz base ys else .fail
  | _,_,_ => .fail
 | .max,xs,_=>zPF xs fun ps => .pick (zWI ps) fun v=>zGb d v
 | .min,xs,_=>zPF xs fun ps => .pick (zWi ps) fun v=>zGb d v
 | b,args,ts => .emb (zBt P d b ts args)
theorem zNy {d:Option Nat} {b:Builtin} {ts:List TypeId} {args:List Operand}:(zLC P d b ts args).toPM=zBt P d b ts args:=by
 unfold zLC
 split
 ·simp only [zCc,zBt]
  congr 1;funext p
  generalize P.underlying _=u
  cases u with
  | none=>rfl
  | some u =>
   cases u<;>first | rfl | exact zBu | skip
   simp only [PX.toPM,zBu]
   cases lenOf p<;>simp only [PX.toPM,zBu]
 ·simp only [zBt,zDc]
  congr 1
  generalize (zBU P _).bind (szT P)=a1
  generalize (zBU P _).bind (zHJ P)=a2
  generalize (zBU P _).bind (zCJ P)=a3
  cases a1<;>cases a2<;>cases a3<;>first | rfl | simp only [zOy,zCc,zTY,zP2,PX.toPM]
 ·simp only [zBt,zIa,PX.toPM,zBu]
  congr 1;funext ps
  cases zWI ps<;>simp only [PX.toPM,zBu]
 ·simp only [zBt,zIa,PX.toPM,zBu]
  congr 1;funext ps
  cases zWi ps<;>simp only [PX.toPM,zBu]
 ·rfl
end
end Go.Eng
namespace Go.Eng
open Go
section
variable (P:Program) (H:zBf)
def zVL {α:Type} (x:Option α) (k:α→PX):PX :=
 match x with
 | some a=>k a
 | none => .fail
theorem zJD {α:Type} {x:Option α} {k:α→PX}:(zVL x k).toPM=zIG x fun a=>(k a).toPM:=by cases x<;>rfl
theorem zI9 {x:Option PV} {k:PV→PX}:(PX.pick x k).toPM=zIG x fun a=>(k a).toPM:=by cases x<;>rfl
def zN9 (p:PV) (k:PV→PX) (k2:PX):PX :=
 match p with
 | .bor r pre _ lo n => .deep r pre fun q=>match q with
  | .own sz xs => .choose (Nat.beq lo 0&&Nat.beq n xs.length) (.wnode r pre .bad (k (.own sz xs))) k2
  | _=>k2
 | .bmap r pre => .deep r pre fun q=>match q with
  | .omap es => .wnode r pre .bad (k (.omap es))
  | _=>k2
 | p=>k p
theorem zMI {p:PV} {k:PV→PX} {k2:PX}:(zN9 p k k2).toPM=zNp p (fun q=>(k q).toPM) k2.toPM:=by
 cases p<;>simp only [zN9,zNp,PX.toPM]
 all_goals
  congr 1;funext q
  cases q<;>rfl
def zSQ (p:PV) (k:PV→PX):PX:=zN9 p k (zPQ zAb zDy p k)
theorem zO9 {p:PV} {k:PV→PX}:(zSQ p k).toPM=zMV p fun q=>(k q).toPM:=by simp only [zSQ,zMV,zMI,zFy]
def zOS:List PV→(List PV→PX)→PX
 | [],k=>k []
 | p::ps,k=>zN9 p (fun q=>zOS ps fun qs=>k (q::qs)) .fail
theorem zMP:∀ {ps:List PV} {k:List PV→PX},(zOS ps k).toPM=zI2 ps fun qs=>(k qs).toPM
 | [],_=>rfl
 | p::ps,k=>by simp only [zOS,zI2,zMI,zMP,PX.toPM]
def zRs:PV→Bool
 | .bor .. | .bmap .. | .bsl .. => true
 | _=>false
def zJA (tk:Bool) (p:PV) (k:PV→PX):PX :=
 match p with
 | .agg cs=>bif tk then zOS cs fun cs=>k (.agg cs) else .choose (cs.any zRs) (zPQ zAb zDy p k) (k p)
 | .bsl .. => zPQ zAb zDy p k
 | .bor .. | .bmap .. => bif tk then zSQ p k else zPQ zAb zDy p k
 | p=>k p
theorem zHE {tk:Bool} {p:PV} {k:PV→PX}:(zJA tk p k).toPM=zFR tk p fun q=>(k q).toPM:=by
 cases p<;>simp only [zJA,zFR,zDc,zMP,zO9,zFy,PX.toPM]
 rfl
def zIb (tk:Bool):List PV→(List PV→PX)→PX
 | [],k=>k []
 | p::ps,k=>zJA tk p fun q=>zIb tk ps fun qs=>k (q::qs)
theorem zJK {tk:Bool}:∀ {ps:List PV} {k:List PV→PX},(zIb tk ps k).toPM=zFZ tk ps fun qs=>(k qs).toPM
 | [],_=>rfl
 | p::ps,k=>by simp only [zIb,zFZ,zHE,zJK]
def zOt (r:Nat) (pre:zAR) (i c:Nat) (v:PV):PX :=
 .test (!v.heavy||v.ways.all (fun w => !(zAJ r pre w.1 w.2&&Nat.blt pre.length w.2.length))) (.test (v.cells.all (fun q=>q.oneCell)) (.test (!v.cells.isEmpty) (zQq r pre i c v.cells (.wcells r pre i c v.cells .ok))))
theorem zMQ {r:Nat} {pre:zAR} {i c:Nat} {v:PV}:(zOt r pre i c v).toPM=zHN r pre i c v:=by
 simp only [zOt,zHN,PX.toPM,zQ5,zDk]
def zJT (tk:Bool) (r:Nat) (pre:zAR) (v:PV) (k:PV→PX):PX :=
 bif pre.isEmpty && !tk then .view r fun q=>(match q with | .addr .. => k v | _=>zJA tk v k) else zJA tk v k
theorem zMK {tk:Bool} {r:Nat} {pre:zAR} {v:PV} {k:PV→PX}:(zJT tk r pre v k).toPM=zIq tk r pre v fun q=>(k q).toPM:=by
 simp only [zJT,zIq,zDc,PX.toPM,zHE]
 congr 1;congr 1;funext q
 cases q<;>first | rfl | exact zHE
def zJy (tk:Bool) (r:Nat) (pre:zAR) (i c:Nat) (v:PV):PX :=
 match zRT r pre i c v with
 | some m => .deep r (pre++[(i,c)]) fun q=>match q with
  | .own s xs => .test (Nat.ble m xs.length) (.wnode r (pre++[(i,c)]) .bad (.same (.own s ((xs.drop 0).take m)) fun v=>zOt r pre i c v))
  | _ => .fail
 | none=>zJT tk r pre v fun v => .same v fun v=>zOt r pre i c v
theorem zKe {tk:Bool} {r:Nat} {pre:zAR} {i c:Nat} {v:PV}:(zJy tk r pre i c v).toPM=zHV tk r pre i c v:=by
 simp only [zJy,zHV]
 cases zRT r pre i c v with
 | none=>simp only [zMK,PX.toPM,zMQ]
 | some m =>
  simp only [PX.toPM]
  congr 1;funext q
  cases q<;>first | rfl | simp only [PX.toPM,zMQ]
def zRv (fz tk:Bool) (t:TypeId) (a x:Operand):PX :=
 zGG a fun pa=>match pa,x with
 | .addr r pre i c _,.const (.slice none 0 0)=>zVL ((zBU P t).bind (szT P)) fun s=>if szT P t=some 1 then zJy tk r pre i c (.own s []) else .fail
 | pa,x=>match pa,shT P t,szT P t with
 | .addr r pre i c _,some sh,some n=>(bif fz&&tk then zGG x else zK1 x) fun v =>
  .test (Nat.beq v.cells.length n) (.test (v.isAgg==sh.isSome) (zJy (tk && !fz) r pre i c (bif fz && !tk then zAS v else v)))
 | _,_,_ => .fail
theorem zQO {fz tk:Bool} {t:TypeId} {a x:Operand}:(zRv P fz tk t a x).toPM=zOo P fz tk t a x:=by
 simp only [zRv,zOo,zCc]
 congr 1;funext pa
 have key:∀ (sh:Option (Option Nat)) (n:Option Nat),(match pa,sh,n with
   | .addr r pre i c _,some sh,some n=>(bif fz&&tk then zGG x else zK1 x) fun v=>PX.test (Nat.beq v.cells.length n) (.test (v.isAgg==sh.isSome) (zJy (tk && !fz) r pre i c (bif fz && !tk then zAS v else v)))
   | _,_,_=>PX.fail).toPM=(match pa,sh,n with
   | .addr r pre i c _,some sh,some n=>(bif fz&&tk then opd x else zPa x) fun v=>bif Nat.beq v.cells.length n&&v.isAgg==sh.isSome then zHV (tk && !fz) r pre i c (bif fz && !tk then zAS v else v) else .fail
   | _,_,_=>PM.fail):=by
  intro sh n
  cases pa<;>first | rfl | skip
  cases sh<;>cases n<;>first | rfl | skip
  cases hc:(fz&&tk)<;>simp only [cond_true,cond_false,zCc,zF4,PX.toPM,zKe,zDk]
 split
 ·simp only [zJD,zOy,zKe,PX.toPM]
 ·rename_i h
  rw [key]
  cases pa<;>first | rfl | skip
  cases x<;>first | rfl | skip
  rename_i v
  cases v<;>first | rfl | skip
  rename_i a n m
  cases a<;>cases n<;>cases m<;>first | rfl | exact (h _ _ _ _ _ rfl rfl).elim
def zIg (d:Option Nat) (p:PV):PX :=
 match d,p with
 | some d',.bor r [] z lo n=>if r=d' then .get r fun root=>match root with
   | .own sz xs => .test (Nat.ble (lo+n) xs.length) (.kill r [] (.same (.own sz ((xs.drop lo).take n)) fun o => .set r o .ok))
   | _ => .fail
  else zGb d p
 | _,_=>zGb d p
theorem zM8 {d:Option Nat} {p:PV}:(zIg d p).toPM=zFI d p:=by
 unfold zIg zFI
 split
 ·simp only [zOy,zBu,PX.toPM]
  congr 1;congr 1;funext q
  cases q<;>rfl
 ·rename_i h
  split
  ·exact (h _ _ _ _ _ rfl rfl).elim
  ·exact zBu
def zJb (tk nl:Bool) (d:Option Nat) (t:TypeId) (x:Operand):PX :=
 match x with
 | .const (.slice none 0 0) => .emb (zGa P tk nl d t x)
 | x=>zK1 x fun p=>bif tk then zSQ p (zIg d) else zIg d p
theorem zMf {tk nl:Bool} {d:Option Nat} {t:TypeId} {x:Operand}:(zJb P tk nl d t x).toPM=zGa P tk nl d t x:=by
 unfold zJb
 split
 ·rfl
 ·rename_i h
  unfold zGa
  split
  ·exact (h rfl).elim
  ·simp only [zF4,zDc,zO9,zM8]
def zQU (d:Option Nat) (t:TypeId) (x:Operand):PX:=zK1 x fun p=>match shT P t,szT P t with
 | some sh,some n => .test (decide (p.cells.length=n)) (.test (decide (p.isAgg=sh.isSome)) (.test p.whole (zGb d (.box p))))
 | _,_ => .fail
theorem zQu {d:Option Nat} {t:TypeId} {x:Operand}:(zQU P d t x).toPM=zTt P d t x:=by
 simp only [zQU,zTt,zF4]
 congr 1;funext p
 cases shT P t<;>cases szT P t<;>first | rfl | skip
 simp only [PX.toPM,zBu,zBs,Bool.and_eq_true,decide_eq_true_eq]
 split<;>split<;>(try split)<;>simp_all
def zU4 (nz:Option Nat) (x:Operand) (k:PV→PX):PX :=
 match nz,x with
 | some s,.const (.slice none 0 0)=>k (.own s [])
 | _,x=>zK1 x k
def zOJ (nz:Option Nat):List Operand→(List PV→PX)→PX
 | [],k=>k []
 | x::xs,k=>zU4 nz x fun p=>zOJ nz xs fun ps=>k (p::ps)
theorem zSK {nz:Option Nat} {x:Operand} {k:PV→PX}:(zU4 nz x k).toPM=zWB nz x fun p=>(k p).toPM:=by
 unfold zU4 zWB
 split
 ·rfl
 ·rename_i h
  rw [zF4]
  split
  ·exact (h _ rfl rfl).elim
  ·rfl
theorem zL6 {nz:Option Nat}:∀ {xs:List Operand} {k:List PV→PX},(zOJ nz xs k).toPM=zPe nz xs fun p=>(k p).toPM
 | [],_=>rfl
 | x::xs,k=>by simp only [zOJ,zPe,zSK,zL6]
def zE0 (tk:Bool) (d:Option Nat) (t:TypeId) (n:Nat) (ps:List (Nat×Operand)):PX :=
 match zBU P t with
 | some e=>match szT P e,zCJ P e with
  | some s,some z=>if n*s≤65536&&Nat.beq z.cells.length s&&ps.all (fun x=>x.1<n) then zOJ (zWA (zCJ P e)) (ps.map (·.2)) fun vs=>zIb tk vs fun vs =>
    .sames vs fun vs => .test (zBv vs).isEmpty (.test (vs.all (fun v=>v.cells.length=s&&v.isAgg=z.isAgg&&v.whole)) (zGb d (.own s (zMu n z ((ps.map (·.1)).zip vs)))))
   else .fail
  | _,_ => .fail
 | none => .fail
theorem zH7 {tk:Bool} {d:Option Nat} {t:TypeId} {n:Nat} {ps:List (Nat×Operand)}:(zE0 P tk d t n ps).toPM=zDN P tk d t n ps:=by
 simp only [zE0,zDN]
 cases zBU P t with
 | none=>rfl
 | some e =>
  simp only
  generalize szT P e=a1
  generalize zCJ P e=a2
  cases a1<;>cases a2<;>first | rfl | skip
  simp only [zOy,zL6,zJK,PX.toPM,zBu]
  congr 1;congr 1;funext vs;congr 1;funext vs
  cases (zBv vs).isEmpty with
  | false=>rfl
  | true=>simp only [cond_true,Bool.true_and,zBs,if_true]
def zPc (d:Option Nat) (sh:Option Nat) (p:PV):PX :=
 match p with
 | .ref q => .test (decide (q.isAgg=sh.isSome)) (.test (decide (q.cells.length=sh.getD 1)) (zGb d q))
 | .addr r pre i c _=>zQQ r pre i c sh (zGb d)
 | _ => .fail
theorem zL5 {d:Option Nat} {sh:Option Nat} {p:PV}:(zPc d sh p).toPM=zPA d sh p:=by
 cases p<;>simp only [zPc,zPA,PX.toPM,zK3,zBu]
 simp only [zBs,Bool.and_eq_true,decide_eq_true_eq]
 split<;>split<;>simp_all
def zNr (tk:Bool) (d:Option Nat) (t:TypeId) (a:Operand):PX:=zVL (shT P t) fun sh=>zGG a fun p =>
 bif tk then (match p with
  | .addr r pre i c _=>zQQ r pre i c sh fun v=>zPQ zAb zDy v (zGb d)
  | p=>zPc d sh p) else zPc d sh p
theorem zPl {tk:Bool} {d:Option Nat} {t:TypeId} {a:Operand}:(zNr P tk d t a).toPM=zOq P tk d t a:=by
 simp only [zNr,zOq,zJD,zCc,zDc,zL5]
 congr 1;funext sh;congr 1;funext p;congr 1
 cases p<;>simp only [zL5,zK3,zFy,zBu]
def zQF (d:Option Nat) (op:BinOp) (t:TypeId) (x y:Operand):PX:=zGG x fun p=>zGG y fun q => .pick (zH4 P op t p q) (zGb d)
theorem zRx {d:Option Nat} {op:BinOp} {t:TypeId} {x y:Operand}:(zQF P d op t x y).toPM=zTX P d op t x y:=by
 simp only [zQF,zTX,zCc,zI9,zBu]
def zXZ (d:Option Nat) (op:UnOp) (p:PV):PX :=
 match op,p with
 | .not,.bool b=>zGb d (.bool !b)
 | .neg,.int k n=>zGb d (.int k (k.wrap (0-n)))
 | _,_ => .fail
theorem zUF {d:Option Nat} {op:UnOp} {p:PV}:(zXZ d op p).toPM=unV d op p:=by
 cases op<;>cases p<;>first | rfl | exact zBu
def zR7 (d:Option Nat) (t:TypeId) (p:PV):PX :=
 match P.underlying t,p with
 | some (.int k),.int _ n=>zGb d (.int k (k.wrap n))
 | _,_ => .fail
theorem zRE {d:Option Nat} {t:TypeId} {p:PV}:(zR7 P d t p).toPM=zQz P d t p:=by
 simp only [zR7,zQz]
 cases P.underlying t with
 | none=>rfl
 | some u=>cases u<;>cases p<;>first | rfl | exact zBu
def zFJ (d:Option Nat) (t:TypeId) (l c:Operand):PX :=
 zGG l fun l=>zFQ l fun l=>zGG c fun c=>zFQ c fun c=>match zBU P t with
 | some e=>match zCJ P e,szT P e,zHJ P e with
  | some z,some s,some b => .test (decide (l≤c)) (.test (decide (c≤zAY)) (.test (decide (b≤16384∧z.cells.length=s)) (zGb d (.own s (List.replicate l z)))))
  | _,_,_ => .fail
 | none => .fail
theorem zJk {d:Option Nat} {t:TypeId} {l c:Operand}:(zFJ P d t l c).toPM=zE6 P d t l c:=by
 simp only [zFJ,zE6,zCc,zEQ]
 congr 1;funext p;congr 1;funext l;congr 1;funext q;congr 1;funext c
 cases zBU P t with
 | none=>rfl
 | some e =>
  simp only
  generalize zCJ P e=a1
  generalize szT P e=a2
  generalize zHJ P e=a3
  cases a1<;>cases a2<;>cases a3<;>first | rfl | skip
  simp only [PX.toPM,zBu,zBs,decide_eq_true_eq]
  by_cases h1:l≤c<;>by_cases h2:c≤zAY<;>simp [h1,h2]
def zNO (d:Option Nat) (n:Nat) (e:TypeId) (p:PV) (i:Nat):PX :=
 match szT P e,shT P e with
 | some s,some sh => .test (decide (i<n)) (.pick (zCl p (i*s) sh) (zGb d))
 | _,_ => .fail
def zP7 (d:Option Nat) (e:TypeId) (p:PV) (i:Nat):PX :=
 match p with
 | .sl xs => .pick (xs[i]?) fun x => .test (decide (szT P e=some x.cells.length)) (zGb d (.ref x))
 | .bor r pre z lo n=>match shT P e with
  | some sh => .test (decide (i<n)) (.test (decide (szT P e=some z)) (.num (some (lo+i)) fun j=>zGb d (.addr r pre j 0 sh)))
  | none => .fail
 | .bsl r pre j c s ag n => .test (decide (i<n)) (.test (decide (szT P e=some s)) (.num (some (c+i*s)) fun c=>zGb d (.addr r pre j c (if ag then some s else none))))
 | _ => .fail
theorem zPk {d:Option Nat} {n:Nat} {e:TypeId} {p:PV} {i:Nat}:(zNO P d n e p i).toPM=zOb P d n e p i:=by
 simp only [zNO,zOb]
 generalize szT P e=a1
 generalize shT P e=a2
 cases a1<;>cases a2<;>first | rfl | skip
 simp only [PX.toPM,zI9,zBu,zBs,decide_eq_true_eq]
theorem zRg {d:Option Nat} {e:TypeId} {p:PV} {i:Nat}:(zP7 P d e p i).toPM=zQr P d e p i:=by
 cases p<;>simp only [zP7,zQr,PX.toPM,zI9,zBu]
 ·congr 1;funext x;simp only [zBs,decide_eq_true_eq]
 ·cases shT P e with
  | none=>rfl
  | some sh =>
   simp only [PX.toPM,zBu,zBs,decide_eq_true_eq]
   split<;>split<;>simp_all
 ·simp only [zBs,decide_eq_true_eq]
  split<;>split<;>simp_all
def zFv (d:Option Nat) (t:TypeId) (x i:Operand):PX :=
 zGG x fun p=>zGG i fun i=>zFQ i fun i=>match P.underlying t with
 | some (.array n e)=>zNO P d n e p i
 | some (.slice e)=>zP7 P d e p i
 | _ => .fail
theorem zJf {d:Option Nat} {t:TypeId} {x i:Operand}:(zFv P d t x i).toPM=zEV P d t x i:=by
 simp only [zFv,zEV,zCc,zEQ]
 congr 1;funext p;congr 1;funext q;congr 1;funext i
 cases P.underlying t with
 | none=>rfl
 | some u=>cases u<;>first | rfl | exact zPk P | exact zRg P
def zKV (d:Option Nat) (t:TypeId) (x i:Operand):PX :=
 zGG x fun p=>zGG i fun i=>zFQ i fun i=>match P.underlying t with
 | some (.array n e)=>match szT P e,shT P e with
  | some s,some sh => .test (decide (i<n)) (.pick (sub p (i*s) sh) (zGb d))
  | _,_ => .fail
 | _ => .fail
theorem zNs {d:Option Nat} {t:TypeId} {x i:Operand}:(zKV P d t x i).toPM=zKS P d t x i:=by
 simp only [zKV,zKS,zCc,zEQ]
 congr 1;funext p;congr 1;funext q;congr 1;funext i
 cases P.underlying t with
 | none=>rfl
 | some u =>
  cases u<;>first | rfl | skip
  rename_i n e
  simp only
  generalize szT P e=a1
  generalize shT P e=a2
  cases a1<;>cases a2<;>first | rfl | skip
  simp only [PX.toPM,zI9,zBu,zBs,decide_eq_true_eq]
def zVQ (x:Option Operand) (n:Nat) (k:Nat→PX):PX :=
 match x with
 | some x=>zGG x fun p=>zFQ p k
 | none=>k n
theorem zRC {x:Option Operand} {n:Nat} {k:Nat→PX}:(zVQ x n k).toPM=zSw x n fun m=>(k m).toPM:=by
 cases x with
 | none=>rfl
 | some x=>simp only [zVQ,zSw,zCc,zEQ]
def zNo (d:Option Nat) (s:Nat) (p:PV) (l h:Nat):PX :=
 match p with
 | .sl xs => .test (Nat.ble l h) (.test (Nat.ble h xs.length) (.test (xs.all (fun x=>Nat.beq x.cells.length s)) (zGb d (.sl ((xs.drop l).take (h-l))))))
 | .bor r pre z a n =>
  .test (Nat.beq z s) (.test (Nat.ble l h) (
   .choose (Nat.ble h n) (.choose (Nat.beq l 0||Nat.blt l h) (zGb d (.bor r pre z (a+l) (h-l))) (zGb d (.sl [])))
   (.deep r pre fun q=>match q with
    | .own _ xs => .test (Nat.ble (a+h) xs.length) (.choose (Nat.beq l 0||Nat.blt l h) (zGb d (.bor r pre z (a+l) (h-l))) (zGb d (.sl [])))
    | _ => .fail)))
 | _ => .fail
theorem zTp {d:Option Nat} {b:Bool} {p q:PV}:put d (bif b then p else q)=bif b then put d p else put d q:=by cases b<;>rfl
theorem zPr {d:Option Nat} {s:Nat} {p:PV} {l h:Nat}:(zNo d s p l h).toPM=zOA d s p l h:=by
 cases p<;>simp only [zNo,zOA,PX.toPM,zBu,zDk,zTp]
 congr 1;congr 1;congr 1;congr 1;funext q
 cases q<;>first | rfl | simp only [PX.toPM,zBu]
def zNB (d:Option Nat) (n s:Nat) (sh:Option Nat) (p:PV) (l h:Nat):PX :=
 .test (Nat.ble l h) (.test (Nat.ble h n) (.test (Nat.beq l 0||Nat.blt l n) (
  match p with
  | .addr r pre i c _ => .num (some (h-l)) fun m=>zGb d (.bsl r pre i (c+l*s) s sh.isSome m)
  | .ref (.agg cs) => .test (Nat.ble (n*s) cs.length) (.test (zCn sh.isSome s (h-l) ((cs.drop (l*s)).take ((h-l)*s))) (.test (zBv cs).isEmpty (zGb d (.sl (zCm sh.isSome s (h-l) ((cs.drop (l*s)).take ((h-l)*s)))))))
  | _ => .fail)))
theorem zPq {d:Option Nat} {n s:Nat} {sh:Option Nat} {p:PV} {l h:Nat}:(zNB d n s sh p l h).toPM=zRr d n s sh p l h:=by
 cases p<;>simp only [zNB,zRr,PX.toPM,zBu,zDk]
 rename_i q
 cases q<;>simp only [PX.toPM,zBu,zDk]
def zRa (d:Option Nat) (t:TypeId) (x:Operand) (lo hi mx:Option Operand):PX :=
 match mx with
 | some m => .emb (zJN P d t x lo hi (some m))
 | none=>zGG x fun p=>match P.underlying t with
  | some (.array n e)=>match szT P e,shT P e with
   | some s,some sh=>zVQ hi n fun h=>zVQ lo 0 fun l=>zNB d n s sh p l h
   | _,_ => .fail
  | some (.slice e)=>match szT P e,lenOf p with
   | some s,some n=>zVQ hi n fun h=>zVQ lo 0 fun l=>zNo d s p l h
   | _,_ => .fail
  | _ => .fail
theorem zQJ {d:Option Nat} {t:TypeId} {x:Operand} {lo hi mx:Option Operand}:(zRa P d t x lo hi mx).toPM=zJN P d t x lo hi mx:=by
 cases mx with
 | some _=>rfl
 | none =>
  simp only [zRa,zJN,zCc]
  congr 1;funext p
  cases P.underlying t with
  | none=>rfl
  | some u =>
   cases u<;>first | rfl | skip
   ·rename_i e
    simp only
    generalize szT P e=a1
    generalize lenOf p=a2
    cases a1<;>cases a2<;>first | rfl | simp only [zRC,zPr]
   ·rename_i n e
    simp only
    generalize szT P e=a1
    generalize shT P e=a2
    cases a1<;>cases a2<;>first | rfl | simp only [zRC,zPq]
def zIL (es:List (PV×PV)) (i:Nat):Option PV:=(es[i]?).map (·.2)
def zJc (d:Option Nat) (kt:TypeId) (z key:PV) (ok:Bool) (es:List (PV×PV)):PX :=
 .idx (zDb P kt key es 0) fun x=>match x with
 | some i => .pick (zIL es i) fun v => .test v.lone (zE1 d (if ok then .tup [v,.bool true] else v))
 | none=>zE1 d (if ok then .tup [z,.bool false] else z)
theorem zKE {d:Option Nat} {kt:TypeId} {z key:PV} {ok:Bool} {es:List (PV×PV)}:(zJc P d kt z key ok es).toPM=zII P d kt z key ok es:=by
 simp only [zJc,zII,PX.toPM]
 cases zDb P kt key es 0 with
 | none=>rfl
 | some x =>
  cases x with
  | none=>exact zEI
  | some i =>
   show (PX.pick (zIL es i) fun v => .test v.lone (zE1 d (if ok then .tup [v,.bool true] else v))).toPM=_
   rw [zI9]
   simp only [zIL,PX.toPM,zEI]
   cases es[i]?<;>rfl
def zQH (d:Option Nat) (kt:TypeId) (z key:PV) (ok:Bool) (m:PV):PX :=
 match m with
 | .nilm=>zJc P d kt z key ok []
 | .map es=>zJc P d kt z key ok es
 | .bmap r pre => .deep r pre fun q=>match q with
  | .omap es=>zJc P d kt z key ok es
  | _ => .fail
 | _ => .fail
theorem zQ6 {d:Option Nat} {kt:TypeId} {z key:PV} {ok:Bool} {m:PV}:(zQH P d kt z key ok m).toPM=zSR P d kt z key ok m:=by
 cases m<;>first | rfl | exact zKE P | skip
 simp only [zQH,zSR,PX.toPM]
 congr 1;funext q
 cases q<;>first | rfl | exact zKE P
def zJC (d:Option Nat) (t:TypeId) (m x:Operand) (ok:Bool):PX :=
 zGG m fun m=>zGG x fun key=>match P.underlying t with
 | some (.map kt e) => .test (zOD P 20 kt key) (zVL (zCJ P e) fun z => .test (zJp z).lone (zQH P d kt (zJp z) key ok m))
 | _ => .fail
theorem zMO {d:Option Nat} {t:TypeId} {m x:Operand} {ok:Bool}:(zJC P d t m x ok).toPM=zId P d t m x ok:=by
 simp only [zJC,zId,zCc]
 congr 1;funext p;congr 1;funext q
 cases P.underlying t with
 | none=>rfl
 | some u=>cases u<;>first | rfl | simp only [PX.toPM,zJD,zQ6]
def zT3 (es:List (PV×PV)) (k:List (PV×PV)→PX):PX := .same (.omap es) fun q=>match q with
 | .omap es=>k es
 | _ => .fail
def zNR (kt:TypeId) (key v m:PV):PX :=
 match m with
 | .bmap r pre => .test v.lone (.deep r pre fun q=>match q with
  | .omap es => .idx (zDb P kt key es 0) fun x=>match x with
   | some i=>zT3 (es.modify i fun _=>(key,v)) fun es => .wnode r pre (.omap es) .ok
   | none=>zT3 (es++[(key,v)]) fun es => .wnode r pre (.omap es) .ok
  | _ => .fail)
 | _ => .fail
theorem zPT {kt:TypeId} {key v m:PV}:(zNR P kt key v m).toPM=zMx P kt key v m:=by
 cases m<;>first | rfl | skip
 simp only [zNR,zMx,PX.toPM]
 congr 1;congr 1;funext q
 cases q<;>first | rfl | skip
 rename_i es
 simp only [PX.toPM]
 cases zDb P kt key es 0 with
 | none=>rfl
 | some x=>cases x<;>rfl
def zFw (t:TypeId) (m x y:Operand):PX:=zGG m fun m=>zGG x fun key=>match P.underlying t with
 | some (.map kt _) => .test (zOD P 20 kt key&&key.flat) (zK1 y fun v=>zPQ zAb zDy v fun v=>zNR P kt key (zAS v) m)
 | _ => .fail
theorem zJi {t:TypeId} {m x y:Operand}:(zFw P t m x y).toPM=zFe P t m x y:=by
 simp only [zFw,zFe,zCc]
 congr 1;funext p;congr 1;funext q
 cases P.underlying t with
 | none=>rfl
 | some u=>cases u<;>first | rfl | simp only [PX.toPM,zF4,zFy,zPT]
def zT9 (es:List (PV×PV)) (i:Nat):Option PV:=(es[i]?).map (·.1)
def zNT (d:Option Nat) (kt:TypeId) (z key m:PV):PX :=
 match m with
 | .bmap r pre => .deep r pre fun q=>match q with
  | .omap es => .idx (zDb P kt key es 0) fun x=>match x with
   | some i => .pick (zIL es i) fun v => .test v.lone (.wnode r pre (.omap (es.modify i fun _=>(key,v))) (zE1 d (.tup [v,.int .i64 i])))
   | none => .wnode r pre (.omap (es++[(key,z)])) (zE1 d (.tup [z,.int .i64 es.length]))
  | _ => .fail
 | _ => .fail
theorem zPt {d:Option Nat} {kt:TypeId} {z key m:PV}:(zNT P d kt z key m).toPM=zO2 P d kt z key m:=by
 cases m<;>first | rfl | skip
 simp only [zNT,zO2,PX.toPM]
 congr 1;funext q
 cases q<;>first | rfl | skip
 rename_i es
 simp only [PX.toPM]
 cases zDb P kt key es 0 with
 | none=>rfl
 | some x =>
  cases x with
  | none=>simp only [PX.toPM,zEI]
  | some i =>
   simp only [PX.toPM,zIL]
   cases es[i]? with
   | none=>rfl
   | some kv=>obtain ⟨k,v⟩:=kv;simp only [Option.map_some,PX.toPM,zEI]
def zGw (d:Option Nat) (t:TypeId) (m x:Operand):PX:=zGG m fun m=>zGG x fun key=>match P.underlying t with
 | some (.map kt el) => .test (zOD P 20 kt key&&key.flat) (zVL (zCJ P el) fun z => .test (zJp z).lone (zNT P d kt (zJp z) key m))
 | _ => .fail
theorem zJX {d:Option Nat} {t:TypeId} {m x:Operand}:(zGw P d t m x).toPM=zFT P d t m x:=by
 simp only [zGw,zFT,zCc]
 congr 1;funext p;congr 1;funext q
 cases P.underlying t with
 | none=>rfl
 | some u=>cases u<;>first | rfl | simp only [PX.toPM,zJD,zPt]
def zJL (i:Nat) (v m:PV):PX :=
 match m with
 | .bmap r pre => .test v.lone (.deep r pre fun q=>match q with
  | .omap es => .pick (zT9 es i) fun k => .wnode r pre (.omap (es.modify i fun _=>(k,v))) .ok
  | _ => .fail)
 | _ => .fail
theorem zLV {i:Nat} {v m:PV}:(zJL i v m).toPM=zH9 i v m:=by
 cases m<;>first | rfl | skip
 simp only [zJL,zH9,PX.toPM]
 congr 1;congr 1;funext q
 cases q<;>first | rfl | skip
 rename_i es
 simp only [PX.toPM,zT9]
 cases es[i]? with
 | none=>rfl
 | some kv=>obtain ⟨k,x⟩:=kv;rfl
def zE8 (m s y:Operand):PX:=zGG m fun m=>zGG s fun s=>zFQ s fun i=>zK1 y fun v=>zPQ zAb zDy v fun v=>zJL i (zAS v) m
theorem zH6 {m s y:Operand}:(zE8 m s y).toPM=zEs m s y:=by
 simp only [zE8,zEs,zCc,zEQ,zF4,zFy,zLV]
def zNY (d:Option Nat) (c:Call):PX :=
 match c.callee with
 | .builtin b=>zLC P d b c.argTypes.toList c.args.toList
 | .value f=>zGG f (zQf H d c.args.toList)
 | _ => .fail
theorem zPm {d:Option Nat} {c:Call}:(zNY P H d c).toPM=zKv P H d c:=by
 simp only [zNY,zKv]
 cases c.callee<;>simp only [PX.toPM,zNy,zCc,zSi]
def opX (fz tk nl:Bool) (o:Oper):PX :=
 match o.op with
 | .assign x=>zJb P tk nl o.dst o.type x
 | .box t x=>zQU P o.dst t x
 | .buildSlice t n ps=>zE0 P tk o.dst t n ps.toList
 | .load t a=>zNr P tk o.dst t a
 | .store t a x=>zRv P fz tk t a x
 | .binOp op t x y _=>zQF P o.dst op t x y
 | .unOp op _ x=>zGG x (zXZ o.dst op)
 | .convert _ t x=>zGG x (zR7 P o.dst t)
 | .makeSlice t l c=>zFJ P o.dst t l c
 | .slice t x lo hi mx=>zRa P o.dst t x lo hi mx
 | .indexAddr t x i=>zFv P o.dst t x i
 | .index t x i=>zKV P o.dst t x i
 | .lookup t m x ok=>zJC P o.dst t m x ok
 | .mapUpdate t m x y=>zFw P t m x y
 | .mapEntry t m x=>zGw P o.dst t m x
 | .entryStore _ m s x=>zE8 m s x
 | .call c=>zNY P H o.dst c
 | _ => .emb (opM P H fz tk nl o)
theorem zWu {fz tk nl:Bool} {o:Oper}:(opX P H fz tk nl o).toPM=opM P H fz tk nl o:=by
 obtain ⟨dst,op,type,pos,after,guard⟩:=o
 cases op<;>simp only [opX,opM,PX.toPM,zMf,zQu,zH7,zPl,zQO,zRx,zCc,zUF,zRE,zJk,zQJ,zJf,zNs,zMO,zJi,zJX,zH6,zPm]
end
end Go.Eng
namespace Go.Eng
open Go
section
variable [Yo] {P:Program} {H:zBf} {f:FuncId} {nt:Nat} {e e':Env} {lg:Option Log} {K:X→Env→Option Log→Prop} {i:Nat} {c:Code} {s:RS} {R:Env→Option Log→Prop}
abbrev zXe (P:Program) (H:zBf) (f:FuncId) (c:Code) (i:Nat):PX:=opX P H (((H f).frzs (rid c)).contains i) (((H f).take (rid c)).contains i) (H f).nils (zEi c i)
def zVP [Yo] (P:Program) (H:zBf) (f:FuncId) (c:Code) (i:Nat) (as:Ans) (s:RS):Option (RS×List Prop) :=
 match (zXe P H f c i).run P H as s.e with
 | some (e',t,obs)=>(zQA c i s e' t).map fun s'=>(s',obs)
 | none=>none
def rsX (o:Option (RS×List Prop)):RS:=zVO (o.map (·.1))
theorem S_x (as:Ans) (obs:List Prop) (ho:zSt obs) (h:WS P H f c (i+1) (rsX (zVP P H f c i as s)) R) (hq:(zVP P H f c i as s).map (·.2)=some obs:=by kernel_rfl) (hi:Nat.blt i (zFk c).size=true:=by kernel_rfl):WS P H f c i s R:=by
 obtain ⟨⟨s',obs'⟩,hs,hq⟩:=Option.map_eq_some_iff.1 hq
 simp only at hq;subst hq
 simp only [zVP] at hs
 split at hs
 ·rename_i e1 t obs hr
  obtain ⟨s1,h1,h2⟩:=Option.map_eq_some_iff.1 hs
  simp only [Prod.mk.injEq] at h2
  obtain ⟨rfl,rfl⟩:=h2
  obtain ⟨n0,hn⟩:=PX.run_ok hr ho
  refine zXT (m:=some (e1,t)) ⟨n0,fun n vf=>?_⟩ ?_ ?_ hi
  ·have:=hn n vf
   rw [zWu] at this
   exact this
  ·simpa [rsX,zVP,hr,h1] using h
  ·simp [h1]
 ·cases hs
def zUS (p:PV) (k:PV→PX) (k2:PX):PX :=
 match p with
 | .bor r pre _ lo n => .deep r pre fun q=>match q with
  | .own sz xs => .choose (Nat.ble (lo+n) xs.length) (.wnode r pre .bad (.same (.own sz ((xs.drop lo).take n)) k)) k2
  | _=>k2
 | .addr r pre 0 0 _ => .deep r pre fun q=>match q with
  | .box q => .wnode r pre .bad (k (.box q))
  | _=>k2
 | .bmap r pre => .deep r pre fun q=>match q with
  | .omap es => .wnode r pre .bad (k (.omap es))
  | _=>k2
 | _=>k2
omit [Yo] in
theorem zTM {p:PV} {k:PV→PX} {k2:PX}:(zUS p k k2).toPM=zQE p (fun q=>(k q).toPM) k2.toPM:=by
 unfold zUS zQE
 split
 ·simp only [PX.toPM]
  congr 1;funext q
  cases q<;>rfl
 ·simp only [PX.toPM]
  congr 1;funext q
  cases q<;>rfl
 ·simp only [PX.toPM]
  congr 1;funext q
  cases q<;>rfl
 ·rename_i h1 h2 h3
  split
  ·exact (h1 _ _ _ _ _ rfl).elim
  ·exact (h2 _ _ _ rfl).elim
  ·exact (h3 _ _ rfl).elim
  ·rfl
def zKU (frz:Bool) (p:PV) (k:PV→PX):PX :=
 bif frz||p.ways.any (fun w=>Nat.ble zAm w.1) then zPQ zAm zDy p k else zUS p k (zPQ zAm zDy p k)
def zEq (frz:Bool):List PV→(List PV→PX)→PX
 | [],k=>k []
 | p::ps,k=>zKU frz p fun q=>zEq frz ps fun qs=>k (q::qs)
def zIi (frz:Bool) (p:PV) (k:PV→PX):PX :=
 match p with
 | .agg cs => .choose (cs.all fun q=>q.num) (k (.agg cs)) (zEq frz cs fun qs=>k (.agg qs))
 | p=>zKU frz p k
omit [Yo] in
theorem zKB {frz:Bool} {p:PV} {k:PV→PX}:(zKU frz p k).toPM=zFD frz p fun q=>(k q).toPM:=by
 simp only [zKU,zFD,zDc,zFy,zTM]
omit [Yo] in
theorem zFF {frz:Bool}:∀ {ps:List PV} {k:List PV→PX},(zEq frz ps k).toPM=zCr frz ps fun qs=>(k qs).toPM
 | [],_=>rfl
 | p::ps,k=>by simp only [zEq,zCr,zKB,zFF]
omit [Yo] in
theorem zNi {frz:Bool} {p:PV} {k:PV→PM} (h:p.num=true):zFD frz p k=k p:=by
 cases p<;>first | (cases h;done) | skip
 all_goals cases frz<;>rfl
omit [Yo] in
theorem zFo {frz:Bool}:∀ {ps:List PV} {k:List PV→PM},ps.all (fun q=>q.num)=true→zCr frz ps k=k ps
 | [],_,_=>rfl
 | p::ps,k,h=>by
  simp only [List.all_cons,Bool.and_eq_true] at h
  simp only [zCr,zNi h.1,zFo h.2]
omit [Yo] in
theorem zIU {frz:Bool} {p:PV} {k:PV→PX}:(zIi frz p k).toPM=zGB frz p fun q=>(k q).toPM:=by
 cases p<;>first | exact zKB | skip
 rename_i cs
 simp only [zIi,zGB,PX.toPM,zFF]
 cases h:cs.all fun q=>q.num with
 | false=>rfl
 | true=>simp only [cond_true];exact (zFo (k:=fun qs=>(k (.agg qs)).toPM) h).symm
def zHq (P:Program) (frz:Bool):Nat→List ResultVar→PX
 | _,[] => .ok
 | j,.tmp t::rs => .view t fun p=>zIi frz p fun q => .same q fun q=>zVN (zAw+j) q (zHq P frz (j+1) rs)
 | j,.cell a t::rs=>zVL (shT P t) fun sh => .view a fun p=>match p with
  | .addr r pre i c _=>zQQ r pre i c sh fun v=>zIi frz v fun q => .same q fun q=>zVN (zAw+j) q (zHq P frz (j+1) rs)
  | _ => .fail
omit [Yo] in
theorem zHB {frz:Bool}:∀ {rs:List ResultVar} {j:Nat},(zHq P frz j rs).toPM=zCL P frz j rs
 | [],_=>rfl
 | .tmp t::rs,j=>by simp only [zHq,zCL,PX.toPM,zIU,zLG,zHB]
 | .cell a t::rs,j=>by
  simp only [zHq,zCL,zJD,PX.toPM]
  congr 1;funext sh;congr 1;funext p
  cases p<;>first | rfl | simp only [zK3,zIU,PX.toPM,zLG,zHB]
def zLb [Yo] (P:Program) (H:zBf) (f:FuncId) (fn:Func) (as:Ans) (e:Env) (nh:Nat):Option ((PV×List PV)×List Prop) :=
 match (zHq P (H f).frz 0 fn.results.toList).run P H as e with
 | some (e',_,obs)=>bif Nat.beq fn.results.size 1&&(e'.get zAw).isTup then none else some ((zUs e' fn.results.size,(List.range nh).map fun j=>e'.get (zAm+j)),obs)
 | none=>none
def zTN [Yo] (P:Program) (H:zBf) (f:FuncId) (fn:Func) (nh:Nat) (v:PV) (hX:List PV) (x:X) (e:Env) (lg:Option Log):Prop :=
 (x = .norm∨x = .ret)∧lg=none∧∃ n0,∀ n,n0≤n→∃ e',(zCL P (H f).frz 0 fn.results.toList).run (zC9 P H n) e=some e'∧(bif Nat.beq fn.results.size 1&&(e'.get zAw).isTup then none else some (zUs e' fn.results.size,(List.range nh).map fun j=>e'.get (zAm+j)))=some (v,hX)
theorem E_x {fn:Func} {nh:Nat} {v:PV} {h:List PV} {x:X} (as:Ans) (obs:List Prop) (v':PV) (h':List PV) (ho:zSt obs) (hv:v'=v) (hh:h'=h) (hf:zLb P H f fn as e nh=some ((v',h'),obs):=by kernel_rfl) (hl:lg=none:=by kernel_rfl) (hx:x = .norm∨x = .ret:=by first | exact .inr rfl | exact .inl rfl):zTN P H f fn nh v h x e lg:=by
 subst hv;subst hh
 simp only [zLb] at hf
 split at hf
 ·rename_i e1 t obs' hr
  rcases zBh hf with ⟨_,hf⟩ | ⟨hb,hf⟩
  ·cases hf
  ·simp only [Option.some.injEq,Prod.mk.injEq] at hf
   obtain ⟨⟨h1,h2⟩,rfl⟩:=hf
   obtain ⟨n0,hn⟩:=PX.run_ok hr ho
   refine ⟨hx,hl,n0,fun n vf=>⟨e1,?_,?_⟩⟩
   ·have:=hn n vf
    rw [zHB] at this
    exact zD8 this
   ·rw [hb];simp only [cond_false,h1,h2]
 ·cases hf
theorem zAe (fn:Func) {args hid:List PV} {v:PV} {hX:List PV} (h:W P H f fn.ntmps (fn.body.getD .ret) (zA3 args hid) none (zTN P H f fn hid.length v hX)) (hf:P.funcs[f]? = some fn:=by kernel_rfl) (hi:(H f).intr=0:=by kernel_rfl) (hb:fn.body.isSome=true:=by kernel_rfl)
  (hc:(Nat.ble args.length fn.ntmps&&Nat.ble hid.length 1000&&args.all (fun p => !p.isTup))=true:=by kernel_rfl):zBD P H f args hid v hX:=by
 obtain ⟨body,hb⟩:∃ body,fn.body=some body:=by cases hx:fn.body<;>first | exact ⟨_,rfl⟩ | (rw [hx] at hb;cases hb)
 simp only [hb,Option.getD_some] at h
 obtain ⟨n0,x,e1,lg1,h1,hx,rfl,n1,hr⟩:=h
 refine ⟨max n0 n1+1,fun n hn=>?_⟩
 obtain ⟨n,rfl⟩:∃ k,n=k+1:=⟨n-1,by omega⟩
 have j2:=h1 n (n+1) (by omega) (by omega)
 obtain ⟨e2,h2,hr⟩:=hr n (by omega)
 show zI7 P H (zC9 P H n) Yo.yo zCg (n+1) f args hid=_
 simp only [zI7,hf,hi,hb,zIQ,hc,cond_true,j2,ne_eq,not_true,if_false]
 rcases hx with rfl | rfl<;>simp only [h2,hr]
theorem zU9 (k:Int) (xss:List (List PV)) (args:List PV) (a:Nat) (h1:k=1→WS P H f c (i+1) ⟨(zFi s.dr i (zEi c i) {all:=true}).getD none,zNH ((put (zEi c i).dst (.bool false)).run zHY (s.e.forget zAb)),some ⟨xss++[args],k-1,a⟩⟩ R)
  (h2:k≠1→WS P H f c (i+1) ⟨(zFi s.dr i (zEi c i) {all:=true}).getD none,zNH ((put (zEi c i).dst (.bool true)).run zHY s.e),some ⟨xss++[args],k-1,a⟩⟩ R) (hk:k≠0)
  (hy:zCd s.e (zEi c i)=some (a,args):=by kernel_rfl) (hl:s.lg=some ⟨xss,k,a⟩:=by kernel_rfl) (hw:zK8 (zFk c) s.e (zEi c i)=some true:=by kernel_rfl) (hf:args.all PV.flat=true:=by kernel_rfl)
  (hd:(zFi s.dr i (zEi c i) {all:=true}).isSome=true:=by kernel_rfl) (kU:((put (zEi c i).dst (.bool false)).run zHY (s.e.forget zAb)).isSome=true:=by kernel_rfl) (kF:((put (zEi c i).dst (.bool true)).run zHY s.e).isSome=true:=by kernel_rfl)
  (hi:Nat.blt i (zFk c).size=true:=by kernel_rfl):WS P H f c i s R:=by
 have wI:zFi s.dr i (zEi c i) {all:=true}=some ((zFi s.dr i (zEi c i) {all:=true}).getD none):=by
  cases hx:zFi s.dr i (zEi c i) {all:=true} with
  | none=>rw [hx] at hd;cases hd
  | some d=>rfl
 have vH:(k != 0)=true:=by simpa using hk
 by_cases jN:k=1
 ·refine zLc hi ⟨0,fun n _=>?_⟩ wI (h1 jN)
  have hr:(put (zEi c i).dst (.bool false)).run (zC9 P H n) (s.e.forget zAb)=some (zNH ((put (zEi c i).dst (.bool false)).run zHY (s.e.forget zAb))):=zGz (zKq kU)
  have wD:(k==1)=true:=by simpa using jN
  have hyr:zBQ (zC9 P H n) (zFk c) (zEi c i) a args ⟨xss,k,a⟩ s.e=some (zNH ((put (zEi c i).dst (.bool false)).run zHY (s.e.forget zAb)),some ⟨xss++[args],k-1,a⟩):=by
   unfold zBQ
   rw [hw]
   simp only
   rw [hf,vH,Nat.beq_refl,wD]
   simp only [Bool.and_self,cond_true]
   rw [hr];rfl
  rw [hl]
  unfold zEj
  simp only
  rw [hy]
  simp only
  rw [hyr];rfl
 ·refine zLc hi ⟨0,fun n _=>?_⟩ wI (h2 jN)
  have hr:(put (zEi c i).dst (.bool true)).run (zC9 P H n) s.e=some (zNH ((put (zEi c i).dst (.bool true)).run zHY s.e)):=zGz (zKq kF)
  have wD:(k==1)=false:=by simpa using jN
  have hyr:zBQ (zC9 P H n) (zFk c) (zEi c i) a args ⟨xss,k,a⟩ s.e=some (zNH ((put (zEi c i).dst (.bool true)).run zHY s.e),some ⟨xss++[args],k-1,a⟩):=by
   unfold zBQ
   rw [hw]
   simp only
   rw [hf,vH,Nat.beq_refl,wD]
   simp only [Bool.and_self,cond_true,cond_false]
   rw [hr];rfl
  rw [hl]
  unfold zEj
  simp only
  rw [hy]
  simp only
  rw [hyr];rfl
theorem zVz {σ:Type} {c:Code} (Inv:σ→Prop) (upd:σ→List (Nat×PV)) (L:σ→Option Log) (μ:σ→Nat) (s:σ) (hi:Inv s) (h:∀ s,Inv s→W P H f nt (cl c) (zLI (upd s) (e.drop ((H f).loopDrop (zAP (cl c))))) (L s) fun x e' lg'=>match x with
   | .norm=>∃ s',Inv s'∧μ s'<μ s∧e'.drop ((H f).loopDrop (zAP (cl c)))=zLI (upd s') (e.drop ((H f).loopDrop (zAP (cl c))))∧lg'=L s'
   | x=>K x e' lg') (hs:e.drop ((H f).loopDrop (zAP (cl c)))=zLI (upd s) (e.drop ((H f).loopDrop (zAP (cl c)))):=by kernel_rfl) (hl:lg=L s:=by kernel_rfl) (hc:zOg c=true:=by kernel_rfl):W P H f nt c e lg K:=by
 rw [zM6 hc]
 generalize hE:e.drop ((H f).loopDrop (zAP (cl c)))=e0 at h hs
 have key:∀ (n:Nat) (s:σ) (e:Env) (lg:Option Log),μ s≤n→Inv s→e.drop ((H f).loopDrop (zAP (cl c)))=zLI (upd s) e0→lg=L s→W P H f nt (.loop (cl c)) e lg K:=by
  intro n
  induction n with
  | zero =>
   intro s e lg hs hi he wR
   subst wR
   obtain ⟨n0,x,e1,lg1,h1,h2⟩:=h s hi
   cases x with
   | norm=>obtain ⟨s',_,h3,_⟩:=h2;omega
   | ex id =>
    refine ⟨n0+1,_,e1,lg1,fun n m hn hm=>?_,h2⟩
    obtain ⟨m,rfl⟩:∃ k,m=k+1:=⟨m-1,by omega⟩
    simp only [exec,he,h1 n m (by omega) (by omega)]
   | ret =>
    refine ⟨n0+1,_,e1,lg1,fun n m hn hm=>?_,h2⟩
    obtain ⟨m,rfl⟩:∃ k,m=k+1:=⟨m-1,by omega⟩
    simp only [exec,he,h1 n m (by omega) (by omega)]
  | succ n ih =>
   intro s e lg hs hi he wR
   subst wR
   obtain ⟨n0,x,e1,lg1,h1,h2⟩:=h s hi
   cases x with
   | norm =>
    obtain ⟨s',h3,h4,h7,h8⟩:=h2
    obtain ⟨n2,x,e2,lg2,h5,h6⟩:=ih s' e1 lg1 (by omega) h3 h7 h8
    refine ⟨max n0 n2+1,x,e2,lg2,fun n m hn hm=>?_,h6⟩
    obtain ⟨m,rfl⟩:∃ k,m=k+1:=⟨m-1,by omega⟩
    simp only [exec,he,h1 n m (by omega) (by omega),h5 n m (by omega) (by omega)]
   | ex id =>
    refine ⟨n0+1,_,e1,lg1,fun n m hn hm=>?_,h2⟩
    obtain ⟨m,rfl⟩:∃ k,m=k+1:=⟨m-1,by omega⟩
    simp only [exec,he,h1 n m (by omega) (by omega)]
   | ret =>
    refine ⟨n0+1,_,e1,lg1,fun n m hn hm=>?_,h2⟩
    obtain ⟨m,rfl⟩:∃ k,m=k+1:=⟨m-1,by omega⟩
    simp only [exec,he,h1 n m (by omega) (by omega)]
 exact key (μ s) s e lg (Nat.le_refl _) hi (hE.trans hs) hl
end
end Go.Eng
namespace Go.Eng
open Go
abbrev I (n:Int):PV := .int .i64 n
abbrev zBi (l:List Int):PV := .sl (l.map I)
section
theorem zBb {a b:Nat} (h:a≤b):Nat.ble a b=true:=by rw [Nat.ble_eq];exact h
theorem zBR {a b:Nat} (h:a=b):Nat.beq a b=true:=by rw [h];exact Nat.beq_refl _
theorem zAp {p:Prop} [Decidable p] (h:p):decide p=true:=decide_eq_true h
variable {α:Type} {g:α→PV} {l:List α} {i:Nat} {d:α} {x q root root':PV} {xs:List PV} {r z c n:Nat} {pre rest:zAR}
theorem zCG (d:α) (h:i<l.length):(l.map g)[i]? = some (g (l.getD i d)):=by simp [List.getD,List.getElem?_eq_getElem h]
theorem zEl {u:α}:(l.map g).set i (g u)=(l.set i u).map g:=(List.map_set).symm
theorem zLN (hx:xs[i]? = some x) {y:PV} (hn:zAy y rest=some q) (hh:zAW root=some xs:=by kernel_rfl) (hc:x.cells[c]? = some y:=by kernel_rfl):zAy root ((i,c)::rest)=some q:=by
 simp only [zAy,hh,hx,hc,hn]
def zMb (r:Nat) (pre:zAR) (i c n:Nat) (x:PV):Option (Bool×List PV):=bif Nat.ble (c+n) x.cells.length then some (x.isAgg,zBA r pre i c ((x.cells.drop c).take n)) else none
theorem zC8 {a:Bool} {qs:List PV} (hn:zAy root.unlock pre=some q) (hx:xs[i]? = some x) (hr:zMb r pre i c n x=some (a,qs):=by kernel_rfl) (hh:zA6 q=some xs:=by kernel_rfl):zAs r root pre i c n=some (a,qs):=by
 simp only [zAs,hn,hh,hx];exact hr
theorem zMg {qs:List PV} {xs':List PV} (hx:xs[i]? = some x) (hs:xs.set i (zAx x c qs)=xs') (hb:Nat.ble (c+qs.length) x.cells.length=true:=by kernel_rfl) (hw:(zBv qs).isEmpty=true:=by kernel_rfl):zBw (.own z xs) [] i c qs=some (.own z xs')∧zAF (.own z xs) (.own z xs') []=true:=by
 subst hs
 constructor
 ·simp only [zBw,hw,Bool.not_true,Bool.and_false,cond_false,zAu,zA6,hx,hb,cond_true,zAC]
 ·simp [zAF,zCD]
theorem zB1 {x m:Nat} (h:Nat.beq m 1=true):0+x*m=x:=by rw [Nat.eq_of_beq_eq_true h,Nat.mul_one,Nat.zero_add]
theorem zB6 {a x m:Nat} (h:Nat.beq m 1=true):a+x*m=a+x:=by rw [Nat.eq_of_beq_eq_true h,Nat.mul_one]
def wf (i c:Nat) (qs:List PV) (q:PV):Option PV:=match zA6 q with
 | some xs=>match xs[i]? with
  | some x=>bif Nat.ble (c+qs.length) x.cells.length then zAC q (xs.set i (zAx x c qs)) else none
  | none=>none
 | none=>none
theorem zKc {qs:List PV} {q' y:PV} (hx:xs[i]? = some x) (hs:zAx x c qs=y) (hq:zAC q (xs.set i y)=some q') (hh:zA6 q=some xs:=by kernel_rfl) (hb:Nat.ble (c+qs.length) x.cells.length=true:=by kernel_rfl):zAu (wf i c qs) q []=some q':=by
 subst hs
 simp only [zAu,wf,hh,hx,hb,cond_true,hq]
theorem zPR {qs:List PV} {b:Bool} (h:zAu (wf i c qs) root pre=some root') (hk:zAF root root' pre=b) (hw:(zBv qs).isEmpty=true:=by kernel_rfl):zBw root pre i c qs=some root'∧zAF root root' pre=b:=by
 refine ⟨?_,hk⟩
 simp only [zBw,hw,Bool.not_true,Bool.and_false,cond_false]
 exact h
theorem zA4 (l:List α) (h:∀ x,zAS (g x)=g x:=by intro;rfl):zAA (l.map g)=l.map g:=by
 induction l with
 | nil=>rfl
 | cons x l ih=>simp only [List.map_cons,zAA,h,ih]
theorem zEC {ys:List PV} (hy:xs=ys) (h2:zAA ys=ys):zAA xs=ys:=by rw [hy];exact h2
theorem zLZ (l:List α) (h:∀ x,(g x).free=true:=by intro;rfl):zFx (l.map g)=true:=by
 induction l with
 | nil=>rfl
 | cons x l ih=>simp only [List.map_cons,zFx,h,ih,Bool.and_self]
theorem zRD (l:List α) (h:∀ x,(g x).ways=[]:=by intro;rfl):zBv (l.map g)=[]:=by
 induction l with
 | nil=>rfl
 | cons x l ih=>simp only [List.map_cons,zBv,h,ih,List.append_nil]
theorem all_map {p:PV→Bool} (l:List α) (h:∀ x,p (g x)=true:=by intro;rfl):(l.map g).all p=true:=by
 rw [List.all_map];exact List.all_eq_true.2 fun x _=>h x
theorem zDg (l:List α):List.take l.length (l.map g)=l.map g:=List.take_of_length_le (by simp)
theorem zA8 {xs ys:List PV} (h:xs=ys):PV.own z xs=PV.own z ys:=by rw [h]
theorem zSr {xs ys:List PV} (h:xs=ys):PV.sl xs=PV.sl ys:=by rw [h]
theorem zFL {a x m:Nat} {sh:Option Nat} (h:Nat.beq m 1=true):PV.addr r pre i (a+x*m) sh=PV.addr r pre i (a+x) sh:=by rw [Nat.eq_of_beq_eq_true h,Nat.mul_one]
end
end Go.Eng
namespace Go.Eng
open Go
section
def zVH:Code→Bool
 | .label _=>true
 | _=>false
theorem ap {p:Prop} {ps:List Prop} (h:p) (hs:zSt ps):zSt (p::ps):=⟨h,hs⟩
theorem an:zSt []:=trivial
theorem zCq {a b:Int} (h:a=b) (hr : -9223372036854775808≤b∧b<9223372036854775808):PV.int .i64 (IntKind.i64.wrap a)=PV.int .i64 b:=by rw [h,zVX hr]
variable [Yo] {P:Program} {H:zBf} {f:FuncId} {nt:Nat} {e e':Env} {lg:Option Log} {K:X→Env→Option Log→Prop} {i:Nat} {c:Code} {s:RS} {R:Env→Option Log→Prop}
theorem S_a (as:Ans) {obs:List Prop} (ho:zSt obs) (h:WS P H f c (i+1) (rsX (zVP P H f c i as s)) R) (hq:(zVP P H f c i as s).map (·.2)=some obs:=by kernel_rfl) (hi:Nat.blt i (zFk c).size=true:=by kernel_rfl):WS P H f c i s R:=S_x as obs ho h hq hi
theorem E_a {fn:Func} {nh:Nat} {v:PV} {h:List PV} {x:X} (as:Ans) {obs:List Prop} (ho:zSt obs) (v':PV) (h':List PV) (hv:v'=v) (hh:h'=h) (hf:zLb P H f fn as e nh=some ((v',h'),obs):=by kernel_rfl) (hl:lg=none:=by kernel_rfl) (hx:x = .norm∨x = .ret:=by first | exact .inr rfl | exact .inl rfl):zTN P H f fn nh v h x e lg:=E_x as obs v' h' ho hv hh hf hl hx
theorem zUA {c:Code} (h:K .norm e lg) (hc:zVH c=true:=by kernel_rfl):W P H f nt c e lg K:=by
 cases c<;>first | (cases hc;done) | exact zTE 1 rfl h
theorem zV9 {t:TypeId} {k:IntKind} {a b q:Int} (hb:b≠0) (h:a.tmod b=q):zH4 P .rem t (.int k a) (.int k b)=some (.int k q):=by
 simp [zH4,zTn,hb,h]
end
end Go.Eng
namespace Go.Eng
open Go
section
variable [Yo] {P:Program} {H:zBf} {f:FuncId}
end
end Go.Eng
namespace Go.Eng
open Go
def zSx (pre:zAR) (put:PV→PV):Prop:=∀ f z xs,zAu f (put (.own z xs)) pre=(f (.own z xs)).map put
theorem zSx.nil:zSx [] (fun q=>q):=fun f z xs=>by simp [zAu]
theorem zSx.box:zSx [(0,0)] (fun q => .box q):=fun f z xs=>by
 simp only [zAu,zAW,List.getElem?_cons_zero,PV.cells]
 cases f (.own z xs)<;>rfl
theorem zJs [Yo] {r z:Nat} {pre:zAR} {put:PV→PV} (L:zSx pre put):∀ {ys:List PV} {j:Nat} {xs:List PV} {e:Env},e.get r=put (.own z xs)→j+ys.length≤xs.length→(∀ (a:Nat) (x y:PV),xs[j+a]? = some x→ys[a]? = some y→y.heavy=false∧y.cells.all (fun q=>q.ways.isEmpty)=true∧y.cells.length≤x.cells.length∧zAx x 0 y.cells=y) →
  ∃ e',e'.get r=put (.own z (xs.take j++ys++xs.drop (j+ys.length)))∧(∀ t,t≠r→e'.get t=e.get t)∧∀ (o:zAE) (k:PM),(zGj r pre j ys k).run o e=k.run o e'
 | [],j,xs,e,he,hj,hy=>⟨e,by simp [he],fun _ _=>rfl,fun _ _=>rfl⟩
 | y :: ys,j,xs,e,he,hj,hy=>by
  simp only [List.length_cons] at hj
  have hjx:j<xs.length:=by omega
  obtain ⟨h1,h2,h3,h4⟩:=hy 0 xs[j] y (by simp [hjx]) rfl
  have hws:zBv y.cells=[]:=zMy h2
  have hb:Nat.ble (0+y.cells.length) xs[j].cells.length=true:=by rw [Nat.ble_eq];omega
  have yW:(e.set r (put (.own z (xs.set j y)))).get r=put (.own z (xs.set j y)):=by rw [Env.get_set,if_pos rfl]
  obtain ⟨e',g1,g2,g3⟩:=zJs L (ys:=ys) (j:=j+1) yW (by simp;omega) fun a x' y' uK wG=>by
   rw [List.getElem?_set] at uK
   rw [if_neg (by omega)] at uK
   exact hy (a+1) x' y' (by rw [← uK];congr 1;omega) (by simpa using wG)
  refine ⟨e',?_,fun t ht=>?_,?_⟩
  ·rw [g1,zSS hj]
   simp only [List.length_cons]
  ·rw [g2 t ht,Env.get_set,if_neg ht]
  ·intro o k
   simp only [zGj]
   rw [zES (by simpa using zNx h1)]
   simp only [PM.run,he,zBw,hws,List.isEmpty_nil,Bool.not_true,Bool.and_false,cond_false,L _ z xs,zA6,List.getElem?_eq_getElem hjx,hb,cond_true,zAC,h4,Option.map_some]
   exact g3 o k
section
variable [Yo] {P:Program} {H:zBf} {f:FuncId} {i:Nat} {c:Code} {R:Env→Option Log→Prop}
theorem zOj {k:IntKind} {a b:Int}:zX2 1 (.int k a) (.int k b):=⟨rfl,rfl,rfl,rfl,Nat.le_refl _,rfl⟩
end
end Go.Eng
namespace Go.Eng
open Go
abbrev zPn (sh:Option Nat) (a:List Int):PV:=match sh with | none=>I (a.getD 0 0) | some _ => .agg (a.map I)
theorem zN5 {l:List Int} {i k:Nat} {sh:Option Nat} (j1:sh=some k∨(sh=none∧k=1)) (h:i+k≤l.length):sub (.agg (l.map I)) i sh=some (zPn sh ((l.drop i).take k)):=by
 rcases j1 with rfl | ⟨rfl,rfl⟩
 ·simp only [sub,List.length_map,h,if_true,zPn,List.map_take,List.map_drop]
 ·have h2:i<l.length:=by omega
  simp only [sub,zPn]
  rw [List.drop_eq_getElem_cons h2]
  simp [h2]
theorem zME {eq:PV→PV→Option Bool} {sh:Option Nat} {k:Nat} {l m:List Int} (u4:∀ a b:List Int,a.length=k→b.length=k→eq (zPn sh a) (zPn sh b)=some (decide (a=b))) (j1:sh=some k∨(sh=none∧k=1)):∀ n i,(i+n)*k=l.length→(i+n)*k=m.length→zUi eq sh k (.agg (l.map I)) (.agg (m.map I)) i n=some (decide (l.drop (i*k)=m.drop (i*k)))
 | 0,i,h1,h2=>by
  simp only [zUi]
  rw [List.drop_eq_nil_of_le (by simpa using Nat.le_of_eq h1.symm),List.drop_eq_nil_of_le (by simpa using Nat.le_of_eq h2.symm)];simp
 | n + 1,i,h1,h2=>by
  have e:(i+(n+1))*k=i*k+k+n*k:=by rw [Nat.add_mul,Nat.succ_mul];omega
  have e1:(i+1)*k=i*k+k:=by rw [Nat.succ_mul]
  have hl:i*k+k≤l.length:=by omega
  have hm:i*k+k≤m.length:=by omega
  have ih:=zME u4 j1 n (i+1) (by rw [← h1];congr 1;omega) (by rw [← h2];congr 1;omega)
  simp only [zUi,zN5 j1 hl,zN5 j1 hm]
  rw [u4 _ _ (by rw [List.length_take,List.length_drop];omega) (by rw [List.length_take,List.length_drop];omega)]
  have d1:l.drop (i*k)=(l.drop (i*k)).take k++l.drop ((i+1)*k):=by rw [e1,← List.drop_drop,List.take_append_drop]
  have d2:m.drop (i*k)=(m.drop (i*k)).take k++m.drop ((i+1)*k):=by rw [e1,← List.drop_drop,List.take_append_drop]
  by_cases hc:(l.drop (i*k)).take k=(m.drop (i*k)).take k
  ·simp only [hc,decide_true,ih]
   congr 1
   rw [d1,d2,hc]
   simp
  ·simp only [hc,decide_false]
   rw [Eq.comm,decide_eq_false]
   intro hx
   exact hc (by rw [hx])
def zOR:Option TypeDesc→Bool
 | some (.array ..)=>true
 | _=>false
def zUD:Option TypeDesc→Bool
 | some (.int .i64)=>true
 | _=>false
theorem zSO {x:Option TypeDesc} (h:zUD x=true):x=some (.int .i64):=by
 unfold zUD at h;split at h
 ·rfl
 ·cases h
theorem zMZ {x:Option TypeDesc} (h:zOR x=true):∃ c e,x=some (.array c e):=by
 unfold zOR at h;split at h
 ·exact ⟨_,_,rfl⟩
 ·cases h
def zTd (P:Program):Nat→TypeId→Option Nat
 | 0,_=>none
 | n + 1,t=>match P.underlying t with
  | some (.int k)=>if k = .i64 then some 1 else none
  | some (.array m e)=>match szT P e,shT P e,zTd P n e with
   | some sz,some sh,some k=>if sz=k∧(sh=some k∧zOR (P.underlying e)=true∨sh=none∧k=1∧zUD (P.underlying e)=true) then some (m*k) else none
   | _,_,_=>none
  | _=>none
theorem zVe {P:Program} {n:Nat} {t:TypeId} {a b:Int} (h:P.underlying t=some (.int .i64)):eqT P (n+1) t (I a) (I b)=some (decide (a=b)):=by
 simp only [eqT,h,if_true];rfl
theorem zOs {P:Program}:∀ (n:Nat) (t:TypeId) (k:Nat) (l m:List Int),zTd P n t=some k→(∃ c e,P.underlying t=some (.array c e))→l.length=k→m.length=k→eqT P n t (.agg (l.map I)) (.agg (m.map I))=some (decide (l=m))
 | 0,_,_,_,_,h,_,_,_=>by cases h
 | n + 1, t, k,l,m,h,⟨c,e,hu⟩,hl,hm=>by
  simp only [zTd,hu] at h
  split at h
  ·rename_i sz sh k1 h1 h2 h3
   split at h
   ·rename_i hx
    obtain ⟨rfl,hx⟩:=hx
    cases h
    simp only [eqT,hu,h1,h2]
    have:=zME (eq:=eqT P n e) (sh:=sh) (k:=sz) (l:=l) (m:=m) (fun a b ha hb=>by
     rcases hx with ⟨rfl,hx⟩ | ⟨rfl,rfl,hx⟩
     ·exact zOs n e sz a b h3 (zMZ hx) ha hb
     ·cases n with
      | zero=>cases h3
      | succ n =>
       simp only [zPn,zVe (zSO hx)]
       match a,b,ha,hb with
       | [x],[y],_,_=>simp) (by
     rcases hx with ⟨rfl,_⟩ | ⟨rfl,rfl,_⟩
     ·exact .inl rfl
     ·exact .inr ⟨rfl,rfl⟩) c 0 (by rw [hl];simp) (by rw [hm];simp)
    simpa using this
   ·cases h
  ·cases h
def zLH (P:Program) (t:TypeId) (k:Nat):Bool := !P.eqGuardType P.depth t&&decide (zTd P 20 t=some k)&&zOR (P.underlying t)
theorem zQ8 {P:Program} {t:TypeId} {k:Nat} {l m:List Int} (h:zLH P t k=true) (hl:l.length=k) (hm:m.length=k):eqT P 20 t (.agg (l.map I)) (.agg (m.map I))=some (decide (l=m)):=by
 unfold zLH at h
 simp only [Bool.and_eq_true,decide_eq_true_eq,Bool.not_eq_true'] at h
 obtain ⟨⟨h1,h2⟩,h3⟩:=h
 exact zOs 20 t k l m h2 (zMZ h3) hl hm
theorem zT6 {P:Program} {t:TypeId} {k:Nat} {l m:List Int} (h:zLH P t k=true) (hl:l.length=k) (hm:m.length=k):eqV P t (.agg (l.map I)) (.agg (m.map I))=some (decide (l=m)):=by
 have hg:P.eqGuardType P.depth t=false:=by
  unfold zLH at h
  simp only [Bool.and_eq_true,Bool.not_eq_true'] at h
  exact h.1.1
 simp only [eqV,hg,cond_false,zQ8 h hl hm]
theorem zVu {P:Program} {t:TypeId} {l m:List Int} (k:Nat) (hl:l.length=k) (hm:m.length=k) (h:zLH P t k=true:=by kernel_rfl):zH4 P .eql t (.agg (l.map I)) (.agg (m.map I))=some (.bool (decide (l=m))):=by
 simp only [zH4,zT6 h hl hm,Option.map_some]
theorem zU1 {P:Program} {t:TypeId} {l m:List Int} (k:Nat) (hl:l.length=k) (hm:m.length=k) (h:zLH P t k=true:=by kernel_rfl):zH4 P .neq t (.agg (l.map I)) (.agg (m.map I))=some (.bool (!decide (l=m))):=by
 simp only [zH4,zT6 h hl hm,Option.map_some]
theorem zRR {a b c d:Int}:decide ([a,b]=[c,d])=(decide (a=c)&&decide (b=d)):=by simp
theorem zQM {P:Program} {t:TypeId} {a b c d:Int} (h:zLH P t 2=true:=by kernel_rfl):zH4 P .eql t (.agg [I a,I b]) (.agg [I c,I d])=some (.bool (decide (a=c)&&decide (b=d))):=by
 rw [← zRR];exact zVu (l:=[a,b]) (m:=[c,d]) 2 rfl rfl h
theorem zL9 {P:Program} {kt:TypeId} {α:Type} {g:α→PV×PV} {kx ky:α→Int} (hk:∀ x,(g x).1 = .agg [I (kx x),I (ky x)]) (u4:∀ a b c d:Int,eqT P 20 kt (.agg [I a,I b]) (.agg [I c,I d])=some (decide (a=c)&&decide (b=d))) (a b:Int):∀ (M:List α) (i:Nat),zDb P kt (.agg [I a,I b]) (M.map g) i=some ((M.findIdx? fun x=>decide (a=kx x)&&decide (b=ky x)).map (· + i))
 | [],i=>rfl
 | x :: M,i=>by
  have h1:=u4 a b (kx x) (ky x)
  rw [← hk x] at h1
  have h2:zFE (PV.agg [I a,I b]).cells (g x).1.cells=some (a==kx x&&(b==ky x&&true)):=by rw [hk x];rfl
  rw [List.map_cons,List.findIdx?_cons]
  have e:g x=((g x).1,(g x).2):=rfl
  rw [e]
  simp only [zDb,h1,h2]
  cases hc:(decide (a=kx x)&&decide (b=ky x)) with
  | true =>
   simp only [Bool.and_eq_true,decide_eq_true_eq] at hc
   simp [hc.1,hc.2]
  | false =>
   simp only
   rw [zL9 hk u4 a b M (i+1)]
   simp only [Bool.false_eq_true,if_false,Option.map_map]
   congr 2
   funext y
   simp only [Function.comp];omega
theorem zRP {P:Program} {t:TypeId} (h:zLH P t 2=true:=by kernel_rfl) (a b c d:Int):eqT P 20 t (.agg [I a,I b]) (.agg [I c,I d])=some (decide (a=c)&&decide (b=d)):=by
 rw [← zRR];exact zQ8 (l:=[a,b]) (m:=[c,d]) h rfl rfl
def zW7 (F:List Int) (n:Nat):Nat→List PV
 | 0=>[]
 | m+1=>I (F.getD (n-(m+1)) 0)::zW7 F n m
abbrev zAt (F:List Int) (m:Nat):List PV:=zW7 F m m
theorem zQG {F:List Int} {n:Nat}:∀ (m:Nat),m≤n→zW7 F n m=(List.range' (n-m) m).map fun k=>I (F.getD k 0)
 | 0,_=>rfl
 | m+1,h=>by
  rw [zW7,zQG m (by omega),List.range'_succ,List.map_cons,show n-(m+1)+1=n-m by omega]
theorem zNu {F:List Int} {m:Nat}:zAt F m=(List.range m).map fun k=>I (F.getD k 0):=by
 rw [List.range_eq_range',zAt,zQG m (Nat.le_refl m),Nat.sub_self]
theorem zF9 {F:List Int} {m:Nat} (h:F.length=m):zAt F m=F.map I:=by
 rw [zNu]
 apply List.ext_getElem?
 intro k
 by_cases hk:k<m
 ·simp [hk,show k<F.length by omega]
 ·rw [List.getElem?_eq_none (by simp;omega),List.getElem?_eq_none (by simp;omega)]
section
variable {A B:List PV} {F:List Int} {m j:Nat} {r i c':Nat} {pre:zAR}
theorem zIA:(zAt F m).length=m:=by rw [zNu];simp
theorem zSd (hj:j<m):(zAt F m)[j]? = some (I (F.getD j 0)):=by rw [zNu];simp [hj]
theorem zUV (hj:j<m):(A++zAt F m++B)[A.length+j]? = some (I (F.getD j 0)):=by
 rw [List.append_assoc,List.getElem?_append_right (by omega),Nat.add_sub_cancel_left,List.getElem?_append_left (by rw [zIA];exact hj)]
 exact zSd hj
theorem zWJ (hj:j<m):zCl (.ref (.agg (zAt F m))) j none=some (.ref (I (F.getD j 0))):=by
 have h1:(I (F.getD j 0)).oneCell=true:=rfl
 simp only [zCl,zN6,sub,zSd hj,Option.isSome,Bool.false_or,h1,cond_true]
theorem zGt {n:Nat} (hj:j<m) (hn:Nat.beq n 1=true:=by kernel_rfl):zCl (.ref (.agg (zAt F m))) (j*n) none=some (.ref (I (F.getD j 0))):=by
 rw [Nat.eq_of_beq_eq_true hn,Nat.mul_one];exact zWJ hj
theorem zKz (hc:c'=A.length+j) (hj:j<m):zMb r pre i c' 1 (.agg (A++zAt F m++B))=some (true,[I (F.getD j 0)]):=by
 subst hc
 have hZ:A.length+j<(A++zAt F m++B).length:=by rw [List.length_append,List.length_append,zIA];omega
 have hb:Nat.ble (A.length+j+1) (PV.agg (A++zAt F m++B)).cells.length=true:=by rw [Nat.ble_eq];exact hZ
 have h2:((A++zAt F m++B).drop (A.length+j)).take 1=[I (F.getD j 0)]:=by
  rw [List.drop_eq_getElem_cons hZ]
  have:=zUV (A:=A) (B:=B) (F:=F) hj
  rw [List.getElem?_eq_getElem hZ] at this
  simp only [Option.some.injEq] at this
  rw [this];simp
 simp only [zMb,hb,cond_true,PV.isAgg]
 show some (true,zBA r pre i (A.length+j) (((A++zAt F m++B).drop (A.length+j)).take 1))=_
 rw [h2];rfl
theorem zVi {u:Int} (hj:j<m) (hF:F.length=m):(zAt F m).set j (I u)=zAt (F.set j u) m:=by
 rw [zF9 hF,zF9 (F:=F.set j u) (by simpa using hF),List.map_set]
theorem zOe {u:Int} (hc:c'=A.length+j) (hj:j<m) (hF:F.length=m):zAx (.agg (A++zAt F m++B)) c' [I u] = .agg (A++zAt (F.set j u) m++B):=by
 subst hc
 have hZ:A.length+j<(A++zAt F m++B).length:=by rw [List.length_append,List.length_append,zIA];omega
 have e:(A++zAt F m++B).take (A.length+j)++[I u]++(A++zAt F m++B).drop (A.length+j+1)=(A++zAt F m++B).set (A.length+j) (I u):=by
  rw [List.set_eq_take_append_cons_drop,if_pos hZ];simp
 simp only [zAx,List.length_singleton,e]
 rw [List.append_assoc,List.set_append_right _ _ (by omega),Nat.add_sub_cancel_left,List.set_append_left _ _ (by rw [zIA];exact hj),zVi hj hF,List.append_assoc]
theorem zOk (hc:c'=A.length+j) (hj:j<m) {q:PV}:Nat.ble (c' + [q].length) (PV.agg (A++zAt F m++B)).cells.length=true:=by
 subst hc;rw [Nat.ble_eq];show _≤(A++zAt F m++B).length;rw [List.length_append,List.length_append,zIA];simp;omega
theorem zVI (hj:j<m):sub (.agg (zAt F m)) j none=some (I (F.getD j 0)):=by
 simp only [sub,zSd hj]
theorem zEY (hc:c'=j) (hj:j<m):zMb r pre i c' 1 (.agg (zAt F m))=some (true,[I (F.getD j 0)]):=by
 have:=zKz (A:=[]) (B:=[]) (F:=F) (r:=r) (pre:=pre) (i:=i) (c':=c') (by simpa using hc) hj
 simpa using this
theorem zNb {u:Int} (hc:c'=j) (hj:j<m) (hF:F.length=m):zAx (.agg (zAt F m)) c' [I u] = .agg (zAt (F.set j u) m):=by
 have:=zOe (A:=[]) (B:=[]) (F:=F) (u:=u) (c':=c') (by simpa using hc) hj hF
 simpa using this
theorem zNq (hc:c'=j) (hj:j<m) {q:PV}:Nat.ble (c' + [q].length) (PV.agg (zAt F m)).cells.length=true:=by
 have:=zOk (A:=[]) (B:=[]) (F:=F) (q:=q) (c':=c') (by simpa using hc) hj
 simpa using this
theorem zTz {n:Nat} (hj:j<m) (hn:Nat.beq n 1=true:=by kernel_rfl):sub (.agg (zAt F m)) (j*n) none=some (I (F.getD j 0)):=by
 rw [Nat.eq_of_beq_eq_true hn,Nat.mul_one];exact zVI hj
end
section
variable {l:List Int} {r i c c' k:Nat} {pre:zAR}
theorem zI5:∀ (l:List Int) (c:Nat),zBA r pre i c (l.map I)=l.map I
 | [],_=>rfl
 | x::l,c=>by simp only [List.map_cons,zBA,zI5 l (c+1)];rfl
theorem zWM (hc:c'=c) (h:c+k≤l.length):zMb r pre i c' k (.agg (l.map I))=some (true,((l.drop c).take k).map I):=by
 subst hc
 have hb:Nat.ble (c'+k) (PV.agg (l.map I)).cells.length=true:=by rw [Nat.ble_eq];simpa [PV.cells] using h
 simp only [zMb,hb,cond_true,PV.isAgg]
 show some (true,zBA r pre i c' (((l.map I).drop c').take k))=_
 rw [← List.map_drop,← List.map_take,zI5]
theorem zUP {K:Nat} (hc:c'=c) (h:c+K≤l.length) (hk:Nat.beq k K=true):zMb r pre i c' k (.agg (l.map I))=some (true,((l.drop c).take K).map I):=by rw [Nat.eq_of_beq_eq_true hk];exact zWM hc h
theorem zUO {K m:Nat} (hl:l.length=m) (hc:c'=c) (h:c+K≤m) (hk:Nat.beq k K=true):zMb r pre i c' k (.agg (zAt l m))=some (true,zAt ((l.drop c).take K) K):=by
 rw [zF9 hl,zUP (K:=K) hc (by omega) hk,zF9 (F:=(l.drop c).take K) (by rw [List.length_take,List.length_drop];omega)]
theorem zQ9 {P:Program} {t:TypeId} {l m:List Int} (k:Nat) (hl:l.length=k) (hm:m.length=k) (h:zLH P t k=true:=by kernel_rfl):zH4 P .neq t (.agg (zAt l k)) (.agg (zAt m k))=some (.bool (!decide (l=m))):=by
 rw [zF9 hl,zF9 hm];exact zU1 k hl hm h
end
end Go.Eng
namespace Go.Eng
open Go
theorem zB0 {a b m k M:Nat} (h:Nat.beq m M=true) (h2:Nat.beq k 1=true):a*m+b*k=a*M+b:=by rw [Nat.eq_of_beq_eq_true h,Nat.eq_of_beq_eq_true h2,Nat.mul_one]
theorem zB8 {a m M:Nat} (h:Nat.beq m M=true):a*m=a*M:=by rw [Nat.eq_of_beq_eq_true h]
theorem zCa {a b m k M:Nat} (h:Nat.beq m M=true) (h2:Nat.beq k 1=true):0+a*m+b*k=a*M+b:=by rw [Nat.zero_add];exact zB0 h h2
theorem zB5 {a m M:Nat} (h:Nat.beq m M=true):0+a*m=a*M:=by rw [Nat.zero_add];exact zB8 h
theorem zBV {α:Type} {g:α→PV} {l:List α} {u:α} {y:PV} (h:g u=y):l.map g++[y]=(l++[u]).map g:=by rw [← h,List.map_append];rfl
def zUq (P:Program) (e:Env) (o:Oper):Option (Nat×PV×PV) :=
 match o.op,o.dst with
 | .call c,none=>match c.callee,c.args.toList,c.argTypes.toList with
  | .builtin .clear,[x],t::_=>match (zBU P t).bind (zCJ P),(zBU P t).bind (szT P) with
   | some q,some s=>some (s,q,zX0 e x)
   | _,_=>none
  | _,_,_=>none
 | _,_=>none
section
variable [Yo] {P:Program} {H:zBf} {f:FuncId} {i:Nat} {c:Code} {R:Env→Option Log→Prop}
theorem zRl {α:Type} {g:α→PV} {pre:zAR} (put':PV→PV) (r s lo n:Nat) (l:List α) (u:α) {st:RS} (kd:lo+n≤l.length) (hu:(g u).plain=true∧(g u).cells.length=s) (hy:∀ x,zX2 s (g x) (g u)) (L:zSx pre put')
  (h:WS P H f c (i+1) ⟨none,st.e.set r (put' (.own s ((l.take lo++List.replicate n u++l.drop (lo+n)).map g))),none⟩ R) (he:st.e.get r=put' (.own s (l.map g)):=by kernel_rfl) (ho:zUq P st.e (zEi c i)=some (s,g u,.bor r pre s lo n):=by kernel_rfl) (hs:Nat.blt 0 s=true:=by kernel_rfl)
  (jx:st.dr=none:=by kernel_rfl) (wR:st.lg=none:=by kernel_rfl) (hg:zNW c i st.e=true:=by kernel_rfl) (hi:Nat.blt i (zFk c).size=true:=by kernel_rfl):WS P H f c i st R:=by
 obtain ⟨dr,e,lg⟩:=st
 simp only at jx h he ho hg wR
 subst jx;subst wR
 obtain ⟨e',g1,g2,g3⟩:=zJs L he (j:=lo) (ys:=List.replicate n (g u)) (by simpa using kd) fun a x y hx wG=>by
  rw [List.getElem?_map] at hx
  obtain ⟨x',_,rfl⟩:=Option.map_eq_some_iff.1 hx
  obtain ⟨hn,hy2⟩:=List.getElem?_eq_some_iff.1 wG
  rw [List.getElem_replicate] at hy2
  subst hy2
  obtain ⟨_,_,h3,h4,h5,h6⟩:=hy x'
  exact ⟨h3,h4,h5,h6⟩
 have yW:∀ t,e'.get t=(e.set r (put' (.own s ((l.take lo++List.replicate n u++l.drop (lo+n)).map g)))).get t:=fun t=>by
  rw [Env.get_set]
  split
  ·rename_i h;subst h;rw [g1];simp
  ·rename_i h;exact g2 t h
 refine zXi (s:=⟨none,e,none⟩) (e':=e') ⟨0,fun m _=>?_⟩ (zW3 h fun t=>yW t) rfl rfl hg hi
 show (opM P H _ _ _ (zEi c i)).run _ e=_
 generalize zEi c i=o at ho
 cases hop:o.op<;>simp only [zUq,hop] at ho<;>try (cases ho;done)
 rename_i cc
 cases jt:o.dst<;>rw [jt] at ho<;>simp only at ho<;>try (cases ho;done)
 split at ho
 ·rename_i x t ts hc ha hT
  split at ho
  ·rename_i q s' hq jC
   simp only [Option.some.injEq,Prod.mk.injEq] at ho
   obtain ⟨rfl,rfl,hx⟩:=ho
   simp only [opM,hop,zKv,hc,ha,hT,zBt,jt]
   rw [zVF hx (by simp)]
   simp only [zRJ,hs,Nat.beq_refl,hu.1,hu.2,Bool.and_self,cond_true,hq,jC]
   rw [g3];rfl
  ·cases ho
 ·cases ho
end
end Go.Eng
namespace Go.Eng
open Go
section
variable [Yo] {P:Program} {H:zBf} {f:FuncId} {nt:Nat} {c:Code} {e:Env} {lg:Option Log} {K:X→Env→Option Log→Prop}
end
end Go.Eng
namespace Go.Eng
open Go
theorem zOI [Yo] {P:Program} {H:zBf} {f:FuncId} {nt:Nat} {e:Env} {lg:Option Log} {K:X→Env→Option Log→Prop} {σ:Type} {c:Code} {t g:Nat} {first caps:List PV} {xs:List (List PV)} (hY:zFY g first caps xs) (Inv:Nat→σ→Prop) (upd:σ→List (Nat×PV)) (s:σ) (hi:Inv 0 s)
  (h:∀ j x s,xs[j]? = some x→Inv j s→zLy P H f nt (zWr c) (rgA c) (rgB c) x (zLI (upd s) e) fun y e3=>match y with
   | .norm=>∃ s',Inv (j+1) s'∧after nt [] (zVJ c) (zLI (upd s) e) e3=zLI (upd s') e
   | y=>K y (after nt [] (zVJ c) (zLI (upd s) e) e3) none) (hK:∀ s,Inv xs.length s→K .norm (zLI (upd s) e) none) (hs:e=zLI (upd s) e:=by kernel_rfl) (yO:zDM e t=some (g,first,caps,[]):=by kernel_rfl) (hc:rgT c=some t:=by kernel_rfl) (hl:lg=none:=by kernel_rfl):W P H f nt c e lg K :=
 zUN (t:=t) hY Inv (fun s=>zLI (upd s) e) s hi h hK hs yO hc hl
end Go.Eng
namespace Go.Eng
open Go
theorem zSx.field (A B:List PV):zSx [(0,A.length)] (fun q => .box (.agg (A++q::B))):=fun f z xs=>by
 have h1:(A++PV.own z xs::B)[A.length]? = some (.own z xs):=by simp
 simp only [zAu,zAW,List.getElem?_cons_zero,PV.cells,h1]
 cases f (.own z xs) with
 | none=>rfl
 | some q=>simp [zAC,zAx]
end Go.Eng
namespace Go.Eng
open Go
theorem zFP (l:List Int):zAA (l.map I)=l.map I:=zA4 l
theorem zH1 (k:IntKind) (l:List Int):zAA (l.map (PV.int k))=l.map (PV.int k):=zA4 l
theorem zET (l:List Bool):zAA (l.map PV.bool)=l.map PV.bool:=zA4 l
theorem zBn {α:Type} {g g':α→PV} (l:List α) (h:∀ x,zAS (g x)=g' x:=by intro x;simp only [zAS,zAA,zFP,zET,zH1]):zAA (l.map g)=l.map g':=by
 induction l with
 | nil=>rfl
 | cons x l ih=>simp only [List.map_cons,zAA,h,ih]
theorem zBF {xs ys:List PV} (h:zAA xs=ys):zAA ((xs.drop 0).take xs.length)=ys:=by rw [List.drop_zero,List.take_length];exact h
theorem zUC {r z:Nat} {xs ys:List PV} (h:zAA xs=ys):PV.mapW (inl r [] (.own z xs)) (.bor r [] z 0 xs.length) = .sl ys:=by
 have e:zAJ r [] r []=true:=by simp [zAJ]
 have e2:Nat.ble (0+xs.length) xs.length=true:=by simp
 simp only [PV.mapW,inl,e,cond_true]
 show zGk (zAy (.own z xs) []) (zCC 0 xs.length)=_
 simp only [zAy,zGk,zCC,e2,cond_true]
 rw [zBF h]
def zRf (P:Program) (t:TypeId) (k1 k2:IntKind):Bool := !P.eqGuardType P.depth t && !P.stoodInHeld t&&match P.underlying t with
  | some (.struct fs)=>match fs.toList with
    | [f1, f2] => !decide (f1.name = "_") && !decide (f2.name = "_") && decide (shT P f1.type = some none) && decide (shT P f2.type = some none) && decide (f1.offset = 0) && decide (f2.offset = 1) &&
      (match P.underlying f1.type with | some (.int k)=>decide (k=k1) | _=>false)&&(match P.underlying f2.type with | some (.int k)=>decide (k=k2) | _=>false)
    | _=>false
  | _=>false
theorem zVs {P:Program} {t:TypeId} {k1 k2:IntKind} {a b c d:Int} (h:zRf P t k1 k2=true):eqV P t (.agg [.int k1 a,.int k2 b]) (.agg [.int k1 c,.int k2 d])=some (decide (a=c)&&decide (b=d)):=by
 unfold zRf at h
 rw [Bool.and_eq_true,Bool.and_eq_true] at h
 obtain ⟨⟨h1,h2⟩,h3⟩:=h
 split at h3
 ·rename_i fs hu
  split at h3
  ·rename_i f1 f2 hl
   simp only [Bool.and_eq_true,decide_eq_true_eq,Bool.not_eq_true',decide_eq_false_iff_not] at h1 h2 h3
   obtain ⟨⟨⟨⟨⟨⟨⟨n1,n2⟩,s1⟩,s2⟩,o1⟩,o2⟩,u1⟩,u2⟩:=h3
   split at u1
   ·rename_i k1' jN
    split at u2
    ·rename_i k2' wX
     simp only [decide_eq_true_eq] at u1 u2
     subst u1;subst u2
     simp only [eqV,h1,cond_false,eqT,hu,h2,hl,zVc,n1,n2,s1,s2,o1,o2,sub,jN,wX,if_true,if_false,List.getElem?_cons_zero,List.getElem?_cons_succ]
     by_cases e1:a=c
     ·subst e1
      by_cases e2:b=d
      ·subst e2;simp
      ·simp [e2]
     ·simp [e1]
    ·cases u2
   ·cases u1
  ·cases h3
 ·cases h3
theorem zR5 {P:Program} {t:TypeId} {k1 k2:IntKind} {a b c d:Int} (h:zRf P t k1 k2=true:=by kernel_rfl):zH4 P .neq t (.agg [.int k1 a,.int k2 b]) (.agg [.int k1 c,.int k2 d])=some (.bool (!(decide (a=c)&&decide (b=d)))):=by
 simp only [zH4,zVs h,Option.map_some]
section
variable {α:Type} {g:α→PV} {l:List α} {i z:Nat} {b:PV}
end
def zIf (P:Program) (t:TypeId):Bool:=match P.underlying t with | some (.slice _)=>true | _=>false
theorem zU5 {P:Program} {t:TypeId} {p:PV} {z:Nat} (he:zEX p=true) (hp:(match p with | .nils _=>false | .agg _=>false | _=>true)=true:=by rfl) (h:zIf P t=true:=by kernel_rfl):eqV P t p (.nils z)=some false:=by
 unfold zIf at h
 split at h
 ·rename_i e hu
  unfold eqV
  rw [hu]
  cases p<;>first | (cases hp;done) | simp only [he,cond_true]
 ·cases h
theorem zST {P:Program} {t:TypeId} {p:PV} {z:Nat} (he:zEX p=true) (hp:(match p with | .nils _=>false | .agg _=>false | _=>true)=true:=by rfl) (h:zIf P t=true:=by kernel_rfl):(eqV P t p (.nils z)).map PV.bool=some (.bool false):=by rw [zU5 he hp h];rfl
theorem zBx {xs:List PV}:List.take xs.length (List.drop 0 xs)=xs:=by rw [List.drop_zero,List.take_length]
def zWe [Yo] (P:Program) (H:zBf) (f:FuncId) (fn:Func) (nh:Nat) (Q:PV→List PV→Prop) (x:X) (e:Env) (lg:Option Log):Prop:=∃ v h,zTN P H f fn nh v h x e lg∧Q v h
section
variable [Yo] {P:Program} {H:zBf} {f:FuncId} {e:Env} {lg:Option Log}
theorem E_q {fn:Func} {nh:Nat} {Q:PV→List PV→Prop} {x:X} (as:Ans) {obs:List Prop} (ho:zSt obs) (v':PV) (h':List PV) (hQ:Q v' h') (hf:zLb P H f fn as e nh=some ((v',h'),obs):=by kernel_rfl) (hl:lg=none:=by kernel_rfl) (hx:x = .norm∨x = .ret:=by first | exact .inr rfl | exact .inl rfl):zWe P H f fn nh Q x e lg:=⟨v',h',E_a as ho v' h' rfl rfl hf hl hx,hQ⟩
theorem zMp (fn:Func) {args hid:List PV} (Q:PV→List PV→Prop) (h:W P H f fn.ntmps (fn.body.getD .ret) (zA3 args hid) none (zWe P H f fn hid.length Q)) (hf:P.funcs[f]? = some fn:=by kernel_rfl) (hi:(H f).intr=0:=by kernel_rfl) (hb:fn.body.isSome=true:=by kernel_rfl)
  (hc:(Nat.ble args.length fn.ntmps&&Nat.ble hid.length 1000&&args.all (fun p => !p.isTup))=true:=by kernel_rfl):∃ v h,zBD P H f args hid v h∧Q v h:=by
 obtain ⟨n0,x,e1,lg1,h1,v,h',h2,h3⟩:=h
 exact ⟨v,h',zAe fn ⟨n0,x,e1,lg1,h1,h2⟩ hf hi hb hc,h3⟩
end
theorem zTC {α:Type} {g:α→PV} {l:List α} (h:0<l.length):zEX (.sl (l.map g))=true:=by
 cases l with
 | nil=>exact absurd h (Nat.lt_irrefl _)
 | cons x l=>rfl
theorem zNz {P:Program} {t:TypeId} {z:Nat} {α:Type} {g:α→PV} {l:List α} (hp:0<l.length) (h:zIf P t=true:=by kernel_rfl):zH4 P .eql t (.sl (l.map g)) (.nils z)=some (.bool false):=by
 have:=zST (P:=P) (t:=t) (z:=z) (zTC (g:=g) hp) rfl h
 simpa [zH4] using this
class FrzOf {α:Type} (g:α→PV) (g':outParam (α→PV)):Prop where
 frz:∀ x,zAS (g x)=g' x
theorem zBB {α:Type} {g g':α→PV} [h:FrzOf g g'] (l:List α):zAA (l.map g)=l.map g':=zBn l h.frz
section
variable {α:Type} {g:α→PV} {l:List α} {i z:Nat} {b:PV} {u0:α}
theorem zT5 (h:i<(l.set i u0).length):((l.set i u0).map g)[i]? = some (g u0):=by simp only [List.length_set] at h;simp [h]
end
end Go.Eng
namespace Go.Eng
open Go
theorem zWp [Yo] {P:Program} {H:zBf} {f:FuncId} {nt:Nat} {e:Env} {lg:Option Log} {K:X→Env→Option Log→Prop} {σ:Type} {c:Code} (Inv:σ→Prop) (upd:σ→List (Nat×PV)) (D:List Nat) (h1:W P H f nt (cl c) e lg fun x e' lg'=>match x with
   | .norm=>∃ s,Inv s∧e'=zLI (upd s) (e.drop D)∧lg'=lg
   | x=>K x e' lg') (h2:∀ s,Inv s→W P H f nt (cr c) (zLI (upd s) (e.drop D)) lg K) (hc:zTu c=true:=by kernel_rfl):W P H f nt c e lg K :=
 zAh (zSj h1 fun x e' lg' h=>by
  cases x with
  | norm=>obtain ⟨s,hs,rfl,rfl⟩:=h;exact h2 s hs
  | _=>exact h) hc
theorem blz (l:List PV):(0+l.length).ble l.length=true:=by rw [Nat.zero_add];exact Nat.ble_self_eq_true _
theorem frT {α:Type} (g:α→PV) (l:List α) (h:∀ x,zAS (g x)=g x:=by intro x;simp only [zAS,zAA,zFP,zET,zH1]):PV.sl (zAA (List.take (List.map g l).length (List.drop 0 (List.map g l))))=PV.sl (List.map g l):=zSr (zBF (zBn l h))
theorem lnS {α:Type} (g:α→PV) (l:List α):some (List.map g l).length=some l.length:=by rw [List.length_map]
theorem wrN (i:Nat) (h:(i:Int)+1<9223372036854775808:=by omega):PV.int IntKind.i64 (IntKind.i64.wrap ((i:Int)+1))=PV.int IntKind.i64 ((i+1:Nat):Int):=zCq (by omega) (by omega)
theorem zAd [Yo] {P:Program} {H:zBf} {f:FuncId} {nt:Nat} {e:Env} {lg:Option Log} {K:X→Env→Option Log→Prop} {c:Code} (m:Nat) (h:WS P H f (cl c) (0+m) (zVO (zHF P H f (cl c) m 0 {dr:=bif zQs (cl c) then some ([],[]) else none,e:=e,lg:=lg})) (zXh P H f nt (cr c) K .norm)) (h1:zTu c=true:=by kernel_rfl) (h2:zUX (cl c)=true:=by kernel_rfl) (h3:(zHF P H f (cl c) m 0 {dr:=bif zQs (cl c) then some ([],[]) else none,e:=e,lg:=lg}).isSome=true:=by kernel_rfl) (h4:(0+m).ble (zFk (cl c)).size=true:=by kernel_rfl):W P H f nt c e lg K:=zAh (zAg (zAc m h h3 h4) h2) h1
abbrev zs (F:List Int) (i k:Nat):PV:=PV.int IntKind.i64 ((F.set i (i:Int)).getD k 0)
end Go.Eng
