/- For whatever news and notice, the law NewsChecks returns true and changes no argument: the error of news, chains and the notices in force are as the reference tells them. -/
import Derived.Test.YtppbomajegnkeaaPc
import Derived.Test.YtppbomajegnkeaaPa
import Derived.KernelRfl
import Derived.IntWalk
set_option linter.unusedVariables false
set_option linter.unusedSimpArgs false
set_option linter.unusedSectionVars false
namespace Go.Eng
open Go
section
variable {P:Program} {H:zBc} {w0 w:World} {U Φ0 Φ:Nat→Prop} {nt:Nat} {hv:Hid} {a:Act} {e e':Env} {rv:Nat→Value} {E:Nat→PV} {L:Nat→List Nat} {o:zAA}
theorem zU1 (S:St w0 U Φ0 nt hv a w e Φ rv E L) {g:Nat} (hg:zAb≤g) {k:PV→PM} {k2:PM} (h:(zQ5 (E g) k k2).run o e=some e') :
  k2.run o e=some e'∨∃ e1 rv1 E1,(k (E1 g)).run o e1=some e'∧Worked w0 U Φ0 nt hv a w rv E g e1 rv1 E1:=by
 have hO:=S.conf.rep g
 have fin:∀ {r:Nat} {pre:zAO} {q root p':PV} (hr:r<zAb) (yC:(E r).unlock=E r) (hq:zAw (E r) pre=some q) (h1:q.oneCell=true) (hm:zAs (fun _=>some .bad) (E r) pre=some root),
   (E g).oneCell=true→p'.oneCell=true→(∀ nv Li,zAM w (rv r) (E r) pre=some (nv,q)→Rep w Φ (zAW w rv E) q nv Li→Li.Nodup→∃ Lg,Rep w Φ (zAW w rv E) p' (rv g) Lg∧Lg.Nodup∧∀ b∈Lg,b∈Li) →
   (k p').run o (e.set r root)=some e'→∃ e1 rv1 E1,(k (E1 g)).run o e1=some e'∧Worked w0 U Φ0 nt hv a w rv E g e1 rv1 E1:=by
  intro r pre q root p' hr yC hq h1 hm uP jc y6 hk
  obtain ⟨kk1,kk2⟩:=zBA (q' := .bad) rfl rfl hm
  obtain ⟨nv,Li,g1,g2,g3,g4,g5⟩:=S.taken hg hr yC hq h1 hm kk1 kk2
  obtain ⟨Lg,p1,p2,p3⟩:=y6 nv Li g1 g2 g3
  obtain ⟨L',S1,v5⟩:=g5 p' (rv g) Lg p1 p2 (fun b hb => .inl (p3 b hb))
  have jU:∀ s,upd rv g (rv g) s=rv s:=fun s=>by
   by_cases hs:s=g
   ·subst hs;rw [zAk]
   ·rw [zAe hs]
  refine ⟨_,_,_,by rw [zAk];exact hk,⟨⟨_,_,S1⟩,jU g,fun s _=>jU s,fun s hs hI=>⟨by rw [zAe hI,zAe (by omega)],jU s⟩,?_,?_⟩⟩
  ·rw [zAk,(zBd jc).2,(zBd uP).2]
  ·rw [zAk,(zBd jc).1,(zBd uP).1];rfl
 generalize hE:E g=p at h
 rw [hE] at hO
 simp only [zQ5] at h
 split at h
 ·rename_i r pre z lo n
  obtain ⟨q,hq,h1⟩:=zBz h
  obtain ⟨_,hr,⟨b,cap,yD,_⟩,hn⟩:=hO
  split at h1
  ·rename_i sz xs
   cases hc:Nat.ble (lo+n) xs.length with
   | false=>rw [hc] at h1;exact .inl h1
   | true =>
    rw [hc] at h1;simp only [cond_true] at h1
    obtain ⟨root,hl,hm,h2⟩:=zBI h1
    have yC:=zBt hl
    rw [yC,← S.env r hr] at hq
    rw [← S.env r hr] at yC hm
    refine .inr (fin hr yC hq rfl hm (by rw [hE];rfl) rfl (fun nv Li hf uR yW=>?_) h2)
    obtain ⟨s2,xs2,q1,q2,q3⟩:=hn nv _ (by rw [yC];exact hf) rfl
    cases q1;subst q2
    obtain ⟨Lg,p1,p2,p3⟩:=zIl uR (Nat.le_of_ble_eq_true hc) q3
    exact ⟨Lg,p1,p3 yW,p2⟩
  ·exact .inl h1
 ·rename_i r pre sh
  obtain ⟨q,hq,h1⟩:=zBz h
  obtain ⟨_,hr,b,yD,yZ,hn⟩:=hO
  split at h1
  ·rename_i q
   obtain ⟨root,hl,hm,h2⟩:=zBI h1
   have yC:=zBt hl
   rw [yC,← S.env r hr] at hq
   rw [← S.env r hr] at yC hm
   refine .inr (fin hr yC hq rfl hm (by rw [hE];rfl) rfl (fun nv Li hf uR yW=>?_) h2)
   refine ⟨Li,?_,yW,fun b hb=>hb⟩
   have hrp':=uR
   obtain ⟨x,c,u,L',h3,h4,h5,_⟩:=hrp'
   have h6:nv=rv g:=by
    rw [yD,h4]
    have:=hn nv _ (by rw [yC];exact hf) x (by rw [h4];cases x;simp_all [zAZ,zAp])
    rw [this]
   rw [← h6];exact uR
  ·exact .inl h1
 ·rename_i r pre
  obtain ⟨q,hq,h1⟩:=zBz h
  obtain ⟨_,hr,⟨b,yD⟩,hn⟩:=hO
  split at h1
  ·rename_i es
   obtain ⟨root,hl,hm,h2⟩:=zBI h1
   have yC:=zBt hl
   rw [yC,← S.env r hr] at hq
   rw [← S.env r hr] at yC hm
   refine .inr (fin hr yC hq rfl hm (by rw [hE];rfl) rfl (fun nv Li hf uR yW=>⟨Li,?_,yW,fun b hb=>hb⟩) h2)
   rw [hn nv _ (by rw [yC];exact hf) _ rfl];exact uR
  ·exact .inl h1
 ·exact .inl h
theorem zL0 (S:St w0 U Φ0 nt hv a w e Φ rv E L) {g:Nat} (hg:zAb≤g) {frz:Bool} {k:PV→PM} (h:(zFz frz (E g) k).run o e=some e'):∃ e1 rv1 E1,(k (E1 g)).run o e1=some e'∧Worked w0 U Φ0 nt hv a w rv E g e1 rv1 E1:=by
 have iced:(zLt zAn zDn (E g) k).run o e=some e'→∃ e1 rv1 E1,(k (E1 g)).run o e1=some e'∧Worked w0 U Φ0 nt hv a w rv E g e1 rv1 E1:=by
  intro h
  obtain ⟨e1,Φ1,E1,L1,h1,S1,h2,h3,h4,h5,h6,h7⟩:=zIW (hb:=zAn) hg (by decide) zDn S h
  exact ⟨e1,rv,E1,h1,⟨⟨_,_,S1⟩,rfl,fun _ _=>rfl,fun s hs hI=>⟨h3 s hs hI,rfl⟩,h6,h7⟩⟩
 simp only [zFz] at h
 cases hc:(frz||(E g).ways.any fun w=>Nat.ble zAn w.1) with
 | true=>rw [hc] at h;exact iced h
 | false =>
  rw [hc] at h;simp only [cond_false] at h
  rcases zU1 S hg h with h | h
  ·exact iced h
  ·exact h
theorem zKu {frz:Bool}:∀ (ps:List PV) (i:Nat) {k:List PV→PM} {e:Env} {Φ:Nat→Prop} {rv:Nat→Value} {E:Nat→PV} {L:Nat→List Nat},St w0 U Φ0 nt hv a w e Φ rv E L→(∀ (j:Nat) (p:PV),ps[j]? = some p→E (zAb+i+j)=p)→(zCk frz ps k).run o e=some e' →
  ∃ e1 Φ1 rv1 E1 L1 qs,(k qs).run o e1=some e'∧St w0 U Φ0 nt hv a w e1 Φ1 rv1 E1 L1∧qs.length=ps.length∧(∀ (j:Nat) (q:PV),qs[j]? = some q→E1 (zAb+i+j)=q∧rv1 (zAb+i+j)=rv (zAb+i+j)) ∧
   (∀ s,s<zAb→rv1 s=rv s)∧∀ s,zAb≤s→(s<zAb+i∨zAb+i+ps.length≤s)→E1 s=E s∧rv1 s=rv s
 | [],i,k,e,Φ,rv,E,L,S,hp,h=>⟨e,Φ,rv,E,L,[],h,S,rfl,by simp,fun _ _=>rfl,fun _ _ _=>⟨rfl,rfl⟩⟩
 | p :: ps,i,k,e,Φ,rv,E,L,S,hp,h=>by
  simp only [zCk] at h
  have hE:=hp 0 p rfl
  simp only [Nat.add_zero] at hE
  rw [← hE] at h
  obtain ⟨e1,rv1,E1,h1,W⟩:=zL0 S (g:=zAb+i) (by omega) h
  obtain ⟨Φ1,L1,S1⟩:=W.st
  obtain ⟨e2,Φ2,rv2,E2,L2,qs,h2,S2,h3,h4,h5,h6⟩:=zKu ps (i+1) S1 (fun j q hq=>by
   rw [(W.rest _ (by omega) (by omega)).1,show zAb+(i+1)+j=zAb+i+(j+1) by omega];exact hp (j+1) q (by simpa using hq)) h1
  refine ⟨e2,Φ2,rv2,E2,L2,E1 (zAb+i)::qs,h2,S2,by simp [h3],fun j q hq=>?_,fun s hs=>(h5 s hs).trans (W.low s hs),fun s hs jm=>?_⟩
  ·cases j with
   | zero =>
    simp at hq;subst hq
    obtain ⟨k1,k2⟩:=h6 (zAb+i) (by omega) (.inl (by omega))
    simp only [Nat.add_zero]
    exact ⟨k1,k2.trans W.val⟩
   | succ j =>
    obtain ⟨k1,k2⟩:=h4 j q (by simpa using hq)
    rw [show zAb+(i+1)+j=zAb+i+(j+1) by omega] at k1 k2
    exact ⟨k1,k2.trans (W.rest _ (by omega) (by omega)).2⟩
  ·obtain ⟨k1,k2⟩:=h6 s hs (by simp at jm;omega)
   obtain ⟨k3,k4⟩:=W.rest s hs (by simp at jm;omega)
   exact ⟨k1.trans k3,k2.trans k4⟩
theorem zKd (C:Conf w0 U Φ0 w Φ rv E L):∀ (qs:List PV) (vs:List Value) (i:Nat),vs.length=qs.length→(∀ (j:Nat) (q:PV) (v:Value),qs[j]? = some q→vs[j]? = some v→E (i+j)=q∧rv (i+j)=v) →
  ∃ Lp,zAS w Φ (zAW w rv E) qs vs Lp∧Lp.Nodup∧∀ b∈Lp,∃ t,i≤t∧t<i+qs.length∧b∈L t
 | [],vs,i,hl,h=>by
  have:vs=[]:=List.eq_nil_of_length_eq_zero (by simpa using hl)
  subst this;exact ⟨[],⟨rfl,rfl⟩,List.nodup_nil,by simp⟩
 | q :: qs,vs,i,hl,h=>by
  match vs,hl,h with
  | v :: vs,hl,h =>
   obtain ⟨h1,h2⟩:=h 0 q v rfl rfl
   simp only [Nat.add_zero] at h1 h2
   obtain ⟨Lp,k1,k2,k3⟩:=zKd C qs vs (i+1) (by simpa using hl) fun j q' v' hq hv=>by
    rw [show i+1+j=i+(j+1) by omega];exact h (j+1) q' v' (by simpa using hq) (by simpa using hv)
   have hr:=C.rep i
   rw [h1,h2] at hr
   refine ⟨L i++Lp,⟨v,vs,_,_,rfl,rfl,hr,k1⟩,?_,fun b hb=>?_⟩
   ·rw [List.nodup_append]
    refine ⟨C.nodup i,k2,fun x hx y hy e=>?_⟩
    obtain ⟨t,k4,k5,k6⟩:=k3 y hy
    exact C.disj i t (by omega) x hx (e▸k6)
   ·rcases List.mem_append.1 hb with hb | hb
    ·exact ⟨i,Nat.le_refl _,by simp,hb⟩
    ·obtain ⟨t,k4,k5,k6⟩:=k3 b hb
     exact ⟨t,by omega,by simp;omega,k6⟩
theorem zLS (S:St w0 U Φ0 nt hv a w e Φ rv E L) {j g:Nat} (hj:j<1000) (hg:zAb≤g) (hb:∀ s,zAb≤s→s≠g→E s = .bad) {k:PM} (h:(lay (zAx+j) (E g) k).run o e=some e') :
  ∃ e1 E1 L1,k.run o e1=some e'∧St w0 U Φ0 nt hv a w e1 Φ (upd rv (zAx+j) (rv g)) E1 L1∧zBi E1:=by
 have hh:zAn=50000000:=rfl
 have ho:zAx=60000000:=rfl
 have wL:zAb=1000000000:=rfl
 have jd:=S.small
 obtain ⟨e1,E1,L1,h1,C,h2,h3,h4,h5,h6⟩:=zQW S (d:=zAx+j) (by omega) hg h
 have u5:∀ d ps,d≠zAx+j→d<zAb→E1 d = .tup ps→∃ ps',E d = .tup ps'∧ps'.length=ps.length:=by
  intro d ps hd ua hp
  rcases h3 d hd ua with h7 | h7
  ·exact ⟨ps,by rw [← h7,hp],rfl⟩
  ·rw [h7] at hp;exact zDV (zIa _ _) hp
 refine ⟨e1,E1,L1,h1,⟨C,h2,S.size,S.small,fun t ht=>?_,fun d ps i hd hp hi=>?_,fun s h7 h8=>?_,S.dfr⟩,fun s hs=>?_⟩
 ·rw [zAe (by omega)];exact S.tmps t ht
 ·obtain ⟨ps',h7,h8⟩:=u5 d ps (by omega) (by omega) hp
  obtain ⟨h9,vs,jM,uz⟩:=S.parts d ps' i hd h7 (by omega)
  refine ⟨h9,vs,by rw [zAe (by omega)];exact jM,?_⟩
  rw [zAe (by simp only [zBl];omega)];exact uz
 ·rw [zAe (by omega)];exact S.hid s h7 h8
 ·by_cases y9:s=g
  ·subst y9;exact h5
  ·rcases h6 s hs y9 with h7 | h7
   ·rw [h7];exact hb s hs y9
   ·rw [h7,hb s hs y9];rfl
theorem zV5 (S:St w0 U Φ0 nt hv a w e Φ rv E L) (hb:zBi E) {frz:Bool} {j:Nat} (hj:j<1000) {p:PV} {v:Value} (hp:Rep w Φ (zAW w rv E) p v []) {k:PM} (h:(zGw frz p fun q=>lay (zAx+j) q k).run o e=some e') :
  ∃ e1 Φ1 rv1 E1 L1,k.run o e1=some e'∧St w0 U Φ0 nt hv a w e1 Φ1 rv1 E1 L1∧zBi E1∧rv1 (zAx+j)=v∧∀ s,s<zAb→s≠zAx+j→rv1 s=rv s:=by
 have ho:zAx=60000000:=rfl
 have wL:zAb=1000000000:=rfl
 have single:(zFz frz p fun q=>lay (zAx+j) q k).run o e=some e'→∃ e1 Φ1 rv1 E1 L1,k.run o e1=some e'∧St w0 U Φ0 nt hv a w e1 Φ1 rv1 E1 L1∧zBi E1∧rv1 (zAx+j)=v∧∀ s,s<zAb→s≠zAx+j→rv1 s=rv s:=by
  intro h
  have S1:=S.hold (g:=zAb) (Nat.le_refl _) hp
  obtain ⟨e1,rv1,E1,h1,W⟩:=zL0 S1 (g:=zAb) (Nat.le_refl _) (by rw [zAk];exact h)
  obtain ⟨Φ1,L1,S2⟩:=W.st
  obtain ⟨e2,E2,L2,h2,S3,qL⟩:=zLS S2 hj (Nat.le_refl zAb) (fun s hs hI=>by rw [(W.rest s hs hI).1,zAe hI];exact hb s hs) h1
  refine ⟨e2,Φ1,_,E2,L2,h2,S3,qL,?_,fun s hs hI=>?_⟩
  ·rw [zAk,W.val,zAk]
  ·rw [zAe hI,W.low s hs,zAe (by omega)]
 simp only [zGw] at h
 split at h
 ·rename_i cs
  obtain ⟨vs,rfl,hr⟩:=hp
  obtain ⟨rv1,E1,L1,S1,k1,k2,k3⟩:=zKP cs vs.toList 1 S hr
  have yP:=hr.length
  have yT:∀ (j:Nat) (p:PV),cs[j]? = some p→∃ v,vs.toList[j]? = some v:=fun j p hj=>⟨_,List.getElem?_eq_getElem (by have:=(List.getElem?_eq_some_iff.1 hj).1;omega)⟩
  obtain ⟨e2,Φ2,rv2,E2,L2,qs,h2,S2,h3,h4,h5,h6⟩:=zKu cs 1 S1 (fun j p hjp=>by
   obtain ⟨v,yD⟩:=yT j p hjp
   exact (k2 j p v hjp yD).1) h
  have vC:∀ s,zAb≤s→(s<zAb+1∨zAb+1+cs.length≤s)→E2 s = .bad:=fun s hs jm=>by
   rw [(h6 s hs jm).1,(k3 s hs jm).1];exact hb s hs
  have gH:∀ (j:Nat) (q:PV) (v:Value),qs[j]? = some q→vs.toList[j]? = some v→E2 (zAb+1+j)=q∧rv2 (zAb+1+j)=v:=fun j q v hq yD=>by
   obtain ⟨m1,m2⟩:=h4 j q hq
   have kA:j<cs.length:=by have:=(List.getElem?_eq_some_iff.1 hq).1;omega
   have:=k2 j _ v (List.getElem?_eq_getElem kA) yD
   exact ⟨m1,m2.trans this.2.1⟩
  obtain ⟨Lp,r1,r2,r3⟩:=zKd S2.conf qs vs.toList (zAb+1) (by omega) gH
  have hG:∀ s,decide (zAb+1≤s∧s<zAb+1+cs.length)=true↔zAb+1≤s∧s<zAb+1+cs.length:=fun s=>decide_eq_true_iff
  have hc:=S2.conf.make (w':=w) (fun s=>decide (zAb+1≤s∧s<zAb+1+cs.length)) (fun s hs=>by have:=(hG s).1 hs;omega) (g:=zAb) (Nat.le_refl _) (p := .agg qs) (v := .agg vs) (Lp:=Lp)
   (fun A hA=>⟨vs,rfl,r1.mono zDe.refl hA (fun _ _=>rfl)⟩) r2 (fun b hb=>by
    obtain ⟨t,q1,q2,q3⟩:=r3 b hb
    exact .inl ⟨t,q3,(hG t).2 ⟨q1,by omega⟩⟩) (Nat.le_refl _) (fun _ _ _=>rfl) ⟨rfl,rfl,rfl⟩
  have yq:∀ s,s<zAb→decide (zAb+1≤s∧s<zAb+1+cs.length)=false:=fun s hs=>decide_eq_false (by omega)
  have S3:=S2.turn (e':=e2) hc (fun s hs=>by
   rw [zAe (by omega)]
   simp only [yq s hs,Bool.false_eq_true,if_false];exact S2.env s hs) (fun s hs=>zAe (by omega)) (fun d ps hd hp=>by
   rw [zAe (by omega)] at hp
   simp only [yq d (by omega),Bool.false_eq_true,if_false] at hp;exact ⟨ps,hp,rfl⟩)
  obtain ⟨e4,E4,L4,m1,S4,m2⟩:=zLS S3 hj (Nat.le_refl zAb) (fun s hs hI=>by
   rw [zAe hI]
   by_cases h7:s<zAb+1+cs.length
   ·simp only [(hG s).2 ⟨by omega,h7⟩,if_true]
   ·have:decide (zAb+1≤s∧s<zAb+1+cs.length)=false:=decide_eq_false (by omega)
    simp only [this,Bool.false_eq_true,if_false];exact vC s hs (by omega)) (by rw [zAk];exact h2)
  refine ⟨e4,Φ2,_,E4,L4,m1,S4,m2,?_,fun s hs hI=>?_⟩
  ·rw [zAk,zAk]
  ·rw [zAe hI,zAe (by omega),h5 s hs,(k1 s hs).2]
 ·exact single h
def zWA (nt:Nat):ResultVar→Bool
 | .tmp t=>Nat.blt t nt
 | .cell t _=>Nat.blt t nt
def zGQ (a:Act):ResultVar→Sem Value
 | .tmp t=>pure (a.tmps.getD t undef)
 | .cell t ty=>do loadVar ty (← asAddr (a.tmps.getD t undef))
theorem zML {frz:Bool}:∀ (rs:List ResultVar) (j:Nat) {e:Env} {Φ:Nat→Prop} {rv:Nat→Value} {E:Nat→PV} {L:Nat→List Nat},St w0 U Φ0 nt hv a w e Φ rv E L→zBi E→j+rs.length≤1000→(∀ x∈rs,zWA nt x=true)→(zCC P frz j rs).run o e=some e' →
  ∃ Φ1 rv1 E1 L1,St w0 U Φ0 nt hv a w e' Φ1 rv1 E1 L1∧zBi E1∧(∀ s,s<zAx+j→rv1 s=rv s)∧∀ (i:Nat) (x:ResultVar),rs[i]? = some x→(zGQ a x).run P w = .ok (rv1 (zAx+j+i)) w
 | [],j,e,Φ,rv,E,L,S,hb,hj,hr,h=>by
  simp only [zCC,PM.run,Option.some.injEq] at h;subst h
  exact ⟨Φ,rv,E,L,S,hb,fun _ _=>rfl,by simp⟩
 | x :: rs,j,e,Φ,rv,E,L,S,hb,hj,hr,h=>by
  have ho:zAx=60000000:=rfl
  have wL:zAb=1000000000:=rfl
  simp only [List.length_cons] at hj
  have hx:=hr x (by simp)
  have fin:∀ {p:PV} {v:Value},Rep w Φ (zAW w rv E) p v []→(zGQ a x).run P w = .ok v w→(zGw frz p fun q=>lay (zAx+j) q (zCC P frz (j+1) rs)).run o e=some e' →
    ∃ Φ1 rv1 E1 L1,St w0 U Φ0 nt hv a w e' Φ1 rv1 E1 L1∧zBi E1∧(∀ s,s<zAx+j→rv1 s=rv s)∧∀ (i:Nat) (y:ResultVar),(x::rs)[i]? = some y→(zGQ a y).run P w = .ok (rv1 (zAx+j+i)) w:=by
   intro p v hp yD h
   obtain ⟨e1,Φ1,rv1,E1,L1,h1,S1,y5,h2,h3⟩:=zV5 S hb (by omega) hp h
   obtain ⟨Φ2,rv2,E2,L2,S2,jZ,h4,h5⟩:=zML rs (j+1) S1 y5 (by omega) (fun y hy=>hr y (by simp [hy])) h1
   refine ⟨Φ2,rv2,E2,L2,S2,jZ,fun s hs=>(h4 s (by omega)).trans (h3 s (by omega) (by omega)),fun i y hy=>?_⟩
   cases i with
   | zero =>
    simp at hy;subst hy
    rw [Nat.add_zero,h4 _ (by omega),h2];exact yD
   | succ i =>
    rw [show zAx+j+(i+1)=zAx+(j+1)+i by omega]
    exact h5 i y (by simpa using hy)
  cases x with
  | tmp t =>
   have uJ:t<nt:=zBZ hx
   have ye:t<zAb:=Nat.lt_of_lt_of_le uJ (Nat.le_trans S.small (by decide))
   simp only [zCC,PM.run] at h
   rw [← S.env t ye] at h
   exact fin (S.conf.view ye) (by simp only [zGQ,Sem.run_pure];rw [S.tmps t uJ]) h
  | cell t ty =>
   have uJ:t<nt:=zBZ hx
   have ye:t<zAb:=Nat.lt_of_lt_of_le uJ (Nat.le_trans S.small (by decide))
   simp only [zCC] at h
   obtain ⟨sh,j0,h1⟩:=zBw h
   simp only [PM.run] at h1
   rw [← S.env t ye] at h1
   have yD:=S.conf.view ye
   split at h1
   ·rename_i r pre i c s' u4
    rw [u4] at yD
    obtain ⟨b,u,q,q1,q2,q3,q4⟩:=zKS (P:=P) S j0 yD h1
    exact fin q4 (by simp only [zGQ,Sem.run_bind];rw [S.tmps t uJ,q1];simp [asAddr,q2]) q3
   ·cases h1
end
end Go.Eng
namespace Go.Eng
open Go
def zUD (P:Program) (fn:Func):Bool :=
 match fn.body with
 | none=>true
 | some c=>zCA P fn.ntmps c&&fn.results.toList.all (zWA fn.ntmps)&&Nat.ble fn.ntmps 2000000&&Nat.ble fn.results.size 1000
section
variable {P:Program} {H:zBc} {w:World} {orc:zAA} {yo:zCK}
theorem zIP {α β:Type} {f:α→Sem β}:∀ (l:List α) (vs:List β),l.length=vs.length→(∀ (i:Nat) (x:α) (v:β),l[i]? = some x→vs[i]? = some v→(f x).run P w = .ok v w)→(l.mapM f).run P w = .ok vs w
 | [],[],_,_=>rfl
 | [],_::_,h,_=>by cases h
 | _::_,[],h,_=>by cases h
 | x::l,v::vs,h,hf=>by
  simp only [List.mapM_cons,Sem.run_bind,hf 0 x v rfl rfl,Result.andThen_ok,zIP l vs (by simpa using h) (fun i y u hy hu=>hf (i+1) y u (by simpa using hy) (by simpa using hu)),Sem.run_pure]
theorem zNF {fn:Func} {a:Act} {vs:List Value} (hl:fn.results.size=vs.length) (h:∀ (i:Nat) (x:ResultVar) (v:Value),fn.results.toList[i]? = some x→vs[i]? = some v→(zGQ a x).run P w = .ok v w) :
  (results fn a.tmps).run P w = .ok (if h:vs.toArray.size=1 then vs.toArray[0] else .tuple vs.toArray) w:=by
 have h1:=zIP (P:=P) (w:=w) (f:=zGQ a) fn.results.toList vs (by simpa using hl) h
 have h2:(fn.results.mapM (zGQ a)).run P w = .ok vs.toArray w:=by
  rw [Array.mapM_eq_mapM_toList]
  simp only [Sem.run_map,h1,Result.andThen_ok]
 have h3:(fun | .tmp t=>pure (a.tmps.getD t undef) | .cell t ty=>do loadVar ty (← asAddr (a.tmps.getD t undef)):ResultVar→Sem Value)=zGQ a:=by
  funext x;cases x<;>rfl
 simp only [results,Sem.run_bind]
 have h4:(fn.results.mapM (fun | .tmp t=>pure (a.tmps.getD t undef) | .cell t ty=>do loadVar ty (← asAddr (a.tmps.getD t undef)):ResultVar→Sem Value)).run P w = .ok vs.toArray w:=by rw [h3];exact h2
 erw [h4]
 rfl
theorem zIE {fn:Func} {tmps:Array Value} {R:Ending→World→Prop}:∀ (ds:List Deferred) (w:World),(∀ d∈ds,∃ D,d.target = .collected D∧w.heap[D]? = some (.deferred (some [])))→ds.Pairwise (fun d d'=>∀ D D',d.target = .collected D→d'.target = .collected D'→D≠D') →
  (∀ w',w'.heap.size=w.heap.size→(∀ b,(∀ d∈ds,d.target ≠ .collected b)→w'.heap[b]? = w.heap[b]?)→(w'.os=w.os∧w'.tape=w.tape∧w'.output=w.output)→LeavesIn (FF none) 0 P fn tmps R [] .returning w')→LeavesInM (FF none) 0 P fn tmps R ds .returning w
 | [],w,_,_,h=>h w rfl (fun _ _=>rfl) ⟨rfl,rfl,rfl⟩
 | d :: ds,w,h1,h2,h=>by
  obtain ⟨D,q1,q2⟩:=h1 d (by simp)
  obtain ⟨p1,p2⟩:=List.pairwise_cons.1 h2
  refine ⟨by simp,.inl ⟨D,_,q1,run_takeDeferred q2,zIE ds _ (fun d' hd=>?_) p2 fun w' g1 g2 g3=>?_⟩⟩
  ·obtain ⟨D',r1,r2⟩:=h1 d' (by simp [hd])
   exact ⟨D',r1,(World.putObj_heap_other (Ne.symm (p1 d' hd D D' q1 r1))).trans r2⟩
  ·refine h w' (g1.trans (by simp)) (fun b hb=>(g2 b fun d' hd=>hb d' (by simp [hd])).trans (World.putObj_heap_other fun e=>hb d (by simp) (e▸q1))) g3
theorem zUz (zE9:P.follows .mixedOrders=true) (jC:zGc P orc) (hnm:zEK P) (qU:zLB P yo) {f:FuncId} {fn:Func} {body:Code} {n:Nat} {args hid hX:List PV} {v:PV} (hf:P.funcs[f]? = some fn) (yV:fn.body=some body) (hwf:zUD P fn=true) (h:zJu P H orc yo zB5 n f fn body args hid=some (v,hX)) :
    zFn P f args hid v hX:=by
  have ho:zAx=60000000:=rfl
  have hh:zAn=50000000:=rfl
  have wL:zAb=1000000000:=rfl
  simp only [zUD,yV,Bool.and_eq_true] at hwf
  obtain ⟨⟨⟨jG,y7⟩,uY⟩,jQ⟩:=hwf
  have uY:=Nat.le_of_ble_eq_true uY
  have jQ:=Nat.le_of_ble_eq_true jQ
  simp only [zJu] at h
  cases hc:(Nat.ble args.length fn.ntmps&&Nat.ble hid.length 1000&&args.all fun p => !p.isTup) with
  | false=>rw [hc] at h;cases h
  | true =>
    rw [hc] at h;simp only [cond_true] at h
    simp only [Bool.and_eq_true] at hc
    obtain ⟨⟨yK,uX⟩,u5⟩:=hc
    have yK:=Nat.le_of_ble_eq_true yK
    have uX:=Nat.le_of_ble_eq_true uX
    have key : ∀ x e1,exec P H orc yo zB5 fn.ntmps (H f) n body (zA2 args hid) none=some (x,e1,none)→(x = .norm∨x = .ret)→∀ e',(zCC P (H f).frz 0 fn.results.toList).run orc e1=some e' →
        (bif Nat.beq fn.results.size 1&&(e'.get zAx).isTup then none else some (zU7 e' fn.results.size,(List.range hid.length).map fun j=>e'.get (zAn+j)))=some (v,hX)→zFn P f args hid v hX:=by
      intro x e1 hx gD e' vz yd w Φ rv E L vs hE kW C yG yk j7
      refine callsIn_wide.1 (callsIn_of_wp_marks (n:=0) hf yV trivial ?_)
      have hntm:vs.size+(fn.ntmps-vs.size)=fn.ntmps:=by omega
      have S:St w (fun b=>∃ s,b∈L s) Φ fn.ntmps ⟨rv,[]⟩ {tmps:=vs++Array.replicate (fn.ntmps-vs.size) undef,defers:=[]} w (zA2 args hid) Φ rv E L:=by
        refine ⟨C,hE,by simp;omega,uY,fun t ht=>?_,fun d ps i hd hp hi=>?_,fun _ _ _=>rfl,rfl⟩
        · simp only [Array.getD_eq_getD_getElem?,Array.getElem?_append]
          by_cases h1:t<vs.size
          · rw [if_pos h1,yk t (by omega)];rfl
          · rw [if_neg h1,Array.getElem?_replicate,if_pos (by omega),j7 t (by omega) (by omega)];rfl
        · rw [hE d (by omega),zDa (by omega)] at hp
          split at hp
          · rename_i vY
            have:(args.getD d .bad)∈args:=by
              simp only [List.getD,List.getElem?_eq_getElem vY,Option.getD_some];exact List.getElem_mem vY
            have:=List.all_eq_true.1 u5 _ this
            rw [hp] at this;cases this
          · split at hp
            · omega
            · cases hp
      have hw:=zHw (zVw jC hnm) zE9 n body (.inr (zWn zE9 jC hnm qU)) jG (fun _ _=>trivial) rfl (⟨rfl,w,_,Φ,[],Rel.refl,⟨fun _ h=>(by cases h),.nil⟩,Φ,rv,E,L,S,kW⟩:GB w (fun b=>∃ s,b∈L s) Φ fn.ntmps rv _ w _ none) hx
      refine wpIn_mono hw fun ex a' w1 ⟨gE,_,wz,Uz,Φz,ds,wj,wM,Φ1,rv1,E1,L1,Sz,y5⟩=>?_
      have u6:LeavesInM (FF none) 0 P fn a'.tmps (fun e w'=>∃ u Φ' rv' E' L',e = .returned u∧Conf w (fun b=>∃ s,b∈L s) Φ w' Φ' rv' E' L'∧hX.length=hid.length ∧
          (∀ j,j<hid.length→E' (zAn+j)=hX.getD j .bad∧rv' (zAn+j)=rv (zAn+j))∧Gave v u rv' E') a'.defers .returning w1:=by
       rw [Sz.dfr]
       have gI:∀ d∈ds,∀ D,d.target = .collected D→(∀ s,D∉L1 s)∧¬ Φ1 D∧w.heap.size≤D:=by
         intro d hd D hD
         obtain ⟨D',q1,q0,q2,q3,q4,q5⟩:=wM.each d hd
         rw [q1] at hD;cases hD
         refine ⟨fun s hs=>?_,fun h=>?_,q0⟩
         · rcases (Sz.conf.own s D hs).2.2 with h | h
           · exact q4 h
           · omega
         · rcases (Sz.conf.frz D h).2 with h | h | h
           · exact q5 h
           · exact q4 h
           · omega
       refine zIE ds w1 (fun d hd=>?_) wM.apart fun w' m1 m2 m3=>?_
       · obtain ⟨D,q1,_,q2,q3,q4,_⟩:=wM.each d hd
         exact ⟨D,q1,(Sz.conf.kept D q2 q4).trans q3⟩
       have C1:Conf w (fun b=>∃ s,b∈L s) Φ w' Φ1 rv1 E1 L1:=(Sz.conf.rebase wj).moved (by omega) (fun s b hb=>m2 b fun d hd h=>(gI d hd b h).1 s hb) (fun b hb=>m2 b fun d hd h=>(gI d hd b h).2.1 hb) (fun b hb _=>m2 b fun d hd h=>by have:=(gI d hd b h).2.2;omega) m3
       have S1:St w (fun b=>∃ s,b∈L s) Φ fn.ntmps ⟨rv,ds⟩ a' w' e1 Φ1 rv1 E1 L1:=Sz.with C1
       obtain ⟨Φ2,rv2,E2,L2,S2,jZ,_,h3⟩:=zML fn.results.toList 0 S1 y5 (by simpa using jQ) (fun y hy=>List.all_eq_true.1 y7 y hy) vz
       let us:List Value:=(List.range fn.results.size).map fun i=>rv2 (zAx+i)
       have yA:=zNF (P:=P) (w:=w') (fn:=fn) (a:=a') (vs:=us) (by simp [us]) (fun i y u hy hu=>by
         have:=h3 i y hy
         rw [Nat.add_zero] at this
         rw [this]
         have hi:i<fn.results.size:=by have:=(List.getElem?_eq_some_iff.1 hy).1;simpa using this
         simp only [us,List.getElem?_map,List.getElem?_range hi,Option.map_some,Option.some.injEq] at hu
         rw [hu])
       refine ⟨_,yA,_,Φ2,rv2,E2,L2,rfl,S2.conf,?_⟩
       have hv:v=zU7 e' fn.results.size∧hX=(List.range hid.length).map fun j=>e'.get (zAn+j):=by
         revert yd
         cases (Nat.beq fn.results.size 1&&(e'.get zAx).isTup) with
         | true=>intro h;cases h
         | false=>intro h;simp only [cond_false,Option.some.injEq,Prod.mk.injEq] at h;exact ⟨h.1.symm,h.2.symm⟩
       obtain ⟨ui,kZ⟩:=hv
       refine ⟨by rw [kZ];simp,fun j hj=>⟨?_,S2.hid _ (by omega) (by omega)⟩,?_⟩
       · rw [S2.env _ (by omega),kZ]
         simp [List.getD,hj]
       · by_cases h1:fn.results.size=1
         · have uY:(e'.get zAx).isTup=false:=by
             revert yd
             cases hb:(e'.get zAx).isTup with
             | true=>simp [h1]
             | false=>intro _;rfl
           have hv3:v=e'.get zAx:=by rw [ui,zU7,if_pos h1]
           have wH:us=[rv2 zAx]:=by simp only [us,h1];rfl
           refine ⟨fun _=>⟨by rw [S2.env _ (by omega),hv3],?_⟩,fun ps ya=>?_⟩
           · rw [wH];rfl
           · rw [hv3] at ya;rw [ya] at uY;cases uY
         · have hv3:v = .tup ((List.range fn.results.size).map fun j=>e'.get (zAx+j)):=by rw [ui,zU7,if_neg h1]
           refine ⟨fun h=>absurd hv3 (h _),fun ps ya=>?_⟩
           rw [hv3] at ya
           simp only [PV.tup.injEq] at ya
           subst ya
           refine ⟨us.toArray,?_,by simp [us],fun j p hj=>?_⟩
           · rw [dif_neg (by simpa [us] using h1)]
           · simp only [List.getElem?_map] at hj
             cases hr:(List.range fn.results.size)[j]? with
             | none=>rw [hr] at hj;cases hj
             | some k =>
               rw [hr] at hj;simp only [Option.map_some,Option.some.injEq] at hj
               obtain ⟨jF,v0⟩:=List.getElem?_eq_some_iff.1 hr
               simp only [List.getElem_range] at v0
               subst v0
               simp only [List.length_range] at jF
               exact ⟨by rw [S2.env _ (by omega)];exact hj,by simp [us,jF]⟩
      subst gE
      rcases gD with rfl | rfl<;>exact u6
    revert h
    cases hx:exec P H orc yo zB5 fn.ntmps (H f) n body (zA2 args hid) none with
    | none=>intro h;cases h
    | some r =>
      obtain ⟨x,e1,lg⟩:=r
      intro h
      cases x with
      | ex id=>cases lg<;>cases h
      | norm =>
        cases lg with
        | some g=>cases h
        | none =>
          cases vz:(zCC P (H f).frz 0 fn.results.toList).run orc e1 with
          | none=>simp only [vz] at h;cases h
          | some e'=>simp only [vz] at h;exact key .norm e1 hx (.inl rfl) e' vz h
      | ret =>
        cases lg with
        | some g=>cases h
        | none =>
          cases vz:(zCC P (H f).frz 0 fn.results.toList).run orc e1 with
          | none=>simp only [vz] at h;cases h
          | some e'=>simp only [vz] at h;exact key .ret e1 hx (.inr rfl) e' vz h
def zEz (P:Program) (H:zBc):Prop:=∀ (f:FuncId) (fn:Func) (args hid:List PV) (v:PV) (hX:List PV),P.funcs[f]? = some fn→(H f).intr≠0→zDL P fn (H f).intr args hid=some (v,hX)→zCw P f∧zFn P f args hid v hX
def Fit (P:Program) (H:zBc):Prop:=∀ (f:FuncId) (fn:Func),P.funcs[f]? = some fn→(H f).intr=0→zUD P fn=true
def zTu (P:Program) (g:FuncId) (first:List PV) (i:Nat) (caps:List PV) (k:Int) (plan:List (List PV)):Prop :=
  ∀ (J:List (List PV)→World→(Nat→Prop)→Prop) (Jx:World→Prop) (Ψ:Nat→Prop),Client P i plan k Ψ J Jx→∀ (w:World) (Φ:Nat→Prop) (rv:Nat→Value) (E:Nat→PV) (L:Nat→List Nat) (vs:Array Value) (B:Nat→Prop),
   (∀ s,s<zAb→E s=(zA2 (first++PV.yld i::caps) []).get s)→(∀ s,zAb≤s→E s = .bad)→Conf w (fun b=>∃ s,b∈L s) Φ w Φ rv E L→vs.size=(first++PV.yld i::caps).length→(∀ j,j<(first++PV.yld i::caps).length→vs[j]? = some (rv j)) →
   (∀ s,(first++PV.yld i::caps).length≤s→s<zAn→rv s=undef)→J [] w B→(∀ b,B b→∀ s,b∉L s)→(∀ b,Φ b→Ψ b∨¬ B b) →
   CallsIn (FF none) 0 P g vs w fun en w'=>(∃ v,en = .returned v)∧((k-plan.length≠0∧∃ B',J plan w' B')∨(k-plan.length=0∧Jx w'))
theorem zPJ (zE9:P.follows .mixedOrders=true) (jC:zGc P orc) (hnm:zEK P) (zMi:Fit P H) {n:Nat} {g:FuncId} {first caps:List PV} {i:Nat} {k:Int} {plan:List (List PV)} (h:zWy P H orc yo zB5 n g first i caps k=some plan):zCw P g∧(first++PV.yld i::caps).length≤zAn∧zTu P g first i caps k plan:=by
 have hh:zAn=50000000:=rfl
 simp only [zWy] at h
 split at h
 ·rename_i fn hf
  split at h
  ·rename_i body yV
   rcases zBb h with ⟨hc,h⟩ | ⟨_,h⟩
   ·simp only [Bool.and_eq_true] at hc
    obtain ⟨⟨⟨⟨h1,h2⟩,h3⟩,h4⟩,hint⟩:=hc
    have hint:=Nat.eq_of_beq_eq_true hint
    have h1:=Nat.le_of_ble_eq_true h1
    have hwf:=zMi g fn hf hint
    simp only [zUD,yV,Bool.and_eq_true] at hwf
    obtain ⟨⟨⟨jG,y7⟩,uY⟩,jQ⟩:=hwf
    have uY:=Nat.le_of_ble_eq_true uY
    have u5:(first++PV.yld i::caps).all (fun p => !p.isTup)=true:=by
     rw [List.all_append,List.all_cons,Bool.and_eq_true] 
     rw [List.all_append,Bool.and_eq_true] at h3
     exact ⟨h3.1,by rw [h3.2];rfl⟩
    have hk:k≠0:=by simpa using h4
    refine ⟨⟨fn,hf,by rw [yV];rfl⟩,by omega,?_⟩
    have key:∀ {x:X} {e1:Env} {l:Log},exec P H orc yo zB5 fn.ntmps (H g) n body (zA2 (first++PV.yld i::caps) []) (some ⟨[],k,i⟩)=some (x,e1,some l)→(x = .norm∨x = .ret)→l.xs=plan→zTu P g first i caps k plan:=fun hx gD hg J Jx Ψ hC w Φ rv E L vs B hE kW C yG yk j7 hJ hBL hBΦ =>
     zUW zE9 jC hnm hC hf yV jG uY h1 u5 h2 hx gD hg hk hE kW C yG yk j7 hJ hBL hBΦ
    split at h
    ·rename_i e1 l hx
     simp only [Option.some.injEq] at h
     exact key hx (.inl rfl) h
    ·rename_i e1 l hx
     simp only [Option.some.injEq] at h
     exact key hx (.inr rfl) h
    ·cases h
   ·cases h
  ·cases h
 ·cases h
theorem zE3 [Yo] (zE9:P.follows .mixedOrders=true) (hnm:zEK P) (zMi:Fit P H) (hin:zEz P H) (qU:zLB P Yo.yo):∀ n,zGc P (zCR P H n)
 | 0=>by intro f args hid v hX h;cases h
 | n + 1 => by
  have jC:=zE3 zE9 hnm zMi hin qU n
  intro f args hid v hX h
  have h:zJy P H (zCR P H n) Yo.yo zB5 (n+1) f args hid=some (v,hX):=h
  simp only [zJy] at h
  split at h
  ·rename_i fn hf
   split at h
   ·rename_i hi
    exact hin f fn args hid v hX hf hi h
   ·rename_i hi
    split at h
    ·rename_i body yV
     exact ⟨⟨fn,hf,by rw [yV];rfl⟩,zUz zE9 jC hnm qU hf yV (zMi f fn hf (by simpa using hi)) h⟩
    ·cases h
  ·cases h
abbrev yo0:Yo:=⟨fun _ _ _ _ _=>none⟩
noncomputable def zS9 (P:Program) (H:zBc) (n:Nat):zCK:=fun g first i caps k=>zWy P H (@zCR P H yo0 n) yo0.yo zB5 (n+1) g first i caps k
open Classical in
noncomputable def zVX (P:Program) (H:zBc):zCK:=fun g first i caps k=>if h:∃ xs n0,∀ n,n0≤n→zS9 P H n g first i caps k=some xs then some (Classical.choose h) else none
noncomputable abbrev yo1 (P:Program) (H:zBc):Yo:=⟨zVX P H⟩
theorem zVa {g:FuncId} {first:List PV} {i:Nat} {caps:List PV} {k:Int} {xs:List (List PV)} {n0:Nat} (h:∀ n,n0≤n→zS9 P H n g first i caps k=some xs):zVX P H g first i caps k=some xs:=by
 have h':∃ xs n0,∀ n,n0≤n→zS9 P H n g first i caps k=some xs:=⟨xs,n0,h⟩
 simp only [zVX,dif_pos h']
 obtain ⟨n1,h1⟩:=Classical.choose_spec h'
 have h2:=h1 (max n0 n1) (by omega)
 rw [h (max n0 n1) (by omega)] at h2
 exact h2.symm
theorem zPC (zE9:P.follows .mixedOrders=true) (hnm:zEK P) (zMi:Fit P H) (hin:zEz P H):zLB P (zVX P H):=by
 intro g first i caps k plan h
 simp only [zVX] at h
 split at h
 ·rename_i h'
  simp only [Option.some.injEq] at h;subst h
  obtain ⟨n1,h1⟩:=Classical.choose_spec h'
  exact zPJ zE9 (@zE3 P H yo0 zE9 hnm zMi hin (fun g first i caps k plan h=>by cases h) n1) hnm zMi (h1 n1 (by omega))
 ·cases h
end
end Go.Eng
namespace Go.Eng
open Go
def zHl:zAA:=fun _ _ _=>none
def zVm:zCK:=fun _ _ _ _ _=>none
def zG2:All:=fun _=>none
theorem zFK {o:zAA}:∀ {p:PM} {e e1:Env},p.run zHl e=some e1→p.run o e=some e1:=by
 intro p
 induction p with
 | ok=>intro e e1 h;exact h
 | fail=>intro e e1 h;cases h
 | view s k ih=>intro e e1 h;exact ih _ h
 | get s k ih=>intro e e1 h;simp only [PM.run] at h ⊢;split at h<;>first | (cases h;done) | exact ih _ h
 | set s q k ih=>intro e e1 h;exact ih h
 | cells r pre i c n k ih=>intro e e1 h;simp only [PM.run] at h ⊢;split at h<;>first | (cases h;done) | exact ih _ _ h
 | deep r pre k ih=>intro e e1 h;simp only [PM.run] at h ⊢;split at h<;>first | (cases h;done) | exact ih _ h
 | wcells r pre i c qs k ih=>intro e e1 h;simp only [PM.run] at h ⊢;split at h<;>first | (cases h;done) | exact ih h
 | wnode r pre q k ih =>
  intro e e1 h
  simp only [PM.run] at h ⊢
  rcases zBb h with ⟨_,h⟩ | ⟨hl,h⟩
  ·cases h
  ·rw [hl];simp only [cond_false]
   split at h
   ·exact ih h
   ·cases h
 | kill r pre k ih=>intro e e1 h;exact ih h
 | frz r pre k ih=>intro e e1 h;simp only [PM.run] at h ⊢;split at h<;>first | (cases h;done) | exact ih h
 | killEx r pre k ih=>intro e e1 h;exact ih h
 | forget r k ih=>intro e e1 h;exact ih h
 | call f args hid k ih=>intro e e1 h;cases h
theorem zAo {α β:Type} {x y:Option α} {f:α→β} {r:β} (h:x.map f=some r) (g:∀ a,x=some a→y=some a):y.map f=some r:=by
 obtain ⟨a,h1,h2⟩:=Option.map_eq_some_iff.1 h
 rw [g a h1];simp [h2]
theorem zH7 {o:zAA}:∀ {p:PM} {e:Env} {r:Env×Tok},p.runT zHl e=some r→p.runT o e=some r:=by
 intro p
 induction p with
 | ok=>intro e e1 h;exact h
 | fail=>intro e e1 h;cases h
 | view s k ih=>intro e e1 h;exact zAo h fun a h=>ih _ h
 | get s k ih=>intro e e1 h;simp only [PM.runT] at h ⊢;split at h<;>first | (cases h;done) | exact zAo h fun a h=>ih _ h
 | set s q k ih=>intro e e1 h;exact zAo h fun a h=>ih h
 | cells r pre i c n k ih=>intro e e1 h;simp only [PM.runT] at h ⊢;split at h<;>first | (cases h;done) | exact zAo h fun a h=>ih _ _ h
 | deep r pre k ih=>intro e e1 h;simp only [PM.runT] at h ⊢;split at h<;>first | (cases h;done) | exact zAo h fun a h=>ih _ h
 | wcells r pre i c qs k ih=>intro e e1 h;simp only [PM.runT] at h ⊢;split at h<;>first | (cases h;done) | exact zAo h fun a h=>ih h
 | wnode r pre q k ih =>
  intro e e1 h
  simp only [PM.runT] at h ⊢
  rcases zBb h with ⟨_,h⟩ | ⟨hl,h⟩
  ·cases h
  ·rw [hl];simp only [cond_false]
   split at h
   ·exact zAo h fun a h=>ih h
   ·cases h
 | kill r pre k ih=>intro e e1 h;exact zAo h fun a h=>ih h
 | frz r pre k ih=>intro e e1 h;simp only [PM.runT] at h ⊢;split at h<;>first | (cases h;done) | exact zAo h fun a h=>ih h
 | killEx r pre k ih=>intro e e1 h;exact zAo h fun a h=>ih h
 | forget r k ih=>intro e e1 h;exact zAo h fun a h=>ih h
 | call f args hid k ih=>intro e e1 h;cases h
section
variable {P:Program} {H:zBc} {o:zAA} {fz tk nl:Bool} {fzs tks:List Nat} {ops:Array Oper} {nt:Nat} {hh:FHint} {yo:zCK} {al:All}
theorem zHF {x:Oper} {h0:Nat} {args:List PV} {l:Log} {e:Env} {r:Env×Option Log} (h:zBG zHl ops x h0 args l e=some r):zBG o ops x h0 args l e=some r:=by
 simp only [zBG] at h ⊢
 split at h
 ·rcases zBb h with ⟨hc,h⟩ | ⟨_,h⟩
  ·rw [hc];simp only [cond_true]
   refine zAo h fun a h=>?_
   rcases zBb h with ⟨hk,h⟩ | ⟨hk,h⟩<;>rw [hk]
   ·exact zFK h
   ·exact zFK h
  ·cases h
 ·exact zAo h fun a h=>zFK h
 ·cases h
theorem zRR {x:Oper} {e:Env} {lg:Option Log} {r:Env×Option Log} (h:zCG P H zHl fz tk nl ops x e lg=some r):zCG P H o fz tk nl ops x e lg=some r:=by
 simp only [zCG] at h ⊢
 split at h
 ·exact zAo h fun a h=>zFK h
 ·split at h
  ·exact zHF h
  ·exact zAo h fun a h=>zFK h
theorem zLJ {x:Oper} {e:Env} {lg:Option Log} {r:Env×Option Log×Tok} (h:zEd P H zHl fz tk nl ops x e lg=some r):zEd P H o fz tk nl ops x e lg=some r:=by
 simp only [zEd] at h ⊢
 split at h
 ·exact zAo h fun a h=>zH7 h
 ·split at h
  ·exact zAo h fun a h=>zHF h
  ·exact zAo h fun a h=>zH7 h
theorem zG5:∀ {l:List Oper} {i:Nat} {e:Env} {lg:Option Log} {r:Env×Option Log},zA5 P H zHl fzs tks nl ops l i e lg=some r→zA5 P H o fzs tks nl ops l i e lg=some r
 | [],_,_,_,_,h=>h
 | x::l,i,e,lg,r,h=>by
  simp only [zA5] at h ⊢
  cases hs:zCG P H zHl (fzs.contains i) (tks.contains i) nl ops x e lg with
  | none=>rw [hs] at h;cases h
  | some q=>rw [hs] at h;rw [zRR hs];exact zG5 h
theorem zIw:∀ {l:List Oper} {i:Nat} {acc:List Nat} {ts:List Tok} {e:Env} {lg:Option Log} {r:Env×Option Log},zCr P H zHl fzs tks nl ops l i acc ts e lg=some r→zCr P H o fzs tks nl ops l i acc ts e lg=some r
 | [],_,_,_,_,_,_,h=>h
 | x :: l,i,acc,ts,e,lg,r,h=>by
  simp only [zCr] at h ⊢
  cases hs:zEd P H zHl (fzs.contains i) (tks.contains i) nl ops x e lg with
  | none=>rw [hs] at h;cases h
  | some q =>
   rw [hs] at h;rw [zLJ hs]
   simp only at h ⊢
   rcases zBb h with ⟨hc,h⟩ | ⟨_,h⟩
   ·rw [hc];exact zIw h
   ·cases h
theorem zOs:∀ {m:Nat} {c:Code} {e:Env} {lg:Option Log} {r:X×Env×Option Log},exec P H zHl zVm zG2 nt hh m c e lg=some r→∀ {m':Nat},m≤m'→exec P H o yo al nt hh m' c e lg=some r
 | 0,_,_,_,_,h,_,_=>by cases h
 | m + 1,c,e,lg,r,h,m',hm=>by
  obtain ⟨m',rfl⟩:∃ k,m'=k+1:=⟨m'-1,by omega⟩
  have ih:∀ {c:Code} {e:Env} {lg:Option Log} {r:X×Env×Option Log},exec P H zHl zVm zG2 nt hh m c e lg=some r→exec P H o yo al nt hh m' c e lg=some r:=fun h=>zOs h (by omega)
  cases c with
  | region id ops draw =>
   simp only [exec] at h ⊢
   split at h
   ·rename_i e1 lg1 h1
    have:(if draw=true then zCr P H o (hh.frzs id) (hh.take id) hh.nils ops ops.toList 0 [] [] e lg else zA5 P H o (hh.frzs id) (hh.take id) hh.nils ops ops.toList 0 e lg)=some (e1,lg1):=by
     cases draw with
     | true=>exact zIw h1
     | false=>exact zG5 h1
    rw [this];exact h
   ·cases h
  | seq a b =>
   simp only [exec] at h ⊢
   cases h1:exec P H zHl zVm zG2 nt hh m a e lg with
   | none=>rw [h1] at h;cases h
   | some q =>
    rw [h1] at h;rw [ih h1]
    obtain ⟨x,e1,lg1⟩:=q
    cases x with
    | norm=>exact ih h
    | ex id=>exact h
    | ret=>exact h
  | cond c a b =>
   cases c with
   | tmp t =>
    simp only [exec] at h ⊢
    revert h
    cases e.get t with
    | bool v=>intro h;cases v<;>exact ih h
    | _=>intro h;cases h
   | const v =>
    simp only [exec] at h ⊢
    revert h
    cases v with
    | bool v=>intro h;cases v<;>exact ih h
    | _=>intro h;cases h
   | _=>cases h
  | block id b =>
   simp only [exec] at h ⊢
   cases h1:exec P H zHl zVm zG2 nt hh m b e lg with
   | none=>rw [h1] at h;cases h
   | some q =>
    rw [h1] at h;rw [ih h1];exact h
  | loop b =>
   simp only [exec] at h ⊢
   cases h1:exec P H zHl zVm zG2 nt hh m b (e.drop (hh.loopDrop (zAN b))) lg with
   | none=>rw [h1] at h;cases h
   | some q =>
    rw [h1] at h;rw [ih h1]
    obtain ⟨x,e1,lg1⟩:=q
    cases x with
    | norm=>exact ih h
    | ex id=>exact h
    | ret=>exact h
  | scope b=>exact ih h
  | rangeFunc x ps ca cb =>
   cases x with
   | tmp t =>
    simp only [exec] at h
    cases lg with
    | none =>
     simp only at h
     obtain ⟨q,h1,_⟩:=Option.map_eq_some_iff.1 h
     simp only [zGV] at h1
     split at h1
     ·cases h1
     ·cases h1
    | some _=>cases h
   | _=>cases h
  | skip=>exact h
  | exit id=>exact h
  | ret=>exact h
  | label l=>exact h
  | _=>cases h
end
def cl:Code→Code
 | .seq a _=>a
 | .cond _ a _=>a
 | .block _ b=>b
 | .loop b=>b
 | .scope b=>b
 | c=>c
def cr:Code→Code
 | .seq _ b=>b
 | .cond _ _ b=>b
 | c=>c
def zT5:Code→Bool
 | .seq .. => true
 | _=>false
def zNR:Code→Bool
 | .loop _=>true
 | _=>false
def zQe:Code→Bool
 | .scope _=>true
 | _=>false
def zRb:Code→Option Nat
 | .block n _=>some n
 | _=>none
def zRy:Code→Option Nat
 | .cond (.tmp t) _ _=>some t
 | _=>none
def zTC:Code→Option Nat
 | .exit n=>some n
 | _=>none
def zWu:Code→Bool
 | .ret=>true
 | _=>false
def zTB:Code→Bool
 | .skip=>true
 | _=>false
def zVg:Code→Bool
 | .region .. => true
 | _=>false
def rid:Code→Nat
 | .region n _ _=>n
 | _=>0
def zFi:Code→Array Oper
 | .region _ o _=>o
 | _=>#[]
def zRc:Code→Bool
 | .region _ _ d=>d
 | _=>false
def zDQ (c : Code) (i : Nat) : Oper := (zFi c)[i]?.getD { dst := none, op := .move (.const .nilIface), type := 0, pos := "", after := #[], guard := none }
theorem zSV {c:Code} (h:zT5 c=true):c = .seq (cl c) (cr c):=by cases c<;>first | rfl | cases h
theorem zLG {c:Code} (h:zNR c=true):c = .loop (cl c):=by cases c<;>first | rfl | cases h
theorem zPz {c:Code} (h:zQe c=true):c = .scope (cl c):=by cases c<;>first | rfl | cases h
theorem zSX {c:Code} (h:zWu c=true):c = .ret:=by cases c<;>first | rfl | cases h
theorem zRA {c:Code} (h:zTB c=true):c = .skip:=by cases c<;>first | rfl | cases h
theorem zTs {c:Code} (h:zVg c=true):c = .region (rid c) (zFi c) (zRc c):=by cases c<;>first | rfl | cases h
theorem zPe {c:Code} {n:Nat} (h:zRb c=some n):c = .block n (cl c):=by cases c<;>first | (cases h;rfl) | cases h
theorem zRQ {c:Code} {n:Nat} (h:zTC c=some n):c = .exit n:=by cases c<;>first | (cases h;rfl) | cases h
theorem zPL {c:Code} {t:Nat} (h:zRy c=some t):c = .cond (.tmp t) (cl c) (cr c):=by
 cases c<;>try (cases h;done)
 rename_i x a b
 cases x<;>first | (cases h;rfl) | cases h
section
variable [Yo] (P:Program) (H:zBc)
def zDi (f:FuncId) (args hid:List PV) (v:PV) (hX:List PV):Prop:=∃ n0,∀ n,n0≤n→zCR P H n f args hid=some (v,hX)
def W (f:FuncId) (nt:Nat) (c:Code) (e:Env) (lg:Option Log) (K:X→Env→Option Log→Prop):Prop :=
 ∃ n0 x e' lg',(∀ n m,n0≤n→n0≤m→exec P H (zCR P H n) Yo.yo zB5 nt (H f) m c e lg=some (x,e',lg'))∧K x e' lg'
def zFf (dr:Option (List Nat×List Tok)) (i:Nat) (o:Oper) (t:Tok):Option (Option (List Nat×List Tok)) :=
 match dr with
 | none=>some none
 | some (acc,ts)=>bif o.after.toList.all (fun e => !Region.binds .any e||Nat.blt e.on i)&&zF9 (zHJ acc o) t 0 ts then some (some (acc++[zHJ acc o],ts++[t])) else none
def zUC (orc:zAA) (fzs tks:List Nat) (nl:Bool) (ops:Array Oper) (dr:Option (List Nat×List Tok)) (l:List Oper) (i:Nat) (e:Env) (lg:Option Log):Option (Env×Option Log) :=
 match dr with
 | none=>zA5 P H orc fzs tks nl ops l i e lg
 | some (acc,ts)=>zCr P H orc fzs tks nl ops l i acc ts e lg
def WR (f:FuncId) (id:Nat) (ops:Array Oper) (dr:Option (List Nat×List Tok)) (i:Nat) (e:Env) (lg:Option Log) (K:Env→Option Log→Prop):Prop :=
 ∃ n0 eN lg',(∀ n,n0≤n→∃ e',zUC P H (zCR P H n) ((H f).frzs id) ((H f).take id) (H f).nils ops dr (ops.toList.drop i) i e lg=some (e',lg')∧(e'.drop ((H f).drop id)).norm=eN)∧K eN lg'
end
section
variable [Yo] {P:Program} {H:zBc} {f:FuncId} {nt:Nat} {e e':Env} {lg:Option Log} {K:X→Env→Option Log→Prop}
def zXv (P:Program) (H:zBc) (f:FuncId) (nt:Nat) (b:Code) (K:X→Env→Option Log→Prop):X→Env→Option Log→Prop
 | .norm,e,lg=>W P H f nt b e lg K
 | x,e,lg=>K x e lg
theorem zW4 {a b:Code} (h:W P H f nt a e lg (zXv P H f nt b K)):W P H f nt (.seq a b) e lg K:=by
 obtain ⟨n0,x,e1,lg1,h1,h2⟩:=h
 cases x with
 | norm =>
  obtain ⟨n2,x,e2,lg2,h3,h4⟩:=h2
  refine ⟨max n0 n2+1,x,e2,lg2,fun n m hn hm=>?_,h4⟩
  obtain ⟨m,rfl⟩:∃ k,m=k+1:=⟨m-1,by omega⟩
  simp only [exec,h1 n m (by omega) (by omega),h3 n m (by omega) (by omega)]
 | ex id =>
  refine ⟨n0+1,_,e1,lg1,fun n m hn hm=>?_,h2⟩
  obtain ⟨m,rfl⟩:∃ k,m=k+1:=⟨m-1,by omega⟩
  simp only [exec,h1 n m (by omega) (by omega)]
 | ret =>
  refine ⟨n0+1,_,e1,lg1,fun n m hn hm=>?_,h2⟩
  obtain ⟨m,rfl⟩:∃ k,m=k+1:=⟨m-1,by omega⟩
  simp only [exec,h1 n m (by omega) (by omega)]
theorem zR5 (m:Nat) {c:Code} {x:X} {e1:Env} {lg1:Option Log} (h:exec P H zHl zVm zG2 nt (H f) m c e lg=some (x,e1,lg1)) (hk:K x e1 lg1):W P H f nt c e lg K :=
 ⟨m,x,e1,lg1,fun _ _ _ hm=>zOs h hm,hk⟩
theorem zTU {c:Code} {K':X→Env→Option Log→Prop} (h:W P H f nt c e lg K) (hk:∀ x e lg,K x e lg→K' x e lg):W P H f nt c e lg K':=by
 obtain ⟨n0,x,e1,lg1,h1,h2⟩:=h
 exact ⟨n0,x,e1,lg1,h1,hk _ _ _ h2⟩
theorem zXm (h:K .ret e lg):W P H f nt .ret e lg K:=zR5 1 rfl h
theorem zWl (h:K .norm e lg):W P H f nt .skip e lg K:=zR5 1 rfl h
theorem zVZ {id:Nat} (h:K (.ex id) (zVn ((H f).ices id) e) lg):W P H f nt (.exit id) e lg K:=zR5 1 rfl h
theorem zUj {b:Code} (h:W P H f nt b e lg K):W P H f nt (.scope b) e lg K:=by
 obtain ⟨n0,x,e1,lg1,h1,h2⟩:=h
 refine ⟨n0+1,x,e1,lg1,fun n m hn hm=>?_,h2⟩
 obtain ⟨m,rfl⟩:∃ k,m=k+1:=⟨m-1,by omega⟩
 exact h1 n m (by omega) (by omega)
def Blk (id:Nat) (K:X→Env→Option Log→Prop):X→Env→Option Log→Prop
 | .ex id',e,lg=>bif Nat.beq id' id then K .norm e lg else K (.ex id') e lg
 | x,e,lg=>K x e lg
theorem zUi {id:Nat} {b:Code} (h:W P H f nt b e lg (Blk id K)):W P H f nt (.block id b) e lg K:=by
 obtain ⟨n0,x,e1,lg1,h1,h2⟩:=h
 cases x with
 | ex id' =>
  by_cases hid:id'=id
  ·subst hid
   simp only [Blk,Nat.beq_refl,cond_true] at h2
   refine ⟨n0+1,.norm,e1,lg1,fun n m hn hm=>?_,h2⟩
   obtain ⟨m,rfl⟩:∃ k,m=k+1:=⟨m-1,by omega⟩
   simp only [exec,h1 n m (by omega) (by omega),if_true]
  ·have hb:Nat.beq id' id=false:=by
    cases hc:Nat.beq id' id with
    | false=>rfl
    | true=>exact (hid (Nat.eq_of_beq_eq_true hc)).elim
   simp only [Blk,hb,cond_false] at h2
   refine ⟨n0+1,.ex id',e1,lg1,fun n m hn hm=>?_,h2⟩
   obtain ⟨m,rfl⟩:∃ k,m=k+1:=⟨m-1,by omega⟩
   simp only [exec,h1 n m (by omega) (by omega),if_neg hid]
 | norm =>
  refine ⟨n0+1,_,e1,lg1,fun n m hn hm=>?_,h2⟩
  obtain ⟨m,rfl⟩:∃ k,m=k+1:=⟨m-1,by omega⟩
  simp only [exec,h1 n m (by omega) (by omega)]
 | ret =>
  refine ⟨n0+1,_,e1,lg1,fun n m hn hm=>?_,h2⟩
  obtain ⟨m,rfl⟩:∃ k,m=k+1:=⟨m-1,by omega⟩
  simp only [exec,h1 n m (by omega) (by omega)]
theorem zWF {t:Nat} {a b:Code} {c:Bool} (ht:e.get t = .bool c) (h1:c=true→W P H f nt a e lg K) (h2:c=false→W P H f nt b e lg K):W P H f nt (.cond (.tmp t) a b) e lg K:=by
 cases c with
 | true =>
  obtain ⟨n0,x,e1,lg1,h3,h4⟩:=h1 rfl
  refine ⟨n0+1,_,_,lg1,fun n m hn hm=>?_,h4⟩
  obtain ⟨m,rfl⟩:∃ k,m=k+1:=⟨m-1,by omega⟩
  simp only [exec,ht];exact h3 n m (by omega) (by omega)
 | false =>
  obtain ⟨n0,x,e1,lg1,h3,h4⟩:=h2 rfl
  refine ⟨n0+1,_,_,lg1,fun n m hn hm=>?_,h4⟩
  obtain ⟨m,rfl⟩:∃ k,m=k+1:=⟨m-1,by omega⟩
  simp only [exec,ht];exact h3 n m (by omega) (by omega)
theorem zV0 {σ:Type} (Inv:σ→Prop) (I:σ→Env) (μ:σ→Nat) {b:Code} (h:∀ s,Inv s→W P H f nt b (I s) lg fun x e lg'=>match x with
   | .norm=>∃ s',Inv s'∧μ s'<μ s∧e.drop ((H f).loopDrop (zAN b))=I s'∧lg'=lg
   | x=>K x e lg'):∀ (n:Nat) (s:σ) (e:Env),μ s≤n→Inv s→e.drop ((H f).loopDrop (zAN b))=I s→W P H f nt (.loop b) e lg K:=by
 intro n
 induction n with
 | zero =>
  intro s e hs hi he
  obtain ⟨n0,x,e1,lg1,h1,h2⟩:=h s hi
  cases x with
  | norm=>obtain ⟨s',_,h3,_⟩:=h2;omega
  | ex id =>
   refine ⟨n0+1,_,e1,lg1,fun n m hn hm=>?_,h2⟩
   obtain ⟨m,rfl⟩:∃ k,m=k+1:=⟨m-1,by omega⟩
   simp only [exec,he,h1 n m (by omega) (by omega)]
  | ret =>
   refine ⟨n0+1,_,e1,lg1,fun n m hn hm=>?_,h2⟩
   obtain ⟨m,rfl⟩:∃ k,m=k+1:=⟨m-1,by omega⟩
   simp only [exec,he,h1 n m (by omega) (by omega)]
 | succ n ih =>
  intro s e hs hi he
  obtain ⟨n0,x,e1,lg1,h1,h2⟩:=h s hi
  cases x with
  | norm =>
   obtain ⟨s',h3,h4,h7,rfl⟩:=h2
   obtain ⟨n2,x,e2,lg2,h5,h6⟩:=ih s' e1 (by omega) h3 h7
   refine ⟨max n0 n2+1,x,e2,lg2,fun n m hn hm=>?_,h6⟩
   obtain ⟨m,rfl⟩:∃ k,m=k+1:=⟨m-1,by omega⟩
   simp only [exec,he,h1 n m (by omega) (by omega),h5 n m (by omega) (by omega)]
  | ex id =>
   refine ⟨n0+1,_,e1,lg1,fun n m hn hm=>?_,h2⟩
   obtain ⟨m,rfl⟩:∃ k,m=k+1:=⟨m-1,by omega⟩
   simp only [exec,he,h1 n m (by omega) (by omega)]
  | ret =>
   refine ⟨n0+1,_,e1,lg1,fun n m hn hm=>?_,h2⟩
   obtain ⟨m,rfl⟩:∃ k,m=k+1:=⟨m-1,by omega⟩
   simp only [exec,he,h1 n m (by omega) (by omega)]
theorem zAh {c:Code} (h:W P H f nt (cl c) e lg (zXv P H f nt (cr c) K)) (hc:zT5 c=true:=by kernel_rfl):W P H f nt c e lg K:=by rw [zSV hc];exact zW4 h
theorem zAm {c:Code} (h:K .ret e lg) (hc:zWu c=true:=by kernel_rfl):W P H f nt c e lg K:=by rw [zSX hc];exact zXm h
theorem zAl {c:Code} (h:K .norm e lg) (hc:zTB c=true:=by kernel_rfl):W P H f nt c e lg K:=by rw [zRA hc];exact zWl h
theorem zAE {c:Code} (n:Nat) (h:K (.ex n) (zVn ((H f).ices n) e) lg) (hc:zTC c=some n:=by kernel_rfl):W P H f nt c e lg K:=by rw [zRQ hc];exact zVZ h
theorem zUA {c:Code} (h:W P H f nt (cl c) e lg K) (hc:zQe c=true:=by kernel_rfl):W P H f nt c e lg K:=by rw [zPz hc];exact zUj h
theorem zAi {c:Code} (n:Nat) (h:W P H f nt (cl c) e lg (Blk n K)) (hc:zRb c=some n:=by kernel_rfl):W P H f nt c e lg K:=by rw [zPe hc];exact zUi h
def zEs (c:Code) (e:Env):Option Bool :=
 match zRy c with
 | some t=>match e.get t with
  | .bool b=>some b
  | _=>none
 | none=>none
theorem zEu (b:Bool) {c:Code} (h1:b=true→W P H f nt (cl c) e lg K) (h2:b=false→W P H f nt (cr c) e lg K) (hc:zEs c e=some b:=by kernel_rfl):W P H f nt c e lg K:=by
 simp only [zEs] at hc
 split at hc
 ·rename_i t ht
  rw [zPL ht]
  split at hc
  ·rename_i b' hb
   simp only [Option.some.injEq] at hc;subst hc
   exact zWF hb h1 h2
  ·cases hc
 ·cases hc
theorem zBX {c:Code} (h:W P H f nt (cl c) e lg K) (hc:zEs c e=some true:=by kernel_rfl):W P H f nt c e lg K:=zEu true (fun _=>h) (fun h=>by cases h) hc
theorem zA4 {c:Code} (h:W P H f nt (cr c) e lg K) (hc:zEs c e=some false:=by kernel_rfl):W P H f nt c e lg K:=zEu false (fun h=>by cases h) (fun _=>h) hc
theorem zWm {σ:Type} {c:Code} (Inv:σ→Prop) (I:σ→Env) (μ:σ→Nat) (s:σ) (hi:Inv s) (h:∀ s,Inv s→W P H f nt (cl c) (I s) lg fun x e lg'=>match x with
   | .norm=>∃ s',Inv s'∧μ s'<μ s∧e.drop ((H f).loopDrop (zAN (cl c)))=I s'∧lg'=lg
   | x=>K x e lg') (hs:e.drop ((H f).loopDrop (zAN (cl c)))=I s:=by kernel_rfl) (hc:zNR c=true:=by kernel_rfl):W P H f nt c e lg K:=by
 rw [zLG hc];exact zV0 Inv I μ h (μ s) s e (Nat.le_refl _) hi hs
def zLx (o:Option Env):Env :=
 match o with
 | some e=>e
 | none=>[]
structure RS where
 dr:Option (List Nat×List Tok)
 e:Env
 lg:Option Log
def noY (lg:Option Log) (e:Env) (o:Oper):Bool :=
 match lg with
 | none=>true
 | some _=>(zB6 e o).isNone
def WS (P:Program) (H:zBc) (f:FuncId) (c:Code) (i:Nat) (s:RS) (R:Env→Option Log→Prop):Prop:=WR P H f (rid c) (zFi c) s.dr i s.e s.lg R
def zUg (P:Program) (H:zBc) (f:FuncId) (c:Code) (i:Nat) (s:RS):Option RS :=
 match zEd P H zHl (((H f).frzs (rid c)).contains i) (((H f).take (rid c)).contains i) (H f).nils (zFi c) (zDQ c i) s.e s.lg with
 | some (e',lg',t)=>(zFf s.dr i (zDQ c i) t).map fun dr=>⟨dr,e',lg'⟩
 | none=>none
def zHO (P:Program) (H:zBc) (f:FuncId) (c:Code):Nat→Nat→RS→Option RS
 | 0,_,s=>some s
 | m+1,i,s=>match zUg P H f c i s with
  | some s'=>zHO P H f c m (i+1) s'
  | none=>none
variable {i:Nat} {c:Code} {s s':RS} {R:Env→Option Log→Prop}
abbrev zVB (P:Program) (H:zBc) (f:FuncId) (c:Code) (i:Nat):PM:=opM P H (((H f).frzs (rid c)).contains i) (((H f).take (rid c)).contains i) (H f).nils (zDQ c i)
def zVq (o:Option RS):RS :=
 match o with
 | some s=>s
 | none=>⟨none,[],none⟩
theorem zLE {o:Option RS} (h:o.isSome=true):o=some (zVq o):=by cases o<;>first | rfl | cases h
theorem zAg (h:WS P H f c 0 ⟨bif zRc c then some ([],[]) else none,e,lg⟩ (K .norm)) (hc:zVg c=true:=by kernel_rfl):W P H f nt c e lg K:=by
 obtain ⟨n0,e1,lg1,h1,h2⟩:=h
 rw [zTs hc]
 refine ⟨n0+1,_,_,lg1,fun n m hn hm=>?_,h2⟩
 obtain ⟨m,rfl⟩:∃ k,m=k+1:=⟨m-1,by omega⟩
 obtain ⟨e2,this,h3⟩:=h1 n (by omega)
 cases hd:zRc c with
 | true=>simp only [hd,cond_true,zUC,List.drop_zero] at this;simp only [exec,this,if_true,h3]
 | false=>simp only [hd,cond_false,zUC,List.drop_zero] at this;simp only [exec,this,← h3];rfl
theorem zVJ (e1:Env) (h:R e1 s.lg) (he:(s.e.drop ((H f).drop (rid c))).norm=e1:=by kernel_rfl) (hi:Nat.ble (zFi c).size i=true:=by kernel_rfl):WS P H f c i s R:=by
 have hi:=Nat.le_of_ble_eq_true hi
 refine ⟨0,e1,s.lg,fun n _=>⟨s.e,?_,he⟩,h⟩
 rw [List.drop_eq_nil_of_le (by simpa using hi)]
 cases s.dr<;>rfl
theorem zAa (h:R ((s.e.drop ((H f).drop (rid c))).norm) s.lg) (hi:Nat.ble (zFi c).size i=true:=by kernel_rfl):WS P H f c i s R:=zVJ _ h rfl hi
theorem zUH (h:Nat.blt i (zFi c).size=true):(zFi c)[i]? = some (zDQ c i):=by
 have:i<(zFi c).size:=by simpa using h
 simp [zDQ,this]
theorem zP8 (h:Nat.blt i (zFi c).size=true):(zFi c).toList.drop i=zDQ c i::(zFi c).toList.drop (i+1):=by
 have h1:(zFi c).toList[i]? = some (zDQ c i):=by rw [Array.getElem?_toList];exact zUH h
 obtain ⟨h2,h3⟩:=List.getElem?_eq_some_iff.1 h1
 rw [← h3];exact (List.drop_eq_getElem_cons h2)
theorem zJP {orc:zAA} {fz tk nl:Bool} {ops:Array Oper} {o:Oper} {lg':Option Log} {t:Tok} (h:zEd P H orc fz tk nl ops o e lg=some (e',lg',t)):zCG P H orc fz tk nl ops o e lg=some (e',lg'):=by
 simp only [zEd] at h
 simp only [zCG]
 split at h
 ·obtain ⟨a,h1,h2⟩:=Option.map_eq_some_iff.1 h
  cases h2
  rw [zD4 h1];rfl
 ·split at h
  ·obtain ⟨a,h1,h2⟩:=Option.map_eq_some_iff.1 h
   cases h2
   rw [h1]
  ·obtain ⟨a,h1,h2⟩:=Option.map_eq_some_iff.1 h
   cases h2
   rw [zD4 h1];rfl
theorem zKD {t:Tok} {dr':Option (List Nat×List Tok)} {lg':Option Log} (hi:Nat.blt i (zFi c).size=true) (hT:∃ n0,∀ n,n0≤n→zEd P H (zCR P H n) (((H f).frzs (rid c)).contains i) (((H f).take (rid c)).contains i) (H f).nils (zFi c) (zDQ c i) s.e s.lg=some (e',lg',t))
  (hd:zFf s.dr i (zDQ c i) t=some dr') (h:WS P H f c (i+1) ⟨dr',e',lg'⟩ R):WS P H f c i s R:=by
 obtain ⟨n0,hT⟩:=hT
 obtain ⟨n2,e2,lg2,h1,h2⟩:=h
 obtain ⟨dr,e,lg⟩:=s
 refine ⟨max n0 n2,e2,lg2,fun n hn=>?_,h2⟩
 have hs:=hT n (by omega)
 obtain ⟨e3,h1,h3⟩:=h1 n (by omega)
 refine ⟨e3,?_,h3⟩
 rw [zP8 hi]
 cases dr with
 | none =>
  simp only [zFf,Option.some.injEq] at hd;subst hd
  simp only [zUC] at h1 ⊢
  simp only [zA5,zJP hs];exact h1
 | some d =>
  obtain ⟨acc,ts⟩:=d
  simp only [zFf] at hd
  rcases zBb hd with ⟨hc,hd⟩ | ⟨_,hd⟩
  ·simp only [Option.some.injEq] at hd;subst hd
   simp only [zUC] at h1 ⊢
   simp only [zCr,hs,hc,cond_true];exact h1
  ·cases hd
theorem zRt {orc:zAA} {fz tk nl:Bool} {ops:Array Oper} {o:Oper} {t:Tok} (hy:noY lg e o=true) (h:(zFv P H ops fz tk nl o).runT orc e=some (e',t)):zEd P H orc fz tk nl ops o e lg=some (e',lg,t):=by
 cases lg with
 | none=>simp only [zEd,h];rfl
 | some l =>
  simp only [noY,Option.isNone_iff_eq_none] at hy
  simp only [zEd,hy,h];rfl
theorem zWg {t:Tok} {dr':Option (List Nat×List Tok)} (hi:Nat.blt i (zFi c).size=true) (hT:∃ n0,∀ n,n0≤n→(zFv P H (zFi c) (((H f).frzs (rid c)).contains i) (((H f).take (rid c)).contains i) (H f).nils (zDQ c i)).runT (zCR P H n) s.e=some (e',t))
  (hd:zFf s.dr i (zDQ c i) t=some dr') (h:WS P H f c (i+1) ⟨dr',e',s.lg⟩ R) (hy:noY s.lg s.e (zDQ c i)=true):WS P H f c i s R:=by
 obtain ⟨n0,hT⟩:=hT
 exact zKD hi ⟨n0,fun n hn=>zRt hy (hT n hn)⟩ hd h
theorem zSG (hi:Nat.blt i (zFi c).size=true) (hs:zUg P H f c i s=some s') (h:WS P H f c (i+1) s' R):WS P H f c i s R:=by
 simp only [zUg] at hs
 split at hs
 ·rename_i e1 lg1 t ht
  obtain ⟨dr,hd,rfl⟩:=Option.map_eq_some_iff.1 hs
  exact zKD hi ⟨0,fun n _=>zLJ ht⟩ hd h
 ·cases hs
theorem zMh:∀ (m:Nat) {i:Nat} {s s':RS},Nat.ble (i+m) (zFi c).size=true→zHO P H f c m i s=some s'→WS P H f c (i+m) s' R→WS P H f c i s R
 | 0,i,s,s',_,hs,h=>by simp only [zHO,Option.some.injEq] at hs;subst hs;exact h
 | m + 1,i,s,s',hi,hs,h=>by
  have ql:=Nat.le_of_ble_eq_true hi
  simp only [zHO] at hs
  split at hs
  ·rename_i s1 h1
   refine zSG (by simp;omega) h1 (zMh m ?_ hs ?_)
   ·rw [show i+1+m=i+(m+1) by omega];exact hi
   ·rw [show i+1+m=i+(m+1) by omega];exact h
  ·cases hs
theorem zAd (m:Nat) (h:WS P H f c (i+m) (zVq (zHO P H f c m i s)) R) (hs:(zHO P H f c m i s).isSome=true:=by kernel_rfl) (hi:Nat.ble (i+m) (zFi c).size=true:=by kernel_rfl):WS P H f c i s R :=
 zMh m hi (zLE hs) h
def zK5 (c:Code) (i:Nat) (e:Env):Bool :=
 match (zDQ c i).guard with
 | none=>true
 | some (j,want)=>match ((zFi c)[j]?).bind (·.dst) with
  | some t=>match e.get t with
   | .bool b=>b==want
   | _=>false
  | none=>false
theorem zVO {e':Env} (hm:∃ n0,∀ n,n0≤n→(zVB P H f c i).run (zCR P H n) s.e=some e') (h:WS P H f c (i+1) ⟨none,e',s.lg⟩ R) (je:s.dr=none:=by kernel_rfl) (hy:noY s.lg s.e (zDQ c i)=true:=by kernel_rfl) (hg:zK5 c i s.e=true:=by kernel_rfl) (hi:Nat.blt i (zFi c).size=true:=by kernel_rfl):WS P H f c i s R:=by
 obtain ⟨n0,hm⟩:=hm
 obtain ⟨n2,e2,lg2,h1,h2⟩:=h
 obtain ⟨dr,e,lg⟩:=s
 simp only at je hg hm hy;subst je
 refine ⟨max n0 n2,e2,lg2,fun n hn=>?_,h2⟩
 obtain ⟨e3,h1,h3⟩:=h1 n (by omega)
 refine ⟨e3,?_,h3⟩
 have hr:(zFv P H (zFi c) (((H f).frzs (rid c)).contains i) (((H f).take (rid c)).contains i) (H f).nils (zDQ c i)).run (zCR P H n) e=some e':=by
  have hm:=hm n (by omega)
  revert hg
  simp only [zK5]
  cases qM:(zDQ c i).guard with
  | none=>intro _;simp only [zFv,qM];exact hm
  | some w =>
   obtain ⟨j,want⟩:=w
   intro hg
   simp only at hg
   cases hj:((zFi c)[j]?).bind (·.dst) with
   | none=>rw [hj] at hg;cases hg
   | some u =>
    rw [hj] at hg;simp only at hg
    cases hv:e.get u<;>rw [hv] at hg<;>try (cases hg;done)
    have hb:=eq_of_beq hg
    simp only [zFv,qM,hj,PM.run,hv,hb,if_true]
    exact hm
 rw [zP8 hi]
 simp only [zUC] at h1 ⊢
 have hs:zCG P H (zCR P H n) (((H f).frzs (rid c)).contains i) (((H f).take (rid c)).contains i) (H f).nils (zFi c) (zDQ c i) e lg=some (e',lg):=by
  cases lg with
  | none=>simp only [zCG,hr,Option.map_some]
  | some l =>
   simp only [noY,Option.isNone_iff_eq_none] at hy
   simp only [zCG,hy,hr,Option.map_some]
 simp only [zA5,hs];exact h1
end
end Go.Eng
namespace Go.Eng
open Go
section
variable {P:Program} {H:zBc} {f:FuncId} {e e':Env} {i:Nat} {c:Code} {fz tk nl:Bool} {orc:zAA}
def zWJ (e:Env):Operand→PV
 | .tmp t=>view t (e.get t)
 | .const v=>zEq v
 | .func f => .func f [] []
 | .global _ => .bad
theorem zPt {α β:Type} {f:β→α→β} {b:β} {l:List α} {i:Nat} (h:i<l.length):(l.take (i+1)).foldl f b=f ((l.take i).foldl f b) l[i]:=by
 rw [List.take_add_one,List.getElem?_eq_getElem h]
 simp only [Option.toList,List.foldl_append,List.foldl]
def two (o:Oper) (r:PV):PM :=
 match o.op with
 | .binOp _ _ x y _=>opd x fun _=>opd y fun _=>put o.dst r
 | .indexAddr _ x y=>opd x fun _=>opd y fun _=>put o.dst r
 | .index _ x y=>opd x fun _=>opd y fun _=>put o.dst r
 | _ => .fail
theorem zVP {a:Int} (h : -9223372036854775808≤a∧a<9223372036854775808):IntKind.i64.wrap a=a:=by
 rw [IntKind.wrap_i64];omega
end
end Go.Eng
namespace Go.Eng
open Go
section
variable [Yo] {P:Program} {H:zBc} {f:FuncId} {e e':Env} {i:Nat} {c:Code} {s:RS} {R:Env→Option Log→Prop} {fz tk nl:Bool} {orc:zAA}
def zYn (e:Env) (p q:PV) (l:List (Nat×zAO)):Prop:=∀ (orc:zAA) (k:PV→List (Nat×zAO)→PM),(zPi p k).run orc e=(k q l).run orc e
inductive SeenAll (e:Env):List Nat→List PV→List Arg→Prop where
 | nil {ms}:SeenAll e ms [] []
 | ref {ms ps as p}:Nat.beq (ms.headD 0) 1=true→SeenAll e ms.tail ps as→SeenAll e ms (p::ps) ({p:=p,byref:=true}::as)
 | one {ms ps as p q l}:Nat.beq (ms.headD 0) 1=false→zYn e p q l→SeenAll e ms.tail ps as→SeenAll e ms (p::ps) ({p:=q,shared:=l}::as)
theorem zKf {o o':zAA} (ho:∀ g a h r,o g a h=some r→o' g a h=some r):∀ {p:PM} {e e1:Env},p.run o e=some e1→p.run o' e=some e1:=by
 intro p
 induction p with
 | ok=>intro e e1 h;exact h
 | fail=>intro e e1 h;cases h
 | view s k ih=>intro e e1 h;exact ih _ h
 | get s k ih=>intro e e1 h;simp only [PM.run] at h ⊢;split at h<;>first | (cases h;done) | exact ih _ h
 | set s q k ih=>intro e e1 h;exact ih h
 | cells r pre i c n k ih=>intro e e1 h;simp only [PM.run] at h ⊢;split at h<;>first | (cases h;done) | exact ih _ _ h
 | deep r pre k ih=>intro e e1 h;simp only [PM.run] at h ⊢;split at h<;>first | (cases h;done) | exact ih _ h
 | wcells r pre i c qs k ih=>intro e e1 h;simp only [PM.run] at h ⊢;split at h<;>first | (cases h;done) | exact ih h
 | wnode r pre q k ih =>
  intro e e1 h
  simp only [PM.run] at h ⊢
  rcases zBb h with ⟨_,h⟩ | ⟨hl,h⟩
  ·cases h
  ·rw [hl];simp only [cond_false]
   split at h
   ·exact ih h
   ·cases h
 | kill r pre k ih=>intro e e1 h;exact ih h
 | frz r pre k ih=>intro e e1 h;simp only [PM.run] at h ⊢;split at h<;>first | (cases h;done) | exact ih h
 | killEx r pre k ih=>intro e e1 h;exact ih h
 | forget r k ih=>intro e e1 h;exact ih h
 | call f args hid k ih =>
  intro e e1 h
  simp only [PM.run] at h ⊢
  split at h
  ·rename_i v hX hq
   rw [ho _ _ _ _ hq];exact ih _ _ h
  ·cases h
end
end Go.Eng
namespace Go.Eng
open Go
section
variable [Yo] {P:Program} {H:zBc} {f:FuncId} {e e':Env} {i:Nat} {c:Code} {s:RS} {R:Env→Option Log→Prop} {fz tk nl:Bool} {orc:zAA}
def zRG (c:Code) (i:Nat) (s:RS) (e':Env) (t:Tok):Option RS :=
 bif noY s.lg s.e (zDQ c i) then match (match (zDQ c i).guard with
  | none=>some t
  | some (j,want)=>match ((zFi c)[j]?).bind (·.dst) with
   | some u=>match s.e.get u with
    | .bool b=>bif b==want then some (Tok.join {rd:=[u]} t) else none
    | _=>none
   | none=>none) with
 | some t=>(zFf s.dr i (zDQ c i) t).map fun dr=>⟨dr,e',s.lg⟩
 | none=>none else none
theorem zXu {m:Option (Env×Tok)} (hm:∃ n0,∀ n,n0≤n→(zVB P H f c i).runT (zCR P H n) s.e=m) (h:WS P H f c (i+1) (zVq (m.bind fun r=>zRG c i s r.1 r.2)) R) (hs:(m.bind fun r=>zRG c i s r.1 r.2).isSome=true:=by kernel_rfl) (hi:Nat.blt i (zFi c).size=true:=by kernel_rfl):WS P H f c i s R:=by
 cases m with
 | none=>cases hs
 | some r =>
 obtain ⟨e',t⟩:=r
 have yx:=zLE hs
 revert h
 generalize zVq ((some (e',t)).bind fun r=>zRG c i s r.1 r.2)=s' at yx
 intro h
 obtain ⟨n0,hm⟩:=hm
 simp only [Option.bind_some,zRG] at yx
 rcases zBb yx with ⟨hy,yx⟩ | ⟨_,yx⟩
 case inr=>cases yx
 split at yx
 ·rename_i t' ht
  obtain ⟨dr,hd,rfl⟩:=Option.map_eq_some_iff.1 yx
  refine zWg hi ⟨n0,fun n hn=>?_⟩ hd h hy
  revert ht
  cases hg:(zDQ c i).guard with
  | none=>intro ht;simp only [Option.some.injEq] at ht;subst ht;simp only [zFv,hg];exact hm n hn
  | some w =>
   obtain ⟨j,want⟩:=w
   intro ht
   simp only at ht
   cases hj:((zFi c)[j]?).bind (·.dst) with
   | none=>rw [hj] at ht;cases ht
   | some u =>
    rw [hj] at ht;simp only at ht
    cases hv:s.e.get u<;>rw [hv] at ht<;>try (cases ht;done)
    rcases zBb ht with ⟨hb,ht⟩ | ⟨_,ht⟩
    ·have hb:=eq_of_beq hb
     simp only [Option.some.injEq] at ht;subst ht
     simp only [zFv,hg,hj,PM.runT,hv,hb,if_true]
     rw [hm n hn];rfl
    ·cases ht
 ·cases yx
theorem zNQ {x:Operand} {p:PV} {k:PV→PM} (hx:zWJ e x=p) (hp:p ≠ .bad):(opd x k).run orc e=(k p).run orc e:=by
 subst hx
 cases x with
 | tmp t=>rfl
 | const v=>rfl
 | func g=>rfl
 | global g=>exact (hp rfl).elim
theorem zNe {v:PV} (hh:v.heavy=false):v.cells.all (fun q => !q.heavy)=true:=by
 cases v<;>simp only [PV.cells,List.all_cons,List.all_nil,Bool.and_true,hh,Bool.not_false]
 rename_i cs
 simp only [PV.heavy] at hh
 refine List.all_eq_true.2 fun q hq=>?_
 obtain ⟨i,hi⟩:=List.getElem?_of_mem hq
 rw [zEg hh hi];rfl
theorem zL2:∀ {ps:List PV},ps.all (fun q=>q.ways.isEmpty)=true→zBp ps=[]
 | [],_=>rfl
 | p::ps,h=>by
  simp only [List.all_cons,Bool.and_eq_true,List.isEmpty_iff] at h
  simp only [zBp,h.1,List.nil_append,zL2 h.2]
end
end Go.Eng
namespace Go.Eng
open Go
section
variable [Yo] {P:Program} {H:zBc} {f:FuncId} {e e':Env} {i:Nat} {c:Code} {s:RS} {R:Env→Option Log→Prop} {fz tk nl:Bool} {orc:zAA}
theorem zHt {x:Option Env} (h:x.isSome=true):x=some (zLx x):=by cases x<;>first | rfl | cases h
theorem zTe {α:Type} {xs ys:List α} {y:α} {j:Nat} (h:j+(ys.length+1)≤xs.length):(xs.set j y).take (j+1)++ys++(xs.set j y).drop (j+1+ys.length)=xs.take j++(y::ys)++xs.drop (j+(ys.length+1)):=by
 obtain ⟨A, x, B, rfl, rfl⟩ : ∃ A x B, xs = A ++ x :: B ∧ A.length = j := ⟨xs.take j, xs[j]'(by omega), xs.drop (j + 1), by rw [← List.drop_eq_getElem_cons (by omega), List.take_append_drop], by simp; omega⟩
 have h1:(A++x::B).set A.length y=A++y::B:=by simp
 have h2:(A++y::B).take (A.length+1)=A++[y]:=by rw [List.take_append,List.take_of_length_le (by omega)];simp
 have h3:(A++y::B).drop (A.length+1+ys.length)=B.drop ys.length:=by
  rw [List.drop_append,List.drop_eq_nil_of_le (by omega)]
  simp [show A.length+1+ys.length-A.length=ys.length+1 by omega]
 have h4:(A++x::B).drop (A.length+(ys.length+1))=B.drop ys.length:=by
  rw [List.drop_append,List.drop_eq_nil_of_le (by omega)]
  simp
 have h5:(A++x::B).take A.length=A:=by simp
 rw [h1,h2,h3,h4,h5];simp
end
end Go.Eng
namespace Go.Eng
open Go
def Srt (e:Env):Prop:=e.Pairwise (fun a b=>a.1<b.1)∧∀ x∈e,x.2 ≠ .bad
theorem zMr:∀ {e:Env} {k:Nat},(∀ x∈e,k<x.1)→e.get k = .bad
 | [],_,_=>rfl
 | (k',v)::e,k,h=>by
  have h1:k<k':=h (k',v) (by simp)
  have:Nat.beq k' k=false:=by
   cases hb:Nat.beq k' k with
   | false=>rfl
   | true=>have:=Nat.eq_of_beq_eq_true hb;omega
  simp only [Env.get,this,cond_false]
  exact zMr fun x hx=>h x (by simp [hx])
theorem Srt.eq:∀ {e e':Env},Srt e→Srt e'→(∀ s,e.get s=e'.get s)→e=e'
 | [],[],_,_,_=>rfl
 | [],(k,v)::e',_,h2,h=>by
  have:=h k
  simp only [Env.get,Nat.beq_refl,cond_true] at this
  exact (h2.2 (k,v) (by simp) this.symm).elim
 | (k,v)::e,[],h1,_,h=>by
  have:=h k
  simp only [Env.get,Nat.beq_refl,cond_true] at this
  exact (h1.2 (k,v) (by simp) this).elim
 | (k, v)::e,(k',v')::e',h1,h2,h=>by
  obtain ⟨p1,q1⟩:=h1
  obtain ⟨p2,q2⟩:=h2
  obtain ⟨a1,b1⟩:=List.pairwise_cons.1 p1
  obtain ⟨a2,b2⟩:=List.pairwise_cons.1 p2
  have hk:k=k':=by
   rcases Nat.lt_trichotomy k k' with yI | u4 | yI
   ·have:=h k
    rw [zMr (e:=(k',v')::e') (k:=k) (fun x hx=>by
     rcases List.mem_cons.1 hx with rfl | hx
     ·exact yI
     ·exact Nat.lt_trans yI (a2 x hx))] at this
    simp only [Env.get,Nat.beq_refl,cond_true] at this
    exact (q1 (k,v) (by simp) this).elim
   ·exact u4
   ·have:=h k'
    rw [zMr (e:=(k,v)::e) (k:=k') (fun x hx=>by
     rcases List.mem_cons.1 hx with rfl | hx
     ·exact yI
     ·exact Nat.lt_trans yI (a1 x hx))] at this
    simp only [Env.get,Nat.beq_refl,cond_true] at this
    exact (q2 (k',v') (by simp) this.symm).elim
  subst hk
  have hv:=h k
  simp only [Env.get,Nat.beq_refl,cond_true] at hv
  subst hv
  congr 1
  refine Srt.eq ⟨b1,fun x hx=>q1 x (by simp [hx])⟩ ⟨b2,fun x hx=>q2 x (by simp [hx])⟩ fun s=>?_
  have hs:=h s
  simp only [Env.get] at hs
  cases hb:Nat.beq k s with
  | false=>rw [hb] at hs;exact hs
  | true =>
   have:=Nat.eq_of_beq_eq_true hb;subst this
   rw [zMr a1,zMr a2]
theorem zLe:∀ {e:Env} {k:Nat} {v:PV} {x:Nat×PV},x∈e.set k v→x=(k,v)∨x∈e
 | [],k,v,x,h=>by simp only [Env.set,List.mem_singleton] at h;exact .inl h
 | (k',v')::e,k,v,x,h=>by
  simp only [Env.set] at h
  cases hb:Nat.beq k' k with
  | true=>rw [hb] at h;simp only [cond_true,List.mem_cons] at h;rcases h with h | h<;>simp [h]
  | false =>
   rw [hb] at h;simp only [cond_false] at h
   cases hl:Nat.ble k k' with
   | true=>rw [hl] at h;simp only [cond_true,List.mem_cons] at h;rcases h with h | h | h<;>simp [h]
   | false =>
    rw [hl] at h;simp only [cond_false,List.mem_cons] at h
    rcases h with h | h
    ·simp [h]
    ·rcases zLe h with h | h<;>simp [h]
theorem Srt.set:∀ {e:Env} {k:Nat} {v:PV},Srt e→v ≠ .bad→Srt (e.set k v)
 | [],k,v,_,hv=>⟨by simp [Env.set],by simp [Env.set,hv]⟩
 | (k',v')::e,k,v,h,hv=>by
  obtain ⟨p,q⟩:=h
  obtain ⟨a,b⟩:=List.pairwise_cons.1 p
  refine ⟨?_,fun x hx=>by
   rcases zLe hx with rfl | hx
   ·exact hv
   ·exact q x hx⟩
  simp only [Env.set]
  cases hb:Nat.beq k' k with
  | true =>
   have:=Nat.eq_of_beq_eq_true hb;subst this
   exact List.pairwise_cons.2 ⟨a,b⟩
  | false =>
   have hI:k'≠k:=by intro h;subst h;rw [Nat.beq_refl] at hb;cases hb
   cases hl:Nat.ble k k' with
   | true =>
    have:=Nat.le_of_ble_eq_true hl
    exact List.pairwise_cons.2 ⟨fun x hx=>by
     rcases List.mem_cons.1 hx with rfl | hx
     ·show k<k';omega
     ·have:k'<x.1:=a x hx
      show k<x.1;omega,p⟩
   | false =>
    have yI:k'<k:=by
     have:¬ k≤k':=fun hh=>by rw [← Nat.ble_eq] at hh;rw [hh] at hl;cases hl
     omega
    refine List.pairwise_cons.2 ⟨fun x hx=>?_,(Srt.set ⟨b,fun x hx=>q x (by simp [hx])⟩ hv).1⟩
    rcases zLe hx with rfl | hx
    ·exact yI
    ·exact a x hx
theorem Srt.norm:∀ (e:Env),Srt e.norm
 | []=>⟨by simp [Env.norm],by simp [Env.norm]⟩
 | (k,v)::e=>by
  have ih:=Srt.norm e
  simp only [Env.norm,Env.put]
  split
  ·exact ⟨ih.1.filter _,fun x hx=>ih.2 x (List.mem_filter.1 hx).1⟩
  ·rename_i hv;exact ih.set (fun h=>hv h)
theorem zUt {e e':Env} (h:∀ s,e.get s=e'.get s):e.norm=e'.norm:=(Srt.norm e).eq (Srt.norm e') fun s=>by rw [zIq,zIq];exact h s
section
variable [Yo] {P:Program} {H:zBc} {f:FuncId} {i:Nat} {c:Code} {R:Env→Option Log→Prop}
theorem zFF {o:zAA} {fzs tks:List Nat} {nl:Bool} {ops:Array Oper}:∀ {l:List Oper} {i:Nat} {e g:Env} {r:Env×Option Log},g.get=e.get→zA5 P H o fzs tks nl ops l i e none=some r→∃ g1,zA5 P H o fzs tks nl ops l i g none=some (g1,r.2)∧g1.get=r.1.get
 | [],_,e,g,r,he,h=>by simp only [zA5,Option.some.injEq] at h;subst h;exact ⟨g,rfl,he⟩
 | x :: l,i,e,g,r,he,h=>by
  simp only [zA5,zCG] at h ⊢
  cases hs:(zFv P H ops (fzs.contains i) (tks.contains i) nl x).run o e with
  | none=>rw [hs] at h;cases h
  | some e1 =>
   rw [hs] at h
   obtain ⟨g1,h1,h2⟩:=zFw he hs
   rw [h1]
   exact zFF h2 h
theorem zTM {e e':Env} (h:WS P H f c i ⟨none,e',none⟩ R) (he:∀ s,e.get s=e'.get s):WS P H f c i ⟨none,e,none⟩ R:=by
 obtain ⟨n0,eN,lg',h1,h2⟩:=h
 refine ⟨n0,eN,lg',fun n hn=>?_,h2⟩
 obtain ⟨e1,h3,h4⟩:=h1 n hn
 simp only [zUC] at h3
 obtain ⟨g1,h5,h6⟩:=zFF (funext he) h3
 refine ⟨g1,h5,?_⟩
 rw [← h4]
 refine zUt fun s=>?_
 rw [Env.get_drop,Env.get_drop,h6]
def zTW (P:Program) (e:Env) (o:Oper):Option (Nat×PV×PV) :=
 match o.op with
 | .call c=>match c.callee,c.args.toList,c.argTypes.toList with
  | .builtin .copy,[x,y],t::_=>match (zBH P t).bind (szT P) with
   | some s=>some (s,zWJ e x,zWJ e y)
   | none=>none
  | _,_,_=>none
 | _=>none
def zWH (s:Nat) (x y:PV):Prop:=y.plain=true∧y.cells.length=s∧y.heavy=false∧y.cells.all (fun q=>q.ways.isEmpty)=true∧y.cells.length≤x.cells.length∧zAy x 0 y.cells=y
end
end Go.Eng
namespace Go.Eng
open Go
def Le (o o':zAA):Prop:=∀ g a h r,o g a h=some r→o' g a h=some r
theorem zQg {o0 o:zAA} (ho:Le o0 o):∀ {p:PM} {e:Env} {r:Env×Tok},p.runT o0 e=some r→p.runT o e=some r:=by
 intro p
 induction p with
 | ok=>intro e e1 h;exact h
 | fail=>intro e e1 h;cases h
 | view s k ih=>intro e e1 h;exact zAo h fun a h=>ih _ h
 | get s k ih=>intro e e1 h;simp only [PM.runT] at h ⊢;split at h<;>first | (cases h;done) | exact zAo h fun a h=>ih _ h
 | set s q k ih=>intro e e1 h;exact zAo h fun a h=>ih h
 | cells r pre i c n k ih=>intro e e1 h;simp only [PM.runT] at h ⊢;split at h<;>first | (cases h;done) | exact zAo h fun a h=>ih _ _ h
 | deep r pre k ih=>intro e e1 h;simp only [PM.runT] at h ⊢;split at h<;>first | (cases h;done) | exact zAo h fun a h=>ih _ h
 | wcells r pre i c qs k ih=>intro e e1 h;simp only [PM.runT] at h ⊢;split at h<;>first | (cases h;done) | exact zAo h fun a h=>ih h
 | wnode r pre q k ih =>
  intro e e1 h
  simp only [PM.runT] at h ⊢
  rcases zBb h with ⟨_,h⟩ | ⟨hl,h⟩
  ·cases h
  ·rw [hl];simp only [cond_false]
   split at h
   ·exact zAo h fun a h=>ih h
   ·cases h
 | kill r pre k ih=>intro e e1 h;exact zAo h fun a h=>ih h
 | frz r pre k ih=>intro e e1 h;simp only [PM.runT] at h ⊢;split at h<;>first | (cases h;done) | exact zAo h fun a h=>ih h
 | killEx r pre k ih=>intro e e1 h;exact zAo h fun a h=>ih h
 | forget r k ih=>intro e e1 h;exact zAo h fun a h=>ih h
 | call f args hid k ih =>
  intro e e1 h
  simp only [PM.runT] at h ⊢
  split at h
  ·rename_i v hX hq
   rw [ho _ _ _ _ hq];exact ih _ _ h
  ·cases h
section
variable [Yo] {P:Program} {H:zBc} {o0 o:zAA} (ho:Le o0 o) {fz tk nl:Bool} {fzs tks:List Nat} {ops:Array Oper} {nt:Nat} {hh:FHint} {yo0 yo:zCK} {al:All}
include ho in
theorem zJF {x:Oper} {h0:Nat} {args:List PV} {l:Log} {e:Env} {r:Env×Option Log} (h:zBG o0 ops x h0 args l e=some r):zBG o ops x h0 args l e=some r:=by
 simp only [zBG] at h ⊢
 split at h
 ·rcases zBb h with ⟨hc,h⟩ | ⟨_,h⟩
  ·rw [hc];simp only [cond_true]
   refine zAo h fun a h=>?_
   rcases zBb h with ⟨hk,h⟩ | ⟨hk,h⟩<;>rw [hk]
   ·exact zKf ho h
   ·exact zKf ho h
  ·cases h
 ·exact zAo h fun a h=>zKf ho h
 ·cases h
include ho in
theorem zSa {x:Oper} {e:Env} {lg:Option Log} {r:Env×Option Log} (h:zCG P H o0 fz tk nl ops x e lg=some r):zCG P H o fz tk nl ops x e lg=some r:=by
 simp only [zCG] at h ⊢
 split at h
 ·exact zAo h fun a h=>zKf ho h
 ·split at h
  ·exact zJF ho h
  ·exact zAo h fun a h=>zKf ho h
include ho in
theorem zSN {x:Oper} {e:Env} {lg:Option Log} {r:Env×Option Log×Tok} (h:zEd P H o0 fz tk nl ops x e lg=some r):zEd P H o fz tk nl ops x e lg=some r:=by
 simp only [zEd] at h ⊢
 split at h
 ·exact zAo h fun a h=>zQg ho h
 ·split at h
  ·exact zAo h fun a h=>zJF ho h
  ·exact zAo h fun a h=>zQg ho h
include ho in
theorem zHI:∀ {l:List Oper} {i:Nat} {e:Env} {lg:Option Log} {r:Env×Option Log},zA5 P H o0 fzs tks nl ops l i e lg=some r→zA5 P H o fzs tks nl ops l i e lg=some r
 | [],_,_,_,_,h=>h
 | x::l,i,e,lg,r,h=>by
  simp only [zA5] at h ⊢
  cases hs:zCG P H o0 (fzs.contains i) (tks.contains i) nl ops x e lg with
  | none=>rw [hs] at h;cases h
  | some q=>rw [hs] at h;rw [zSa ho hs];exact zHI h
include ho in
theorem zKn:∀ {l:List Oper} {i:Nat} {acc:List Nat} {ts:List Tok} {e:Env} {lg:Option Log} {r:Env×Option Log},zCr P H o0 fzs tks nl ops l i acc ts e lg=some r→zCr P H o fzs tks nl ops l i acc ts e lg=some r
 | [],_,_,_,_,_,_,h=>h
 | x :: l,i,acc,ts,e,lg,r,h=>by
  simp only [zCr] at h ⊢
  cases hs:zEd P H o0 (fzs.contains i) (tks.contains i) nl ops x e lg with
  | none=>rw [hs] at h;cases h
  | some q =>
   rw [hs] at h;rw [zSN ho hs]
   simp only at h ⊢
   rcases zBb h with ⟨hc,h⟩ | ⟨_,h⟩
   ·rw [hc];exact zKn h
   ·cases h
include ho in
theorem zQd:∀ {m:Nat} {c:Code} {e:Env} {lg:Option Log} {r:X×Env×Option Log},exec P H o0 yo0 zG2 nt hh m c e lg=some r→∀ {m':Nat},m≤m'→exec P H o yo al nt hh m' c e lg=some r
 | 0,_,_,_,_,h,_,_=>by cases h
 | m + 1,c,e,lg,r,h,m',hm=>by
  obtain ⟨m',rfl⟩:∃ k,m'=k+1:=⟨m'-1,by omega⟩
  have ih:∀ {c:Code} {e:Env} {lg:Option Log} {r:X×Env×Option Log},exec P H o0 yo0 zG2 nt hh m c e lg=some r→exec P H o yo al nt hh m' c e lg=some r:=fun h=>zQd h (by omega)
  cases c with
  | region id ops draw =>
   simp only [exec] at h ⊢
   split at h
   ·rename_i e1 lg1 h1
    have:(if draw=true then zCr P H o (hh.frzs id) (hh.take id) hh.nils ops ops.toList 0 [] [] e lg else zA5 P H o (hh.frzs id) (hh.take id) hh.nils ops ops.toList 0 e lg)=some (e1,lg1):=by
     cases draw with
     | true=>exact zKn ho h1
     | false=>exact zHI ho h1
    rw [this];exact h
   ·cases h
  | seq a b =>
   simp only [exec] at h ⊢
   cases h1:exec P H o0 yo0 zG2 nt hh m a e lg with
   | none=>rw [h1] at h;cases h
   | some q =>
    rw [h1] at h;rw [ih h1]
    obtain ⟨x,e1,lg1⟩:=q
    cases x with
    | norm=>exact ih h
    | ex id=>exact h
    | ret=>exact h
  | cond c a b =>
   cases c with
   | tmp t =>
    simp only [exec] at h ⊢
    revert h
    cases e.get t with
    | bool v=>intro h;cases v<;>exact ih h
    | _=>intro h;cases h
   | const v =>
    simp only [exec] at h ⊢
    revert h
    cases v with
    | bool v=>intro h;cases v<;>exact ih h
    | _=>intro h;cases h
   | _=>cases h
  | block id b =>
   simp only [exec] at h ⊢
   cases h1:exec P H o0 yo0 zG2 nt hh m b e lg with
   | none=>rw [h1] at h;cases h
   | some q =>
    rw [h1] at h;rw [ih h1];exact h
  | loop b =>
   simp only [exec] at h ⊢
   cases h1:exec P H o0 yo0 zG2 nt hh m b (e.drop (hh.loopDrop (zAN b))) lg with
   | none=>rw [h1] at h;cases h
   | some q =>
    rw [h1] at h;rw [ih h1]
    obtain ⟨x,e1,lg1⟩:=q
    cases x with
    | norm=>exact ih h
    | ex id=>exact h
    | ret=>exact h
  | scope b=>exact ih h
  | rangeFunc x ps ca cb =>
   cases x with
   | tmp t =>
    simp only [exec] at h
    cases lg with
    | none =>
     simp only at h
     obtain ⟨q,h1,_⟩:=Option.map_eq_some_iff.1 h
     simp only [zGV] at h1
     split at h1
     ·cases h1
     ·cases h1
    | some _=>cases h
   | _=>cases h
  | skip=>exact h
  | exit id=>exact h
  | ret=>exact h
  | label l=>exact h
  | _=>cases h
end
section
variable [Yo] {P:Program} {H:zBc}
theorem zR9 {o0 o:zAA} (ho:Le o0 o) {yo0 yo:zCK} {al:All} {n n':Nat} (hn:n≤n') {f:FuncId} {args hid:List PV} {r:PV×List PV} (h:zJy P H o0 yo0 zG2 n f args hid=some r):zJy P H o yo al n' f args hid=some r:=by
 simp only [zJy] at h ⊢
 cases hf:P.funcs[f]? with
 | none=>rw [hf] at h;cases h
 | some fn =>
  rw [hf] at h
  simp only at h ⊢
  by_cases hi:(H f).intr≠0
  ·rw [if_pos hi] at h ⊢;exact h
  ·rw [if_neg hi] at h ⊢
   cases hb:fn.body with
   | none=>rw [hb] at h;cases h
   | some body =>
    rw [hb] at h
    simp only [zJu] at h ⊢
    rcases zBb h with ⟨hc,h⟩ | ⟨_,h⟩
    ·rw [hc];simp only [cond_true]
     cases hx:exec P H o0 yo0 zG2 fn.ntmps (H f) n body (zA2 args hid) none with
     | none=>rw [hx] at h;cases h
     | some q =>
      rw [hx] at h;rw [zQd ho hx hn]
      obtain ⟨x,e1,lg⟩:=q
      cases x<;>cases lg<;>simp only at h ⊢ <;> try (cases h;done)
      all_goals
       cases hr:(zCC P (H f).frz 0 fn.results.toList).run o0 e1 with
       | none=>rw [hr] at h;cases h
       | some e2=>rw [hr] at h;rw [zKf ho hr];exact h
    ·cases h
abbrev zWe (P:Program) (H:zBc) (n:Nat):zAA:=(zRV P H zG2 n).1
theorem zOQ:∀ (n n':Nat),n≤n'→Le (zWe P H n) (zCR P H n')
 | 0,_,_=>fun g a h r hh=>by cases hh
 | n+1,n',hn=>by
  obtain ⟨k,rfl⟩:∃ k,n'=k+1:=⟨n'-1,by omega⟩
  intro g a h r hh
  exact zR9 (zOQ n k (by omega)) (by omega) hh
theorem zDi.closed {f:FuncId} {args hid hX:List PV} {v:PV} (n:Nat) (h:zWe P H n f args hid=some (v,hX):=by kernel_rfl):zDi P H f args hid v hX:=⟨n,fun n' hn=>zOQ n n' hn _ _ _ _ h⟩
end
end Go.Eng
namespace Go.Eng
open Go
section
variable {P:Program} {H:zBc}
theorem zQO (zE9:P.follows .mixedOrders=true) (hnm:zEK P) (zMi:Fit P H) (hin:zEz P H) {f:FuncId} {args:List PV} (hg:@zDi (yo1 P H) P H f args [] (.bool true) []) {w:World} {Φ:Nat→Prop} {vs:Array Value} (hΦ:∀ b,Φ b→b<w.heap.size) (hr:zAS w Φ zB7 args vs.toList []) (uQ:args.length≤zAn) :
  Calls P f vs w fun e w'=>e = .returned (.bool true)∧w.heap.size≤w'.heap.size∧(∀ b,b<w.heap.size→w'.heap[b]? = w.heap[b]?)∧w'.os=w.os∧w'.tape=w.tape∧w'.output=w.output:=by
 have wL:zAb=1000000000:=rfl
 have hhh:zAn=50000000:=rfl
 obtain ⟨n0,hg⟩:=hg
 obtain ⟨_,hm⟩:=@zE3 P H (yo1 P H) zE9 hnm zMi hin (zPC zE9 hnm zMi hin) n0 f args [] (.bool true) [] (hg n0 (Nat.le_refl _))
 obtain ⟨hZ,kF⟩:=zKQ hr
 have hvz:vs.size=args.length:=by rw [← hZ];simp
 have p2:Conf w (fun b=>∃ s,b∈((fun _=>[]):Nat→List Nat) s) Φ w Φ (fun s=>(vs[s]?).getD undef) (fun s=>(zA2 args []).get s) (fun _=>[]):=by
  refine ⟨fun s=>?_,fun _=>List.nodup_nil,fun _ _ _ _ h=>(by cases h),fun _ _ h=>(by cases h),fun b hb=>⟨hΦ b hb,.inl hb⟩,fun _ h=>h,Nat.le_refl _,fun _ _ _=>rfl,rfl,rfl,rfl⟩
  show Rep _ _ _ ((zA2 args []).get s) _ _
  rw [zDa (by omega)]
  by_cases h1:s<args.length
  ·rw [if_pos h1]
   obtain ⟨v,ui,kZ⟩:=kF s args[s] (List.getElem?_eq_getElem h1)
   have:vs[s]? = some v:=by rw [← Array.getElem?_toList];exact ui
   rw [this]
   simp only [List.getD,List.getElem?_eq_getElem h1,Option.getD_some]
   exact kZ.mono (fun b hb=>⟨hb,rfl⟩) (fun _ _ _ h=>h.elim) (by simp)
  ·rw [if_neg h1,if_neg (by simp only [List.length_nil];omega)]
   rfl
 have hc:=hm w Φ (fun s=>(vs[s]?).getD undef) (fun s=>(zA2 args []).get s) (fun _=>[]) vs (fun _ _=>rfl) (fun s hs=>by
   rw [zDa (by omega),if_neg (by omega),if_neg (by simp only [List.length_nil];omega)]) p2 hvz (fun j hj=>by rw [Array.getElem?_eq_getElem (by omega)];rfl) (fun s hs _=>by rw [Array.getElem?_eq_none (by omega)];rfl)
 refine hc.mono fun e w' ⟨u,Φ',rv',E',L',he,C,_,_,un⟩=>?_
 obtain ⟨h1,h2⟩:=un.one (fun ps h=>by cases h)
 have hO:=C.rep zAx
 rw [h1] at hO
 have hu:u = .bool true:=by rw [← h2];exact hO.1
 refine ⟨by rw [he,hu],C.size,fun b hb=>C.kept b hb (fun ⟨s,hs⟩=>by cases hs),C.os,C.tape,C.output⟩
end
end Go.Eng
namespace Go.Eng
open Go
section
variable [Yo] {P:Program} {H:zBc} {f:FuncId} {nt:Nat} {e e':Env} {lg:Option Log} {K:X→Env→Option Log→Prop} {i:Nat} {c:Code} {s:RS} {R:Env→Option Log→Prop} {fz tk nl:Bool} {orc:zAA}
theorem zCn (p:Prop) [Decidable p] (h1:p→W P H f nt (cl c) e lg K) (h2:¬p→W P H f nt (cr c) e lg K) (hc:zEs c e=some (decide p):=by kernel_rfl):W P H f nt c e lg K :=
 zEu (decide p) (fun h=>h1 (of_decide_eq_true h)) (fun h=>h2 (of_decide_eq_false h)) hc
theorem zA0 (p:Prop) [Decidable p] (hp:p) (h1:W P H f nt (cl c) e lg K) (hc:zEs c e=some (decide p):=by kernel_rfl):W P H f nt c e lg K :=
 zEu (decide p) (fun _=>h1) (fun h=>absurd hp (of_decide_eq_false h)) hc
theorem zA1 (p:Prop) [Decidable p] (hp:¬p) (h2:W P H f nt (cr c) e lg K) (hc:zEs c e=some (decide p):=by kernel_rfl):W P H f nt c e lg K :=
 zEu (decide p) (fun h=>absurd (of_decide_eq_true h) hp) (fun _=>h2) hc
theorem zDE (p:Prop) [Decidable p] (h1:¬p→W P H f nt (cl c) e lg K) (h2:p→W P H f nt (cr c) e lg K) (hc:zEs c e=some (!decide p):=by kernel_rfl):W P H f nt c e lg K :=
 zEu (!decide p) (fun h=>h1 (by simpa using h)) (fun h=>h2 (by simpa using h)) hc
theorem zEV (p:Prop) [Decidable p] (hp:¬p) (h1:W P H f nt (cl c) e lg K) (hc:zEs c e=some (!decide p):=by kernel_rfl):W P H f nt c e lg K :=
 zDE p (fun _=>h1) (fun h=>absurd h hp) hc
theorem zFr (p:Prop) [Decidable p] (hp:p) (h1:W P H f nt (cr c) e lg K) (hc:zEs c e=some (!decide p):=by kernel_rfl):W P H f nt c e lg K :=
 zDE p (fun h=>absurd hp h) (fun _=>h1) hc
theorem zFh (t:Nat) (b:Bool) (h1:b=true→WS P H f c i ⟨s.dr,s.e.set t (.bool true),s.lg⟩ R) (h2:b=false→WS P H f c i ⟨s.dr,s.e.set t (.bool false),s.lg⟩ R) (hb:s.e.set t (.bool b)=s.e:=by kernel_rfl):WS P H f c i s R:=by
 obtain ⟨dr,e,lg⟩:=s
 simp only at h1 h2 hb
 rw [← hb]
 cases b with
 | true=>exact h1 rfl
 | false=>exact h2 rfl
theorem zEY (t:Nat) (p:Prop) [Decidable p] (h1:p→WS P H f c i ⟨s.dr,s.e.set t (.bool true),s.lg⟩ R) (h2:¬p→WS P H f c i ⟨s.dr,s.e.set t (.bool false),s.lg⟩ R) (hb:s.e.set t (.bool (decide p))=s.e:=by kernel_rfl):WS P H f c i s R :=
 zFh t (decide p) (fun h=>h1 (of_decide_eq_true h)) (fun h=>h2 (of_decide_eq_false h)) hb
theorem zMA (t:Nat) (p:Prop) [Decidable p] (hp:p) (h1:WS P H f c i ⟨s.dr,s.e.set t (.bool true),s.lg⟩ R) (hb:s.e.set t (.bool (decide p))=s.e:=by kernel_rfl):WS P H f c i s R :=
 zEY t p (fun _=>h1) (fun h=>absurd hp h) hb
theorem zTQ (t:Nat) (p:Prop) [Decidable p] (h1:¬p→WS P H f c i ⟨s.dr,s.e.set t (.bool true),s.lg⟩ R) (h2:p→WS P H f c i ⟨s.dr,s.e.set t (.bool false),s.lg⟩ R) (hb:s.e.set t (.bool (!decide p))=s.e:=by kernel_rfl):WS P H f c i s R :=
 zFh t (!decide p) (fun h=>h1 (by simpa using h)) (fun h=>h2 (by simpa using h)) hb
theorem zUy (t:Nat) (p:Prop) [Decidable p] (hp:p) (h1:WS P H f c i ⟨s.dr,s.e.set t (.bool false),s.lg⟩ R) (hb:s.e.set t (.bool (!decide p))=s.e:=by kernel_rfl):WS P H f c i s R :=
 zTQ t p (fun h=>absurd hp h) (fun _=>h1) hb
theorem get_map {α β:Type} {g:α→β} {l:List α} {i:Nat} {d:α} (h:i<l.length):(l.map g)[i]? = some (g (l.getD i d)):=by
 simp [List.getD,List.getElem?_eq_getElem h]
def zWY (e:Env) (p q:PV) (l:List (Nat×zAO)) (t:Tok):Prop:=∀ (orc:zAA) (k:PV→List (Nat×zAO)→PM),(zPi p k).runT orc e=((k q l).runT orc e).map fun y=>(y.1,Tok.join t y.2)
inductive SeenAllT (e:Env):List Nat→List PV→List Arg→List Tok→Prop where
 | nil {ms}:SeenAllT e ms [] [] []
 | ref {ms ps as ts p}:SeenAllT e ms.tail ps as ts→(hb:Nat.beq (ms.headD 0) 1=true:=by kernel_rfl)→SeenAllT e ms (p::ps) ({p:=p,byref:=true}::as) ts
 | one {ms ps as ts p q l t}:zWY e p q l t→SeenAllT e ms.tail ps as ts→(hb:Nat.beq (ms.headD 0) 1=false:=by kernel_rfl)→SeenAllT e ms (p::ps) ({p:=q,shared:=l}::as) (t::ts)
def zMR:List (Nat×PV)→Env→Env
 | [],e=>e
 | (k,v)::l,e=>zMR l (e.set k v)
theorem zAu {σ:Type} {c:Code} (Inv:σ→Prop) (upd:σ→List (Nat×PV)) (μ:σ→Nat) (s:σ) (hi:Inv s) (h:∀ s,Inv s→W P H f nt (cl c) (zMR (upd s) (e.drop ((H f).loopDrop (zAN (cl c))))) lg fun x e' lg'=>match x with
   | .norm=>∃ s',Inv s'∧μ s'<μ s∧e'.drop ((H f).loopDrop (zAN (cl c)))=zMR (upd s') (e.drop ((H f).loopDrop (zAN (cl c))))∧lg'=lg
   | x=>K x e' lg') (hs:e.drop ((H f).loopDrop (zAN (cl c)))=zMR (upd s) (e.drop ((H f).loopDrop (zAN (cl c)))):=by kernel_rfl) (hc:zNR c=true:=by kernel_rfl):W P H f nt c e lg K :=
 zWm Inv (fun s=>zMR (upd s) (e.drop ((H f).loopDrop (zAN (cl c))))) μ s hi h hs hc
end
end Go.Eng
namespace Go.Eng
open Go
theorem zJg {x:Nat→Option (List (List PV))} {r:List (List PV)} (h:∀ i,x i=some r):zB5 x=some r:=by
 have h':∃ r,∀ i,x i=some r:=⟨r,h⟩
 simp only [zB5,dif_pos h']
 have:=(Classical.choose_spec h') 0
 rw [h 0] at this
 exact this.symm
section
def zTj [Yo] (g:FuncId) (first caps:List PV) (k:Int) (xs:List (List PV)):Prop:=∀ i,Yo.yo g first i caps k=some xs
def zFS [Yo] (g:FuncId) (first caps:List PV) (xs:List (List PV)):Prop:=zTj g first caps (-1) xs∧∀ j:Nat,1≤j→j≤xs.length→zTj g first caps j (xs.take j)
variable [Yo] (P:Program) (H:zBc)
def zK4 (f:FuncId) (nt:Nat) (ps:List Tmp) (assign body:Code) (x:List PV) (e:Env) (K:X→Env→Prop):Prop :=
 ∃ e1,zCl ps x e=some e1∧W P H f nt assign e1 none fun y e2 lg=>y = .norm∧lg=none∧W P H f nt body e2 none fun y e3 lg=>lg=none∧K y e3
def Rg (f:FuncId) (nt:Nat) (ps:List Tmp) (assign body:Code) (R ds:List Nat) (K:X→Env→Option Log→Prop):List (List PV)→Env→Prop
 | [],e=>K .norm e none
 | x :: xs,e=>zK4 P H f nt ps assign body x e fun y e3=>match y with
  | .norm=>match R with
   | []=>Rg f nt ps assign body R ds K xs (after nt [] ds e e3)
   | r::R'=>zF3 e (zCM e (r::R'))=true∧∃ e1,zEn (zCM e (r::R')) e=some e1∧zK4 P H f nt ps assign body x e1 fun y e3=>y = .norm∧Rg f nt ps assign body R ds K xs (after nt (zCM e (r::R')) ds e e3)
  | y=>K y (after nt [] ds e e3) none
end
section
variable [Yo] {P:Program} {H:zBc} {f:FuncId} {nt:Nat} {e e':Env} {lg:Option Log} {K:X→Env→Option Log→Prop}
noncomputable abbrev zNm (P:Program) (H:zBc) (f:FuncId) (nt n m:Nat):Code→Env→Option (X×Env):=fun c e=>match exec P H (zCR P H n) Yo.yo zB5 nt (H f) m c e none with | some (x,e',none)=>some (x,e') | _=>none
def zN1 (run:Code→Env→Option (X×Env)) (ps:List Tmp) (assign body:Code) (x:List PV) (e:Env):Option (X×Env):=match zCl ps x e with
 | some e1=>match run assign e1 with
  | some (.norm,e2)=>run body e2
  | _=>none
 | none=>none
theorem zBD {run:Code→Env→Option (X×Env)} {ps:List Tmp} {assign body:Code} {R ds:List Nat} {x:List PV} {xs:List (List PV)} {j:Nat}:zC2 nt run ps assign body R ds (x::xs) e j=(match zN1 run ps assign body x e with
  | some (.norm,e3)=>match R with
   | []=>zC2 nt run ps assign body R ds xs (after nt [] ds e e3) (j+1)
   | r :: R=>match (bif zF3 e (zCM e (r::R)) then zEn (zCM e (r::R)) e else none) with
    | some e1=>match zN1 run ps assign body x e1 with
     | some (.norm,e3)=>zC2 nt run ps assign body (r::R) ds xs (after nt (zCM e (r::R)) ds e e3) (j+1)
     | _=>none
    | none=>none
  | some (r,e3)=>some (some (j+1,r),after nt [] ds e e3)
  | none=>none):=by
 cases R<;>rfl
theorem zK4.run {ps:List Tmp} {assign body:Code} {x:List PV} {K:X→Env→Prop} (h:zK4 P H f nt ps assign body x e K):∃ n0 y e3,(∀ n m,n0≤n→n0≤m→zN1 (zNm P H f nt n m) ps assign body x e=some (y,e3))∧K y e3:=by
 obtain ⟨e1,h1,n1,y,e2,lg,h2,rfl,rfl,n2,z,e3,lg,h3,rfl,h4⟩:=h
 refine ⟨max n1 n2,z,e3,fun n m hn hm=>?_,h4⟩
 simp only [zN1,h1,zNm,h2 n m (by omega) (by omega),h3 n m (by omega) (by omega)]
theorem Rg.run {ps:List Tmp} {assign body:Code} {R ds:List Nat}:∀ {xs:List (List PV)} {e:Env},Rg P H f nt ps assign body R ds K xs e→∃ n0,
  (∃ e',(∀ n m j,n0≤n→n0≤m→zC2 nt (zNm P H f nt n m) ps assign body R ds xs e j=some (none,e'))∧K .norm e' none) ∨
  (∃ i y e',i<xs.length∧y ≠ .norm∧(∀ n m j,n0≤n→n0≤m→zC2 nt (zNm P H f nt n m) ps assign body R ds xs e j=some (some (j+i+1,y),e')) ∧
   (∀ n m j,n0≤n→n0≤m→zC2 nt (zNm P H f nt n m) ps assign body R ds (xs.take (i+1)) e j=some (some (j+i+1,y),e'))∧K y e' none)
 | [],e,h=>⟨0,.inl ⟨e,fun _ _ _ _ _=>rfl,h⟩⟩
 | x :: xs,e,h=>by
  obtain ⟨n1,y,e3,h1,h2⟩:=zK4.run h
  cases y with
  | norm =>
   cases R with
   | nil =>
    simp only at h2
    obtain ⟨n2,h3⟩:=Rg.run h2
    refine ⟨max n1 n2,?_⟩
    rcases h3 with ⟨e',h3,h4⟩ | ⟨i,y,e',hi,hy,h3,h4,h5⟩
    ·exact .inl ⟨e',fun n m j hn hm=>by rw [zBD,h1 n m (by omega) (by omega)];exact h3 n m _ (by omega) (by omega),h4⟩
    ·refine .inr ⟨i+1,y,e',by simp;omega,hy,fun n m j hn hm=>?_,fun n m j hn hm=>?_,h5⟩
     ·rw [zBD,h1 n m (by omega) (by omega)];simp only;rw [h3 n m _ (by omega) (by omega)];simp only [Option.some.injEq,Prod.mk.injEq,and_true];omega
     ·rw [List.take_succ_cons,zBD,h1 n m (by omega) (by omega)];simp only;rw [h4 n m _ (by omega) (by omega)];simp only [Option.some.injEq,Prod.mk.injEq,and_true];omega
   | cons r R' =>
    simp only at h2
    obtain ⟨hc,e1,hf,hr⟩:=h2
    obtain ⟨n3,z,e4,h6,rfl,h7⟩:=zK4.run hr
    obtain ⟨n2,h3⟩:=Rg.run h7
    refine ⟨max n1 (max n2 n3),?_⟩
    rcases h3 with ⟨e',h3,h4⟩ | ⟨i,y,e',hi,hy,h3,h4,h5⟩
    ·exact .inl ⟨e',fun n m j hn hm=>by rw [zBD,h1 n m (by omega) (by omega)];simp only [hc,cond_true,hf,h6 n m (by omega) (by omega)];exact h3 n m _ (by omega) (by omega),h4⟩
    ·refine .inr ⟨i+1,y,e',by simp;omega,hy,fun n m j hn hm=>?_,fun n m j hn hm=>?_,h5⟩
     ·rw [zBD,h1 n m (by omega) (by omega)];simp only [hc,cond_true,hf,h6 n m (by omega) (by omega)];rw [h3 n m _ (by omega) (by omega)];simp only [Option.some.injEq,Prod.mk.injEq,and_true];omega
     ·rw [List.take_succ_cons,zBD,h1 n m (by omega) (by omega)];simp only [hc,cond_true,hf,h6 n m (by omega) (by omega)];rw [h4 n m _ (by omega) (by omega)];simp only [Option.some.injEq,Prod.mk.injEq,and_true];omega
  | ex id =>
   refine ⟨n1,.inr ⟨0,.ex id,_,by simp,by simp,fun n m j hn hm=>?_,fun n m j hn hm=>?_,h2⟩⟩
   ·rw [zBD,h1 n m (by omega) (by omega)]
   ·rw [List.take_succ_cons,zBD,h1 n m (by omega) (by omega)]
  | ret =>
   refine ⟨n1,.inr ⟨0,.ret,_,by simp,by simp,fun n m j hn hm=>?_,fun n m j hn hm=>?_,h2⟩⟩
   ·rw [zBD,h1 n m (by omega) (by omega)]
   ·rw [List.take_succ_cons,zBD,h1 n m (by omega) (by omega)]
def rgT:Code→Option Nat
 | .rangeFunc (.tmp t) _ _ _=>some t
 | _=>none
def zWE:Code→List Tmp
 | .rangeFunc _ ps _ _=>ps.toList
 | _=>[]
def rgA:Code→Code
 | .rangeFunc _ _ a _=>a
 | c=>c
def rgB:Code→Code
 | .rangeFunc _ _ _ b=>b
 | c=>c
def zVr (c:Code):List Nat:=zWE c++zBE (rgA c)++zBE (rgB c)
theorem zUM {t:Tmp} {ps:Array Tmp} {assign body:Code} {g:FuncId} {first caps:List PV} {R:List Nat} {xs:List (List PV)} (yP:zDI e t=some (g,first,caps,R)) (hY:zFS g first caps xs)
  (h:Rg P H f nt ps.toList assign body R (ps.toList++zBE assign++zBE body) K xs e):W P H f nt (.rangeFunc (.tmp t) ps assign body) e none K:=by
 obtain ⟨hY1,hY2⟩:=hY
 obtain ⟨n2,hr⟩:=Rg.run h
 rcases hr with ⟨e',h3,h4⟩ | ⟨i,y,e',hi,hy,h3,h4,h5⟩
 ·refine ⟨n2+1,.norm,e',none,fun n m hn hm=>?_,h4⟩
  obtain ⟨m,rfl⟩:∃ k,m=k+1:=⟨m-1,by omega⟩
  show (zGV nt Yo.yo zB5 (zNm P H f nt n m) t ps.toList assign body e).map (fun x=>(x.1,x.2,none))=_
  simp only [zGV,yP,zJg (fun i=>hY1 i),h3 n m 0 (by omega) (by omega),Option.map_some]
 ·have hY2:=hY2 (i+1) (by omega) (by omega)
  refine ⟨n2+1,y,e',none,fun n m hn hm=>?_,h5⟩
  obtain ⟨m,rfl⟩:∃ k,m=k+1:=⟨m-1,by omega⟩
  show (zGV nt Yo.yo zB5 (zNm P H f nt n m) t ps.toList assign body e).map (fun x=>(x.1,x.2,none))=_
  simp only [zGV,yP,zJg (fun i=>hY1 i),h3 n m 0 (by omega) (by omega)]
  have hcast:((0+i+1:Nat):Int)=((i+1:Nat):Int):=by omega
  rw [hcast,zJg (fun i=>hY2 i)]
  simp only [h4 n m 0 (by omega) (by omega),List.length_take]
  rw [if_pos ⟨trivial,by omega⟩]
  rfl
theorem zQi {c:Code} {t g:Nat} {first caps:List PV} {R:List Nat} {xs:List (List PV)} (hY:zFS g first caps xs) (h:Rg P H f nt (zWE c) (rgA c) (rgB c) R (zVr c) K xs e) (yP:zDI e t=some (g,first,caps,R):=by kernel_rfl) (hc:rgT c=some t:=by kernel_rfl) (hl:lg=none:=by kernel_rfl):W P H f nt c e lg K:=by
 subst hl
 cases c<;>try (cases hc;done)
 rename_i x ps a b
 cases x<;>try (cases hc;done)
 rename_i u
 simp only [rgT,Option.some.injEq] at hc;subst hc
 exact zUM yP hY h
theorem zUB {σ:Type} {c:Code} {t g:Nat} {first caps:List PV} {xs:List (List PV)} (hY:zFS g first caps xs) (Inv:Nat→σ→Prop) (I:σ→Env) (s:σ) (hi:Inv 0 s)
  (h:∀ j x s,xs[j]? = some x→Inv j s→zK4 P H f nt (zWE c) (rgA c) (rgB c) x (I s) fun y e3=>match y with
   | .norm=>∃ s',Inv (j+1) s'∧after nt [] (zVr c) (I s) e3=I s'
   | y=>K y (after nt [] (zVr c) (I s) e3) none) (hK:∀ s,Inv xs.length s→K .norm (I s) none) (hs:e=I s:=by kernel_rfl) (yP:zDI e t=some (g,first,caps,[]):=by kernel_rfl) (hc:rgT c=some t:=by kernel_rfl) (hl:lg=none:=by kernel_rfl):W P H f nt c e lg K:=by
 refine zQi hY ?_ yP hc hl
 clear yP hY
 subst hs
 have key:∀ (ys:List (List PV)) (j:Nat) (s:σ),xs.drop j=ys→j≤xs.length→Inv j s→Rg P H f nt (zWE c) (rgA c) (rgB c) [] (zVr c) K ys (I s):=by
  intro ys
  induction ys with
  | nil =>
   intro j s hd hj hi
   have:j=xs.length:=by
    have:=congrArg List.length hd;simp at this;omega
   subst this
   exact hK s hi
  | cons x ys ih =>
   intro j s hd hj hi
   have hx:xs[j]? = some x:=by
    have:=congrArg (fun l=>l[0]?) hd
    simpa using this
   have yI:=(List.getElem?_eq_some_iff.1 hx).1
   obtain ⟨e1,h1,h2⟩:=h j x s hx hi
   refine ⟨e1,h1,zTU h2 fun y e2 lg ⟨a1,a2,a3⟩=>⟨a1,a2,zTU a3 fun y e3 lg ⟨b1,b2⟩=>⟨b1,?_⟩⟩⟩
   cases y with
   | norm =>
    obtain ⟨s',yx,he⟩:=b2
    simp only
    rw [he]
    refine ih (j+1) s' ?_ (by omega) yx
    rw [← List.drop_drop,hd];rfl
   | ex id=>exact b2
   | ret=>exact b2
 exact key xs 0 s rfl (by omega) hi
theorem zOI {ps:List Tmp} {a b:Code} {x:List PV} {K:X→Env→Prop} (h:W P H f nt a ((zCl ps x e).getD []) none fun y e2 lg=>y = .norm∧lg=none∧W P H f nt b e2 none fun y e3 lg=>lg=none∧K y e3) (hp:(zCl ps x e).isSome=true:=by kernel_rfl):zK4 P H f nt ps a b x e K:=by
 obtain ⟨e1,h1⟩:=Option.isSome_iff_exists.1 hp
 rw [h1] at h
 exact ⟨e1,h1,h⟩
omit [Yo] in
theorem zTm (fn:Func) {g:FuncId} {first caps:List PV} {k:Int} {xs:List (List PV)} (h:∀ i,@W yo0 P H g fn.ntmps (fn.body.getD .ret) (zA2 (first++PV.yld i::caps) []) (some ⟨[],k,i⟩) fun x _ lg=>(x = .norm∨x = .ret)∧lg.map (·.xs)=some xs) (hk:k≠0)
  (hf:P.funcs[g]? = some fn:=by kernel_rfl) (hb:fn.body.isSome=true:=by kernel_rfl) (hc:∀ i,(Nat.ble (first++PV.yld i::caps).length fn.ntmps&&fn.results.isEmpty&&(first++caps).all (fun p => !p.isTup))=true:=by intro i;kernel_rfl) (hin:Nat.beq (H g).intr 0=true:=by kernel_rfl):@zTj (yo1 P H) g first caps k xs:=by
 intro i
 obtain ⟨body,hb⟩:∃ body,fn.body=some body:=by cases hx:fn.body<;>first | exact ⟨_,rfl⟩ | (rw [hx] at hb;cases hb)
 have h:=h i
 simp only [hb,Option.getD_some] at h
 obtain ⟨n0,x,e1,lg1,h1,hx,hl⟩:=h
 refine zVa (n0:=n0) fun n hn=>?_
 have j1:=h1 n (n+1) (by omega) (by omega)
 cases lg1 with
 | none=>cases hl
 | some l =>
  simp only [Option.map_some,Option.some.injEq] at hl
  simp only [zS9,zWy,hf,hb]
  have wC:(k != 0)=true:=by simpa using hk
  have hc':=hc i
  rw [hc',wC,hin]
  simp only [Bool.and_self,cond_true,j1]
  rcases hx with rfl | rfl<;>simp [hl]
end
end Go.Eng
namespace Go.Eng
open Go
inductive PX where
 | ok | fail | emb (p:PM)
 | view (s:Nat) (k:PV→PX) | get (s:Nat) (k:PV→PX) | set (s:Nat) (p:PV) (k:PX)
 | cells (r:Nat) (pre:zAO) (i c n:Nat) (k:Bool→List PV→PX) | deep (r:Nat) (pre:zAO) (k:PV→PX)
 | wcells (r:Nat) (pre:zAO) (i c:Nat) (qs:List PV) (k:PX) | wnode (r:Nat) (pre:zAO) (q:PV) (k:PX)
 | kill (r:Nat) (pre:zAO) (k:PX) | frz (r:Nat) (pre:zAO) (k:PX) | frzp (r:Nat) (pre:zAO) (p:PV) (k:PV→PX) | killEx (r:Nat) (keep:List zAO) (k:PX)
 | call (f:FuncId) (args hid:List PV) (k:PV→List PV→PX)
 | test (b:Bool) (k:PX) | pick (x:Option PV) (k:PV→PX) | num (x:Option Nat) (k:Nat→PX) | idx (x:Option (Option Nat)) (k:Option Nat→PX)
 | choose (b:Bool) (k1 k2:PX) | same (p:PV) (k:PV→PX) | sames (ps:List PV) (k:List PV→PX)
 | nats (x:List Nat) (k:List Nat→PX) | pure (d:Option Nat) (f:FuncId) (args:List PV) (k:PX)
def PX.toPM:PX→PM
 | .ok => .ok
 | .fail => .fail
 | .emb p=>p
 | .view s k => .view s fun p=>(k p).toPM
 | .get s k => .get s fun p=>(k p).toPM
 | .set s p k => .set s p k.toPM
 | .cells r pre i c n k => .cells r pre i c n fun a qs=>(k a qs).toPM
 | .deep r pre k => .deep r pre fun q=>(k q).toPM
 | .wcells r pre i c qs k => .wcells r pre i c qs k.toPM
 | .wnode r pre q k => .wnode r pre q k.toPM
 | .kill r pre k => .kill r pre k.toPM
 | .frz r pre k => .frz r pre k.toPM
 | .frzp r pre p k => .frz r pre (k p).toPM
 | .killEx r keep k => .killEx r keep k.toPM
 | .call f args hid k => .call f args hid fun v h=>(k v h).toPM
 | .test b k=>bif b then k.toPM else .fail
 | .pick x k=>match x with
  | some v=>(k v).toPM
  | none => .fail
 | .num x k=>match x with
  | some v=>(k v).toPM
  | none => .fail
 | .idx x k=>match x with
  | some v=>(k v).toPM
  | none => .fail
 | .choose b k1 k2=>bif b then k1.toPM else k2.toPM
 | .same p k=>(k p).toPM
 | .sames ps k=>(k ps).toPM
 | .nats x k=>(k x).toPM
 | .pure _ _ _ k=>k.toPM
inductive An where
 | ob | v (p:PV) | vs (ps:List PV) | n (k:Nat) | ix (k:Option Nat) | yes | no | cs (a:Bool) (qs:List PV) | root (r:PV) (kept:Bool) | ret (v:PV) (hid:List PV) | ns (l:List Nat) | env (e:Env) | envv (e:Env) (q:PV)
abbrev Ans:=List (Nat×An)
def zGd:Ans→Option An×Ans
 | []=>(none,[])
 | (0,a)::l=>(some a,l)
 | (n+1,a)::l=>(none,(n,a)::l)
section
variable [Yo] (P:Program) (H:zBc)
def zSU (f:FuncId) (args:List PV) (v:PV):Prop:=∀ (d:Option Nat) (e:Env),∃ n0,∀ n,n0≤n→(zM3 H d f args).runT (zCR P H n) e=(put d v).runT (zCR P H n) e
abbrev XR:=Option (Env×Tok×List Prop)
def XR.tok (t:Tok) (x:XR):XR:=x.map fun y=>(y.1,Tok.join t y.2.1,y.2.2)
def XR.ob (q:Prop) (x:XR):XR:=x.map fun y=>(y.1,y.2.1,q::y.2.2)
def PX.run:PX→Ans→Env→XR
 | .ok,_,e=>some (e,{},[])
 | .fail,_,_=>none
 | .emb p,_,e=>(p.runT zHl e).map fun y=>(y.1,y.2,[])
 | .view s k,as,e=>((k (Eng.view s (e.get s))).run as e).tok {look:=[s]}
 | .get s k,as,e=>match e.get s with
  | .lock _=>none
  | p=>((k p).run as e).tok {rd:=[s]}
 | .set s p k,as,e=>(k.run as (e.set s p)).tok (zFg s (e.get s) p)
 | .cells r pre i c n k,as,e=>match zGd as with
  | (none,as)=>match zAv r (e.get r) pre i c n with
   | some (a,qs)=>((k a qs).run as e).tok {cel:=[(r,pre)]}
   | none=>none
  | (some (.cs a qs),as)=>(((k a qs).run as e).tok {cel:=[(r,pre)]}).ob (zAv r (e.get r) pre i c n=some (a,qs))
  | _=>none
 | .deep r pre k,as,e=>match zGd as with
  | (none,as)=>match zAw (e.get r).unlock pre with
   | some q=>((k q).run as e).tok {rd:=[r]}
   | none=>none
  | (some (.v q),as)=>(((k q).run as e).tok {rd:=[r]}).ob (zAw (e.get r).unlock pre=some q)
  | _=>none
 | .wcells r pre i c qs k,as,e=>match zGd as with
  | (none,as)=>match zBF (e.get r) pre i c qs with
   | some root=>(k.run as (e.set r root)).tok (zA7 r [] (zAJ (e.get r) root pre) (e.get r) root)
   | none=>none
  | (some (.root root kp),as)=>((k.run as (e.set r root)).tok (zA7 r [] kp (e.get r) root)).ob (zBF (e.get r) pre i c qs=some root∧zAJ (e.get r) root pre=kp)
  | _=>none
 | .wnode r pre q k,as,e=>match zGd as with
  | (none,as)=>bif (e.get r).isLock then none else match zAs (fun _=>some q) (e.get r) pre with
   | some root=>(k.run as (e.set r root)).tok (zA7 r pre.dropLast (zAJ (e.get r) root pre&&(pre.isEmpty || !q.isAgg)) (e.get r) root)
   | none=>none
  | (some (.root root kp),as)=>bif (e.get r).isLock then none else ((k.run as (e.set r root)).tok (zA7 r pre.dropLast (kp&&(pre.isEmpty || !q.isAgg)) (e.get r) root)).ob (zAs (fun _=>some q) (e.get r) pre=some root∧zAJ (e.get r) root pre=kp)
  | _=>none
 | .kill r pre k,as,e=>(k.run as (e.kill r pre)).tok (zAH (zDc e fun z=>zAG r pre z.1 z.2) e.get (e.kill r pre).get [r] [])
 | .frz r pre k,as,e=>match zGd as with
  | (none,as)=>match e.frz r pre with
   | some e'=>(k.run as e').tok (zAH (r::zDc e fun z=>zAG r pre z.1 z.2) e.get e'.get [r] [])
   | none=>none
  | (some (.env e'),as)=>((k.run as e').tok (zAH (r::zDc e fun z=>zAG r pre z.1 z.2) e.get e'.get [r] [])).ob (e.frz r pre=some e')
  | _=>none
 | .frzp r pre p k,as,e=>match zGd as with
  | (none,as)=>match e.frz r pre with
   | some e'=>((k p).run as e').tok (zAH (r::zDc e fun z=>zAG r pre z.1 z.2) e.get e'.get [r] [])
   | none=>none
  | (some (.env e'),as)=>(((k p).run as e').tok (zAH (r::zDc e fun z=>zAG r pre z.1 z.2) e.get e'.get [r] [])).ob (e.frz r pre=some e')
  | (some (.envv e' q),as)=>(((k q).run as e').tok (zAH (r::zDc e fun z=>zAG r pre z.1 z.2) e.get e'.get [r] [])).ob (e.frz r pre=some e'∧p=q)
  | _=>none
 | .killEx r keep k,as,e=>(k.run as (e.killEx r keep)).tok (zAH (zDc e fun z=>Nat.beq z.1 r && !z.2.isEmpty) e.get (e.killEx r keep).get [] [r])
 | .call f args hid k,as,e=>match zGd as with
  | (some (.ret v hX),as)=>((k v hX).run as e).ob (zDi P H f args hid v hX)
  | _=>none
 | .test b k,as,e=>match zGd as with
  | (none,as)=>bif b then k.run as e else none
  | (some .ob,as)=>(k.run as e).ob (b=true)
  | _=>none
 | .pick x k,as,e=>match zGd as with
  | (none,as)=>match x with
   | some v=>(k v).run as e
   | none=>none
  | (some (.v v),as)=>((k v).run as e).ob (x=some v)
  | _=>none
 | .num x k,as,e=>match zGd as with
  | (none,as)=>match x with
   | some v=>(k v).run as e
   | none=>none
  | (some (.n v),as)=>((k v).run as e).ob (x=some v)
  | _=>none
 | .idx x k,as,e=>match zGd as with
  | (none,as)=>match x with
   | some v=>(k v).run as e
   | none=>none
  | (some (.ix v),as)=>((k v).run as e).ob (x=some v)
  | _=>none
 | .choose b k1 k2,as,e=>match zGd as with
  | (none,as)=>bif b then k1.run as e else k2.run as e
  | (some .yes,as)=>(k1.run as e).ob (b=true)
  | (some .no,as)=>(k2.run as e).ob (b=false)
  | _=>none
 | .same p k,as,e=>match zGd as with
  | (none,as)=>(k p).run as e
  | (some (.v q),as)=>((k q).run as e).ob (p=q)
  | _=>none
 | .sames ps k,as,e=>match zGd as with
  | (none,as)=>(k ps).run as e
  | (some (.vs qs),as)=>((k qs).run as e).ob (ps=qs)
  | _=>none
 | .nats x k,as,e=>match zGd as with
  | (none,as)=>(k x).run as e
  | (some (.ns l),as)=>((k l).run as e).ob (x=l)
  | _=>none
 | .pure d f args k,as,e=>match zGd as with
  | (none,as)=>k.run as e
  | (some (.v v),_)=>XR.ob (zSU P H f args v∧k.toPM=zM3 H d f args) (((put d v).runT zHl e).map fun y=>(y.1,y.2,[]))
  | _=>none
def zS1:List Prop→Prop
 | []=>True
 | p::ps=>p∧zS1 ps
end
section
variable [Yo] {P:Program} {H:zBc}
theorem XR.tok_some {t u:Tok} {x:XR} {e':Env} {obs:List Prop} (h:x.tok t=some (e',u,obs)):∃ u',x=some (e',u',obs)∧u=Tok.join t u':=by
 obtain ⟨⟨a,b,c⟩,h1,h2⟩:=Option.map_eq_some_iff.1 h
 simp only [Prod.mk.injEq] at h2
 obtain ⟨rfl,rfl,rfl⟩:=h2
 exact ⟨_,h1,rfl⟩
theorem XR.ob_some {q:Prop} {u:Tok} {x:XR} {e':Env} {obs:List Prop} (h:x.ob q=some (e',u,obs)):∃ o',x=some (e',u,o')∧obs=q::o':=by
 obtain ⟨⟨a,b,c⟩,h1,h2⟩:=Option.map_eq_some_iff.1 h
 simp only [Prod.mk.injEq] at h2
 obtain ⟨rfl,rfl,rfl⟩:=h2
 exact ⟨_,h1,rfl⟩
theorem PX.run_ok:∀ {p:PX} {as:Ans} {e e':Env} {t:Tok} {obs:List Prop},p.run P H as e=some (e',t,obs)→zS1 obs→∃ n0,∀ n,n0≤n→p.toPM.runT (zCR P H n) e=some (e',t):=by
 intro p
 induction p with
 | ok=>intro as e e' t obs h _;simp only [PX.run,Option.some.injEq,Prod.mk.injEq] at h;obtain ⟨rfl,rfl,_⟩:=h;exact ⟨0,fun _ _=>rfl⟩
 | fail=>intro as e e' t obs h _;cases h
 | emb p =>
  intro as e e' t obs h _
  obtain ⟨⟨a,b⟩,h1,h2⟩:=Option.map_eq_some_iff.1 h
  simp only [Prod.mk.injEq] at h2
  obtain ⟨rfl,rfl,_⟩:=h2
  exact ⟨0,fun _ _=>zH7 h1⟩
 | view s k ih =>
  intro as e e' t obs h ha
  obtain ⟨u,h1,rfl⟩:=XR.tok_some h
  obtain ⟨n0,h2⟩:=ih _ h1 ha
  exact ⟨n0,fun n hn=>by simp only [PX.toPM,PM.runT,h2 n hn];rfl⟩
 | get s k ih =>
  intro as e e' t obs h ha
  simp only [PX.run] at h
  cases hg:e.get s<;>rw [hg] at h<;>simp only at h<;>try (cases h;done)
  all_goals
   obtain ⟨u,h1,rfl⟩:=XR.tok_some h
   obtain ⟨n0,h2⟩:=ih _ h1 ha
   exact ⟨n0,fun n hn=>by simp only [PX.toPM,PM.runT,hg,h2 n hn];rfl⟩
 | set s q k ih =>
  intro as e e' t obs h ha
  obtain ⟨u,h1,rfl⟩:=XR.tok_some h
  obtain ⟨n0,h2⟩:=ih h1 ha
  exact ⟨n0,fun n hn=>by simp only [PX.toPM,PM.runT,h2 n hn];rfl⟩
 | cells r pre i c n k ih =>
  intro as e e' t obs h ha
  simp only [PX.run] at h
  split at h
  ·split at h
   ·rename_i hr
    obtain ⟨u,h1,rfl⟩:=XR.tok_some h
    obtain ⟨n0,h2⟩:=ih _ _ h1 ha
    exact ⟨n0,fun n hn=>by simp only [PX.toPM,PM.runT,hr,h2 n hn];rfl⟩
   ·cases h
  ·obtain ⟨o,h0,rfl⟩:=XR.ob_some h
   obtain ⟨u,h1,rfl⟩:=XR.tok_some h0
   obtain ⟨n0,h2⟩:=ih _ _ h1 ha.2
   exact ⟨n0,fun n hn=>by simp only [PX.toPM,PM.runT,ha.1,h2 n hn];rfl⟩
  ·cases h
 | deep r pre k ih =>
  intro as e e' t obs h ha
  simp only [PX.run] at h
  split at h
  ·split at h
   ·rename_i hr
    obtain ⟨u,h1,rfl⟩:=XR.tok_some h
    obtain ⟨n0,h2⟩:=ih _ h1 ha
    exact ⟨n0,fun n hn=>by simp only [PX.toPM,PM.runT,hr,h2 n hn];rfl⟩
   ·cases h
  ·obtain ⟨o,h0,rfl⟩:=XR.ob_some h
   obtain ⟨u,h1,rfl⟩:=XR.tok_some h0
   obtain ⟨n0,h2⟩:=ih _ h1 ha.2
   exact ⟨n0,fun n hn=>by simp only [PX.toPM,PM.runT,ha.1,h2 n hn];rfl⟩
  ·cases h
 | wcells r pre i c qs k ih =>
  intro as e e' t obs h ha
  simp only [PX.run] at h
  split at h
  ·split at h
   ·rename_i hr
    obtain ⟨u,h1,rfl⟩:=XR.tok_some h
    obtain ⟨n0,h2⟩:=ih h1 ha
    exact ⟨n0,fun n hn=>by simp only [PX.toPM,PM.runT,hr,h2 n hn];rfl⟩
   ·cases h
  ·obtain ⟨o,h0,rfl⟩:=XR.ob_some h
   obtain ⟨u,h1,rfl⟩:=XR.tok_some h0
   obtain ⟨n0,h2⟩:=ih h1 ha.2
   exact ⟨n0,fun n hn=>by simp only [PX.toPM,PM.runT,ha.1.1,ha.1.2,h2 n hn];rfl⟩
  ·cases h
 | wnode r pre q k ih =>
  intro as e e' t obs h ha
  simp only [PX.run] at h
  split at h
  ·rcases zBb h with ⟨_,h⟩ | ⟨hl,h⟩
   ·cases h
   ·split at h
    ·rename_i hr
     obtain ⟨u,h1,rfl⟩:=XR.tok_some h
     obtain ⟨n0,h2⟩:=ih h1 ha
     exact ⟨n0,fun n hn=>by simp only [PX.toPM,PM.runT,hl,cond_false,hr,h2 n hn];rfl⟩
    ·cases h
  ·rcases zBb h with ⟨_,h⟩ | ⟨hl,h⟩
   ·cases h
   ·obtain ⟨o,h0,rfl⟩:=XR.ob_some h
    obtain ⟨u,h1,rfl⟩:=XR.tok_some h0
    obtain ⟨n0,h2⟩:=ih h1 ha.2
    exact ⟨n0,fun n hn=>by simp only [PX.toPM,PM.runT,hl,cond_false,ha.1.1,ha.1.2,h2 n hn];rfl⟩
  ·cases h
 | kill r pre k ih =>
  intro as e e' t obs h ha
  obtain ⟨u,h1,rfl⟩:=XR.tok_some h
  obtain ⟨n0,h2⟩:=ih h1 ha
  exact ⟨n0,fun n hn=>by simp only [PX.toPM,PM.runT,h2 n hn];rfl⟩
 | frz r pre k ih =>
  intro as e e' t obs h ha
  simp only [PX.run] at h
  split at h
  ·split at h
   ·rename_i hr
    obtain ⟨u,h1,rfl⟩:=XR.tok_some h
    obtain ⟨n0,h2⟩:=ih h1 ha
    exact ⟨n0,fun n hn=>by simp only [PX.toPM,PM.runT,hr,h2 n hn];rfl⟩
   ·cases h
  ·obtain ⟨o,h0,rfl⟩:=XR.ob_some h
   obtain ⟨u,h1,rfl⟩:=XR.tok_some h0
   obtain ⟨n0,h2⟩:=ih h1 ha.2
   exact ⟨n0,fun n hn=>by simp only [PX.toPM,PM.runT,ha.1,h2 n hn];rfl⟩
  ·cases h
 | frzp r pre p k ih =>
  intro as e e' t obs h ha
  simp only [PX.run] at h
  split at h
  ·split at h
   ·rename_i hr
    obtain ⟨u,h1,rfl⟩:=XR.tok_some h
    obtain ⟨n0,h2⟩:=ih _ h1 ha
    exact ⟨n0,fun n hn=>by simp only [PX.toPM,PM.runT,hr,h2 n hn];rfl⟩
   ·cases h
  ·obtain ⟨o,h0,rfl⟩:=XR.ob_some h
   obtain ⟨u,h1,rfl⟩:=XR.tok_some h0
   obtain ⟨n0,h2⟩:=ih _ h1 ha.2
   exact ⟨n0,fun n hn=>by simp only [PX.toPM,PM.runT,ha.1,h2 n hn];rfl⟩
  ·obtain ⟨o,h0,rfl⟩:=XR.ob_some h
   obtain ⟨u,h1,rfl⟩:=XR.tok_some h0
   obtain ⟨⟨hf,rfl⟩,ha⟩:=ha
   obtain ⟨n0,h2⟩:=ih _ h1 ha
   exact ⟨n0,fun n hn=>by simp only [PX.toPM,PM.runT,hf,h2 n hn];rfl⟩
  ·cases h
 | killEx r keep k ih =>
  intro as e e' t obs h ha
  obtain ⟨u,h1,rfl⟩:=XR.tok_some h
  obtain ⟨n0,h2⟩:=ih h1 ha
  exact ⟨n0,fun n hn=>by simp only [PX.toPM,PM.runT,h2 n hn];rfl⟩
 | call f args hid k ih =>
  intro as e e' t obs h ha
  simp only [PX.run] at h
  split at h
  ·obtain ⟨o,h1,rfl⟩:=XR.ob_some h
   obtain ⟨n0,h2⟩:=ih _ _ h1 ha.2
   obtain ⟨n1,h3⟩:=ha.1
   exact ⟨max n0 n1,fun n hn=>by simp only [PX.toPM,PM.runT,h3 n (by omega),h2 n (by omega)]⟩
  ·cases h
 | test b k ih =>
  intro as e e' t obs h ha
  simp only [PX.run] at h
  split at h
  ·rcases zBb h with ⟨hb,h⟩ | ⟨_,h⟩
   ·obtain ⟨n0,h2⟩:=ih h ha
    exact ⟨n0,fun n hn=>by simp only [PX.toPM,hb,cond_true,h2 n hn]⟩
   ·cases h
  ·obtain ⟨o,h1,rfl⟩:=XR.ob_some h
   obtain ⟨n0,h2⟩:=ih h1 ha.2
   exact ⟨n0,fun n hn=>by simp only [PX.toPM,ha.1,cond_true,h2 n hn]⟩
  ·cases h
 | pick x k ih =>
  intro as e e' t obs h ha
  simp only [PX.run] at h
  split at h
  ·split at h
   ·obtain ⟨n0,h2⟩:=ih _ h ha
    exact ⟨n0,fun n hn=>by simp only [PX.toPM,h2 n hn]⟩
   ·cases h
  ·obtain ⟨o,h1,rfl⟩:=XR.ob_some h
   obtain ⟨n0,h2⟩:=ih _ h1 ha.2
   exact ⟨n0,fun n hn=>by simp only [PX.toPM,ha.1,h2 n hn]⟩
  ·cases h
 | num x k ih =>
  intro as e e' t obs h ha
  simp only [PX.run] at h
  split at h
  ·split at h
   ·obtain ⟨n0,h2⟩:=ih _ h ha
    exact ⟨n0,fun n hn=>by simp only [PX.toPM,h2 n hn]⟩
   ·cases h
  ·obtain ⟨o,h1,rfl⟩:=XR.ob_some h
   obtain ⟨n0,h2⟩:=ih _ h1 ha.2
   exact ⟨n0,fun n hn=>by simp only [PX.toPM,ha.1,h2 n hn]⟩
  ·cases h
 | idx x k ih =>
  intro as e e' t obs h ha
  simp only [PX.run] at h
  split at h
  ·split at h
   ·obtain ⟨n0,h2⟩:=ih _ h ha
    exact ⟨n0,fun n hn=>by simp only [PX.toPM,h2 n hn]⟩
   ·cases h
  ·obtain ⟨o,h1,rfl⟩:=XR.ob_some h
   obtain ⟨n0,h2⟩:=ih _ h1 ha.2
   exact ⟨n0,fun n hn=>by simp only [PX.toPM,ha.1,h2 n hn]⟩
  ·cases h
 | choose b k1 k2 ih1 ih2 =>
  intro as e e' t obs h ha
  simp only [PX.run] at h
  split at h
  ·rcases zBb h with ⟨hb,h⟩ | ⟨hb,h⟩
   ·obtain ⟨n0,h2⟩:=ih1 h ha
    exact ⟨n0,fun n hn=>by simp only [PX.toPM,hb,cond_true,h2 n hn]⟩
   ·obtain ⟨n0,h2⟩:=ih2 h ha
    exact ⟨n0,fun n hn=>by simp only [PX.toPM,hb,cond_false,h2 n hn]⟩
  ·obtain ⟨o,h1,rfl⟩:=XR.ob_some h
   obtain ⟨n0,h2⟩:=ih1 h1 ha.2
   exact ⟨n0,fun n hn=>by simp only [PX.toPM,ha.1,cond_true,h2 n hn]⟩
  ·obtain ⟨o,h1,rfl⟩:=XR.ob_some h
   obtain ⟨n0,h2⟩:=ih2 h1 ha.2
   exact ⟨n0,fun n hn=>by simp only [PX.toPM,ha.1,cond_false,h2 n hn]⟩
  ·cases h
 | same p k ih =>
  intro as e e' t obs h ha
  simp only [PX.run] at h
  split at h
  ·exact ih _ h ha
  ·obtain ⟨o,h1,rfl⟩:=XR.ob_some h
   obtain ⟨n0,h2⟩:=ih _ h1 ha.2
   exact ⟨n0,fun n hn=>by simp only [PX.toPM,ha.1,h2 n hn]⟩
  ·cases h
 | sames ps k ih =>
  intro as e e' t obs h ha
  simp only [PX.run] at h
  split at h
  ·exact ih _ h ha
  ·obtain ⟨o,h1,rfl⟩:=XR.ob_some h
   obtain ⟨n0,h2⟩:=ih _ h1 ha.2
   exact ⟨n0,fun n hn=>by simp only [PX.toPM,ha.1,h2 n hn]⟩
  ·cases h
 | nats x k ih =>
  intro as e e' t obs h ha
  simp only [PX.run] at h
  split at h
  ·exact ih _ h ha
  ·obtain ⟨o,h1,rfl⟩:=XR.ob_some h
   obtain ⟨n0,h2⟩:=ih _ h1 ha.2
   exact ⟨n0,fun n hn=>by simp only [PX.toPM,ha.1,h2 n hn]⟩
  ·cases h
 | pure d f args k ih =>
  intro as e e' t obs h ha
  simp only [PX.run] at h
  split at h
  ·exact ih h ha
  ·obtain ⟨o,h1,rfl⟩:=XR.ob_some h
   obtain ⟨⟨a,b⟩,h2,h3⟩:=Option.map_eq_some_iff.1 h1
   simp only [Prod.mk.injEq] at h3
   obtain ⟨rfl,rfl,_⟩:=h3
   obtain ⟨⟨hp,hk⟩,_⟩:=ha
   obtain ⟨n0,hp⟩:=hp d e
   exact ⟨n0,fun n hn=>by simp only [PX.toPM];rw [hk,hp n hn];exact zH7 h2⟩
  ·cases h
end
end Go.Eng
namespace Go.Eng
open Go
def zGG (x:Operand) (k:PV→PX):PX :=
 match x with
 | .tmp t => .view t k
 | .const v=>k (zEq v)
 | .func f=>k (.func f [] [])
 | .global _ => .fail
def zKT (x:Operand) (k:PV→PX):PX :=
 match x with
 | .tmp t => .get t fun p => .choose p.heavy (.set t .bad (k p)) (k p)
 | .const v=>k (zEq v)
 | .func f=>k (.func f [] [])
 | .global _ => .fail
def zPa:List Operand→(List PV→PX)→PX
 | [],k=>k []
 | x::xs,k=>zGG x fun p=>zPa xs fun ps=>k (p::ps)
def zVu (d:Nat) (p:PV) (k:PX):PX := .choose p.heavy (.kill d [] (.set d (p.mapW (lose d [])) k)) (.set d p k)
def zGb (d:Option Nat) (p:PV):PX :=
 match d with
 | none => .ok
 | some d => .same p fun p=>bif p.isTup then .fail else zVu d p .ok
def zG8 (d:Nat):Nat→List PV→PX→PX
 | n,[],k => .set d (.tup (List.replicate n .bad)) k
 | i,p::ps,k => .same p fun p=>zVu (zBl d i) p (zG8 d (i+1) ps k)
def zE0 (d:Option Nat) (v:PV):PX :=
 match d,v with
 | some d,.tup vs => .test (Nat.ble vs.length 16) (.test ((zBp vs).all (fun w => !zIJ d w.1)) (.set d .bad (zG8 d 0 vs .ok)))
 | d,v=>zGb d v
def zFt:PV→(Nat→PX)→PX
 | .int _ n,k => .test (decide (0≤n)) (.num (some n.toNat) k)
 | _,_ => .fail
def zQQ (r:Nat) (pre:zAO) (i c:Nat) (sh:Option Nat) (k:PV→PX):PX :=
 match sh with
 | some n => .cells r pre i c n fun a qs=>bif a then k (.agg qs) else .fail
 | none => .cells r pre i c 1 fun _ qs=>k (qs.headD .bad)
def zGT (r:Nat) (pre:zAO) (i:Nat):Nat→List PV→PX→PX
 | _,[],k=>k
 | c,q::qs,k=>bif q.heavy then .kill r (pre++[(i,c)]) (zGT r pre i (c+1) qs k) else zGT r pre i (c+1) qs k
def zP0 (r:Nat) (pre:zAO) (i c:Nat) (qs:List PV) (k:PX):PX := .choose (qs.all fun q => !q.heavy) k (zGT r pre i c qs k)
section
variable {k:PX} {kp:PV→PX}
theorem zB2 {x:Operand} {k:PV→PX}:(zGG x k).toPM=opd x fun p=>(k p).toPM:=by cases x<;>rfl
theorem zBm {α:Type} {b:Bool} {x y:α}:(bif b then x else y)=if b=true then x else y:=by cases b<;>rfl
theorem zF2 {x:Operand} {k:PV→PX}:(zKT x k).toPM=zOn x fun p=>(k p).toPM:=by
 cases x<;>first | rfl | simp only [zKT,zOn,PX.toPM,zBm]
theorem zIh:∀ {xs:List Operand} {k:List PV→PX},(zPa xs k).toPM=zSW xs fun p=>(k p).toPM
 | [],_=>rfl
 | x::xs,k=>by simp only [zPa,zSW,zB2,zIh]
theorem zKF {d:Nat} {p:PV} {k:PX}:(zVu d p k).toPM=lay d p k.toPM:=by simp only [zVu,lay,PX.toPM]
theorem zC5 {b:Bool} {x y:PX}:(bif b then x else y).toPM=bif b then x.toPM else y.toPM:=by cases b<;>rfl
theorem zOP {c:Prop} [Decidable c] {x y:PX}:(if c then x else y).toPM=if c then x.toPM else y.toPM:=by split<;>rfl
theorem zBn {d:Option Nat} {p:PV}:(zGb d p).toPM=put d p:=by
 cases d with
 | none=>rfl
 | some d=>simp only [zGb,put,PX.toPM,zC5,zKF]
theorem zHU {d:Nat}:∀ {ps:List PV} {i:Nat} {k:PX},(zG8 d i ps k).toPM=zE8 d i ps k.toPM
 | [],_,_=>rfl
 | p::ps,i,k=>by simp only [zG8,zE8,PX.toPM,zKF,zHU]
theorem zDh {α:Type} {a b:Bool} {x y:α}:(bif a&&b then x else y)=bif a then (bif b then x else y) else y:=by cases a<;>rfl
theorem zEN {d:Option Nat} {v:PV}:(zE0 d v).toPM=zDj d v:=by
 cases d with
 | none=>cases v<;>simp only [zE0,zDj,zBn]
 | some d=>cases v<;>simp only [zE0,zDj,PX.toPM,zHU,zDh,zBn]
theorem zEE {p:PV} {k:Nat→PX}:(zFt p k).toPM=zGf p fun n=>(k n).toPM:=by
 cases p<;>first | rfl | skip
 simp only [zFt,zGf,PX.toPM,zBm,decide_eq_true_eq]
theorem zKE {r:Nat} {pre:zAO} {i c:Nat} {sh:Option Nat} {k:PV→PX}:(zQQ r pre i c sh k).toPM=zL7 r pre i c sh fun p=>(k p).toPM:=by
 cases sh<;>simp only [zQQ,zL7,PX.toPM,zC5]
theorem zJf {r:Nat} {pre:zAO} {i:Nat}:∀ {qs:List PV} {c:Nat} {k:PX},(zGT r pre i c qs k).toPM=zDM r pre i c qs k.toPM
 | [],_,_=>rfl
 | q::qs,c,k=>by simp only [zGT,zDM,zC5,PX.toPM,zJf]
theorem zE6 {r:Nat} {pre:zAO} {i:Nat}:∀ {qs:List PV} {c:Nat} {k:PM},(qs.all fun q => !q.heavy)=true→zDM r pre i c qs k=k
 | [],_,_,_=>rfl
 | q::qs,c,k,h=>by
  simp only [List.all_cons,Bool.and_eq_true,Bool.not_eq_true'] at h
  simp only [zDM,h.1,cond_false];exact zE6 h.2
theorem zQB {r:Nat} {pre:zAO} {i c:Nat} {qs:List PV} {k:PX}:(zP0 r pre i c qs k).toPM=zDM r pre i c qs k.toPM:=by
 simp only [zP0,PX.toPM,zJf]
 cases h:qs.all fun q => !q.heavy with
 | false=>rfl
 | true=>exact (zE6 h).symm
end
def zEy (res:PV→(PV→List (Nat×zAO)→PX)→PX):List PV→(List PV→List (Nat×zAO)→PX)→PX
 | [],k=>k [] []
 | p::ps,k=>res p fun q l=>zEy res ps fun qs m=>k (q::qs) (l++m)
def zDw (hb:Nat):Nat→PV→(PV→List (Nat×zAO)→PX)→PX
 | 0,_,_ => .fail
 | n + 1,p,k =>
  match p with
  | .addr r pre i c sh=>bif Nat.ble hb r then k p [] else .deep r pre fun q=>match zA6 q with
   | some xs => .pick xs[i]? fun x=>match sh with
     | some m => .test (Nat.ble (c+m) x.cells.length) (.test x.isAgg (zDw hb n (.agg ((x.cells.drop c).take m)) fun q l=>k (.ref q) ((r,pre)::l)))
     | none => .pick x.cells[c]? fun q => .test q.oneCell (zDw hb n q fun q l=>k (.ref q) ((r,pre)::l))
   | none => .fail
  | .bor r pre _ lo m=>bif Nat.ble hb r then k p [] else .deep r pre fun q=>match q with
   | .own _ xs => .test (Nat.ble (lo+m) xs.length) (.same (.sl (zAC ((xs.drop lo).take m))) fun p=>k p [(r,pre)])
   | _ => .fail
  | .bsl r pre i c sz ag m=>bif Nat.ble hb r then k p [] else .deep r pre fun q=>match zA6 q with
   | some xs => .pick xs[i]? fun x => .test (zCb ag sz m ((x.cells.drop c).take (m*sz))) (.test (zBp x.cells).isEmpty (.same (.sl (zCd ag sz m (zAC ((x.cells.drop c).take (m*sz))))) fun p=>k p [(r,pre)]))
   | none => .fail
  | .bmap r pre=>bif Nat.ble hb r then k p [] else .deep r pre fun q=>match q with
   | .omap es=>k (.map es) [(r,pre)]
   | _ => .fail
  | .agg cs => .choose (p.ways).isEmpty (.same (zAP p) fun q=>k q []) (zEy (zDw hb n) cs fun qs l=>k (.agg qs) l)
  | .func f a b => .choose (p.ways).isEmpty (k p []) (zEy (zDw hb n) a fun as l=>zEy (zDw hb n) b fun bs m=>k (.func f as bs) (l++m))
  | .ref q => .choose (q.ways).isEmpty (k p []) (zDw hb n q fun q l=>k (.ref q) l)
  | .bad=>k .bad []
  | p => .test (p.ways.all (fun w=>Nat.ble hb w.1)) (.same (zAP p) fun q=>k q [])
def zTO (p:PV) (k:PV→List (Nat×zAO)→PX):PX:=zDw zAb depth p k
theorem zHW {res:PV→(PV→List (Nat×zAO)→PX)→PX} {res':PV→(PV→List (Nat×zAO)→PM)→PM} (h:∀ p k,(res p k).toPM=res' p fun q l=>(k q l).toPM):∀ {ps:List PV} {k:List PV→List (Nat×zAO)→PX},(zEy res ps k).toPM=zEi res' ps fun q l=>(k q l).toPM
 | [],_=>rfl
 | p::ps,k=>by simp only [zEy,zEi,h,zHW h]
theorem zI5 {hb:Nat}:∀ {n:Nat} {p:PV} {k:PV→List (Nat×zAO)→PX},(zDw hb n p k).toPM=resolve hb n p fun q l=>(k q l).toPM
 | 0,_,_=>rfl
 | n + 1,p,k=>by
  have ih:∀ (p:PV) (k:PV→List (Nat×zAO)→PX),(zDw hb n p k).toPM=resolve hb n p fun q l=>(k q l).toPM:=fun p k=>zI5
  cases p<;>simp only [zDw,resolve,zC5,PX.toPM,zDh,ih,zHW ih]
  ·congr 1;congr 1;funext q
   cases zA6 q with
   | none=>rfl
   | some xs =>
    simp only [PX.toPM]
    rename_i r pre i c sh
    cases xs[i]? with
    | none=>rfl
    | some x =>
     cases sh with
     | some m=>simp only [PX.toPM,zDh,ih]
     | none =>
      simp only [PX.toPM,ih]
      cases x.cells[c]? with
      | none=>rfl
      | some q=>simp only [PX.toPM,zBm,ih]
  ·congr 1;congr 1;funext q
   cases q<;>rfl
  ·congr 1;congr 1;funext q
   cases zA6 q with
   | none=>rfl
   | some xs =>
    simp only [PX.toPM]
    rename_i r pre i c sz ag m
    cases xs[i]? with
    | none=>rfl
    | some x=>simp only [PX.toPM,zDh]
  ·congr 1;congr 1;funext q
   cases q<;>rfl
theorem zRm {p:PV} {k:PV→List (Nat×zAO)→PX}:(zTO p k).toPM=zPi p fun q l=>(k q l).toPM:=zI5
def zPF (hb:Nat):Nat→PV→(PV→PX)→PX
 | 0,_,_ => .fail
 | n+1,p,k=>match p.ways.find? (fun w=>Nat.blt w.1 hb) with
  | none => .same p k
  | some (r,pre) => .deep r pre fun q => .frzp r pre (p.mapW (inl r pre q)) fun p=>zPF hb n p k
theorem zFH {hb:Nat}:∀ {n:Nat} {p:PV} {k:PV→PX},(zPF hb n p k).toPM=zLt hb n p fun q=>(k q).toPM
 | 0,_,_=>rfl
 | n+1,p,k=>by
  simp only [zPF,zLt]
  cases p.ways.find? (fun w=>Nat.blt w.1 hb) with
  | none=>rfl
  | some w=>simp only [PX.toPM,zFH]
def zKX (p:PV) (k:List PV→PX):PX :=
 match p with
 | .nils _=>k []
 | .nn=>k []
 | .sl xs=>k xs
 | .bor r pre z lo n => .deep r pre fun q=>match q with
  | .own _ xs => .test (Nat.ble (lo+n) xs.length) (.sames ((xs.drop lo).take n) k)
  | _ => .fail
 | .bsl r pre i c sz ag n => .cells r pre i c (n*sz) fun _ cs => .test (zCb ag sz n cs) (.test (cs.all (fun q=>q.plain0)) (.sames (zCd ag sz n cs) k))
 | _ => .fail
theorem zKs {p:PV} {k:List PV→PX}:(zKX p k).toPM=zG3 p fun l=>(k l).toPM:=by
 cases p<;>simp only [zKX,zG3,PX.toPM,zDh]
 congr 1;funext q
 cases q<;>rfl
section
variable (P:Program) (H:zBc)
def zFI:List Nat→List PV→(List (Bool×PV)→PX)→PX
 | _,[],k=>k []
 | ms,p::ps,k =>
  match ms.headD 0,p with
  | 2,.bor r pre _ 0 n => .deep r pre fun q=>match q with
   | .own sz xs => .test (Nat.ble n xs.length) (.wnode r pre .bad (.same (.own sz ((xs.drop 0).take n)) fun o=>zFI ms.tail ps fun as=>k ((true,o)::as)))
   | _ => .fail
  | _,p=>zFI ms.tail ps fun as=>k ((false,p)::as)
def zDr:List Nat→List (Bool×PV)→(List Arg→PX)→PX
 | _,[],k=>k []
 | ms,(true,p)::ps,k=>zDr ms.tail ps fun as=>k ({p:=p}::as)
 | ms,(false,p)::ps,k =>
  bif Nat.beq (ms.headD 0) 1 then zDr ms.tail ps fun as=>k ({p:=p,byref:=true}::as)
  else zTO p fun q l=>zDr ms.tail ps fun as=>k ({p:=q,shared:=l}::as)
def zEU:List Nat→List (Bool×PV)→(List Arg→PX)→PX
 | _,[],k=>k []
 | ms,(true,p)::ps,k=>zEU ms.tail ps fun as=>k ({p:=p}::as)
 | ms,(false,p)::ps,k =>
  bif Nat.beq (ms.headD 0) 1 then zEU ms.tail ps fun as=>k ({p:=p,byref:=true}::as)
  else zPF zAb zDn p fun q=>zEU ms.tail ps fun as=>k ({p:=q}::as)
def zQH:List Nat→(List PV→PX)→PX
 | [],k=>k []
 | r::rs,k => .get r fun p=>zQH rs fun ps=>k (p::ps)
def zS7:List Nat→List PV→List PV→PX→PX
 | r::rs,o::os,p::ps,k => .test (zGg o p) (.same p fun p => .wnode r [] p (zS7 rs os ps k))
 | [],[],[],k=>k
 | _,_,_,_ => .fail
def zN7:Nat→List Nat→(List Nat→PX)→PX
 | 0,R,k=>k R
 | n+1,R,k=>zQH R fun ts=>let R':=(R++ts.flatMap zNd).eraseDups;bif Nat.beq R'.length R.length then k R else zN7 n R' k
def zHa:List Nat→PX→PX
 | [],k=>k
 | r::rs,k => .killEx r [] (zHa rs k)
def zMs:List Bool→PX→PX→PX
 | [a,b,c],x,y => .choose a x (.choose b (.choose c x y) y)
 | _,_,y=>y
theorem zLz {a b c:Bool} {x y:PX}:(zMs [a,b,c] x y).toPM=bif a||b&&c then x.toPM else y.toPM:=by
 cases a<;>cases b<;>cases c<;>rfl
def zOp (d:Option Nat) (f:FuncId) (as:List Arg) (again:PX):PX :=
 .nats (zOC as) fun R0=>zN7 3 R0 fun R =>
 bif zHj R&&R.all (fun r=>Nat.blt r zAb)&&Nat.ble R.length 1000&&Nat.ble as.length 1000&&(as.flatMap (·.shared)).all (fun x => !R.contains x.1) then
  zQH R fun hid => .sames (as.map fun a=>if a.byref then zGn (zDv R) a.p else a.p) fun args => .call f args (hid.map (zGn (zDv R))) fun v hX =>
   zMs [(as.flatMap (·.shared)).isEmpty,v.free,zFP hX]
    (zHa R<|zS7 R hid (hX.map (zGn (zB4 R))) (zE0 d (zGn (zB4 R) v)))
    again
 else .fail
def zQ4 (d:Option Nat) (f:FuncId) (args:List PV):PX :=
 .nats (H f).mode fun ms=>zFI ms args fun bs=>zDr ms bs fun as=>zOp d f as (zEU ms bs fun as=>zOp d f as .fail)
theorem zFq:∀ {ps:List PV} {ms:List Nat} {k:List (Bool×PV)→PX},(zFI ms ps k).toPM=zDY ms ps fun as=>(k as).toPM
 | [],_,_=>rfl
 | p :: ps,ms,k=>by
  unfold zFI zDY
  generalize ms.headD 0=m
  split
  ·simp only [PX.toPM]
   congr 1;funext q
   cases q<;>first | rfl | skip
   simp only [PX.toPM,zFq]
  ·simp only [zFq]
theorem zE5:∀ {ps:List (Bool×PV)} {ms:List Nat} {k:List Arg→PX},(zDr ms ps k).toPM=zCq ms ps fun as=>(k as).toPM
 | [],_,_=>rfl
 | (true,p)::ps,ms,k=>by simp only [zDr,zCq,zE5]
 | (false,p)::ps,ms,k=>by simp only [zDr,zCq,zC5,zRm,zE5]
theorem zGt:∀ {ps:List (Bool×PV)} {ms:List Nat} {k:List Arg→PX},(zEU ms ps k).toPM=zD8 ms ps fun as=>(k as).toPM
 | [],_,_=>rfl
 | (true,p)::ps,ms,k=>by simp only [zEU,zD8,zGt]
 | (false,p)::ps,ms,k=>by simp only [zEU,zD8,zC5,zFH,zGt]
theorem zKz:∀ {rs:List Nat} {k:List PV→PX},(zQH rs k).toPM=zNn rs fun ps=>(k ps).toPM
 | [],_=>rfl
 | r::rs,k=>by simp only [zQH,zNn,PX.toPM,zKz]
theorem zNW:∀ {rs:List Nat} {os ps:List PV} {k:PX},(zS7 rs os ps k).toPM=zM0 rs os ps k.toPM
 | [],[],[],_=>rfl
 | r::rs,o::os,p::ps,k=>by simp only [zS7,zM0,PX.toPM,zNW]
 | [],[],_::_,_=>rfl
 | [],_::_,_,_=>rfl
 | _::_,[],_,_=>rfl
 | _::_,_::_,[],_=>rfl
theorem zLR:∀ {n:Nat} {R:List Nat} {k:List Nat→PX},(zN7 n R k).toPM=zJ3 n R fun R=>(k R).toPM
 | 0,_,_=>rfl
 | n+1,R,k=>by simp only [zN7,zJ3,zKz,zC5,zLR]
theorem zH1:∀ {rs:List Nat} {k:PX},(zHa rs k).toPM=zKm rs k.toPM
 | [],_=>rfl
 | r::rs,k=>by simp only [zHa,zKm,PX.toPM,zH1]
theorem zRh {d:Option Nat} {f:FuncId} {as:List Arg} {again:PX}:(zOp d f as again).toPM=zRa d f as again.toPM:=by
 simp only [zOp,zRa,zLR,zC5,zKz,PX.toPM,zLz,zH1,zNW,zEN]
theorem zQn {d:Option Nat} {f:FuncId} {args:List PV}:(zQ4 H d f args).toPM=zM3 H d f args:=by
 simp only [zQ4,zM3,zFq,zE5,zRh,zGt,PX.toPM]
def zP6 (d:Option Nat) (args:List Operand) (g:PV):PX :=
 match g with
 | .func g first caps=>zPa args fun as => .pure d g (first++as++caps) (zQ4 H d g (first++as++caps))
 | _ => .fail
theorem zRs {d:Option Nat} {args:List Operand} {g:PV}:(zP6 H d args g).toPM=zSC H d args g:=by
 cases g<;>first | rfl | skip
 simp only [zP6,zSC,zIh,PX.toPM,zQn]
def zNi (d:Option Nat) (sz:Nat) (base:PV) (ys:List PV):PX :=
 .test (ys.all (fun y=>Nat.beq y.cells.length sz&&y.cells.all fun q=>q.oneCell)) (.test (zBp ys).isEmpty (
 match base with
 | .bor r pre z lo n => .deep r pre fun q=>match q with
  | .own s xs =>
   .test (Nat.beq s sz) (.test (Nat.ble (lo+n) xs.length) (.test (Nat.ble (xs.length+ys.length) zBe) (
    .choose (Nat.beq (lo+n) xs.length) (.test (Nat.beq lo 0) (.wnode r pre .bad (zGb d (.own sz (xs++ys))))) (.emb (zLo d r pre z lo n s xs ys)))))
  | _ => .fail
 | .nils _ => .test (Nat.ble ys.length zBe) (zGb d (.own sz ys))
 | _ => .fail))
theorem zO0 {d:Option Nat} {sz:Nat} {base:PV} {ys:List PV}:(zNi d sz base ys).toPM=zKN d sz base ys:=by
 cases base<;>simp only [zNi,zKN,PX.toPM,zDh,zBn]
 congr 1;congr 1;congr 1;funext q
 cases q<;>first | rfl | skip
 simp only [PX.toPM,zBn]
def zVc (x:Operand) (k:List PV→PX):PX :=
 match x with
 | .tmp t => .get t fun p=>match p with
  | .own _ xs => .set t .bad (k xs)
  | _ => .view t fun p=>zKX p fun xs => .test (xs.all (fun x=>x.plain)) (k xs)
 | x=>zGG x fun p=>zKX p fun xs => .test (xs.all (fun x=>x.plain)) (k xs)
theorem zSn {x:Operand} {k:List PV→PX}:(zVc x k).toPM=zNE x fun l=>(k l).toPM:=by
 cases x<;>simp only [zVc,zNE,PX.toPM,zB2,zKs,zBm]
 congr 1;funext p
 cases p<;>first | rfl | simp only [PX.toPM,zKs,zBm]
def zLr (d:Option Nat) (b:Builtin) (ts:List TypeId) (args:List Operand):PX :=
 match b,args,ts with
 | .len,[x],t::_=>zGG x fun p=>match P.underlying t with
  | some (.array n _)=>zGb d (.int .i64 n)
  | some (.slice _) => .num (lenOf p) fun n=>zGb d (.int .i64 n)
  | _ => .fail
 | .append,[x,y],[t,t2]=>bif (zBH P t2).isNone then .fail else match (zBH P t).bind (szT P),(zBH P t).bind (zHG P),(zBH P t).bind (zCz P) with
  | some sz,some by_,some z=>if by_≤16384∧z.cells.length=sz then zGG x fun base=>zVc y fun ys=>zNi d sz base ys else .fail
  | _,_,_ => .fail
 | .max,xs,_=>zPa xs fun ps => .pick (zWt ps) fun v=>zGb d v
 | .min,xs,_=>zPa xs fun ps => .pick (zVv ps) fun v=>zGb d v
 | b,args,ts => .emb (zBj P d b ts args)
theorem zMV {d:Option Nat} {b:Builtin} {ts:List TypeId} {args:List Operand}:(zLr P d b ts args).toPM=zBj P d b ts args:=by
 unfold zLr
 split
 ·simp only [zB2,zBj]
  congr 1;funext p
  generalize P.underlying _=u
  cases u with
  | none=>rfl
  | some u =>
   cases u<;>first | rfl | exact zBn | skip
   simp only [PX.toPM,zBn]
   cases lenOf p<;>simp only [PX.toPM,zBn]
 ·simp only [zBj,zC5]
  congr 1
  generalize (zBH P _).bind (szT P)=a1
  generalize (zBH P _).bind (zHG P)=a2
  generalize (zBH P _).bind (zCz P)=a3
  cases a1<;>cases a2<;>cases a3<;>first | rfl | simp only [zOP,zB2,zSn,zO0,PX.toPM]
 ·simp only [zBj,zIh,PX.toPM,zBn]
  congr 1;funext ps
  cases zWt ps<;>simp only [PX.toPM,zBn]
 ·simp only [zBj,zIh,PX.toPM,zBn]
  congr 1;funext ps
  cases zVv ps<;>simp only [PX.toPM,zBn]
 ·rfl
end
end Go.Eng
namespace Go.Eng
open Go
section
variable (P:Program) (H:zBc)
def zVo {α:Type} (x:Option α) (k:α→PX):PX :=
 match x with
 | some a=>k a
 | none => .fail
theorem zJb {α:Type} {x:Option α} {k:α→PX}:(zVo x k).toPM=zH6 x fun a=>(k a).toPM:=by cases x<;>rfl
theorem zJr {x:Option PV} {k:PV→PX}:(PX.pick x k).toPM=zH6 x fun a=>(k a).toPM:=by cases x<;>rfl
def zN5 (p:PV) (k:PV→PX) (k2:PX):PX :=
 match p with
 | .bor r pre _ lo n => .deep r pre fun q=>match q with
  | .own sz xs => .choose (Nat.beq lo 0&&Nat.beq n xs.length) (.wnode r pre .bad (k (.own sz xs))) k2
  | _=>k2
 | .bmap r pre => .deep r pre fun q=>match q with
  | .omap es => .wnode r pre .bad (k (.omap es))
  | _=>k2
 | p=>k p
theorem zLA {p:PV} {k:PV→PX} {k2:PX}:(zN5 p k k2).toPM=zNO p (fun q=>(k q).toPM) k2.toPM:=by
 cases p<;>simp only [zN5,zNO,PX.toPM]
 all_goals
  congr 1;funext q
  cases q<;>rfl
def zS5 (p:PV) (k:PV→PX):PX:=zN5 p k (zPF zAb zDn p k)
theorem zN3 {p:PV} {k:PV→PX}:(zS5 p k).toPM=zMb p fun q=>(k q).toPM:=by simp only [zS5,zMb,zLA,zFH]
def zOm:List PV→(List PV→PX)→PX
 | [],k=>k []
 | p::ps,k=>zN5 p (fun q=>zOm ps fun qs=>k (q::qs)) .fail
theorem zMf:∀ {ps:List PV} {k:List PV→PX},(zOm ps k).toPM=zJo ps fun qs=>(k qs).toPM
 | [],_=>rfl
 | p::ps,k=>by simp only [zOm,zJo,zLA,zMf,PX.toPM]
def zQu:PV→Bool
 | .bor .. | .bmap .. | .bsl .. => true
 | _=>false
def zI3 (tk:Bool) (p:PV) (k:PV→PX):PX :=
 match p with
 | .agg cs=>bif tk then zOm cs fun cs=>k (.agg cs) else .choose (cs.any zQu) (zPF zAb zDn p k) (k p)
 | .bsl .. => zPF zAb zDn p k
 | .bor .. | .bmap .. => bif tk then zS5 p k else zPF zAb zDn p k
 | p=>k p
theorem zHz {tk:Bool} {p:PV} {k:PV→PX}:(zI3 tk p k).toPM=zFA tk p fun q=>(k q).toPM:=by
 cases p<;>simp only [zI3,zFA,zC5,zMf,zN3,zFH,PX.toPM]
 rfl
def zIf (tk:Bool):List PV→(List PV→PX)→PX
 | [],k=>k []
 | p::ps,k=>zI3 tk p fun q=>zIf tk ps fun qs=>k (q::qs)
theorem zIG {tk:Bool}:∀ {ps:List PV} {k:List PV→PX},(zIf tk ps k).toPM=zFW tk ps fun qs=>(k qs).toPM
 | [],_=>rfl
 | p::ps,k=>by simp only [zIf,zFW,zHz,zIG]
def zOg (r:Nat) (pre:zAO) (i c:Nat) (v:PV):PX :=
 .test (!v.heavy||v.ways.all (fun w => !(zAG r pre w.1 w.2&&Nat.blt pre.length w.2.length))) (.test (v.cells.all (fun q=>q.oneCell)) (.test (!v.cells.isEmpty) (zP0 r pre i c v.cells (.wcells r pre i c v.cells .ok))))
theorem zMC {r:Nat} {pre:zAO} {i c:Nat} {v:PV}:(zOg r pre i c v).toPM=zHH r pre i c v:=by
 simp only [zOg,zHH,PX.toPM,zQB,zDh]
def zJt (tk:Bool) (r:Nat) (pre:zAO) (v:PV) (k:PV→PX):PX :=
 bif pre.isEmpty && !tk then .view r fun q=>(match q with | .addr .. => k v | _=>zI3 tk v k) else zI3 tk v k
theorem zLO {tk:Bool} {r:Nat} {pre:zAO} {v:PV} {k:PV→PX}:(zJt tk r pre v k).toPM=zH5 tk r pre v fun q=>(k q).toPM:=by
 simp only [zJt,zH5,zC5,PX.toPM,zHz]
 congr 1;congr 1;funext q
 cases q<;>first | rfl | exact zHz
def zJi (tk:Bool) (r:Nat) (pre:zAO) (i c:Nat) (v:PV):PX :=
 match zQ9 r pre i c v with
 | some m => .deep r (pre++[(i,c)]) fun q=>match q with
  | .own s xs => .test (Nat.ble m xs.length) (.wnode r (pre++[(i,c)]) .bad (.same (.own s ((xs.drop 0).take m)) fun v=>zOg r pre i c v))
  | _ => .fail
 | none=>zJt tk r pre v fun v => .same v fun v=>zOg r pre i c v
theorem zKe {tk:Bool} {r:Nat} {pre:zAO} {i c:Nat} {v:PV}:(zJi tk r pre i c v).toPM=zHK tk r pre i c v:=by
 simp only [zJi,zHK]
 cases zQ9 r pre i c v with
 | none=>simp only [zLO,PX.toPM,zMC]
 | some m =>
  simp only [PX.toPM]
  congr 1;funext q
  cases q<;>first | rfl | simp only [PX.toPM,zMC]
def zRN (fz tk:Bool) (t:TypeId) (a x:Operand):PX :=
 zGG a fun pa=>match pa,x with
 | .addr r pre i c _,.const (.slice none 0 0)=>zVo ((zBH P t).bind (szT P)) fun s=>if szT P t=some 1 then zJi tk r pre i c (.own s []) else .fail
 | pa,x=>match pa,shT P t,szT P t with
 | .addr r pre i c _,some sh,some n=>(bif fz&&tk then zGG x else zKT x) fun v =>
  .test (Nat.beq v.cells.length n) (.test (v.isAgg==sh.isSome) (zJi (tk && !fz) r pre i c (bif fz && !tk then zAP v else v)))
 | _,_,_ => .fail
theorem zQm {fz tk:Bool} {t:TypeId} {a x:Operand}:(zRN P fz tk t a x).toPM=zOE P fz tk t a x:=by
 simp only [zRN,zOE,zB2]
 congr 1;funext pa
 have key:∀ (sh:Option (Option Nat)) (n:Option Nat),(match pa,sh,n with
   | .addr r pre i c _,some sh,some n=>(bif fz&&tk then zGG x else zKT x) fun v=>PX.test (Nat.beq v.cells.length n) (.test (v.isAgg==sh.isSome) (zJi (tk && !fz) r pre i c (bif fz && !tk then zAP v else v)))
   | _,_,_=>PX.fail).toPM=(match pa,sh,n with
   | .addr r pre i c _,some sh,some n=>(bif fz&&tk then opd x else zOn x) fun v=>bif Nat.beq v.cells.length n&&v.isAgg==sh.isSome then zHK (tk && !fz) r pre i c (bif fz && !tk then zAP v else v) else .fail
   | _,_,_=>PM.fail):=by
  intro sh n
  cases pa<;>first | rfl | skip
  cases sh<;>cases n<;>first | rfl | skip
  cases hc:(fz&&tk)<;>simp only [cond_true,cond_false,zB2,zF2,PX.toPM,zKe,zDh]
 split
 ·simp only [zJb,zOP,zKe,PX.toPM]
 ·rename_i h
  rw [key]
  cases pa<;>first | rfl | skip
  cases x<;>first | rfl | skip
  rename_i v
  cases v<;>first | rfl | skip
  rename_i a n m
  cases a<;>cases n<;>cases m<;>first | rfl | exact (h _ _ _ _ _ rfl rfl).elim
def zH9 (d:Option Nat) (p:PV):PX :=
 match d,p with
 | some d',.bor r [] z lo n=>if r=d' then .get r fun root=>match root with
   | .own sz xs => .test (Nat.ble (lo+n) xs.length) (.kill r [] (.same (.own sz ((xs.drop lo).take n)) fun o => .set r o .ok))
   | _ => .fail
  else zGb d p
 | _,_=>zGb d p
theorem zMW {d:Option Nat} {p:PV}:(zH9 d p).toPM=zFp d p:=by
 unfold zH9 zFp
 split
 ·simp only [zOP,zBn,PX.toPM]
  congr 1;congr 1;funext q
  cases q<;>rfl
 ·rename_i h
  split
  ·exact (h _ _ _ _ _ rfl rfl).elim
  ·exact zBn
def zJD (tk nl:Bool) (d:Option Nat) (t:TypeId) (x:Operand):PX :=
 match x with
 | .const (.slice none 0 0) => .emb (zF6 P tk nl d t x)
 | x=>zKT x fun p=>bif tk then zS5 p (zH9 d) else zH9 d p
theorem zMz {tk nl:Bool} {d:Option Nat} {t:TypeId} {x:Operand}:(zJD P tk nl d t x).toPM=zF6 P tk nl d t x:=by
 unfold zJD
 split
 ·rfl
 ·rename_i h
  unfold zF6
  split
  ·exact (h rfl).elim
  ·simp only [zF2,zC5,zN3,zMW]
def zQv (d:Option Nat) (t:TypeId) (x:Operand):PX:=zKT x fun p=>match shT P t,szT P t with
 | some sh,some n => .test (decide (p.cells.length=n)) (.test (decide (p.isAgg=sh.isSome)) (.test p.whole (zGb d (.box p))))
 | _,_ => .fail
theorem zQh {d:Option Nat} {t:TypeId} {x:Operand}:(zQv P d t x).toPM=zSZ P d t x:=by
 simp only [zQv,zSZ,zF2]
 congr 1;funext p
 cases shT P t<;>cases szT P t<;>first | rfl | skip
 simp only [PX.toPM,zBn,zBm,Bool.and_eq_true,decide_eq_true_eq]
 split<;>split<;>(try split)<;>simp_all
def zUf (nz:Option Nat) (x:Operand) (k:PV→PX):PX :=
 match nz,x with
 | some s,.const (.slice none 0 0)=>k (.own s [])
 | _,x=>zKT x k
def zN8 (nz:Option Nat):List Operand→(List PV→PX)→PX
 | [],k=>k []
 | x::xs,k=>zUf nz x fun p=>zN8 nz xs fun ps=>k (p::ps)
theorem zR2 {nz:Option Nat} {x:Operand} {k:PV→PX}:(zUf nz x k).toPM=zWB nz x fun p=>(k p).toPM:=by
 unfold zUf zWB
 split
 ·rfl
 ·rename_i h
  rw [zF2]
  split
  ·exact (h _ rfl rfl).elim
  ·rfl
theorem zMQ {nz:Option Nat}:∀ {xs:List Operand} {k:List PV→PX},(zN8 nz xs k).toPM=zPd nz xs fun p=>(k p).toPM
 | [],_=>rfl
 | x::xs,k=>by simp only [zN8,zPd,zR2,zMQ]
def zFd (tk:Bool) (d:Option Nat) (t:TypeId) (n:Nat) (ps:List (Nat×Operand)):PX :=
 match zBH P t with
 | some e=>match szT P e,zCz P e with
  | some s,some z=>if n*s≤65536&&Nat.beq z.cells.length s&&ps.all (fun x=>x.1<n) then zN8 (zWr (zCz P e)) (ps.map (·.2)) fun vs=>zIf tk vs fun vs =>
    .sames vs fun vs => .test (zBp vs).isEmpty (.test (vs.all (fun v=>v.cells.length=s&&v.isAgg=z.isAgg&&v.whole)) (zGb d (.own s (zLw n z ((ps.map (·.1)).zip vs)))))
   else .fail
  | _,_ => .fail
 | none => .fail
theorem zH4 {tk:Bool} {d:Option Nat} {t:TypeId} {n:Nat} {ps:List (Nat×Operand)}:(zFd P tk d t n ps).toPM=zDK P tk d t n ps:=by
 simp only [zFd,zDK]
 cases zBH P t with
 | none=>rfl
 | some e =>
  simp only
  generalize szT P e=a1
  generalize zCz P e=a2
  cases a1<;>cases a2<;>first | rfl | skip
  simp only [zOP,zMQ,zIG,PX.toPM,zBn]
  congr 1;congr 1;funext vs;congr 1;funext vs
  cases (zBp vs).isEmpty with
  | false=>rfl
  | true=>simp only [cond_true,Bool.true_and,zBm,if_true]
def zOd (d:Option Nat) (sh:Option Nat) (p:PV):PX :=
 match p with
 | .ref q => .test (decide (q.isAgg=sh.isSome)) (.test (decide (q.cells.length=sh.getD 1)) (zGb d q))
 | .addr r pre i c _=>zQQ r pre i c sh (zGb d)
 | _ => .fail
theorem zL6 {d:Option Nat} {sh:Option Nat} {p:PV}:(zOd d sh p).toPM=zPG d sh p:=by
 cases p<;>simp only [zOd,zPG,PX.toPM,zKE,zBn]
 simp only [zBm,Bool.and_eq_true,decide_eq_true_eq]
 split<;>split<;>simp_all
def zNh (tk:Bool) (d:Option Nat) (t:TypeId) (a:Operand):PX:=zVo (shT P t) fun sh=>zGG a fun p =>
 bif tk then (match p with
  | .addr r pre i c _=>zQQ r pre i c sh fun v=>zPF zAb zDn v (zGb d)
  | p=>zOd d sh p) else zOd d sh p
theorem zPH {tk:Bool} {d:Option Nat} {t:TypeId} {a:Operand}:(zNh P tk d t a).toPM=zOW P tk d t a:=by
 simp only [zNh,zOW,zJb,zB2,zC5,zL6]
 congr 1;funext sh;congr 1;funext p;congr 1
 cases p<;>simp only [zL6,zKE,zFH,zBn]
def zRr (d:Option Nat) (op:BinOp) (t:TypeId) (x y:Operand):PX:=zGG x fun p=>zGG y fun q => .pick (zJM P op t p q) (zGb d)
theorem zP4 {d:Option Nat} {op:BinOp} {t:TypeId} {x y:Operand}:(zRr P d op t x y).toPM=zSD P d op t x y:=by
 simp only [zRr,zSD,zB2,zJr,zBn]
def zXF (d:Option Nat) (op:UnOp) (p:PV):PX :=
 match op,p with
 | .not,.bool b=>zGb d (.bool !b)
 | .neg,.int k n=>zGb d (.int k (k.wrap (0-n)))
 | _,_ => .fail
theorem zU2 {d:Option Nat} {op:UnOp} {p:PV}:(zXF d op p).toPM=unV d op p:=by
 cases op<;>cases p<;>first | rfl | exact zBn
def zRD (d:Option Nat) (t:TypeId) (p:PV):PX :=
 match P.underlying t,p with
 | some (.int k),.int _ n=>zGb d (.int k (k.wrap n))
 | _,_ => .fail
theorem zRx {d:Option Nat} {t:TypeId} {p:PV}:(zRD P d t p).toPM=zRT P d t p:=by
 simp only [zRD,zRT]
 cases P.underlying t with
 | none=>rfl
 | some u=>cases u<;>cases p<;>first | rfl | exact zBn
def zFs (d:Option Nat) (t:TypeId) (l c:Operand):PX :=
 zGG l fun l=>zFt l fun l=>zGG c fun c=>zFt c fun c=>match zBH P t with
 | some e=>match zCz P e,szT P e,zHG P e with
  | some z,some s,some b => .test (decide (l≤c)) (.test (decide (c≤zBe)) (.test (decide (b≤16384∧z.cells.length=s)) (zGb d (.own s (List.replicate l z)))))
  | _,_,_ => .fail
 | none => .fail
theorem zIF {d:Option Nat} {t:TypeId} {l c:Operand}:(zFs P d t l c).toPM=zER P d t l c:=by
 simp only [zFs,zER,zB2,zEE]
 congr 1;funext p;congr 1;funext l;congr 1;funext q;congr 1;funext c
 cases zBH P t with
 | none=>rfl
 | some e =>
  simp only
  generalize zCz P e=a1
  generalize szT P e=a2
  generalize zHG P e=a3
  cases a1<;>cases a2<;>cases a3<;>first | rfl | skip
  simp only [PX.toPM,zBn,zBm,decide_eq_true_eq]
  by_cases h1:l≤c<;>by_cases h2:c≤zBe<;>simp [h1,h2]
def zNg (d:Option Nat) (n:Nat) (e:TypeId) (p:PV) (i:Nat):PX :=
 match szT P e,shT P e with
 | some s,some sh => .test (decide (i<n)) (.pick (zCc p (i*s) sh) (zGb d))
 | _,_ => .fail
def zRk (d:Option Nat) (e:TypeId) (p:PV) (i:Nat):PX :=
 match p with
 | .sl xs => .pick (xs[i]?) fun x => .test (decide (szT P e=some x.cells.length)) (zGb d (.ref x))
 | .bor r pre z lo n=>match shT P e with
  | some sh => .test (decide (i<n)) (.test (decide (szT P e=some z)) (.num (some (lo+i)) fun j=>zGb d (.addr r pre j 0 sh)))
  | none => .fail
 | .bsl r pre j c s ag n => .test (decide (i<n)) (.test (decide (szT P e=some s)) (.num (some (c+i*s)) fun c=>zGb d (.addr r pre j c (if ag then some s else none))))
 | _ => .fail
theorem zO4 {d:Option Nat} {n:Nat} {e:TypeId} {p:PV} {i:Nat}:(zNg P d n e p i).toPM=zOV P d n e p i:=by
 simp only [zNg,zOV]
 generalize szT P e=a1
 generalize shT P e=a2
 cases a1<;>cases a2<;>first | rfl | skip
 simp only [PX.toPM,zJr,zBn,zBm,decide_eq_true_eq]
theorem zQy {d:Option Nat} {e:TypeId} {p:PV} {i:Nat}:(zRk P d e p i).toPM=zRd P d e p i:=by
 cases p<;>simp only [zRk,zRd,PX.toPM,zJr,zBn]
 ·congr 1;funext x;simp only [zBm,decide_eq_true_eq]
 ·cases shT P e with
  | none=>rfl
  | some sh =>
   simp only [PX.toPM,zBn,zBm,decide_eq_true_eq]
   split<;>split<;>simp_all
 ·simp only [zBm,decide_eq_true_eq]
  split<;>split<;>simp_all
def zFl (d:Option Nat) (t:TypeId) (x i:Operand):PX :=
 zGG x fun p=>zGG i fun i=>zFt i fun i=>match P.underlying t with
 | some (.array n e)=>zNg P d n e p i
 | some (.slice e)=>zRk P d e p i
 | _ => .fail
theorem zII {d:Option Nat} {t:TypeId} {x i:Operand}:(zFl P d t x i).toPM=zFa P d t x i:=by
 simp only [zFl,zFa,zB2,zEE]
 congr 1;funext p;congr 1;funext q;congr 1;funext i
 cases P.underlying t with
 | none=>rfl
 | some u=>cases u<;>first | rfl | exact zO4 P | exact zQy P
def zKG (d:Option Nat) (t:TypeId) (x i:Operand):PX :=
 zGG x fun p=>zGG i fun i=>zFt i fun i=>match P.underlying t with
 | some (.array n e)=>match szT P e,shT P e with
  | some s,some sh => .test (decide (i<n)) (.pick (sub p (i*s) sh) (zGb d))
  | _,_ => .fail
 | _ => .fail
theorem zNz {d:Option Nat} {t:TypeId} {x i:Operand}:(zKG P d t x i).toPM=zKR P d t x i:=by
 simp only [zKG,zKR,zB2,zEE]
 congr 1;funext p;congr 1;funext q;congr 1;funext i
 cases P.underlying t with
 | none=>rfl
 | some u =>
  cases u<;>first | rfl | skip
  rename_i n e
  simp only
  generalize szT P e=a1
  generalize shT P e=a2
  cases a1<;>cases a2<;>first | rfl | skip
  simp only [PX.toPM,zJr,zBn,zBm,decide_eq_true_eq]
def zVs (x:Option Operand) (n:Nat) (k:Nat→PX):PX :=
 match x with
 | some x=>zGG x fun p=>zFt p k
 | none=>k n
theorem zRM {x:Option Operand} {n:Nat} {k:Nat→PX}:(zVs x n k).toPM=zR0 x n fun m=>(k m).toPM:=by
 cases x with
 | none=>rfl
 | some x=>simp only [zVs,zR0,zB2,zEE]
def zNL (d:Option Nat) (s:Nat) (p:PV) (l h:Nat):PX :=
 match p with
 | .sl xs => .test (Nat.ble l h) (.test (Nat.ble h xs.length) (.test (xs.all (fun x=>Nat.beq x.cells.length s)) (zGb d (.sl ((xs.drop l).take (h-l))))))
 | .bor r pre z a n =>
  .test (Nat.beq z s) (.test (Nat.ble l h) (
   .choose (Nat.ble h n) (.choose (Nat.beq l 0||Nat.blt l h) (zGb d (.bor r pre z (a+l) (h-l))) (zGb d (.sl [])))
   (.deep r pre fun q=>match q with
    | .own _ xs => .test (Nat.ble (a+h) xs.length) (.choose (Nat.beq l 0||Nat.blt l h) (zGb d (.bor r pre z (a+l) (h-l))) (zGb d (.sl [])))
    | _ => .fail)))
 | _ => .fail
theorem zSy {d:Option Nat} {b:Bool} {p q:PV}:put d (bif b then p else q)=bif b then put d p else put d q:=by cases b<;>rfl
theorem zPo {d:Option Nat} {s:Nat} {p:PV} {l h:Nat}:(zNL d s p l h).toPM=zNZ d s p l h:=by
 cases p<;>simp only [zNL,zNZ,PX.toPM,zBn,zDh,zSy]
 congr 1;congr 1;congr 1;congr 1;funext q
 cases q<;>first | rfl | simp only [PX.toPM,zBn]
def zMS (d:Option Nat) (n s:Nat) (sh:Option Nat) (p:PV) (l h:Nat):PX :=
 .test (Nat.ble l h) (.test (Nat.ble h n) (.test (Nat.beq l 0||Nat.blt l n) (
  match p with
  | .addr r pre i c _ => .num (some (h-l)) fun m=>zGb d (.bsl r pre i (c+l*s) s sh.isSome m)
  | .ref (.agg cs) => .test (Nat.ble (n*s) cs.length) (.test (zCb sh.isSome s (h-l) ((cs.drop (l*s)).take ((h-l)*s))) (.test (zBp cs).isEmpty (zGb d (.sl (zCd sh.isSome s (h-l) ((cs.drop (l*s)).take ((h-l)*s)))))))
  | _ => .fail)))
theorem zO9 {d:Option Nat} {n s:Nat} {sh:Option Nat} {p:PV} {l h:Nat}:(zMS d n s sh p l h).toPM=zQx d n s sh p l h:=by
 cases p<;>simp only [zMS,zQx,PX.toPM,zBn,zDh]
 rename_i q
 cases q<;>simp only [PX.toPM,zBn,zDh]
def zRe (d:Option Nat) (t:TypeId) (x:Operand) (lo hi mx:Option Operand):PX :=
 match mx with
 | some m => .emb (zJG P d t x lo hi (some m))
 | none=>zGG x fun p=>match P.underlying t with
  | some (.array n e)=>match szT P e,shT P e with
   | some s,some sh=>zVs hi n fun h=>zVs lo 0 fun l=>zMS d n s sh p l h
   | _,_ => .fail
  | some (.slice e)=>match szT P e,lenOf p with
   | some s,some n=>zVs hi n fun h=>zVs lo 0 fun l=>zNL d s p l h
   | _,_ => .fail
  | _ => .fail
theorem zQR {d:Option Nat} {t:TypeId} {x:Operand} {lo hi mx:Option Operand}:(zRe P d t x lo hi mx).toPM=zJG P d t x lo hi mx:=by
 cases mx with
 | some _=>rfl
 | none =>
  simp only [zRe,zJG,zB2]
  congr 1;funext p
  cases P.underlying t with
  | none=>rfl
  | some u =>
   cases u<;>first | rfl | skip
   ·rename_i e
    simp only
    generalize szT P e=a1
    generalize lenOf p=a2
    cases a1<;>cases a2<;>first | rfl | simp only [zRM,zPo]
   ·rename_i n e
    simp only
    generalize szT P e=a1
    generalize shT P e=a2
    cases a1<;>cases a2<;>first | rfl | simp only [zRM,zO9]
def zI8 (es:List (PV×PV)) (i:Nat):Option PV:=(es[i]?).map (·.2)
def zI6 (d:Option Nat) (kt:TypeId) (z key:PV) (ok:Bool) (es:List (PV×PV)):PX :=
 .idx (zC4 P kt key es 0) fun x=>match x with
 | some i => .pick (zI8 es i) fun v => .test v.lone (zE0 d (if ok then .tup [v,.bool true] else v))
 | none=>zE0 d (if ok then .tup [z,.bool false] else z)
theorem zKk {d:Option Nat} {kt:TypeId} {z key:PV} {ok:Bool} {es:List (PV×PV)}:(zI6 P d kt z key ok es).toPM=zIU P d kt z key ok es:=by
 simp only [zI6,zIU,PX.toPM]
 cases zC4 P kt key es 0 with
 | none=>rfl
 | some x =>
  cases x with
  | none=>exact zEN
  | some i =>
   show (PX.pick (zI8 es i) fun v => .test v.lone (zE0 d (if ok then .tup [v,.bool true] else v))).toPM=_
   rw [zJr]
   simp only [zI8,PX.toPM,zEN]
   cases es[i]?<;>rfl
def zQb (d:Option Nat) (kt:TypeId) (z key:PV) (ok:Bool) (m:PV):PX :=
 match m with
 | .nilm=>zI6 P d kt z key ok []
 | .map es=>zI6 P d kt z key ok es
 | .bmap r pre => .deep r pre fun q=>match q with
  | .omap es=>zI6 P d kt z key ok es
  | _ => .fail
 | _ => .fail
theorem zQD {d:Option Nat} {kt:TypeId} {z key:PV} {ok:Bool} {m:PV}:(zQb P d kt z key ok m).toPM=zSH P d kt z key ok m:=by
 cases m<;>first | rfl | exact zKk P | skip
 simp only [zQb,zSH,PX.toPM]
 congr 1;funext q
 cases q<;>first | rfl | exact zKk P
def zJh (d:Option Nat) (t:TypeId) (m x:Operand) (ok:Bool):PX :=
 zGG m fun m=>zGG x fun key=>match P.underlying t with
 | some (.map kt e) => .test (zNX P 20 kt key) (zVo (zCz P e) fun z => .test (zIy z).lone (zQb P d kt (zIy z) key ok m))
 | _ => .fail
theorem zMe {d:Option Nat} {t:TypeId} {m x:Operand} {ok:Bool}:(zJh P d t m x ok).toPM=zIi P d t m x ok:=by
 simp only [zJh,zIi,zB2]
 congr 1;funext p;congr 1;funext q
 cases P.underlying t with
 | none=>rfl
 | some u=>cases u<;>first | rfl | simp only [PX.toPM,zJb,zQD]
def zTH (es:List (PV×PV)) (k:List (PV×PV)→PX):PX := .same (.omap es) fun q=>match q with
 | .omap es=>k es
 | _ => .fail
def zNG (kt:TypeId) (key v m:PV):PX :=
 match m with
 | .bmap r pre => .test v.lone (.deep r pre fun q=>match q with
  | .omap es => .idx (zC4 P kt key es 0) fun x=>match x with
   | some i=>zTH (es.modify i fun _=>(key,v)) fun es => .wnode r pre (.omap es) .ok
   | none=>zTH (es++[(key,v)]) fun es => .wnode r pre (.omap es) .ok
  | _ => .fail)
 | _ => .fail
theorem zO1 {kt:TypeId} {key v m:PV}:(zNG P kt key v m).toPM=zLV P kt key v m:=by
 cases m<;>first | rfl | skip
 simp only [zNG,zLV,PX.toPM]
 congr 1;congr 1;funext q
 cases q<;>first | rfl | skip
 rename_i es
 simp only [PX.toPM]
 cases zC4 P kt key es 0 with
 | none=>rfl
 | some x=>cases x<;>rfl
def zFQ (t:TypeId) (m x y:Operand):PX:=zGG m fun m=>zGG x fun key=>match P.underlying t with
 | some (.map kt _) => .test (zNX P 20 kt key&&key.flat) (zKT y fun v=>zPF zAb zDn v fun v=>zNG P kt key (zAP v) m)
 | _ => .fail
theorem zJC {t:TypeId} {m x y:Operand}:(zFQ P t m x y).toPM=zEO P t m x y:=by
 simp only [zFQ,zEO,zB2]
 congr 1;funext p;congr 1;funext q
 cases P.underlying t with
 | none=>rfl
 | some u=>cases u<;>first | rfl | simp only [PX.toPM,zF2,zFH,zO1]
def zTT (es:List (PV×PV)) (i:Nat):Option PV:=(es[i]?).map (·.1)
def zMU (d:Option Nat) (kt:TypeId) (z key m:PV):PX :=
 match m with
 | .bmap r pre => .deep r pre fun q=>match q with
  | .omap es => .idx (zC4 P kt key es 0) fun x=>match x with
   | some i => .pick (zI8 es i) fun v => .test v.lone (.wnode r pre (.omap (es.modify i fun _=>(key,v))) (zE0 d (.tup [v,.int .i64 i])))
   | none => .wnode r pre (.omap (es++[(key,z)])) (zE0 d (.tup [z,.int .i64 es.length]))
  | _ => .fail
 | _ => .fail
theorem zPp {d:Option Nat} {kt:TypeId} {z key m:PV}:(zMU P d kt z key m).toPM=zOK P d kt z key m:=by
 cases m<;>first | rfl | skip
 simp only [zMU,zOK,PX.toPM]
 congr 1;funext q
 cases q<;>first | rfl | skip
 rename_i es
 simp only [PX.toPM]
 cases zC4 P kt key es 0 with
 | none=>rfl
 | some x =>
  cases x with
  | none=>simp only [PX.toPM,zEN]
  | some i =>
   simp only [PX.toPM,zI8]
   cases es[i]? with
   | none=>rfl
   | some kv=>obtain ⟨k,v⟩:=kv;simp only [Option.map_some,PX.toPM,zEN]
def zGs (d:Option Nat) (t:TypeId) (m x:Operand):PX:=zGG m fun m=>zGG x fun key=>match P.underlying t with
 | some (.map kt el) => .test (zNX P 20 kt key&&key.flat) (zVo (zCz P el) fun z => .test (zIy z).lone (zMU P d kt (zIy z) key m))
 | _ => .fail
theorem zJS {d:Option Nat} {t:TypeId} {m x:Operand}:(zGs P d t m x).toPM=zF0 P d t m x:=by
 simp only [zGs,zF0,zB2]
 congr 1;funext p;congr 1;funext q
 cases P.underlying t with
 | none=>rfl
 | some u=>cases u<;>first | rfl | simp only [PX.toPM,zJb,zPp]
def zIV (i:Nat) (v m:PV):PX :=
 match m with
 | .bmap r pre => .test v.lone (.deep r pre fun q=>match q with
  | .omap es => .pick (zTT es i) fun k => .wnode r pre (.omap (es.modify i fun _=>(k,v))) .ok
  | _ => .fail)
 | _ => .fail
theorem zLY {i:Nat} {v m:PV}:(zIV i v m).toPM=zIp i v m:=by
 cases m<;>first | rfl | skip
 simp only [zIV,zIp,PX.toPM]
 congr 1;congr 1;funext q
 cases q<;>first | rfl | skip
 rename_i es
 simp only [PX.toPM,zTT]
 cases es[i]? with
 | none=>rfl
 | some kv=>obtain ⟨k,x⟩:=kv;rfl
def zE7 (m s y:Operand):PX:=zGG m fun m=>zGG s fun s=>zFt s fun i=>zKT y fun v=>zPF zAb zDn v fun v=>zIV i (zAP v) m
theorem zH3 {m s y:Operand}:(zE7 m s y).toPM=zEh m s y:=by
 simp only [zE7,zEh,zB2,zEE,zF2,zFH,zLY]
def zNt (d:Option Nat) (c:Call):PX :=
 match c.callee with
 | .builtin b=>zLr P d b c.argTypes.toList c.args.toList
 | .value f=>zGG f (zP6 H d c.args.toList)
 | _ => .fail
theorem zPm {d:Option Nat} {c:Call}:(zNt P H d c).toPM=zIM P H d c:=by
 simp only [zNt,zIM]
 cases c.callee<;>simp only [PX.toPM,zMV,zB2,zRs]
def opX (fz tk nl:Bool) (o:Oper):PX :=
 match o.op with
 | .assign x=>zJD P tk nl o.dst o.type x
 | .box t x=>zQv P o.dst t x
 | .buildSlice t n ps=>zFd P tk o.dst t n ps.toList
 | .load t a=>zNh P tk o.dst t a
 | .store t a x=>zRN P fz tk t a x
 | .binOp op t x y _=>zRr P o.dst op t x y
 | .unOp op _ x=>zGG x (zXF o.dst op)
 | .convert _ t x=>zGG x (zRD P o.dst t)
 | .makeSlice t l c=>zFs P o.dst t l c
 | .slice t x lo hi mx=>zRe P o.dst t x lo hi mx
 | .indexAddr t x i=>zFl P o.dst t x i
 | .index t x i=>zKG P o.dst t x i
 | .lookup t m x ok=>zJh P o.dst t m x ok
 | .mapUpdate t m x y=>zFQ P t m x y
 | .mapEntry t m x=>zGs P o.dst t m x
 | .entryStore _ m s x=>zE7 m s x
 | .call c=>zNt P H o.dst c
 | _ => .emb (opM P H fz tk nl o)
theorem zWx {fz tk nl:Bool} {o:Oper}:(opX P H fz tk nl o).toPM=opM P H fz tk nl o:=by
 obtain ⟨dst,op,type,pos,after,guard⟩:=o
 cases op<;>simp only [opX,opM,PX.toPM,zMz,zQh,zH4,zPH,zQm,zP4,zB2,zU2,zRx,zIF,zQR,zII,zNz,zMe,zJC,zJS,zH3,zPm]
end
end Go.Eng
namespace Go.Eng
open Go
section
variable [Yo] {P:Program} {H:zBc} {f:FuncId} {nt:Nat} {e e':Env} {lg:Option Log} {K:X→Env→Option Log→Prop} {i:Nat} {c:Code} {s:RS} {R:Env→Option Log→Prop}
abbrev zXo (P:Program) (H:zBc) (f:FuncId) (c:Code) (i:Nat):PX:=opX P H (((H f).frzs (rid c)).contains i) (((H f).take (rid c)).contains i) (H f).nils (zDQ c i)
def zVt [Yo] (P:Program) (H:zBc) (f:FuncId) (c:Code) (i:Nat) (as:Ans) (s:RS):Option (RS×List Prop) :=
 match (zXo P H f c i).run P H as s.e with
 | some (e',t,obs)=>(zRG c i s e' t).map fun s'=>(s',obs)
 | none=>none
def rsX (o:Option (RS×List Prop)):RS:=zVq (o.map (·.1))
theorem S_x (as:Ans) (obs:List Prop) (ho:zS1 obs) (h:WS P H f c (i+1) (rsX (zVt P H f c i as s)) R) (hq:(zVt P H f c i as s).map (·.2)=some obs:=by kernel_rfl) (hi:Nat.blt i (zFi c).size=true:=by kernel_rfl):WS P H f c i s R:=by
 obtain ⟨⟨s',obs'⟩,hs,hq⟩:=Option.map_eq_some_iff.1 hq
 simp only at hq;subst hq
 simp only [zVt] at hs
 split at hs
 ·rename_i e1 t obs hr
  obtain ⟨s1,h1,h2⟩:=Option.map_eq_some_iff.1 hs
  simp only [Prod.mk.injEq] at h2
  obtain ⟨rfl,rfl⟩:=h2
  obtain ⟨n0,hn⟩:=PX.run_ok hr ho
  refine zXu (m:=some (e1,t)) ⟨n0,fun n ve=>?_⟩ ?_ ?_ hi
  ·have:=hn n ve
   rw [zWx] at this
   exact this
  ·simpa [rsX,zVt,hr,h1] using h
  ·simp [h1]
 ·cases hs
def zUr (p:PV) (k:PV→PX) (k2:PX):PX :=
 match p with
 | .bor r pre _ lo n => .deep r pre fun q=>match q with
  | .own sz xs => .choose (Nat.ble (lo+n) xs.length) (.wnode r pre .bad (.same (.own sz ((xs.drop lo).take n)) k)) k2
  | _=>k2
 | .addr r pre 0 0 _ => .deep r pre fun q=>match q with
  | .box q => .wnode r pre .bad (k (.box q))
  | _=>k2
 | .bmap r pre => .deep r pre fun q=>match q with
  | .omap es => .wnode r pre .bad (k (.omap es))
  | _=>k2
 | _=>k2
omit [Yo] in
theorem zTq {p:PV} {k:PV→PX} {k2:PX}:(zUr p k k2).toPM=zQ5 p (fun q=>(k q).toPM) k2.toPM:=by
 unfold zUr zQ5
 split
 ·simp only [PX.toPM]
  congr 1;funext q
  cases q<;>rfl
 ·simp only [PX.toPM]
  congr 1;funext q
  cases q<;>rfl
 ·simp only [PX.toPM]
  congr 1;funext q
  cases q<;>rfl
 ·rename_i h1 h2 h3
  split
  ·exact (h1 _ _ _ _ _ rfl).elim
  ·exact (h2 _ _ _ rfl).elim
  ·exact (h3 _ _ rfl).elim
  ·rfl
def zKO (frz:Bool) (p:PV) (k:PV→PX):PX :=
 bif frz||p.ways.any (fun w=>Nat.ble zAn w.1) then zPF zAn zDn p k else zUr p k (zPF zAn zDn p k)
def zEf (frz:Bool):List PV→(List PV→PX)→PX
 | [],k=>k []
 | p::ps,k=>zKO frz p fun q=>zEf frz ps fun qs=>k (q::qs)
def zIo (frz:Bool) (p:PV) (k:PV→PX):PX :=
 match p with
 | .agg cs => .choose (cs.all fun q=>q.num) (k (.agg cs)) (zEf frz cs fun qs=>k (.agg qs))
 | p=>zKO frz p k
omit [Yo] in
theorem zKg {frz:Bool} {p:PV} {k:PV→PX}:(zKO frz p k).toPM=zFz frz p fun q=>(k q).toPM:=by
 simp only [zKO,zFz,zC5,zFH,zTq]
omit [Yo] in
theorem zFL {frz:Bool}:∀ {ps:List PV} {k:List PV→PX},(zEf frz ps k).toPM=zCk frz ps fun qs=>(k qs).toPM
 | [],_=>rfl
 | p::ps,k=>by simp only [zEf,zCk,zKg,zFL]
omit [Yo] in
theorem zNP {frz:Bool} {p:PV} {k:PV→PM} (h:p.num=true):zFz frz p k=k p:=by
 cases p<;>first | (cases h;done) | skip
 all_goals cases frz<;>rfl
omit [Yo] in
theorem zFO {frz:Bool}:∀ {ps:List PV} {k:List PV→PM},ps.all (fun q=>q.num)=true→zCk frz ps k=k ps
 | [],_,_=>rfl
 | p::ps,k,h=>by
  simp only [List.all_cons,Bool.and_eq_true] at h
  simp only [zCk,zNP h.1,zFO h.2]
omit [Yo] in
theorem zJJ {frz:Bool} {p:PV} {k:PV→PX}:(zIo frz p k).toPM=zGw frz p fun q=>(k q).toPM:=by
 cases p<;>first | exact zKg | skip
 rename_i cs
 simp only [zIo,zGw,PX.toPM,zFL]
 cases h:cs.all fun q=>q.num with
 | false=>rfl
 | true=>simp only [cond_true];exact (zFO (k:=fun qs=>(k (.agg qs)).toPM) h).symm
def zHE (P:Program) (frz:Bool):Nat→List ResultVar→PX
 | _,[] => .ok
 | j,.tmp t::rs => .view t fun p=>zIo frz p fun q => .same q fun q=>zVu (zAx+j) q (zHE P frz (j+1) rs)
 | j,.cell a t::rs=>zVo (shT P t) fun sh => .view a fun p=>match p with
  | .addr r pre i c _=>zQQ r pre i c sh fun v=>zIo frz v fun q => .same q fun q=>zVu (zAx+j) q (zHE P frz (j+1) rs)
  | _ => .fail
omit [Yo] in
theorem zHx {frz:Bool}:∀ {rs:List ResultVar} {j:Nat},(zHE P frz j rs).toPM=zCC P frz j rs
 | [],_=>rfl
 | .tmp t::rs,j=>by simp only [zHE,zCC,PX.toPM,zJJ,zKF,zHx]
 | .cell a t::rs,j=>by
  simp only [zHE,zCC,zJb,PX.toPM]
  congr 1;funext sh;congr 1;funext p
  cases p<;>first | rfl | simp only [zKE,zJJ,PX.toPM,zKF,zHx]
def zNH [Yo] (P:Program) (H:zBc) (f:FuncId) (fn:Func) (as:Ans) (e:Env) (nh:Nat):Option ((PV×List PV)×List Prop) :=
 match (zHE P (H f).frz 0 fn.results.toList).run P H as e with
 | some (e',_,obs)=>bif Nat.beq fn.results.size 1&&(e'.get zAx).isTup then none else some ((zU7 e' fn.results.size,(List.range nh).map fun j=>e'.get (zAn+j)),obs)
 | none=>none
def zUE [Yo] (P:Program) (H:zBc) (f:FuncId) (fn:Func) (nh:Nat) (v:PV) (hX:List PV) (x:X) (e:Env) (lg:Option Log):Prop :=
 (x = .norm∨x = .ret)∧lg=none∧∃ n0,∀ n,n0≤n→∃ e',(zCC P (H f).frz 0 fn.results.toList).run (zCR P H n) e=some e'∧(bif Nat.beq fn.results.size 1&&(e'.get zAx).isTup then none else some (zU7 e' fn.results.size,(List.range nh).map fun j=>e'.get (zAn+j)))=some (v,hX)
theorem E_x {fn:Func} {nh:Nat} {v:PV} {h:List PV} {x:X} (as:Ans) (obs:List Prop) (v':PV) (h':List PV) (ho:zS1 obs) (hv:v'=v) (hh:h'=h) (hf:zNH P H f fn as e nh=some ((v',h'),obs):=by kernel_rfl) (hl:lg=none:=by kernel_rfl) (hx:x = .norm∨x = .ret:=by first | exact .inr rfl | exact .inl rfl):zUE P H f fn nh v h x e lg:=by
 subst hv;subst hh
 simp only [zNH] at hf
 split at hf
 ·rename_i e1 t obs' hr
  rcases zBb hf with ⟨_,hf⟩ | ⟨hb,hf⟩
  ·cases hf
  ·simp only [Option.some.injEq,Prod.mk.injEq] at hf
   obtain ⟨⟨h1,h2⟩,rfl⟩:=hf
   obtain ⟨n0,hn⟩:=PX.run_ok hr ho
   refine ⟨hx,hl,n0,fun n ve=>⟨e1,?_,?_⟩⟩
   ·have:=hn n ve
    rw [zHx] at this
    exact zD4 this
   ·rw [hb];simp only [cond_false,h1,h2]
 ·cases hf
theorem zAf (fn:Func) {args hid:List PV} {v:PV} {hX:List PV} (h:W P H f fn.ntmps (fn.body.getD .ret) (zA2 args hid) none (zUE P H f fn hid.length v hX)) (hf:P.funcs[f]? = some fn:=by kernel_rfl) (hi:(H f).intr=0:=by kernel_rfl) (hb:fn.body.isSome=true:=by kernel_rfl)
  (hc:(Nat.ble args.length fn.ntmps&&Nat.ble hid.length 1000&&args.all (fun p => !p.isTup))=true:=by kernel_rfl):zDi P H f args hid v hX:=by
 obtain ⟨body,hb⟩:∃ body,fn.body=some body:=by cases hx:fn.body<;>first | exact ⟨_,rfl⟩ | (rw [hx] at hb;cases hb)
 simp only [hb,Option.getD_some] at h
 obtain ⟨n0,x,e1,lg1,h1,hx,rfl,n1,hr⟩:=h
 refine ⟨max n0 n1+1,fun n hn=>?_⟩
 obtain ⟨n,rfl⟩:∃ k,n=k+1:=⟨n-1,by omega⟩
 have j1:=h1 n (n+1) (by omega) (by omega)
 obtain ⟨e2,h2,hr⟩:=hr n (by omega)
 show zJy P H (zCR P H n) Yo.yo zB5 (n+1) f args hid=_
 simp only [zJy,hf,hi,hb,zJu,hc,cond_true,j1,ne_eq,not_true,if_false]
 rcases hx with rfl | rfl<;>simp only [h2,hr]
theorem zUl (k:Int) (xss:List (List PV)) (args:List PV) (a:Nat) (h1:k=1→WS P H f c (i+1) ⟨(zFf s.dr i (zDQ c i) {all:=true}).getD none,zLx ((put (zDQ c i).dst (.bool false)).run zHl (s.e.forget zAb)),some ⟨xss++[args],k-1,a⟩⟩ R)
  (h2:k≠1→WS P H f c (i+1) ⟨(zFf s.dr i (zDQ c i) {all:=true}).getD none,zLx ((put (zDQ c i).dst (.bool true)).run zHl s.e),some ⟨xss++[args],k-1,a⟩⟩ R) (hk:k≠0)
  (hy:zB6 s.e (zDQ c i)=some (a,args):=by kernel_rfl) (hl:s.lg=some ⟨xss,k,a⟩:=by kernel_rfl) (hw:zLg (zFi c) s.e (zDQ c i)=some true:=by kernel_rfl) (hf:args.all PV.flat=true:=by kernel_rfl)
  (hd:(zFf s.dr i (zDQ c i) {all:=true}).isSome=true:=by kernel_rfl) (kd:((put (zDQ c i).dst (.bool false)).run zHl (s.e.forget zAb)).isSome=true:=by kernel_rfl) (v4:((put (zDQ c i).dst (.bool true)).run zHl s.e).isSome=true:=by kernel_rfl)
  (hi:Nat.blt i (zFi c).size=true:=by kernel_rfl):WS P H f c i s R:=by
 have wF:zFf s.dr i (zDQ c i) {all:=true}=some ((zFf s.dr i (zDQ c i) {all:=true}).getD none):=by
  cases hx:zFf s.dr i (zDQ c i) {all:=true} with
  | none=>rw [hx] at hd;cases hd
  | some d=>rfl
 have vI:(k != 0)=true:=by simpa using hk
 by_cases jF:k=1
 ·refine zKD hi ⟨0,fun n _=>?_⟩ wF (h1 jF)
  have hr:(put (zDQ c i).dst (.bool false)).run (zCR P H n) (s.e.forget zAb)=some (zLx ((put (zDQ c i).dst (.bool false)).run zHl (s.e.forget zAb))):=zFK (zHt kd)
  have wC:(k==1)=true:=by simpa using jF
  have hyr:zBG (zCR P H n) (zFi c) (zDQ c i) a args ⟨xss,k,a⟩ s.e=some (zLx ((put (zDQ c i).dst (.bool false)).run zHl (s.e.forget zAb)),some ⟨xss++[args],k-1,a⟩):=by
   unfold zBG
   rw [hw]
   simp only
   rw [hf,vI,Nat.beq_refl,wC]
   simp only [Bool.and_self,cond_true]
   rw [hr];rfl
  rw [hl]
  unfold zEd
  simp only
  rw [hy]
  simp only
  rw [hyr];rfl
 ·refine zKD hi ⟨0,fun n _=>?_⟩ wF (h2 jF)
  have hr:(put (zDQ c i).dst (.bool true)).run (zCR P H n) s.e=some (zLx ((put (zDQ c i).dst (.bool true)).run zHl s.e)):=zFK (zHt v4)
  have wC:(k==1)=false:=by simpa using jF
  have hyr:zBG (zCR P H n) (zFi c) (zDQ c i) a args ⟨xss,k,a⟩ s.e=some (zLx ((put (zDQ c i).dst (.bool true)).run zHl s.e),some ⟨xss++[args],k-1,a⟩):=by
   unfold zBG
   rw [hw]
   simp only
   rw [hf,vI,Nat.beq_refl,wC]
   simp only [Bool.and_self,cond_true,cond_false]
   rw [hr];rfl
  rw [hl]
  unfold zEd
  simp only
  rw [hy]
  simp only
  rw [hyr];rfl
theorem zVb {σ:Type} {c:Code} (Inv:σ→Prop) (upd:σ→List (Nat×PV)) (L:σ→Option Log) (μ:σ→Nat) (s:σ) (hi:Inv s) (h:∀ s,Inv s→W P H f nt (cl c) (zMR (upd s) (e.drop ((H f).loopDrop (zAN (cl c))))) (L s) fun x e' lg'=>match x with
   | .norm=>∃ s',Inv s'∧μ s'<μ s∧e'.drop ((H f).loopDrop (zAN (cl c)))=zMR (upd s') (e.drop ((H f).loopDrop (zAN (cl c))))∧lg'=L s'
   | x=>K x e' lg') (hs:e.drop ((H f).loopDrop (zAN (cl c)))=zMR (upd s) (e.drop ((H f).loopDrop (zAN (cl c)))):=by kernel_rfl) (hl:lg=L s:=by kernel_rfl) (hc:zNR c=true:=by kernel_rfl):W P H f nt c e lg K:=by
 rw [zLG hc]
 generalize hE:e.drop ((H f).loopDrop (zAN (cl c)))=e0 at h hs
 have key:∀ (n:Nat) (s:σ) (e:Env) (lg:Option Log),μ s≤n→Inv s→e.drop ((H f).loopDrop (zAN (cl c)))=zMR (upd s) e0→lg=L s→W P H f nt (.loop (cl c)) e lg K:=by
  intro n
  induction n with
  | zero =>
   intro s e lg hs hi he vL
   subst vL
   obtain ⟨n0,x,e1,lg1,h1,h2⟩:=h s hi
   cases x with
   | norm=>obtain ⟨s',_,h3,_⟩:=h2;omega
   | ex id =>
    refine ⟨n0+1,_,e1,lg1,fun n m hn hm=>?_,h2⟩
    obtain ⟨m,rfl⟩:∃ k,m=k+1:=⟨m-1,by omega⟩
    simp only [exec,he,h1 n m (by omega) (by omega)]
   | ret =>
    refine ⟨n0+1,_,e1,lg1,fun n m hn hm=>?_,h2⟩
    obtain ⟨m,rfl⟩:∃ k,m=k+1:=⟨m-1,by omega⟩
    simp only [exec,he,h1 n m (by omega) (by omega)]
  | succ n ih =>
   intro s e lg hs hi he vL
   subst vL
   obtain ⟨n0,x,e1,lg1,h1,h2⟩:=h s hi
   cases x with
   | norm =>
    obtain ⟨s',h3,h4,h7,h8⟩:=h2
    obtain ⟨n2,x,e2,lg2,h5,h6⟩:=ih s' e1 lg1 (by omega) h3 h7 h8
    refine ⟨max n0 n2+1,x,e2,lg2,fun n m hn hm=>?_,h6⟩
    obtain ⟨m,rfl⟩:∃ k,m=k+1:=⟨m-1,by omega⟩
    simp only [exec,he,h1 n m (by omega) (by omega),h5 n m (by omega) (by omega)]
   | ex id =>
    refine ⟨n0+1,_,e1,lg1,fun n m hn hm=>?_,h2⟩
    obtain ⟨m,rfl⟩:∃ k,m=k+1:=⟨m-1,by omega⟩
    simp only [exec,he,h1 n m (by omega) (by omega)]
   | ret =>
    refine ⟨n0+1,_,e1,lg1,fun n m hn hm=>?_,h2⟩
    obtain ⟨m,rfl⟩:∃ k,m=k+1:=⟨m-1,by omega⟩
    simp only [exec,he,h1 n m (by omega) (by omega)]
 exact key (μ s) s e lg (Nat.le_refl _) hi (hE.trans hs) hl
end
end Go.Eng
namespace Go.Eng
open Go
abbrev I (n:Int):PV := .int .i64 n
abbrev zAF (l:List Int):PV := .sl (l.map I)
section
theorem zNY {a b:Bool} (ha:a=true) (hb:b=true):(a&&b)=true:=by rw [ha,hb];rfl
theorem zBx {a b:Nat} (h:a≤b):Nat.ble a b=true:=by rw [Nat.ble_eq];exact h
theorem zBW {a b:Nat} (h:a=b):Nat.beq a b=true:=by rw [h];exact Nat.beq_refl _
theorem zAr {p:Prop} [Decidable p] (h:p):decide p=true:=decide_eq_true h
variable {α:Type} {g:α→PV} {l:List α} {i:Nat} {d:α} {x q root root':PV} {xs:List PV} {r z c n:Nat} {pre rest:zAO}
theorem zB0 (d:α) (h:i<l.length):(l.map g)[i]? = some (g (l.getD i d)):=by simp [List.getD,List.getElem?_eq_getElem h]
theorem zKL {u:α}:(l.map g).set i (g u)=(l.set i u).map g:=(List.map_set).symm
theorem zLM (hx:xs[i]? = some x) {y:PV} (hn:zAw y rest=some q) (hh:zAT root=some xs:=by kernel_rfl) (hc:x.cells[c]? = some y:=by kernel_rfl):zAw root ((i,c)::rest)=some q:=by
 simp only [zAw,hh,hx,hc,hn]
def zMd (r:Nat) (pre:zAO) (i c n:Nat) (x:PV):Option (Bool×List PV):=bif Nat.ble (c+n) x.cells.length then some (x.isAgg,zBv r pre i c ((x.cells.drop c).take n)) else none
theorem zDu {a:Bool} {qs:List PV} (hn:zAw root.unlock pre=some q) (hx:xs[i]? = some x) (hr:zMd r pre i c n x=some (a,qs):=by kernel_rfl) (hh:zA6 q=some xs:=by kernel_rfl):zAv r root pre i c n=some (a,qs):=by
 simp only [zAv,hn,hh,hx];exact hr
theorem zUY {qs:List PV} {xs':List PV} (hx:xs[i]? = some x) (hs:xs.set i (zAy x c qs)=xs') (hb:Nat.ble (c+qs.length) x.cells.length=true:=by kernel_rfl) (hw:(zBp qs).isEmpty=true:=by kernel_rfl):zBF (.own z xs) [] i c qs=some (.own z xs')∧zAJ (.own z xs) (.own z xs') []=true:=by
 subst hs
 constructor
 ·simp only [zBF,hw,Bool.not_true,Bool.and_false,cond_false,zAs,zA6,hx,hb,cond_true,zAz]
 ·simp [zAJ,zCx]
theorem zBJ {x m:Nat} (h:Nat.beq m 1=true):0+x*m=x:=by rw [Nat.eq_of_beq_eq_true h,Nat.mul_one,Nat.zero_add]
theorem zBP {a x m:Nat} (h:Nat.beq m 1=true):a+x*m=a+x:=by rw [Nat.eq_of_beq_eq_true h,Nat.mul_one]
def wf (i c:Nat) (qs:List PV) (q:PV):Option PV:=match zA6 q with
 | some xs=>match xs[i]? with
  | some x=>bif Nat.ble (c+qs.length) x.cells.length then zAz q (xs.set i (zAy x c qs)) else none
  | none=>none
 | none=>none
theorem zJZ {qs:List PV} {q' y:PV} (hx:xs[i]? = some x) (hs:zAy x c qs=y) (hq:zAz q (xs.set i y)=some q') (hh:zA6 q=some xs:=by kernel_rfl) (hb:Nat.ble (c+qs.length) x.cells.length=true:=by kernel_rfl):zAs (wf i c qs) q []=some q':=by
 subst hs
 simp only [zAs,wf,hh,hx,hb,cond_true,hq]
theorem zPh {qs:List PV} {b:Bool} (h:zAs (wf i c qs) root pre=some root') (hk:zAJ root root' pre=b) (hw:(zBp qs).isEmpty=true:=by kernel_rfl):zBF root pre i c qs=some root'∧zAJ root root' pre=b:=by
 refine ⟨?_,hk⟩
 simp only [zBF,hw,Bool.not_true,Bool.and_false,cond_false]
 exact h
theorem zBQ (l:List α) (h:∀ x,zAP (g x)=g x:=by intro;rfl):zAC (l.map g)=l.map g:=by
 induction l with
 | nil=>rfl
 | cons x l ih=>simp only [List.map_cons,zAC,h,ih]
theorem zKt {ys:List PV} (hy:xs=ys) (h2:zAC ys=ys):zAC xs=ys:=by rw [hy];exact h2
theorem zFy (l:List α) (h:∀ x,(g x).free=true:=by intro;rfl):zFP (l.map g)=true:=by
 induction l with
 | nil=>rfl
 | cons x l ih=>simp only [List.map_cons,zFP,h,ih,Bool.and_self]
theorem zQw (l:List α) (h:∀ x,(g x).ways=[]:=by intro;rfl):zBp (l.map g)=[]:=by
 induction l with
 | nil=>rfl
 | cons x l ih=>simp only [List.map_cons,zBp,h,ih,List.append_nil]
theorem all_map {p:PV→Bool} (l:List α) (h:∀ x,p (g x)=true:=by intro;rfl):(l.map g).all p=true:=by
 rw [List.all_map];exact List.all_eq_true.2 fun x _=>h x
theorem zEM (l:List α):List.take l.length (l.map g)=l.map g:=List.take_of_length_le (by simp)
theorem zA3 {xs ys:List PV} (h:xs=ys):PV.own z xs=PV.own z ys:=by rw [h]
theorem zQo {xs ys:List PV} (h:xs=ys):PV.sl xs=PV.sl ys:=by rw [h]
theorem zEr {a x m:Nat} {sh:Option Nat} (h:Nat.beq m 1=true):PV.addr r pre i (a+x*m) sh=PV.addr r pre i (a+x) sh:=by rw [Nat.eq_of_beq_eq_true h,Nat.mul_one]
end
end Go.Eng
namespace Go.Eng
open Go
section
def zUR:Code→Bool
 | .label _=>true
 | _=>false
theorem ap {p:Prop} {ps:List Prop} (h:p) (hs:zS1 ps):zS1 (p::ps):=⟨h,hs⟩
theorem an:zS1 []:=trivial
theorem zDl {a b:Int} (h:a=b) (hr : -9223372036854775808≤b∧b<9223372036854775808):PV.int .i64 (IntKind.i64.wrap a)=PV.int .i64 b:=by rw [h,zVP hr]
variable [Yo] {P:Program} {H:zBc} {f:FuncId} {nt:Nat} {e e':Env} {lg:Option Log} {K:X→Env→Option Log→Prop} {i:Nat} {c:Code} {s:RS} {R:Env→Option Log→Prop}
theorem S_a (as:Ans) {obs:List Prop} (ho:zS1 obs) (h:WS P H f c (i+1) (rsX (zVt P H f c i as s)) R) (hq:(zVt P H f c i as s).map (·.2)=some obs:=by kernel_rfl) (hi:Nat.blt i (zFi c).size=true:=by kernel_rfl):WS P H f c i s R:=S_x as obs ho h hq hi
theorem E_a {fn:Func} {nh:Nat} {v:PV} {h:List PV} {x:X} (as:Ans) {obs:List Prop} (ho:zS1 obs) (v':PV) (h':List PV) (hv:v'=v) (hh:h'=h) (hf:zNH P H f fn as e nh=some ((v',h'),obs):=by kernel_rfl) (hl:lg=none:=by kernel_rfl) (hx:x = .norm∨x = .ret:=by first | exact .inr rfl | exact .inl rfl):zUE P H f fn nh v h x e lg:=E_x as obs v' h' ho hv hh hf hl hx
theorem zVh {c:Code} (h:K .norm e lg) (hc:zUR c=true:=by kernel_rfl):W P H f nt c e lg K:=by
 cases c<;>first | (cases hc;done) | exact zR5 1 rfl h
end
end Go.Eng
namespace Go.Eng
open Go
section
variable [Yo] {P:Program} {H:zBc} {f:FuncId}
end
end Go.Eng
namespace Go.Eng
open Go
def zOj (pre:zAO) (put:PV→PV):Prop:=∀ f z xs,zAs f (put (.own z xs)) pre=(f (.own z xs)).map put
theorem zOj.nil:zOj [] (fun q=>q):=fun f z xs=>by simp [zAs]
theorem zOj.box:zOj [(0,0)] (fun q => .box q):=fun f z xs=>by
 simp only [zAs,zAT,List.getElem?_cons_zero,PV.cells]
 cases f (.own z xs)<;>rfl
theorem zGy [Yo] {r z:Nat} {pre:zAO} {put:PV→PV} (L:zOj pre put):∀ {ys:List PV} {j:Nat} {xs:List PV} {e:Env},e.get r=put (.own z xs)→j+ys.length≤xs.length→(∀ (a:Nat) (x y:PV),xs[j+a]? = some x→ys[a]? = some y→y.heavy=false∧y.cells.all (fun q=>q.ways.isEmpty)=true∧y.cells.length≤x.cells.length∧zAy x 0 y.cells=y) →
  ∃ e',e'.get r=put (.own z (xs.take j++ys++xs.drop (j+ys.length)))∧(∀ t,t≠r→e'.get t=e.get t)∧∀ (o:zAA) (k:PM),(zGk r pre j ys k).run o e=k.run o e'
 | [],j,xs,e,he,hj,hy=>⟨e,by simp [he],fun _ _=>rfl,fun _ _=>rfl⟩
 | y :: ys,j,xs,e,he,hj,hy=>by
  simp only [List.length_cons] at hj
  have hjx:j<xs.length:=by omega
  obtain ⟨h1,h2,h3,h4⟩:=hy 0 xs[j] y (by simp [hjx]) rfl
  have hws:zBp y.cells=[]:=zL2 h2
  have hb:Nat.ble (0+y.cells.length) xs[j].cells.length=true:=by rw [Nat.ble_eq];omega
  have yT:(e.set r (put (.own z (xs.set j y)))).get r=put (.own z (xs.set j y)):=by rw [Env.get_set,if_pos rfl]
  obtain ⟨e',g1,g2,g3⟩:=zGy L (ys:=ys) (j:=j+1) yT (by simp;omega) fun a x' y' kT uF=>by
   rw [List.getElem?_set] at kT
   rw [if_neg (by omega)] at kT
   exact hy (a+1) x' y' (by rw [← kT];congr 1;omega) (by simpa using uF)
  refine ⟨e',?_,fun t ht=>?_,?_⟩
  ·rw [g1,zTe hj]
   simp only [List.length_cons]
  ·rw [g2 t ht,Env.get_set,if_neg ht]
  ·intro o k
   simp only [zGk]
   rw [zE6 (by simpa using zNe h1)]
   simp only [PM.run,he,zBF,hws,List.isEmpty_nil,Bool.not_true,Bool.and_false,cond_false,L _ z xs,zA6,List.getElem?_eq_getElem hjx,hb,cond_true,zAz,h4,Option.map_some]
   exact g3 o k
section
variable [Yo] {P:Program} {H:zBc} {f:FuncId} {i:Nat} {c:Code} {R:Env→Option Log→Prop}
theorem zNv {pre:zAO} (put':PV→PV) (r s:Nat) (xs ys zs:List PV) {st:RS} (hy:∀ (a:Nat) (x y:PV),xs[a]? = some x→ys[a]? = some y→zWH s x y) (hZ:ys.length≤xs.length) (hz:ys++xs.drop ys.length=zs) (L:zOj pre put')
  (h:WS P H f c (i+1) ⟨none,zLx ((put (zDQ c i).dst (.int .i64 ys.length)).run zHl (st.e.set r (put' (.own s zs)))),none⟩ R) (he:st.e.get r=put' (.own s xs):=by kernel_rfl) (ho:zTW P st.e (zDQ c i)=some (s,.bor r pre s 0 xs.length,.sl ys):=by kernel_rfl) (hs:Nat.blt 0 s=true:=by kernel_rfl)
  (hq:((put (zDQ c i).dst (.int .i64 ys.length)).run zHl (st.e.set r (put' (.own s zs)))).isSome=true:=by kernel_rfl) (je:st.dr=none:=by kernel_rfl) (vL:st.lg=none:=by kernel_rfl) (hg:zK5 c i st.e=true:=by kernel_rfl) (hi:Nat.blt i (zFi c).size=true:=by kernel_rfl):WS P H f c i st R:=by
 subst hz
 obtain ⟨dr,e,lg⟩:=st
 simp only at je h he ho hq hg vL
 subst je;subst vL
 have ke:∀ y∈ys,y.plain=true∧y.cells.length=s:=fun y uF=>by
  obtain ⟨a,ha⟩:=List.getElem?_of_mem uF
  have yI:=(List.getElem?_eq_some_iff.1 ha).1
  have:=hy a _ y (List.getElem?_eq_getElem (by omega)) ha
  exact ⟨this.1,this.2.1⟩
 obtain ⟨e',g1,g2,g3⟩:=zGy L he (j:=0) (ys:=ys) (by omega) fun a x y hx uF=>by
  rw [Nat.zero_add] at hx
  obtain ⟨_,_,h3,h4,h5,h6⟩:=hy a x y hx uF
  exact ⟨h3,h4,h5,h6⟩
 simp only [List.take_zero,List.nil_append,Nat.zero_add] at g1
 have yT:∀ t,e'.get t=(e.set r (put' (.own s (ys++xs.drop ys.length)))).get t:=fun t=>by
  rw [Env.get_set]
  split
  ·rename_i h;subst h;exact g1
  ·rename_i h;exact g2 t h
 have jt:=zHt hq
 obtain ⟨e1,h1,h2⟩:=zFw (funext yT) jt
 refine zVO (s:=⟨none,e,none⟩) (e':=e1) ⟨0,fun n _=>?_⟩ (zTM h fun t=>congrFun h2 t) rfl rfl hg hi
 have yA:=zFK (o:=zCR P H n) h1
 show (opM P H _ _ _ (zDQ c i)).run _ e=_
 generalize zDQ c i=o at ho yA
 cases hop:o.op<;>simp only [zTW,hop] at ho<;>try (cases ho;done)
 rename_i cc
 split at ho
 ·rename_i x y t ts hc ha hT
  split at ho
  ·rename_i s' yx
   simp only [Option.some.injEq,Prod.mk.injEq] at ho
   obtain ⟨rfl,hx,hyv⟩:=ho
   have hb:Nat.ble ys.length xs.length=true:=by rw [Nat.ble_eq];exact hZ
   have jl:(ys.all fun y=>y.plain&&Nat.beq y.cells.length s')=true:=List.all_eq_true.2 fun y uF=>by
    obtain ⟨q1,q2⟩:=ke y uF
    rw [q1,q2,Nat.beq_refl];rfl
   simp only [opM,hop,zIM,hc,ha,hT,zBj,yx,zH6]
   rw [zNQ hx (by simp),zNQ hyv (by simp)]
   simp only [zG3,Nat.beq_refl,hs,hb,jl,Bool.and_self,cond_true]
   rw [g3];exact yA
  ·cases ho
 ·cases ho
theorem zLk {α β:Type} {g:α→PV} {g':β→PV} {s:Nat} {l:List α} {m:List β} (h:∀ (x:α) (y:β),zWH s (g x) (g' y)):∀ (a:Nat) (x y:PV),(l.map g)[a]? = some x→(m.map g')[a]? = some y→zWH s x y:=by
 intro a x y hx hy
 rw [List.getElem?_map] at hx hy
 obtain ⟨x',_,rfl⟩:=Option.map_eq_some_iff.1 hx
 obtain ⟨y',_,rfl⟩:=Option.map_eq_some_iff.1 hy
 exact h x' y'
theorem zGL {k:IntKind} {a b:Int}:zWH 1 (.int k a) (.int k b):=⟨rfl,rfl,rfl,rfl,Nat.le_refl _,rfl⟩
theorem zNf {α β:Type} {g:α→PV} {g':β→PV} {l:List α} {m:List β} (h:l.length=m.length):l.map g++(m.map g').drop (l.map g).length=l.map g:=by simp [h]
end
end Go.Eng
namespace Go.Eng
open Go
abbrev zPj (sh:Option Nat) (a:List Int):PV:=match sh with | none=>I (a.getD 0 0) | some _ => .agg (a.map I)
theorem zOG {l:List Int} {i k:Nat} {sh:Option Nat} (j0:sh=some k∨(sh=none∧k=1)) (h:i+k≤l.length):sub (.agg (l.map I)) i sh=some (zPj sh ((l.drop i).take k)):=by
 rcases j0 with rfl | ⟨rfl,rfl⟩
 ·simp only [sub,List.length_map,h,if_true,zPj,List.map_take,List.map_drop]
 ·have h2:i<l.length:=by omega
  simp only [sub,zPj]
  rw [List.drop_eq_getElem_cons h2]
  simp [h2]
theorem zLH {eq:PV→PV→Option Bool} {sh:Option Nat} {k:Nat} {l m:List Int} (u4:∀ a b:List Int,a.length=k→b.length=k→eq (zPj sh a) (zPj sh b)=some (decide (a=b))) (j0:sh=some k∨(sh=none∧k=1)):∀ n i,(i+n)*k=l.length→(i+n)*k=m.length→zTD eq sh k (.agg (l.map I)) (.agg (m.map I)) i n=some (decide (l.drop (i*k)=m.drop (i*k)))
 | 0,i,h1,h2=>by
  simp only [zTD]
  rw [List.drop_eq_nil_of_le (by simpa using Nat.le_of_eq h1.symm),List.drop_eq_nil_of_le (by simpa using Nat.le_of_eq h2.symm)];simp
 | n + 1,i,h1,h2=>by
  have e:(i+(n+1))*k=i*k+k+n*k:=by rw [Nat.add_mul,Nat.succ_mul];omega
  have e1:(i+1)*k=i*k+k:=by rw [Nat.succ_mul]
  have hl:i*k+k≤l.length:=by omega
  have hm:i*k+k≤m.length:=by omega
  have ih:=zLH u4 j0 n (i+1) (by rw [← h1];congr 1;omega) (by rw [← h2];congr 1;omega)
  simp only [zTD,zOG j0 hl,zOG j0 hm]
  rw [u4 _ _ (by rw [List.length_take,List.length_drop];omega) (by rw [List.length_take,List.length_drop];omega)]
  have d1:l.drop (i*k)=(l.drop (i*k)).take k++l.drop ((i+1)*k):=by rw [e1,← List.drop_drop,List.take_append_drop]
  have d2:m.drop (i*k)=(m.drop (i*k)).take k++m.drop ((i+1)*k):=by rw [e1,← List.drop_drop,List.take_append_drop]
  by_cases hc:(l.drop (i*k)).take k=(m.drop (i*k)).take k
  ·simp only [hc,decide_true,ih]
   congr 1
   rw [d1,d2,hc]
   simp
  ·simp only [hc,decide_false]
   rw [Eq.comm,decide_eq_false]
   intro hx
   exact hc (by rw [hx])
def zOx:Option TypeDesc→Bool
 | some (.array ..)=>true
 | _=>false
def zT7:Option TypeDesc→Bool
 | some (.int .i64)=>true
 | _=>false
theorem zSR {x:Option TypeDesc} (h:zT7 x=true):x=some (.int .i64):=by
 unfold zT7 at h;split at h
 ·rfl
 ·cases h
theorem zLL {x:Option TypeDesc} (h:zOx x=true):∃ c e,x=some (.array c e):=by
 unfold zOx at h;split at h
 ·exact ⟨_,_,rfl⟩
 ·cases h
def zTo (P:Program):Nat→TypeId→Option Nat
 | 0,_=>none
 | n + 1,t=>match P.underlying t with
  | some (.int k)=>if k = .i64 then some 1 else none
  | some (.array m e)=>match szT P e,shT P e,zTo P n e with
   | some sz,some sh,some k=>if sz=k∧(sh=some k∧zOx (P.underlying e)=true∨sh=none∧k=1∧zT7 (P.underlying e)=true) then some (m*k) else none
   | _,_,_=>none
  | _=>none
theorem zT6 {P:Program} {n:Nat} {t:TypeId} {a b:Int} (h:P.underlying t=some (.int .i64)):eqT P (n+1) t (I a) (I b)=some (decide (a=b)):=by
 simp only [eqT,h,if_true];rfl
theorem zNU {P:Program}:∀ (n:Nat) (t:TypeId) (k:Nat) (l m:List Int),zTo P n t=some k→(∃ c e,P.underlying t=some (.array c e))→l.length=k→m.length=k→eqT P n t (.agg (l.map I)) (.agg (m.map I))=some (decide (l=m))
 | 0,_,_,_,_,h,_,_,_=>by cases h
 | n + 1, t, k,l,m,h,⟨c,e,hu⟩,hl,hm=>by
  simp only [zTo,hu] at h
  split at h
  ·rename_i sz sh k1 h1 h2 h3
   split at h
   ·rename_i hx
    obtain ⟨rfl,hx⟩:=hx
    cases h
    simp only [eqT,hu,h1,h2]
    have:=zLH (eq:=eqT P n e) (sh:=sh) (k:=sz) (l:=l) (m:=m) (fun a b ha hb=>by
     rcases hx with ⟨rfl,hx⟩ | ⟨rfl,rfl,hx⟩
     ·exact zNU n e sz a b h3 (zLL hx) ha hb
     ·cases n with
      | zero=>cases h3
      | succ n =>
       simp only [zPj,zT6 (zSR hx)]
       match a,b,ha,hb with
       | [x],[y],_,_=>simp) (by
     rcases hx with ⟨rfl,_⟩ | ⟨rfl,rfl,_⟩
     ·exact .inl rfl
     ·exact .inr ⟨rfl,rfl⟩) c 0 (by rw [hl];simp) (by rw [hm];simp)
    simpa using this
   ·cases h
  ·cases h
def zL4 (P:Program) (t:TypeId) (k:Nat):Bool := !P.eqGuardType P.depth t&&decide (zTo P 20 t=some k)&&zOx (P.underlying t)
theorem zPW {P:Program} {t:TypeId} {k:Nat} {l m:List Int} (h:zL4 P t k=true) (hl:l.length=k) (hm:m.length=k):eqT P 20 t (.agg (l.map I)) (.agg (m.map I))=some (decide (l=m)):=by
 unfold zL4 at h
 simp only [Bool.and_eq_true,decide_eq_true_eq,Bool.not_eq_true'] at h
 obtain ⟨⟨h1,h2⟩,h3⟩:=h
 exact zNU 20 t k l m h2 (zLL h3) hl hm
theorem zVN {P:Program} {t:TypeId} {k:Nat} {l m:List Int} (h:zL4 P t k=true) (hl:l.length=k) (hm:m.length=k):eqV P t (.agg (l.map I)) (.agg (m.map I))=some (decide (l=m)):=by
 have hg:P.eqGuardType P.depth t=false:=by
  unfold zL4 at h
  simp only [Bool.and_eq_true,Bool.not_eq_true'] at h
  exact h.1.1
 simp only [eqV,hg,cond_false,zPW h hl hm]
theorem zRn {P:Program} {t:TypeId} {l m:List Int} (k:Nat) (hl:l.length=k) (hm:m.length=k) (h:zL4 P t k=true:=by kernel_rfl):zJM P .neq t (.agg (l.map I)) (.agg (m.map I))=some (.bool (!decide (l=m))):=by
 simp only [zJM,zVN h hl hm,Option.map_some]
theorem zQC {a b c d:Int}:decide ([a,b]=[c,d])=(decide (a=c)&&decide (b=d)):=by simp
theorem zUu {P:Program} {t:TypeId} {a b c d:Int} (h:zL4 P t 2=true:=by kernel_rfl):zJM P .neq t (.agg [I a,I b]) (.agg [I c,I d])=some (.bool (!(decide (a=c)&&decide (b=d)))):=by
 rw [← zQC];exact zRn (l:=[a,b]) (m:=[c,d]) 2 rfl rfl h
def zIz (P:Program) (t:TypeId):Bool := !P.eqGuardType P.depth t && !P.stoodInHeld t&&match P.underlying t with
  | some (.struct fs)=>match fs.toList with
    | [f1, f2] => !decide (f1.name = "_") && !decide (f2.name = "_") && decide (shT P f1.type = some none) && decide (shT P f2.type = some none) && decide (f1.offset = 0) && decide (f2.offset = 1) &&
      (match P.underlying f1.type with | some (.int k)=>decide (k = .i64) | _=>false)&&(match P.underlying f2.type with | some .bool=>true | _=>false)
    | _=>false
  | _=>false
theorem zPN {P:Program} {t:TypeId} {a c:Int} {b d:Bool} (h:zIz P t=true):eqV P t (.agg [I a,.bool b]) (.agg [I c,.bool d])=some (decide (a=c)&&decide (b=d)):=by
 unfold zIz at h
 rw [Bool.and_eq_true,Bool.and_eq_true] at h
 obtain ⟨⟨h1,h2⟩,h3⟩:=h
 split at h3
 ·rename_i fs hu
  split at h3
  ·rename_i f1 f2 hl
   simp only [Bool.and_eq_true,decide_eq_true_eq,Bool.not_eq_true',decide_eq_false_iff_not] at h1 h2 h3
   obtain ⟨⟨⟨⟨⟨⟨⟨n1,n2⟩,s1⟩,s2⟩,o1⟩,o2⟩,u1⟩,u2⟩:=h3
   split at u1
   ·rename_i k1' jF
    split at u2
    ·rename_i v0
     simp only [decide_eq_true_eq] at u1
     subst u1
     simp only [eqV,h1,cond_false,eqT,hu,h2,hl,zTL,n1,n2,s1,s2,o1,o2,sub,jF,v0,if_true,if_false,List.getElem?_cons_zero,List.getElem?_cons_succ]
     by_cases e1:a=c
     ·subst e1
      cases b<;>cases d<;>simp
     ·simp [e1]
    ·cases u2
   ·cases u1
  ·cases h3
 ·cases h3
theorem zSM {P:Program} {t:TypeId} {a c:Int} {b d:Bool} (h:zIz P t=true:=by kernel_rfl):zJM P .neq t (.agg [I a,.bool b]) (.agg [I c,.bool d])=some (.bool (!(decide (a=c)&&decide (b=d)))):=by
 simp only [zJM,zPN h,Option.map_some]
theorem zLv {P:Program} {kt:TypeId} {α:Type} {g:α→PV×PV} {kx ky:α→Int} (hk:∀ x,(g x).1 = .agg [I (kx x),I (ky x)]) (u4:∀ a b c d:Int,eqT P 20 kt (.agg [I a,I b]) (.agg [I c,I d])=some (decide (a=c)&&decide (b=d))) (a b:Int):∀ (M:List α) (i:Nat),zC4 P kt (.agg [I a,I b]) (M.map g) i=some ((M.findIdx? fun x=>decide (a=kx x)&&decide (b=ky x)).map (· + i))
 | [],i=>rfl
 | x :: M,i=>by
  have h1:=u4 a b (kx x) (ky x)
  rw [← hk x] at h1
  have h2:zFR (PV.agg [I a,I b]).cells (g x).1.cells=some (a==kx x&&(b==ky x&&true)):=by rw [hk x];rfl
  rw [List.map_cons,List.findIdx?_cons]
  have e:g x=((g x).1,(g x).2):=rfl
  rw [e]
  simp only [zC4,h1,h2]
  cases hc:(decide (a=kx x)&&decide (b=ky x)) with
  | true =>
   simp only [Bool.and_eq_true,decide_eq_true_eq] at hc
   simp [hc.1,hc.2]
  | false =>
   simp only
   rw [zLv hk u4 a b M (i+1)]
   simp only [Bool.false_eq_true,if_false,Option.map_map]
   congr 2
   funext y
   simp only [Function.comp];omega
theorem zRj {P:Program} {t:TypeId} (h:zL4 P t 2=true:=by kernel_rfl) (a b c d:Int):eqT P 20 t (.agg [I a,I b]) (.agg [I c,I d])=some (decide (a=c)&&decide (b=d)):=by
 rw [← zQC];exact zPW (l:=[a,b]) (m:=[c,d]) h rfl rfl
def zWL (F:List Int) (n:Nat):Nat→List PV
 | 0=>[]
 | m+1=>I (F.getD (n-(m+1)) 0)::zWL F n m
abbrev zAq (F:List Int) (m:Nat):List PV:=zWL F m m
theorem zQN {F:List Int} {n:Nat}:∀ (m:Nat),m≤n→zWL F n m=(List.range' (n-m) m).map fun k=>I (F.getD k 0)
 | 0,_=>rfl
 | m+1,h=>by
  rw [zWL,zQN m (by omega),List.range'_succ,List.map_cons,show n-(m+1)+1=n-m by omega]
theorem zM1 {F:List Int} {m:Nat}:zAq F m=(List.range m).map fun k=>I (F.getD k 0):=by
 rw [List.range_eq_range',zAq,zQN m (Nat.le_refl m),Nat.sub_self]
theorem zFY {F:List Int} {m:Nat} (h:F.length=m):zAq F m=F.map I:=by
 rw [zM1]
 apply List.ext_getElem?
 intro k
 by_cases hk:k<m
 ·simp [hk,show k<F.length by omega]
 ·rw [List.getElem?_eq_none (by simp;omega),List.getElem?_eq_none (by simp;omega)]
section
variable {A B:List PV} {F:List Int} {m j:Nat} {r i c':Nat} {pre:zAO}
theorem zIL:(zAq F m).length=m:=by rw [zM1];simp
theorem zPU (hj:j<m):(zAq F m)[j]? = some (I (F.getD j 0)):=by rw [zM1];simp [hj]
theorem zUO (hj:j<m):(A++zAq F m++B)[A.length+j]? = some (I (F.getD j 0)):=by
 rw [List.append_assoc,List.getElem?_append_right (by omega),Nat.add_sub_cancel_left,List.getElem?_append_left (by rw [zIL];exact hj)]
 exact zPU hj
theorem zWD (hj:j<m):zCc (.ref (.agg (zAq F m))) j none=some (.ref (I (F.getD j 0))):=by
 have h1:(I (F.getD j 0)).oneCell=true:=rfl
 simp only [zCc,zOw,sub,zPU hj,Option.isSome,Bool.false_or,h1,cond_true]
theorem zGo {n:Nat} (hj:j<m) (hn:Nat.beq n 1=true:=by kernel_rfl):zCc (.ref (.agg (zAq F m))) (j*n) none=some (.ref (I (F.getD j 0))):=by
 rw [Nat.eq_of_beq_eq_true hn,Nat.mul_one];exact zWD hj
theorem zHZ (hc:c'=A.length+j) (hj:j<m):zMd r pre i c' 1 (.agg (A++zAq F m++B))=some (true,[I (F.getD j 0)]):=by
 subst hc
 have hZ:A.length+j<(A++zAq F m++B).length:=by rw [List.length_append,List.length_append,zIL];omega
 have hb:Nat.ble (A.length+j+1) (PV.agg (A++zAq F m++B)).cells.length=true:=by rw [Nat.ble_eq];exact hZ
 have h2:((A++zAq F m++B).drop (A.length+j)).take 1=[I (F.getD j 0)]:=by
  rw [List.drop_eq_getElem_cons hZ]
  have:=zUO (A:=A) (B:=B) (F:=F) hj
  rw [List.getElem?_eq_getElem hZ] at this
  simp only [Option.some.injEq] at this
  rw [this];simp
 simp only [zMd,hb,cond_true,PV.isAgg]
 show some (true,zBv r pre i (A.length+j) (((A++zAq F m++B).drop (A.length+j)).take 1))=_
 rw [h2];rfl
theorem zUn {u:Int} (hj:j<m) (hF:F.length=m):(zAq F m).set j (I u)=zAq (F.set j u) m:=by
 rw [zFY hF,zFY (F:=F.set j u) (by simpa using hF),List.map_set]
theorem zOv {u:Int} (hc:c'=A.length+j) (hj:j<m) (hF:F.length=m):zAy (.agg (A++zAq F m++B)) c' [I u] = .agg (A++zAq (F.set j u) m++B):=by
 subst hc
 have hZ:A.length+j<(A++zAq F m++B).length:=by rw [List.length_append,List.length_append,zIL];omega
 have e:(A++zAq F m++B).take (A.length+j)++[I u]++(A++zAq F m++B).drop (A.length+j+1)=(A++zAq F m++B).set (A.length+j) (I u):=by
  rw [List.set_eq_take_append_cons_drop,if_pos hZ];simp
 simp only [zAy,List.length_singleton,e]
 rw [List.append_assoc,List.set_append_right _ _ (by omega),Nat.add_sub_cancel_left,List.set_append_left _ _ (by rw [zIL];exact hj),zUn hj hF,List.append_assoc]
theorem zOk (hc:c'=A.length+j) (hj:j<m) {q:PV}:Nat.ble (c' + [q].length) (PV.agg (A++zAq F m++B)).cells.length=true:=by
 subst hc;rw [Nat.ble_eq];show _≤(A++zAq F m++B).length;rw [List.length_append,List.length_append,zIL];simp;omega
theorem zUG (hj:j<m):sub (.agg (zAq F m)) j none=some (I (F.getD j 0)):=by
 simp only [sub,zPU hj]
theorem zE4 (hc:c'=j) (hj:j<m):zMd r pre i c' 1 (.agg (zAq F m))=some (true,[I (F.getD j 0)]):=by
 have:=zHZ (A:=[]) (B:=[]) (F:=F) (r:=r) (pre:=pre) (i:=i) (c':=c') (by simpa using hc) hj
 simpa using this
theorem zM7 {u:Int} (hc:c'=j) (hj:j<m) (hF:F.length=m):zAy (.agg (zAq F m)) c' [I u] = .agg (zAq (F.set j u) m):=by
 have:=zOv (A:=[]) (B:=[]) (F:=F) (u:=u) (c':=c') (by simpa using hc) hj hF
 simpa using this
theorem zNk (hc:c'=j) (hj:j<m) {q:PV}:Nat.ble (c' + [q].length) (PV.agg (zAq F m)).cells.length=true:=by
 have:=zOk (A:=[]) (B:=[]) (F:=F) (q:=q) (c':=c') (by simpa using hc) hj
 simpa using this
theorem zTt {n:Nat} (hj:j<m) (hn:Nat.beq n 1=true:=by kernel_rfl):sub (.agg (zAq F m)) (j*n) none=some (I (F.getD j 0)):=by
 rw [Nat.eq_of_beq_eq_true hn,Nat.mul_one];exact zUG hj
end
section
variable {l:List Int} {r i c c' k:Nat} {pre:zAO}
theorem zID:∀ (l:List Int) (c:Nat),zBv r pre i c (l.map I)=l.map I
 | [],_=>rfl
 | x::l,c=>by simp only [List.map_cons,zBv,zID l (c+1)];rfl
theorem zWd (hc:c'=c) (h:c+k≤l.length):zMd r pre i c' k (.agg (l.map I))=some (true,((l.drop c).take k).map I):=by
 subst hc
 have hb:Nat.ble (c'+k) (PV.agg (l.map I)).cells.length=true:=by rw [Nat.ble_eq];simpa [PV.cells] using h
 simp only [zMd,hb,cond_true,PV.isAgg]
 show some (true,zBv r pre i c' (((l.map I).drop c').take k))=_
 rw [← List.map_drop,← List.map_take,zID]
theorem zUw {K:Nat} (hc:c'=c) (h:c+K≤l.length) (hk:Nat.beq k K=true):zMd r pre i c' k (.agg (l.map I))=some (true,((l.drop c).take K).map I):=by rw [Nat.eq_of_beq_eq_true hk];exact zWd hc h
theorem zUQ {K m:Nat} (hl:l.length=m) (hc:c'=c) (h:c+K≤m) (hk:Nat.beq k K=true):zMd r pre i c' k (.agg (zAq l m))=some (true,zAq ((l.drop c).take K) K):=by
 rw [zFY hl,zUw (K:=K) hc (by omega) hk,zFY (F:=(l.drop c).take K) (by rw [List.length_take,List.length_drop];omega)]
theorem zP3 {P:Program} {t:TypeId} {l m:List Int} (k:Nat) (hl:l.length=k) (hm:m.length=k) (h:zL4 P t k=true:=by kernel_rfl):zJM P .neq t (.agg (zAq l k)) (.agg (zAq m k))=some (.bool (!decide (l=m))):=by
 rw [zFY hl,zFY hm];exact zRn k hl hm h
end
end Go.Eng
namespace Go.Eng
open Go
theorem zBL {a b m k M:Nat} (h:Nat.beq m M=true) (h2:Nat.beq k 1=true):a*m+b*k=a*M+b:=by rw [Nat.eq_of_beq_eq_true h,Nat.eq_of_beq_eq_true h2,Nat.mul_one]
theorem zBN {a m M:Nat} (h:Nat.beq m M=true):a*m=a*M:=by rw [Nat.eq_of_beq_eq_true h]
theorem zBT {a b m k M:Nat} (h:Nat.beq m M=true) (h2:Nat.beq k 1=true):0+a*m+b*k=a*M+b:=by rw [Nat.zero_add];exact zBL h h2
theorem zBM {a m M:Nat} (h:Nat.beq m M=true):0+a*m=a*M:=by rw [Nat.zero_add];exact zBN h
theorem zDx {α:Type} {g:α→PV} {l:List α} {u:α} {y:PV} (h:g u=y):l.map g++[y]=(l++[u]).map g:=by rw [← h,List.map_append];rfl
def zTP (P:Program) (e:Env) (o:Oper):Option (Nat×PV×PV) :=
 match o.op,o.dst with
 | .call c,none=>match c.callee,c.args.toList,c.argTypes.toList with
  | .builtin .clear,[x],t::_=>match (zBH P t).bind (zCz P),(zBH P t).bind (szT P) with
   | some q,some s=>some (s,q,zWJ e x)
   | _,_=>none
  | _,_,_=>none
 | _,_=>none
section
variable [Yo] {P:Program} {H:zBc} {f:FuncId} {i:Nat} {c:Code} {R:Env→Option Log→Prop}
theorem zQz {α:Type} {g:α→PV} {pre:zAO} (put':PV→PV) (r s lo n:Nat) (l:List α) (u:α) {st:RS} (kf:lo+n≤l.length) (hu:(g u).plain=true∧(g u).cells.length=s) (hy:∀ x,zWH s (g x) (g u)) (L:zOj pre put')
  (h:WS P H f c (i+1) ⟨none,st.e.set r (put' (.own s ((l.take lo++List.replicate n u++l.drop (lo+n)).map g))),none⟩ R) (he:st.e.get r=put' (.own s (l.map g)):=by kernel_rfl) (ho:zTP P st.e (zDQ c i)=some (s,g u,.bor r pre s lo n):=by kernel_rfl) (hs:Nat.blt 0 s=true:=by kernel_rfl)
  (je:st.dr=none:=by kernel_rfl) (vL:st.lg=none:=by kernel_rfl) (hg:zK5 c i st.e=true:=by kernel_rfl) (hi:Nat.blt i (zFi c).size=true:=by kernel_rfl):WS P H f c i st R:=by
 obtain ⟨dr,e,lg⟩:=st
 simp only at je h he ho hg vL
 subst je;subst vL
 obtain ⟨e',g1,g2,g3⟩:=zGy L he (j:=lo) (ys:=List.replicate n (g u)) (by simpa using kf) fun a x y hx uF=>by
  rw [List.getElem?_map] at hx
  obtain ⟨x',_,rfl⟩:=Option.map_eq_some_iff.1 hx
  obtain ⟨hn,hy2⟩:=List.getElem?_eq_some_iff.1 uF
  rw [List.getElem_replicate] at hy2
  subst hy2
  obtain ⟨_,_,h3,h4,h5,h6⟩:=hy x'
  exact ⟨h3,h4,h5,h6⟩
 have yT:∀ t,e'.get t=(e.set r (put' (.own s ((l.take lo++List.replicate n u++l.drop (lo+n)).map g)))).get t:=fun t=>by
  rw [Env.get_set]
  split
  ·rename_i h;subst h;rw [g1];simp
  ·rename_i h;exact g2 t h
 refine zVO (s:=⟨none,e,none⟩) (e':=e') ⟨0,fun m _=>?_⟩ (zTM h fun t=>yT t) rfl rfl hg hi
 show (opM P H _ _ _ (zDQ c i)).run _ e=_
 generalize zDQ c i=o at ho
 cases hop:o.op<;>simp only [zTP,hop] at ho<;>try (cases ho;done)
 rename_i cc
 cases jx:o.dst<;>rw [jx] at ho<;>simp only at ho<;>try (cases ho;done)
 split at ho
 ·rename_i x t ts hc ha hT
  split at ho
  ·rename_i q s' hq yx
   simp only [Option.some.injEq,Prod.mk.injEq] at ho
   obtain ⟨rfl,rfl,hx⟩:=ho
   simp only [opM,hop,zIM,hc,ha,hT,zBj,jx]
   rw [zNQ hx (by simp)]
   simp only [zPZ,hs,Nat.beq_refl,hu.1,hu.2,Bool.and_self,cond_true,hq,yx]
   rw [g3];rfl
  ·cases ho
 ·cases ho
end
end Go.Eng
namespace Go.Eng
open Go
section
variable [Yo] {P:Program} {H:zBc} {f:FuncId} {nt:Nat} {c:Code} {e:Env} {lg:Option Log} {K:X→Env→Option Log→Prop}
end
end Go.Eng
namespace Go.Eng
open Go
theorem zOD [Yo] {P:Program} {H:zBc} {f:FuncId} {nt:Nat} {e:Env} {lg:Option Log} {K:X→Env→Option Log→Prop} {σ:Type} {c:Code} {t g:Nat} {first caps:List PV} {xs:List (List PV)} (hY:zFS g first caps xs) (Inv:Nat→σ→Prop) (upd:σ→List (Nat×PV)) (s:σ) (hi:Inv 0 s)
  (h:∀ j x s,xs[j]? = some x→Inv j s→zK4 P H f nt (zWE c) (rgA c) (rgB c) x (zMR (upd s) e) fun y e3=>match y with
   | .norm=>∃ s',Inv (j+1) s'∧after nt [] (zVr c) (zMR (upd s) e) e3=zMR (upd s') e
   | y=>K y (after nt [] (zVr c) (zMR (upd s) e) e3) none) (hK:∀ s,Inv xs.length s→K .norm (zMR (upd s) e) none) (hs:e=zMR (upd s) e:=by kernel_rfl) (yP:zDI e t=some (g,first,caps,[]):=by kernel_rfl) (hc:rgT c=some t:=by kernel_rfl) (hl:lg=none:=by kernel_rfl):W P H f nt c e lg K :=
 zUB (t:=t) hY Inv (fun s=>zMR (upd s) e) s hi h hK hs yP hc hl
end Go.Eng
namespace Go.Eng
open Go
theorem zOj.field (A B:List PV):zOj [(0,A.length)] (fun q => .box (.agg (A++q::B))):=fun f z xs=>by
 have h1:(A++PV.own z xs::B)[A.length]? = some (.own z xs):=by simp
 simp only [zAs,zAT,List.getElem?_cons_zero,PV.cells,h1]
 cases f (.own z xs) with
 | none=>rfl
 | some q=>simp [zAz,zAy]
end Go.Eng
namespace Go.Eng
open Go
theorem zFE (l:List Int):zAC (l.map I)=l.map I:=zBQ l
theorem zHM (k:IntKind) (l:List Int):zAC (l.map (PV.int k))=l.map (PV.int k):=zBQ l
theorem zE1 (l:List Bool):zAC (l.map PV.bool)=l.map PV.bool:=zBQ l
theorem zCj {α:Type} {g g':α→PV} (l:List α) (h:∀ x,zAP (g x)=g' x:=by intro x;simp only [zAP,zAC,zFE,zE1,zHM]):zAC (l.map g)=l.map g':=by
 induction l with
 | nil=>rfl
 | cons x l ih=>simp only [List.map_cons,zAC,h,ih]
theorem zCT {xs ys:List PV} (h:zAC xs=ys):zAC ((xs.drop 0).take xs.length)=ys:=by rw [List.drop_zero,List.take_length];exact h
theorem zUJ {r z:Nat} {xs ys:List PV} (h:zAC xs=ys):PV.mapW (inl r [] (.own z xs)) (.bor r [] z 0 xs.length) = .sl ys:=by
 have e:zAG r [] r []=true:=by simp [zAG]
 have e2:Nat.ble (0+xs.length) xs.length=true:=by simp
 simp only [PV.mapW,inl,e,cond_true]
 show zGe (zAw (.own z xs) []) (zCt 0 xs.length)=_
 simp only [zAw,zGe,zCt,e2,cond_true]
 rw [zCT h]
def zRf (P:Program) (t:TypeId) (k1 k2:IntKind):Bool := !P.eqGuardType P.depth t && !P.stoodInHeld t&&match P.underlying t with
  | some (.struct fs)=>match fs.toList with
    | [f1, f2] => !decide (f1.name = "_") && !decide (f2.name = "_") && decide (shT P f1.type = some none) && decide (shT P f2.type = some none) && decide (f1.offset = 0) && decide (f2.offset = 1) &&
      (match P.underlying f1.type with | some (.int k)=>decide (k=k1) | _=>false)&&(match P.underlying f2.type with | some (.int k)=>decide (k=k2) | _=>false)
    | _=>false
  | _=>false
theorem zUI {P:Program} {t:TypeId} {k1 k2:IntKind} {a b c d:Int} (h:zRf P t k1 k2=true):eqV P t (.agg [.int k1 a,.int k2 b]) (.agg [.int k1 c,.int k2 d])=some (decide (a=c)&&decide (b=d)):=by
 unfold zRf at h
 rw [Bool.and_eq_true,Bool.and_eq_true] at h
 obtain ⟨⟨h1,h2⟩,h3⟩:=h
 split at h3
 ·rename_i fs hu
  split at h3
  ·rename_i f1 f2 hl
   simp only [Bool.and_eq_true,decide_eq_true_eq,Bool.not_eq_true',decide_eq_false_iff_not] at h1 h2 h3
   obtain ⟨⟨⟨⟨⟨⟨⟨n1,n2⟩,s1⟩,s2⟩,o1⟩,o2⟩,u1⟩,u2⟩:=h3
   split at u1
   ·rename_i k1' jF
    split at u2
    ·rename_i k2' v0
     simp only [decide_eq_true_eq] at u1 u2
     subst u1;subst u2
     simp only [eqV,h1,cond_false,eqT,hu,h2,hl,zTL,n1,n2,s1,s2,o1,o2,sub,jF,v0,if_true,if_false,List.getElem?_cons_zero,List.getElem?_cons_succ]
     by_cases e1:a=c
     ·subst e1
      by_cases e2:b=d
      ·subst e2;simp
      ·simp [e2]
     ·simp [e1]
    ·cases u2
   ·cases u1
  ·cases h3
 ·cases h3
theorem zQa {P:Program} {t:TypeId} {k1 k2:IntKind} {a b c d:Int} (h:zRf P t k1 k2=true:=by kernel_rfl):zJM P .neq t (.agg [.int k1 a,.int k2 b]) (.agg [.int k1 c,.int k2 d])=some (.bool (!(decide (a=c)&&decide (b=d)))):=by
 simp only [zJM,zUI h,Option.map_some]
section
variable {α:Type} {g:α→PV} {l:List α} {i z:Nat} {b:PV}
end
def zId (P:Program) (t:TypeId):Bool:=match P.underlying t with | some (.slice _)=>true | _=>false
theorem zUL {P:Program} {t:TypeId} {p:PV} {z:Nat} (he:zES p=true) (hp:(match p with | .nils _=>false | .agg _=>false | _=>true)=true:=by rfl) (h:zId P t=true:=by kernel_rfl):eqV P t p (.nils z)=some false:=by
 unfold zId at h
 split at h
 ·rename_i e hu
  unfold eqV
  rw [hu]
  cases p<;>first | (cases hp;done) | simp only [he,cond_true]
 ·cases h
theorem zTr {P:Program} {t:TypeId} {p:PV} {z:Nat} (he:zES p=true) (hp:(match p with | .nils _=>false | .agg _=>false | _=>true)=true:=by rfl) (h:zId P t=true:=by kernel_rfl):(eqV P t p (.nils z)).map PV.bool=some (.bool false):=by rw [zUL he hp h];rfl
theorem zAV {xs:List PV}:List.take xs.length (List.drop 0 xs)=xs:=by rw [List.drop_zero,List.take_length]
section
variable [Yo] {P:Program} {H:zBc} {f:FuncId} {e:Env} {lg:Option Log}
end
theorem zTi {α:Type} {g:α→PV} {l:List α} (h:0<l.length):zES (.sl (l.map g))=true:=by
 cases l with
 | nil=>exact absurd h (Nat.lt_irrefl _)
 | cons x l=>rfl
theorem zNc {P:Program} {t:TypeId} {z:Nat} {α:Type} {g:α→PV} {l:List α} (hp:0<l.length) (h:zId P t=true:=by kernel_rfl):zJM P .eql t (.sl (l.map g)) (.nils z)=some (.bool false):=by
 have:=zTr (P:=P) (t:=t) (z:=z) (zTi (g:=g) hp) rfl h
 simpa [zJM] using this
class FrzOf {α:Type} (g:α→PV) (g':outParam (α→PV)):Prop where
 frz:∀ x,zAP (g x)=g' x
theorem zC1 {α:Type} {g g':α→PV} [h:FrzOf g g'] (l:List α):zAC (l.map g)=l.map g':=zCj l h.frz
section
variable {α:Type} {g:α→PV} {l:List α} {i z:Nat} {b:PV} {u0:α}
end
end Go.Eng
namespace Go.Eng
open Go
theorem blz (l:List PV):(0+l.length).ble l.length=true:=by rw [Nat.zero_add];exact Nat.ble_self_eq_true _
theorem frT {α:Type} (g:α→PV) (l:List α) (h:∀ x,zAP (g x)=g x:=by intro x;simp only [zAP,zAC,zFE,zE1,zHM]):PV.sl (zAC (List.take (List.map g l).length (List.drop 0 (List.map g l))))=PV.sl (List.map g l):=zQo (zCT (zCj l h))
theorem frC {α:Type} (g g':α→PV) [FrzOf g g'] (l:List α):PV.sl (zAC (List.take (List.map g l).length (List.drop 0 (List.map g l))))=PV.sl (List.map g' l):=zQo (zCT (zC1 l))
theorem lnS {α:Type} (g:α→PV) (l:List α):some (List.map g l).length=some l.length:=by rw [List.length_map]
theorem wrN (i:Nat) (h:(i:Int)+1<9223372036854775808:=by omega):PV.int IntKind.i64 (IntKind.i64.wrap ((i:Int)+1))=PV.int IntKind.i64 ((i+1:Nat):Int):=zDl (by omega) (by omega)
theorem zAc [Yo] {P:Program} {H:zBc} {f:FuncId} {nt:Nat} {e:Env} {lg:Option Log} {K:X→Env→Option Log→Prop} {c:Code} (m:Nat) (h:WS P H f (cl c) (0+m) (zVq (zHO P H f (cl c) m 0 {dr:=bif zRc (cl c) then some ([],[]) else none,e:=e,lg:=lg})) (zXv P H f nt (cr c) K .norm)) (h1:zT5 c=true:=by kernel_rfl) (h2:zVg (cl c)=true:=by kernel_rfl) (h3:(zHO P H f (cl c) m 0 {dr:=bif zRc (cl c) then some ([],[]) else none,e:=e,lg:=lg}).isSome=true:=by kernel_rfl) (h4:(0+m).ble (zFi (cl c)).size=true:=by kernel_rfl):W P H f nt c e lg K:=zAh (zAg (zAd m h h3 h4) h2) h1
abbrev zs (F:List Int) (i k:Nat):PV:=PV.int IntKind.i64 ((F.set i (i:Int)).getD k 0)
end Go.Eng
